import PyProof.Rows.All
import HandS.ForMost
import HandS.ForExc
import HandS.IsInst
import HandS.TupAny
import HandS.Wide
import HandS.Walk
import KE.SortData
import HandS.Style
import HandS.Flt
import HandS.ExcInit
import HandS.ExcField
import KE.GoesEnum
import HandS.Deep
import HandS.More
import HandS.RaiseMore
import PyProof.AutoSeq1
import HandS.DictComp
import HandS.TryOnly
import HandS.Strs
import HandS.Conv
import HandS.Zip
import KE.KDictZip
import HandS.Exc
import HandS.ExcIs
import HandS.Text
import HandS.FStr
import PySem.Challenge.RW_beforeinall_k04_years_in_texts
set_option Elab.async false
set_option linter.all false
set_option maxRecDepth 100000
set_option maxHeartbeats 4000000
/-! Mi: mirrors of defs over pure values and a store; each combinator is held by the hand layer's judgements. -/
namespace Mi
open PySem PySem.Spec PyProof.Rows L2
/-! ### values, store, results -/
/-- a value: tuples are data; fl: a list that is never written; loc: a place of the store -/
inductive D where
  | non | bl (b : Bool) | int (i : Int) | str (x : Str)
  | tup (xs : List D) | fl (xs : List D) | loc (l : Nat) | exv (a dd : Addr) (c : Str) (fs : List (Str × D))
inductive Cell where
  | lst (xs : List D) | dic (kvs : List (Key × D)) | dct (kvs : List (List Key × D))
abbrev Store := List Cell
structure Ex where
  cls : Str
  fs : List (Str × D)
inductive R (α : Type) where
  | ok (a : α) (s : Store) | ex (e : Ex) (s : Store) | no
namespace R
def bind {α β : Type} (r : R α) (k : α → Store → R β) : R β := match r with
  | .ok a s => k a s
  | .ex e s => .ex e s
  | .no => .no
def of {α : Type} : Option (α × Store) → R α
  | some (a, s) => .ok a s
  | none => .no
@[simp] theorem bind_ok {α β : Type} (a : α) (s : Store) (k : α → Store → R β) : (R.ok a s).bind k = k a s := rfl
@[simp] theorem bind_ex {α β : Type} (e : Ex) (s : Store) (k : α → Store → R β) : (R.ex e s : R α).bind k = .ex e s := rfl
@[simp] theorem bind_no {α β : Type} (k : α → Store → R β) : (R.no : R α).bind k = .no := rfl
@[simp] theorem of_some {α : Type} (a : α) (s : Store) : R.of (some (a, s)) = .ok a s := rfl
@[simp] theorem of_none {α : Type} : (R.of none : R α) = .no := rfl
end R
/-- the slots of a def's names -/
abbrev Sl := List (Option D)
inductive RS where
  | nx (env : Sl) (s : Store) | rt (d : D) (s : Store) | bk (env : Sl) (s : Store) | ct (env : Sl) (s : Store) | ex (e : Ex) (env : Sl) (s : Store) | no
/-! ### the relation to the hand layer's heap -/
section
variable (K : PySem.W.Frag)
/-- a list that is never written: known to the object, or of the module -/
def FrL (H : Hp) (a : Addr) (vs : List V) : Prop :=
  (∃ o, H a = some (.frz o (.lst vs))) ∨
    ∃ (o : Obj) (its : Array Value) (n : Nat), K.lookup a = some o ∧ o.cls = .type "list" ∧ o.dict = none ∧ o.data = .seq its n ∧ its.size ≤ sizeLine ∧ Vals vs its.toList
theorem FrL.sq {K : PySem.W.Frag} {H : Hp} {a : Addr} {vs : List V} (h : FrL K H a vs) : SqL K H a vs := by
  rcases h with ⟨o, h⟩ | h
  · exact .inl (.inr ⟨o, h⟩)
  · exact .inr h
mutual
inductive Rep (m : List Addr) (H : Hp) : D → V → Prop where
  | non : Rep m H .non .non
  | bl (b : Bool) : Rep m H (.bl b) (.bl b)
  | int (i : Int) : Rep m H (.int i) (.int i)
  | str (x : Str) : Rep m H (.str x) (.str x)
  | tup {xs : List D} {a : Addr} {vs : List V} (h : H a = some (.tup vs)) (r : Reps m H xs vs) : Rep m H (.tup xs) (.ref a)
  | fl {xs : List D} {a : Addr} {vs : List V} (h : FrL K H a vs) (r : Reps m H xs vs) : Rep m H (.fl xs) (.ref a)
  | loc {l : Nat} {a : Addr} (h : m[l]? = some a) : Rep m H (.loc l) (.ref a)
  | exv {c : Str} {fs : List (Str × D)} {a dd : Addr} {vfs : List (Str × V)} (h : H dd = some (.xd vfs)) (n : dd ∉ m) (r : FldR m H fs vfs) : Rep m H (.exv a dd c fs) (.ref a)
inductive Reps (m : List Addr) (H : Hp) : List D → List V → Prop where
  | nil : Reps m H [] []
  | cons {x : D} {v : V} {xs : List D} {vs : List V} (h : Rep m H x v) (r : Reps m H xs vs) : Reps m H (x :: xs) (v :: vs)
inductive FldR (m : List Addr) (H : Hp) : List (Str × D) → List (Str × V) → Prop where
  | nil : FldR m H [] []
  | cons {f : Str} {x : D} {v : V} {xs : List (Str × D)} {vs : List (Str × V)} (h : Rep m H x v) (r : FldR m H xs vs) : FldR m H ((f, x) :: xs) ((f, v) :: vs)
end
inductive RepK {κ : Type} (m : List Addr) (H : Hp) : List (κ × D) → List (κ × V) → Prop where
  | nil : RepK m H [] []
  | cons {k : κ} {x : D} {v : V} {xs : List (κ × D)} {vs : List (κ × V)} (h : Rep K m H x v) (r : RepK m H xs vs) : RepK m H ((k, x) :: xs) ((k, v) :: vs)
def CellR (m : List Addr) (H : Hp) (a : Addr) : Cell → Prop
  | .lst xs => ∃ vs, H a = some (.lst vs) ∧ Reps K m H xs vs
  | .dic kvs => ∃ ws, H a = some (.dK ws) ∧ RepK K m H kvs ws
  | .dct kvs => ∃ ws, H a = some (.dT ws) ∧ RepK K m H kvs ws
structure Rel (m : List Addr) (H : Hp) (s : Store) : Prop where
  len : m.length = s.length
  nd : m.Nodup
  at_ : ∀ (l : Nat) (a : Addr) (c : Cell), m[l]? = some a → s[l]? = some c → CellR K m H a c
/-- later: what was there is there; tuples and the lists that are never written stand; what is no cell of ours stands -/
structure Le (m : List Addr) (H : Hp) (m' : List Addr) (H' : Hp) : Prop where
  pre : ∃ r, m' = m ++ r
  tup : ∀ a xs, SqT K H a xs → SqT K H' a xs
  frl : ∀ a xs, FrL K H a xs → FrL K H' a xs
  fr : ∀ b o, H b = some o → b ∉ m → H' b = some o
  nw : ∀ b, b ∈ m' → b ∈ m ∨ H b = none
  trk : ∀ a xs, H a = some (.tup xs) → H' a = some (.tup xs)
def RelE (m : List Addr) (H : Hp) (env : Sl) (σ : L2.St) : Prop :=
  env.length = σ.length ∧ ∀ (i : Nat) (d : D), env[i]? = some (some d) → ∃ v, σ[i]? = some (some v) ∧ Rep K m H d v
end
section
variable {K : PySem.W.Frag} {m m1 m2 : List Addr} {H H1 H2 : Hp} {s : Store} {a b p : Addr} {c : Cell}
theorem Le.refl : Le K m H m H := ⟨⟨[], by simp⟩, fun _ _ h => h, fun _ _ h => h, fun _ _ h _ => h, fun _ h => .inl h, fun _ _ h => h⟩
theorem Le.get (e : Le K m H m1 H1) {l : Nat} (h : m[l]? = some a) : m1[l]? = some a := by
  obtain ⟨r, rfl⟩ := e.pre
  rw [List.getElem?_append_left (by
    rcases Nat.lt_or_ge l m.length with q | q
    · exact q
    · rw [List.getElem?_eq_none q] at h; cases h)]
  exact h
theorem Le.trans (e : Le K m H m1 H1) (f : Le K m1 H1 m2 H2) : Le K m H m2 H2 := by
  refine ⟨?_, fun a xs h => f.tup a xs (e.tup a xs h), fun a xs h => f.frl a xs (e.frl a xs h), fun b o h n => ?_, fun b h => ?_, fun a xs h => f.trk a xs (e.trk a xs h)⟩
  · obtain ⟨r, rfl⟩ := e.pre
    obtain ⟨r2, rfl⟩ := f.pre
    exact ⟨r ++ r2, by simp⟩
  · refine f.fr b o (e.fr b o h n) fun z => ?_
    rcases e.nw b z with q | q
    · exact n q
    · rw [h] at q; cases q
  · by_cases z : b ∈ m
    · exact .inl z
    · rcases f.nw b h with q | q
      · exact e.nw b q
      · refine .inr ?_
        cases w : H b with
        | none => rfl
        | some o =>
          rw [e.fr b o w z] at q; cases q
mutual
theorem Rep.mono (e : Le K m H m1 H1) : ∀ {d : D} {v : V}, Rep K m H d v → Rep K m1 H1 d v
  | _, _, .non => .non
  | _, _, .bl b => .bl b
  | _, _, .int i => .int i
  | _, _, .str x => .str x
  | _, _, .tup h r => .tup (e.trk _ _ h) (Reps.mono e r)
  | _, _, .fl h r => .fl (e.frl _ _ h) (Reps.mono e r)
  | _, _, .loc h => .loc (e.get h)
  | _, _, .exv h n r => .exv (e.fr _ _ h n) (fun z => (e.nw _ z).elim n fun q => by rw [h] at q; cases q) (FldR.mono e r)
theorem Reps.mono (e : Le K m H m1 H1) : ∀ {ds : List D} {vs : List V}, Reps K m H ds vs → Reps K m1 H1 ds vs
  | _, _, .nil => .nil
  | _, _, .cons h r => .cons (Rep.mono e h) (Reps.mono e r)
theorem FldR.mono (e : Le K m H m1 H1) : ∀ {ds : List (Str × D)} {vs : List (Str × V)}, FldR K m H ds vs → FldR K m1 H1 ds vs
  | _, _, .nil => .nil
  | _, _, .cons h r => .cons (Rep.mono e h) (FldR.mono e r)
end
theorem RepK.mono {κ : Type} (e : Le K m H m1 H1) : ∀ {ds : List (κ × D)} {vs : List (κ × V)}, RepK K m H ds vs → RepK K m1 H1 ds vs
  | _, _, .nil => .nil
  | _, _, .cons h r => .cons (h.mono e) (RepK.mono e r)
theorem RelE.mono (e : Le K m H m1 H1) {env : Sl} {σ : L2.St} (h : RelE K m H env σ) : RelE K m1 H1 env σ :=
  ⟨h.1, fun i d q => let ⟨v, h1, h2⟩ := h.2 i d q; ⟨v, h1, h2.mono e⟩⟩
theorem Reps.length : ∀ {xs : List D} {vs : List V}, Reps K m H xs vs → xs.length = vs.length
  | _, _, .nil => rfl
  | _, _, .cons _ r => by simp [Reps.length r]
theorem Reps.get : ∀ {xs : List D} {vs : List V} {i : Nat} {x : D}, Reps K m H xs vs → xs[i]? = some x → ∃ v, vs[i]? = some v ∧ Rep K m H x v
  | _, _, _, _, .nil, e => by simp at e
  | _, _, 0, _, .cons h _, e => by simp at e; subst e; exact ⟨_, rfl, h⟩
  | _, _, i + 1, x, .cons _ r, e => by
    obtain ⟨v, h1, h2⟩ := Reps.get (i := i) (x := x) r (by simpa using e)
    exact ⟨v, by simpa using h1, h2⟩
theorem Reps.append : ∀ {xs ys : List D} {vs ws : List V}, Reps K m H xs vs → Reps K m H ys ws → Reps K m H (xs ++ ys) (vs ++ ws)
  | _, _, _, _, .nil, q => q
  | _, _, _, _, .cons h r, q => .cons h (Reps.append r q)
theorem Reps.take : ∀ {xs : List D} {vs : List V} (n : Nat), Reps K m H xs vs → Reps K m H (xs.take n) (vs.take n)
  | _, _, 0, _ => .nil
  | _, _, _ + 1, .nil => .nil
  | _, _, n + 1, .cons h r => .cons h (Reps.take n r)
theorem Reps.drop : ∀ {xs : List D} {vs : List V} (n : Nat), Reps K m H xs vs → Reps K m H (xs.drop n) (vs.drop n)
  | _, _, 0, r => r
  | _, _, _ + 1, .nil => .nil
  | _, _, n + 1, .cons _ r => Reps.drop n r
theorem Reps.set {x : D} {v : V} (h : Rep K m H x v) : ∀ {xs : List D} {vs : List V} (i : Nat), Reps K m H xs vs → Reps K m H (xs.set i x) (vs.set i v)
  | _, _, _, .nil => .nil
  | _, _, 0, .cons _ r => .cons h r
  | _, _, i + 1, .cons q r => .cons q (Reps.set h i r)
theorem Reps.dropLast : ∀ {xs : List D} {vs : List V}, Reps K m H xs vs → Reps K m H xs.dropLast vs.dropLast
  | _, _, .nil => .nil
  | _, _, .cons _ .nil => .nil
  | _, _, .cons h (.cons h2 r) => by
    rw [List.dropLast_cons₂, List.dropLast_cons₂]
    exact .cons h (Reps.dropLast (.cons h2 r))
theorem Reps.erase : ∀ {xs : List D} {vs : List V} (i : Nat), Reps K m H xs vs → Reps K m H (xs.eraseIdx i) (vs.eraseIdx i)
  | _, _, _, .nil => .nil
  | _, _, 0, .cons _ r => r
  | _, _, i + 1, .cons q r => .cons q (Reps.erase i r)
theorem Reps.reverse {xs : List D} {vs : List V} (h : Reps K m H xs vs) : Reps K m H xs.reverse vs.reverse := by
  induction xs generalizing vs with
  | nil => cases h; exact .nil
  | cons x xs ih =>
    cases h with
    | cons h r =>
      rw [List.reverse_cons, List.reverse_cons]
      exact (ih r).append (.cons h .nil)
theorem Reps.ints : ∀ {ns : List Int} {vs : List V}, Reps K m H (ns.map D.int) vs → vs = ns.map V.int
  | [], _, .nil => rfl
  | n :: ns, _, .cons h r => by
    cases h
    rw [List.map_cons, Reps.ints r]
theorem reps_ints (ns : List Int) : Reps K m H (ns.map D.int) (ns.map V.int) := by
  induction ns with
  | nil => exact .nil
  | cons n ns ih => exact .cons (.int n) ih
/-! ### changes of the heap -/
theorem Rel.lt (r : Rel K m H s) {l : Nat} (h : m[l]? = some a) : l < s.length := by
  rw [← r.len]
  rcases Nat.lt_or_ge l m.length with q | q
  · exact q
  · rw [List.getElem?_eq_none q] at h; cases h
theorem Rel.there (r : Rel K m H s) (h : b ∈ m) : (∃ vs, H b = some (.lst vs)) ∨ (∃ ws, H b = some (.dK ws)) ∨ ∃ ws, H b = some (.dT ws) := by
  obtain ⟨l, hl⟩ := List.getElem?_of_mem h
  have q := r.lt hl
  obtain ⟨c, hc⟩ : ∃ c, s[l]? = some c := ⟨s[l], by simp [q]⟩
  have x := r.at_ l b c hl hc
  cases c with
  | lst xs => obtain ⟨vs, e, _⟩ := x; exact .inl ⟨vs, e⟩
  | dic kvs => obtain ⟨ws, e, _⟩ := x; exact .inr (.inl ⟨ws, e⟩)
  | dct kvs => obtain ⟨ws, e, _⟩ := x; exact .inr (.inr ⟨ws, e⟩)
theorem Rel.has (r : Rel K m H s) (h : b ∈ m) : ∃ o, H b = some o ∧ (∀ xs, o ≠ .tup xs) ∧ ∀ u x, o ≠ .frz u x := by
  rcases r.there h with ⟨vs, e⟩ | ⟨ws, e⟩ | ⟨ws, e⟩
  · exact ⟨_, e, fun _ z => (by cases z), fun _ _ z => (by cases z)⟩
  · exact ⟨_, e, fun _ z => (by cases z), fun _ _ z => (by cases z)⟩
  · exact ⟨_, e, fun _ z => (by cases z), fun _ _ z => (by cases z)⟩
theorem Rel.new_notin (r : Rel K m H s) (h : H p = none) : p ∉ m := fun z => by
  obtain ⟨o, e, _⟩ := r.has z
  rw [h] at e; cases e
/-- any object laid at a free place, or written at a place that is neither tuple nor frozen -/
theorem le_upd {o : HO} (hp : ∀ u, H p = Option.some u → p ∈ m) (hm : ∀ u, H p = Option.some u → (∀ xs, u ≠ .tup xs) ∧ ∀ ob x, u ≠ .frz ob x) : Le K m H m (upd H p o) := by
  refine ⟨⟨[], by simp⟩, fun b xs h => ?_, fun b xs h => ?_, fun b u h n => ?_, fun b h => .inl h, fun b xs h => by rw [upd_ne (fun z => by subst z; exact (hm _ h).1 xs rfl)]; exact h⟩
  · rcases h with (h | ⟨ob, h⟩) | h
    · exact .inl (.inl (by rw [upd_ne (fun z => by subst z; exact (hm _ h).1 xs rfl)]; exact h))
    · exact .inl (.inr ⟨ob, by rw [upd_ne (fun z => by subst z; exact (hm _ h).2 _ _ rfl)]; exact h⟩)
    · exact .inr h
  · rcases h with ⟨ob, h⟩ | h
    · exact .inl ⟨ob, by rw [upd_ne (fun z => by subst z; exact (hm _ h).2 _ _ rfl)]; exact h⟩
    · exact .inr h
  · rw [upd_ne (fun z => by subst z; exact n (hp _ h))]; exact h
theorem le_new {o : HO} (hp : H p = none) : Le K m H m (upd H p o) :=
  le_upd (fun u h => by rw [hp] at h; cases h) (fun u h => by rw [hp] at h; cases h)
theorem le_put (r : Rel K m H s) (h : p ∈ m) {o : HO} : Le K m H m (upd H p o) :=
  le_upd (fun _ _ => h) (fun u e => by
    obtain ⟨o', e', q⟩ := r.has h
    rw [e] at e'; cases e'
    exact q)
theorem le_more (r : Rel K m H s) (hp : H p = none) {o : HO} : Le K m H (m ++ [p]) (upd H p o) := by
  have e : Le K m H m (upd H p o) := le_new hp
  refine ⟨⟨[p], rfl⟩, e.tup, e.frl, e.fr, fun b h => ?_, e.trk⟩
  rcases List.mem_append.mp h with q | q
  · exact .inl q
  · rw [List.mem_singleton.mp q]; exact .inr hp
theorem CellR.mono {m' : List Addr} {H' : Hp} (e : Le K m H m' H') (hs : H' a = H a) (h : CellR K m H a c) : CellR K m' H' a c := by
  cases c with
  | lst xs => obtain ⟨vs, h1, h2⟩ := h; exact ⟨vs, hs.trans h1, h2.mono e⟩
  | dic kvs => obtain ⟨ws, h1, h2⟩ := h; exact ⟨ws, hs.trans h1, h2.mono e⟩
  | dct kvs => obtain ⟨ws, h1, h2⟩ := h; exact ⟨ws, hs.trans h1, h2.mono e⟩
/-- an object that is no cell is laid -/
theorem Rel.tmp (r : Rel K m H s) (hp : H p = none) {o : HO} : Rel K m (upd H p o) s :=
  ⟨r.len, r.nd, fun l a c h1 h2 => (r.at_ l a c h1 h2).mono (le_new hp) (upd_ne fun z => by subst z; exact r.new_notin hp (List.mem_of_getElem? h1))⟩
theorem Rel.put (r : Rel K m H s) {l : Nat} (h : m[l]? = Option.some p) {o : HO} {c : Cell} (hc : CellR K m (upd H p o) p c) : Rel K m (upd H p o) (s.set l c) := by
  refine ⟨by rw [List.length_set]; exact r.len, r.nd, fun j b d h1 h2 => ?_⟩
  by_cases hj : j = l
  · subst hj
    rw [h] at h1; cases h1
    rw [List.getElem?_set_self (r.lt h)] at h2; cases h2
    exact hc
  · rw [List.getElem?_set_ne (Ne.symm hj)] at h2
    refine (r.at_ j b d h1 h2).mono (le_put r (List.mem_of_getElem? h)) (upd_ne fun z => hj ?_)
    subst z
    exact nd_ix r.nd h1 h
theorem Rel.new (r : Rel K m H s) (hp : H p = none) {o : HO} {c : Cell} (hc : CellR K (m ++ [p]) (upd H p o) p c) : Rel K (m ++ [p]) (upd H p o) (s ++ [c]) := by
  have hn := r.new_notin hp
  refine ⟨by simp [r.len], ?_, fun j b d h1 h2 => ?_⟩
  · rw [List.nodup_append]
    exact ⟨r.nd, by simp, fun x hx y hy => by rw [List.mem_singleton.mp hy]; exact fun z => hn (z ▸ hx)⟩
  · rcases Nat.lt_or_ge j m.length with q | q
    · rw [List.getElem?_append_left q] at h1
      rw [List.getElem?_append_left (by rw [← r.len]; exact q)] at h2
      exact (r.at_ j b d h1 h2).mono (le_more r hp) (upd_ne fun z => by subst z; exact hn (List.mem_of_getElem? h1))
    · rw [List.getElem?_append_right q] at h1
      rw [List.getElem?_append_right (by rw [← r.len]; exact q), ← r.len] at h2
      cases hk : j - m.length with
      | zero =>
        rw [hk] at h1 h2
        simp at h1 h2
        subst h1; subst h2
        exact hc
      | succ n => rw [hk] at h1; simp at h1
theorem len_get (r : Rel K m H s) : (m ++ [p])[s.length]? = some p := by
  rw [← r.len, List.getElem?_append_right (Nat.le_refl _)]; simp
/-- a new tuple -/
theorem rep_newtup {xs : List D} {vs : List V} (hp : H p = none) (h : Reps K m H xs vs) : Rep K m (upd H p (.tup vs)) (.tup xs) (.ref p) :=
  .tup upd_same (h.mono (le_new hp))
/-- a new list -/
theorem rel_newlist {xs : List D} {vs : List V} (r : Rel K m H s) (hp : H p = none) (h : Reps K m H xs vs) : Rel K (m ++ [p]) (upd H p (.lst vs)) (s ++ [.lst xs]) :=
  r.new hp ⟨vs, upd_same, h.mono (le_more r hp)⟩
theorem Rel.list (r : Rel K m H s) {l : Nat} {xs : List D} (h : m[l]? = Option.some a) (hs : s[l]? = Option.some (.lst xs)) : ∃ vs, H a = Option.some (.lst vs) ∧ Reps K m H xs vs := r.at_ l a _ h hs
end
end Mi
namespace Mi
open PySem PySem.Spec PyProof.Rows L2
/-! ### readings of mirrors -/
section
variable (K : PySem.W.Frag) (mg : Str → Option Value)
/-- an exception: its class, its own dict -/
def ExR (m : List Addr) (H : Hp) (e : Ex) (c : Value) (dd : Option Addr) : Prop :=
  mg e.cls = some c ∧ ((e.fs = [] ∧ dd = none) ∨ ∃ d vfs, dd = some d ∧ H d = some (.xd vfs) ∧ d ∉ m ∧ FldR K m H e.fs vfs)
/-- what a result is to bring about -/
def G {α β : Type} (ρ : List Addr → Hp → α → β → Prop) (W : WX) (σ : L2.St) (m : List Addr) (H : Hp) (Q : β → Hp → Prop) : R α → Prop
  | .ok a s => ∀ m' H' b, Le K m H m' H' → Rel K m' H' s → ρ m' H' a b → Q b H'
  | .ex e s => ∀ m' H' c dd, Le K m H m' H' → Rel K m' H' s → ExR K mg m' H' e c dd → W c dd σ H'
  | .no => False
def Tm {α β : Type} (ρ : List Addr → Hp → α → β → Prop) (W : WX) (f : Sl → Store → R α) : L2.St → Hp → (β → Hp → Prop) → Prop := fun σ H Q =>
  ∃ m env s, Rel K m H s ∧ RelE K m H env σ ∧ G K mg ρ W σ m H Q (f env s)
abbrev ME (α : Type) := Sl → Store → R α
/-- a test's -/
def ρB : List Addr → Hp → Bool → Bool → Prop := fun _ _ a b => a = b
abbrev Te (W : WX) (f : ME D) : TE := Tm K mg (Rep K) W f
abbrev Tt (W : WX) (f : ME Bool) : TT := Tm K mg ρB W f
abbrev Ta (W : WX) (f : ME (List D)) : TA := Tm K mg (Reps K) W f
end
section
variable {K : PySem.W.Frag} {mg : Str → Option Value} {m m1 : List Addr} {H H1 : Hp} {s : Store} {W : WX} {σ : L2.St}
section
variable {α α' β β' : Type} {ρ : List Addr → Hp → α → β → Prop} {ρ' : List Addr → Hp → α' → β' → Prop} {Q : β → Hp → Prop} {Q' : β' → Hp → Prop}
theorem G.mono (e : Le K m H m1 H1) {r : R α} (h : G K mg ρ W σ m H Q r) : G K mg ρ W σ m1 H1 Q r := by
  cases r with
  | ok a s => exact fun m' H' b l r q => h m' H' b (e.trans l) r q
  | ex x s => exact fun m' H' c d l r q => h m' H' c d (e.trans l) r q
  | no => exact h
theorem G.bind {r : R α} {k : α → Store → R α'} (h : G K mg ρ' W σ m H Q' (r.bind k))
    (q : ∀ m1 H1 a b s1, Le K m H m1 H1 → Rel K m1 H1 s1 → ρ m1 H1 a b → G K mg ρ' W σ m1 H1 Q' (k a s1) → Q b H1) : G K mg ρ W σ m H Q r := by
  cases r with
  | ok a s => exact fun m' H' b l r p => q m' H' a b s l r p (G.mono l h)
  | ex x s => exact h
  | no => exact h
theorem G.imp {r : R α} (h : G K mg ρ W σ m H Q r) {Q1 : β → Hp → Prop} (q : ∀ m' H' a b s, r = .ok a s → Le K m H m' H' → Rel K m' H' s → ρ m' H' a b → Q b H' → Q1 b H') : G K mg ρ W σ m H Q1 r := by
  cases r with
  | ok a s => exact fun m' H' b l r p => q m' H' a b s rfl l r p (h m' H' b l r p)
  | ex x s => exact h
  | no => exact h
/-- run the first part -/
theorem Tm.bind {f : Sl → Store → R α} {k : Sl → α → Store → R α'} (h : Tm K mg ρ' W (fun env s => (f env s).bind (k env)) σ H Q')
    (q : ∀ m1 H1 env a b s1, Rel K m1 H1 s1 → RelE K m1 H1 env σ → ρ m1 H1 a b → G K mg ρ' W σ m1 H1 Q' (k env a s1) → Q b H1) : Tm K mg ρ W f σ H Q := by
  obtain ⟨m, env, s, r, e, g⟩ := h
  exact ⟨m, env, s, r, e, G.bind g fun m1 H1 a b s1 l r1 p g1 => q m1 H1 env a b s1 r1 (e.mono l) p g1⟩
/-- a further part runs -/
theorem Tm.of {f : Sl → Store → R α} {env : Sl} (r : Rel K m H s) (e : RelE K m H env σ) (g : G K mg ρ W σ m H Q (f env s)) : Tm K mg ρ W f σ H Q := ⟨m, env, s, r, e, g⟩
end
/-- the end: a value that is there -/
theorem G.now {d : D} {v : V} {Q : VK} (h : G K mg (Rep K) W σ m H Q (.ok d s)) (r : Rel K m H s) (p : Rep K m H d v) : Q v H := h m H v .refl r p
theorem G.nowB {d : Bool} {Q : Bool → Hp → Prop} (h : G K mg ρB W σ m H Q (.ok d s)) (r : Rel K m H s) : Q d H := h m H d .refl r rfl
end
theorem PE.imp {X : Cx} {e : Expr} {t t' : TE} (h : PE X e t) (i : ∀ σ H Q, t' σ H Q → t σ H Q) : PE X e t' := ⟨fun pins s σ H Q I q => h.run pins s σ H Q I (i σ H Q q)⟩
theorem PT.imp {X : Cx} {e : Expr} {t t' : TT} (h : PT X e t) (i : ∀ σ H Q, t' σ H Q → t σ H Q) : PT X e t' := ⟨fun pins s σ H Q I q => h.run pins s σ H Q I (i σ H Q q)⟩
theorem PW.imp {X : Cx} {e : Expr} {t t' : TT} (h : PW X e t) (i : ∀ σ H Q, t' σ H Q → t σ H Q) : PW X e t' := ⟨fun wh pins s σ H Q I q => h.run wh pins s σ H Q I (i σ H Q q)⟩
theorem PA.imp {X : Cx} {e : List Expr} {t t' : TA} (h : PA X e t) (i : ∀ σ H Q, t' σ H Q → t σ H Q) : PA X e t' := ⟨fun pos pins s σ H Q I q => h.run pos pins s σ H Q I (i σ H Q q)⟩
theorem PS.imp {X : Cx} {e : Stmt} {t t' : TS} (h : PS X e t) (i : ∀ D σ H, t' D σ H → t D σ H) : PS X e t' := ⟨fun pins s σ H D I q => h.run pins s σ H D I (i D σ H q)⟩
theorem PSs.imp {X : Cx} {e : List Stmt} {t t' : TS} (h : PSs X e t) (i : ∀ D σ H, t' D σ H → t D σ H) : PSs X e t' := ⟨fun pins s σ H D I q => h.run pins s σ H D I (i D σ H q)⟩
/-! ### combinators: expressions -/
def eC (d : D) : ME D := fun _ s => .ok d s
def eV (i : Nat) : ME D := fun env s => match env[i]? with
  | some (some d) => .ok d s
  | _ => .no
/-- two values -/
def e2 (g : D → D → Store → Option (D × Store)) (a b : ME D) : ME D := fun env s => (a env s).bind fun x s => (b env s).bind fun y s => R.of (g x y s)
def e1 (g : D → Store → Option (D × Store)) (a : ME D) : ME D := fun env s => (a env s).bind fun x s => R.of (g x s)
def aNil : ME (List D) := fun _ s => .ok [] s
def aCons (a : ME D) (r : ME (List D)) : ME (List D) := fun env s => (a env s).bind fun x s => (r env s).bind fun xs s => .ok (x :: xs) s
def eFn (g : List D → Store → Option (D × Store)) (a : ME (List D)) : ME D := fun env s => (a env s).bind fun xs s => R.of (g xs s)
def eTup (a : ME (List D)) : ME D := fun env s => (a env s).bind fun xs s => if xs.length ≤ sizeLine then .ok (.tup xs) s else .no
def eLst (a : ME (List D)) : ME D := fun env s => (a env s).bind fun xs s => if xs.length ≤ sizeLine then .ok (.loc s.length) (s ++ [.lst xs]) else .no
def eCall (g : List D → Store → R D) (a : ME (List D)) : ME D := fun env s => (a env s).bind g
/-- a value as a test: a bool -/
def tV (a : ME D) : ME Bool := fun env s => (a env s).bind fun x s => match x with
  | .bl b => .ok b s
  | _ => .no
def tAnd (a b : ME Bool) : ME Bool := fun env s => (a env s).bind fun x s => if x then b env s else .ok false s
def tOr (a b : ME Bool) : ME Bool := fun env s => (a env s).bind fun x s => if x then .ok true s else b env s
def tNot (a : ME Bool) : ME Bool := fun env s => (a env s).bind fun x s => .ok (!x) s
def eIf (c : ME Bool) (a b : ME D) : ME D := fun env s => (c env s).bind fun x s => if x then a env s else b env s
/-- and, or, not as values (bools) -/
def eAnd (a b : ME D) : ME D := fun env s => (a env s).bind fun x s => match x with
  | .bl true => b env s
  | .bl false => .ok (.bl false) s
  | _ => .no
def eOr (a b : ME D) : ME D := fun env s => (a env s).bind fun x s => match x with
  | .bl true => .ok (.bl true) s
  | .bl false => b env s
  | _ => .no
def eNot (a : ME D) : ME D := fun env s => (a env s).bind fun x s => match x with
  | .bl c => .ok (.bl !c) s
  | _ => .no
def eChain (g g' : D → D → Store → Option (D × Store)) (a b c : ME D) : ME D := fun env s => (a env s).bind fun x s => (b env s).bind fun y s => (R.of (g x y s)).bind fun z s => match z with
  | .bl true => (c env s).bind fun w s => R.of (g' y w s)
  | .bl false => .ok (.bl false) s
  | _ => .no
section
variable {X : Cx} {W : WX} {pos : Pos} {a b c e : Expr} {es : List Expr} {fa fb fc : ME D} {ga gb : ME Bool} {fs : ME (List D)}
theorem ce_v (i : Nat) {x : Str} (hN : X.N[i]? = some x := by rfl) (hv : Vis X.env.scope x := by first | exact Or.inl rfl | exact Or.inr (Or.inl rfl) | exact Or.inr (Or.inr rfl)) (hd : (x == ("__debug__" : Str)) = false := by decide)
    (hcd : (x == ("__classdict__" : Str)) = false := by decide) : PE X (.Name x pos) (Te X.K X.mg W (eV i)) := by
  refine PE.imp (pe_var (i := i) hN hv hd hcd) fun σ H Q h => ?_
  obtain ⟨m, env, s, r, E, g⟩ := h
  unfold eV at g
  cases q : env[i]? with
  | none => rw [q] at g; exact g.elim
  | some o =>
    cases o with
    | none => rw [q] at g; exact g.elim
    | some d =>
      rw [q] at g
      obtain ⟨v, h1, h2⟩ := E.2 i d q
      exact ⟨v, h1, g.now r h2⟩
theorem ce_c {d : D} {v : V} (h : PE X e (tC v)) (r : ∀ m H, Rep X.K m H d v) : PE X e (Te X.K X.mg W (eC d)) :=
  PE.imp h fun σ H Q ⟨m, env, s, rl, E, g⟩ => g.now rl (r m H)
theorem ce_int {i j} : PE X (.Constant (.int i) j pos) (Te X.K X.mg W (eC (.int i))) := ce_c pe_int fun _ _ => .int _
theorem ce_bl {i j} : PE X (.Constant (.bool i) j pos) (Te X.K X.mg W (eC (.bl i))) := ce_c pe_bl fun _ _ => .bl _
theorem ce_non {j} : PE X (.Constant .none j pos) (Te X.K X.mg W (eC .non)) := ce_c pe_non fun _ _ => .non
theorem ce_str {x j} : PE X (.Constant (.str x) j pos) (Te X.K X.mg W (eC (.str x))) := ce_c pe_str fun _ _ => .str _
theorem ce_glob {x : Str} {d : D} {v : V} {u : Value} (hg : Gl X x) (hm : X.mg x = some u) (r : RelV v u) (q : ∀ m H, Rep X.K m H d v) (hd : (x == ("__debug__" : Str)) = false := by decide) : PE X (.Name x pos) (Te X.K X.mg W (eC d)) := ce_c (pe_glob hg hm r hd) q
/-- an operation on values, with its mirror -/
def OpS (K : PySem.W.Frag) (r : R2) (g : D → D → Store → Option (D × Store)) : Prop :=
  ∀ {mg : Str → Option Value} {W : WX} {σ : L2.St} {m : List Addr} {H : Hp} {s : Store} {x y : V} {dx dy : D} {Q : VK}, Rel K m H s → Rep K m H dx x → Rep K m H dy y → G K mg (Rep K) W σ m H Q (R.of (g dx dy s)) → r x y H Q
theorem e2_run {r : R2} {g : D → D → Store → Option (D × Store)} (hs : OpS X.K r g) : ∀ σ H Q, Te X.K X.mg W (e2 g fa fb) σ H Q → tOp r (Te X.K X.mg W fa) (Te X.K X.mg W fb) σ H Q := fun σ H Q h =>
  Tm.bind (k := fun env x s => (fb env s).bind fun y s => R.of (g x y s)) h fun m1 H1 env x v s1 r1 E1 p1 g1 =>
    ⟨m1, env, s1, r1, E1, G.bind g1 fun m2 H2 y u s2 l2 r2 p2 g2 => hs r2 (p1.mono l2) p2 g2⟩
theorem ce_op {op : Operator} {r : R2} {g : D → D → Store → Option (D × Store)} (ho : OpR X (binaryOp op) r) (hs : OpS X.K r g) (ha : PE X a (Te X.K X.mg W fa)) (hb : PE X b (Te X.K X.mg W fb)) :
    PE X (.BinOp a op b pos) (Te X.K X.mg W (e2 g fa fb)) := PE.imp (pe_op ho ha hb) (e2_run hs)
theorem ce_cmp {op : CmpOp} {r : R2} {g : D → D → Store → Option (D × Store)} (ho : OpR X (compareOp op) r) (hs : OpS X.K r g) (ha : PE X a (Te X.K X.mg W fa)) (hb : PE X b (Te X.K X.mg W fb)) (hm : behindInMarks op b = false) :
    PE X (.Compare a [op] [b] pos) (Te X.K X.mg W (e2 g fa fb)) := PE.imp (pe_cmpR ho ha hb hm) (e2_run hs)
theorem ce_ix {r : R2} {g : D → D → Store → Option (D × Store)} (ho : IxR X r) (hs : OpS X.K r g) (ha : PE X a (Te X.K X.mg W fa)) (hb : PE X b (Te X.K X.mg W fb)) (hp : PlainIx b) :
    PE X (.Subscript a b pos) (Te X.K X.mg W (e2 g fa fb)) := PE.imp (pe_ix ho ha hb hp) (e2_run hs)
/-- a test of a value that is a bool -/
theorem tv_run {t : TE} (hp : ∀ σ H Q, Te X.K X.mg W fa σ H Q → t σ H Q) : ∀ σ H Q, Tt X.K X.mg W (tV fa) σ H Q → t σ H fun x H' => ∃ k, x = .bl k ∧ Q k H' := fun σ H Q h =>
  hp σ H _ (Tm.bind (k := fun _ x s => match x with | .bl b => R.ok b s | _ => R.no) h fun m1 H1 env x v s1 r1 E1 p1 g1 => by
    cases x with
    | bl k => cases p1; exact ⟨k, rfl, g1.nowB r1⟩
    | _ => exact g1.elim)
theorem ct_v (ha : PE X a (Te X.K X.mg W fa)) (he : ∀ whole, isTrue a X.env whole = (do let v ← whole; standAt a.pos; holding [v] (truthy v)) := by intro _; rfl) : PT X a (Tt X.K X.mg W (tV fa)) :=
  PT.imp (pt_val ha he) (tv_run fun _ _ _ h => h)
theorem ct_cmp {op : CmpOp} {r : R2} {g : D → D → Store → Option (D × Store)} (ho : OpR X (compareOp op) r) (hs : OpS X.K r g) (ha : PE X a (Te X.K X.mg W fa)) (hb : PE X b (Te X.K X.mg W fb)) (hm : behindInMarks op b = false) :
    PT X (.Compare a [op] [b] pos) (Tt X.K X.mg W (tV (e2 g fa fb))) := PT.imp (pt_cmpR ho ha hb hm) (tv_run (e2_run hs))
theorem chain_run {r r' : R2} {g g' : D → D → Store → Option (D × Store)} (hs : OpS X.K r g) (hs' : OpS X.K r' g') : ∀ σ H Q, Te X.K X.mg W (eChain g g' fa fb fc) σ H Q → tChain r r' (Te X.K X.mg W fa) (Te X.K X.mg W fb) (Te X.K X.mg W fc) σ H Q := fun σ H Q h =>
  Tm.bind (k := fun env x s => (fb env s).bind fun y s => (R.of (g x y s)).bind fun z s => match z with | .bl true => (fc env s).bind fun w s => R.of (g' y w s) | .bl false => R.ok (D.bl false) s | _ => R.no) h fun m1 H1 env x v s1 r1 E1 p1 g1 =>
    ⟨m1, env, s1, r1, E1, G.bind g1 fun m2 H2 y u s2 l2 r2 p2 g2 => hs r2 (p1.mono l2) p2 (G.bind g2 fun m3 H3 z w s3 l3 r3 p3 g3 => by
      cases z with
      | bl k =>
        cases p3
        refine ⟨k, rfl, ?_⟩
        cases k with
        | true => exact iteT ⟨m3, env, s3, r3, (E1.mono l2).mono l3, G.bind g3 fun m4 H4 z w s4 l4 r4 p4 g4 => hs' r4 ((p2.mono l3).mono l4) p4 g4⟩
        | false => exact iteF (g3.now r3 (.bl false))
      | _ => exact g3.elim)⟩
theorem ce_chain {op op' : CmpOp} {r r' : R2} {g g' : D → D → Store → Option (D × Store)} (ho : OpR X (compareOp op) r) (hs : OpS X.K r g) (ho' : OpR X (compareOp op') r') (hs' : OpS X.K r' g') (ha : PE X a (Te X.K X.mg W fa)) (hb : PE X b (Te X.K X.mg W fb)) (hc : PE X c (Te X.K X.mg W fc))
    (hm : lastMarks [op, op'] [b, c] = false := by with_unfolding_all rfl) : PE X (.Compare a [op, op'] [b, c] pos) (Te X.K X.mg W (eChain g g' fa fb fc)) := PE.imp (pe_chain ho ho' ha hb hc hm) (chain_run hs hs')
theorem ct_chain {op op' : CmpOp} {r r' : R2} {g g' : D → D → Store → Option (D × Store)} (ho : OpR X (compareOp op) r) (hs : OpS X.K r g) (ho' : OpR X (compareOp op') r') (hs' : OpS X.K r' g') (ha : PE X a (Te X.K X.mg W fa)) (hb : PE X b (Te X.K X.mg W fb)) (hc : PE X c (Te X.K X.mg W fc))
    (hm : lastMarks [op, op'] [b, c] = false := by with_unfolding_all rfl) : PT X (.Compare a [op, op'] [b, c] pos) (Tt X.K X.mg W (tV (eChain g g' fa fb fc))) := PT.imp (pt_chain ho ho' ha hb hc hm) (tv_run (chain_run hs hs'))
/-! #### tests -/
theorem cw_and1 (ha : PT X a (Tt X.K X.mg W ga)) : PW X (.BoolOp .And [a] pos) (Tt X.K X.mg W ga) := pw_and1 ha
theorem cw_or1 (ha : PT X a (Tt X.K X.mg W ga)) : PW X (.BoolOp .Or [a] pos) (Tt X.K X.mg W ga) := pw_or1 ha
theorem cw_and {rest : List Expr} (ha : PT X a (Tt X.K X.mg W ga)) (hb : PW X (.BoolOp .And (b :: rest) pos) (Tt X.K X.mg W gb)) : PW X (.BoolOp .And (a :: b :: rest) pos) (Tt X.K X.mg W (tAnd ga gb)) :=
  PW.imp (pw_and ha hb) fun σ H Q h => Tm.bind (k := fun env x s => if x then gb env s else R.ok false s) h fun m1 H1 env x v s1 r1 E1 p1 g1 => by
    cases (show x = v from p1)
    cases x with
    | true => exact iteT ⟨m1, env, s1, r1, E1, g1⟩
    | false => exact iteF (G.nowB g1 r1)
theorem cw_or {rest : List Expr} (ha : PT X a (Tt X.K X.mg W ga)) (hb : PW X (.BoolOp .Or (b :: rest) pos) (Tt X.K X.mg W gb)) : PW X (.BoolOp .Or (a :: b :: rest) pos) (Tt X.K X.mg W (tOr ga gb)) :=
  PW.imp (pw_or ha hb) fun σ H Q h => Tm.bind (k := fun env x s => if x then R.ok true s else gb env s) h fun m1 H1 env x v s1 r1 E1 p1 g1 => by
    cases (show x = v from p1)
    cases x with
    | true => exact iteT (G.nowB g1 r1)
    | false => exact iteF ⟨m1, env, s1, r1, E1, g1⟩
theorem ct_not (ha : PT X a (Tt X.K X.mg W ga)) : PT X (.UnaryOp .Not a pos) (Tt X.K X.mg W (tNot ga)) :=
  PT.imp (pt_not ha) fun σ H Q h => Tm.bind (k := fun env x s => R.ok (!x) s) h fun m1 H1 env x v s1 r1 E1 p1 g1 => by
    cases (show x = v from p1)
    exact G.nowB g1 r1
theorem ce_ifExp (hc : PT X c (Tt X.K X.mg W ga)) (ha : PE X a (Te X.K X.mg W fa)) (hb : PE X b (Te X.K X.mg W fb)) : PE X (.IfExp c a b pos) (Te X.K X.mg W (eIf ga fa fb)) :=
  PE.imp (pe_ifExp hc ha hb) fun σ H Q h => Tm.bind (k := fun env x s => if x then fa env s else fb env s) h fun m1 H1 env x v s1 r1 E1 p1 g1 => by
    cases (show x = v from p1)
    cases x with
    | true => exact iteT ⟨m1, env, s1, r1, E1, g1⟩
    | false => exact iteF ⟨m1, env, s1, r1, E1, g1⟩
theorem ce_one {op} {t : TE} (h : PE X a t) : PE X (.BoolOp op [a] pos) t := pe_one h
theorem ce_and {rest : List Expr} (ha : PE X a (Te X.K X.mg W fa)) (hb : PE X (.BoolOp .And (b :: rest) pos) (Te X.K X.mg W fb)) : PE X (.BoolOp .And (a :: b :: rest) pos) (Te X.K X.mg W (eAnd fa fb)) :=
  PE.imp (pe_and ha hb) fun σ H Q h => Tm.bind (k := fun env x s => match x with | .bl true => fb env s | .bl false => R.ok (D.bl false) s | _ => R.no) h fun m1 H1 env x v s1 r1 E1 p1 g1 => by
    cases x with
    | bl k =>
      cases p1
      refine ⟨k, rfl, ?_⟩
      cases k with
      | true => exact iteT ⟨m1, env, s1, r1, E1, g1⟩
      | false => exact iteF (g1.now r1 (.bl false))
    | _ => exact g1.elim
theorem ce_or {rest : List Expr} (ha : PE X a (Te X.K X.mg W fa)) (hb : PE X (.BoolOp .Or (b :: rest) pos) (Te X.K X.mg W fb)) : PE X (.BoolOp .Or (a :: b :: rest) pos) (Te X.K X.mg W (eOr fa fb)) :=
  PE.imp (pe_or ha hb) fun σ H Q h => Tm.bind (k := fun env x s => match x with | .bl true => R.ok (D.bl true) s | .bl false => fb env s | _ => R.no) h fun m1 H1 env x v s1 r1 E1 p1 g1 => by
    cases x with
    | bl k =>
      cases p1
      refine ⟨k, rfl, ?_⟩
      cases k with
      | true => exact iteT (g1.now r1 (.bl true))
      | false => exact iteF ⟨m1, env, s1, r1, E1, g1⟩
    | _ => exact g1.elim
theorem ce_not (ha : PE X a (Te X.K X.mg W fa)) : PE X (.UnaryOp .Not a pos) (Te X.K X.mg W (eNot fa)) :=
  PE.imp (pe_not ha) fun σ H Q h => Tm.bind (k := fun env x s => match x with | .bl c => R.ok (D.bl !c) s | _ => R.no) h fun m1 H1 env x v s1 r1 E1 p1 g1 => by
    cases x with
    | bl k => cases p1; exact ⟨k, rfl, g1.now r1 (.bl _)⟩
    | _ => exact g1.elim
/-! #### argument lists, displays -/
theorem ca_nil : PA X [] (Ta X.K X.mg W aNil) := PA.imp pa_nil fun σ H Q ⟨m, env, s, r, E, g⟩ => g m H [] .refl r .nil
theorem ca_cons (ha : PE X e (Te X.K X.mg W fa)) (hr : PA X es (Ta X.K X.mg W fs)) (hs : starEach (e :: es) X.env = (false, eval e X.env) :: starEach es X.env := by rfl) : PA X (e :: es) (Ta X.K X.mg W (aCons fa fs)) :=
  PA.imp (pa_cons ha hr hs) fun σ H Q h => Tm.bind (k := fun env x s => (fs env s).bind fun xs s => R.ok (x :: xs) s) h fun m1 H1 env x v s1 r1 E1 p1 g1 =>
    ⟨m1, env, s1, r1, E1, G.bind g1 fun m2 H2 xs vs s2 l2 r2 p2 g2 => g2 m2 H2 _ .refl r2 (.cons (p1.mono l2) p2)⟩
theorem ce_tup {k : Nat} (h : PA X es (Ta X.K X.mg W fs)) : PE X (.Tuple es k pos) (Te X.K X.mg W (eTup fs)) :=
  PE.imp (pe_tup h) fun σ H Q h => Tm.bind (k := fun env xs s => if xs.length ≤ sizeLine then R.ok (D.tup xs) s else R.no) h fun m1 H1 env xs vs s1 r1 E1 p1 g1 => by
    by_cases hz : xs.length ≤ sizeLine
    · simp only [hz, if_true] at g1
      exact ⟨by rw [← p1.length]; exact hz, fun p hp => g1 m1 _ _ (le_new hp) (r1.tmp hp) (rep_newtup hp p1)⟩
    · simp only [hz, if_false] at g1
      exact g1.elim
theorem newlist {xs : List D} {vs : List V} {m : List Addr} {H : Hp} {s : Store} {σ : L2.St} {Q : VK} {mg : Str → Option Value} (r : Rel X.K m H s) (p : Reps X.K m H xs vs) (g : G X.K mg (Rep X.K) W σ m H Q (.ok (.loc s.length) (s ++ [.lst xs]))) :
    ∀ q, H q = none → Q (.ref q) (upd H q (.lst vs)) := fun q hq => g (m ++ [q]) _ _ (le_more r hq) (rel_newlist r hq p) (.loc (len_get r))
theorem ce_lst (h : PA X es (Ta X.K X.mg W fs)) : PE X (.List es pos) (Te X.K X.mg W (eLst fs)) :=
  PE.imp (pe_lst h) fun σ H Q h => Tm.bind (k := fun env xs s => if xs.length ≤ sizeLine then R.ok (D.loc s.length) (s ++ [.lst xs]) else R.no) h fun m1 H1 env xs vs s1 r1 E1 p1 g1 => by
    by_cases hz : xs.length ≤ sizeLine
    · simp only [hz, if_true] at g1
      exact ⟨by rw [← p1.length]; exact hz, newlist r1 p1 g1⟩
    · simp only [hz, if_false] at g1
      exact g1.elim
/-! #### calls of builtins, by values -/
def FnS (K : PySem.W.Frag) (r : List V → Hp → VK → Prop) (g : List D → Store → Option (D × Store)) : Prop :=
  ∀ {mg : Str → Option Value} {W : WX} {σ : L2.St} {m : List Addr} {H : Hp} {s : Store} {xs : List V} {ds : List D} {Q : VK}, Rel K m H s → Reps K m H ds xs → G K mg (Rep K) W σ m H Q (R.of (g ds s)) → r xs H Q
theorem eFn_run {r : List V → Hp → VK → Prop} {g : List D → Store → Option (D × Store)} (hs : FnS X.K r g) : ∀ σ H Q, Te X.K X.mg W (eFn g fs) σ H Q → tCB r (Ta X.K X.mg W fs) σ H Q := fun σ H Q h =>
  Tm.bind (k := fun env xs s => R.of (g xs s)) h fun m1 H1 env x v s1 r1 E1 p1 g1 => hs r1 p1 g1
theorem ce_callB {x id : String} {p : Pos} {r : List V → Hp → VK → Prop} {g : List D → Store → Option (D × Store)} (hc : CallR X (.builtin id) r) (hs : FnS X.K r g) (hg : Gl X x) (hm : X.mg x = none) (hv : bootBuiltins x = some (.builtin id)) (ha : PA X (e :: es) (Ta X.K X.mg W fs))
    (hn : (x : Str) ≠ "__name__" := by decide) (hdb : ((x : Str) == ("__debug__" : Str)) = false := by decide)
    (he : starEach (e :: es) X.env = (false, eval e X.env) :: starEach es X.env := by rfl) (hpl : (backTo pos (starEach es X.env)).any (·.1) = false := by rfl) : PE X (.Call (.Name x p) (e :: es) [] pos) (Te X.K X.mg W (eFn g fs)) :=
  PE.imp (pe_callB hc hg hm hv ha hn hdb he hpl) (eFn_run hs)
theorem ce_callTy {x id : String} {p : Pos} {r : List V → Hp → VK → Prop} {g : List D → Store → Option (D × Store)} (hc : CallR X (.type id) r) (hs : FnS X.K r g) (hg : Gl X x) (hm : X.mg x = none) (hv : bootBuiltins x = some (.type id)) (ha : PA X (e :: es) (Ta X.K X.mg W fs))
    (hn : (x : Str) ≠ "__name__" := by decide) (hdb : ((x : Str) == ("__debug__" : Str)) = false := by decide)
    (he : starEach (e :: es) X.env = (false, eval e X.env) :: starEach es X.env := by rfl) (hpl : (backTo pos (starEach es X.env)).any (·.1) = false := by rfl) : PE X (.Call (.Name x p) (e :: es) [] pos) (Te X.K X.mg W (eFn g fs)) :=
  PE.imp (pe_callTy hc hg hm hv ha hn hdb he hpl) (eFn_run hs)
/-! #### one-place -/
def UnS (K : PySem.W.Frag) (r : V → Hp → VK → Prop) (g : D → Store → Option (D × Store)) : Prop :=
  ∀ {mg : Str → Option Value} {W : WX} {σ : L2.St} {m : List Addr} {H : Hp} {s : Store} {x : V} {d : D} {Q : VK}, Rel K m H s → Rep K m H d x → G K mg (Rep K) W σ m H Q (R.of (g d s)) → r x H Q
theorem ce_un {op : UnaryOp} {r : V → Hp → VK → Prop} {g : D → Store → Option (D × Store)} (ho : UnR X (unaryOp op) r) (hs : UnS X.K r g) (ha : PE X a (Te X.K X.mg W fa)) : PE X (.UnaryOp op a pos) (Te X.K X.mg W (e1 g fa)) :=
  PE.imp (pe_un ho ha) fun σ H Q h => Tm.bind (k := fun env x s => R.of (g x s)) h fun m1 H1 env x v s1 r1 E1 p1 g1 => hs r1 p1 g1
/-! #### a def's promise: its mirror's value -/
def spM (K : PySem.W.Frag) (mg : Str → Option Value) (n : Nat) (g : List D → Store → R D) : Sp := fun vs H Q E => vs.length = n ∧
  ∃ m s ds, Rel K m H s ∧ Reps K m H ds vs ∧ G K mg (Rep K) (fun c d _ H => E c d H) [] m H Q (g ds s)
theorem ce_call {k n : Nat} {f : Addr} {fd : FuncData} {ps : List Str} {x : Str} {p : Pos} {g : List D → Store → R D} (F : FnOk X.prog X.w X.K X.mg X.base (L2.CX X.prog X.w) k f fd ps (spM X.K X.mg n g)) (hr : Room k X.A) (tk : Takes X W) (hg : Gl X x) (hm : X.mg x = some (.ref f)) (hk : PySem.W.keepIn X.K (.ref f) = true) (hb : Binds X.K fd ps [])
    (hn : ∀ xs s env, ∀ s', fs env s = .ok xs s' → xs.length = n) (ha : PA X (e :: es) (Ta X.K X.mg W fs)) (hdb : (x == ("__debug__" : Str)) = false := by decide) (he : starEach (e :: es) X.env = (false, eval e X.env) :: starEach es X.env := by rfl) (hpl : (backTo pos (starEach es X.env)).any (·.1) = false := by rfl) :
    PE X (.Call (.Name x p) (e :: es) [] pos) (Te X.K X.mg W (eCall g fs)) :=
  PE.imp (pe_callS (E := WE W) F hr hg hm hk hb (fun σ => passAt tk σ) ha hdb he hpl) fun σ H Q h => by
    obtain ⟨m, env, s, r, E, g0⟩ := h
    refine ⟨m, env, s, r, E, ?_⟩
    unfold eCall at g0
    cases hf : fs env s with
    | ok xs s1 =>
      rw [hf] at g0
      intro m1 H1 vs l1 r1 p1
      refine ⟨by rw [← p1.length]; exact hn xs s env s1 hf, m1, s1, xs, r1, p1, ?_⟩
      have g1 : G X.K X.mg (Rep X.K) W σ m H Q (g xs s1) := g0
      have g2 := g1.mono l1
      cases hgx : g xs s1 with
      | ok a s2 => rw [hgx] at g2; exact g2
      | ex x2 s2 => rw [hgx] at g2; exact g2
      | no => rw [hgx] at g2; exact g2
    | ex x s1 => rw [hf] at g0; exact g0
    | no => rw [hf] at g0; exact g0.elim
end
end Mi
namespace Mi
open PySem PySem.Spec PyProof.Rows L2
/-! ### operations on values: mirrors and their rules -/
section
variable {K : PySem.W.Frag}
theorem OpS.or {r r' : R2} {g : D → D → Store → Option (D × Store)} (h : ∀ {mg : Str → Option Value} {W : WX} {σ : L2.St} {m : List Addr} {H : Hp} {s : Store} {x y : V} {dx dy : D} {Q : VK}, Rel K m H s → Rep K m H dx x → Rep K m H dy y → G K mg (Rep K) W σ m H Q (R.of (g dx dy s)) → r x y H Q ∨ r' x y H Q) : OpS K (fun x y H Q => r x y H Q ∨ r' x y H Q) g := h
/-- two ints -/
def dI (f : Int → Int → Option D) : D → D → Store → Option (D × Store)
  | .int i, .int j, s => (f i j).map fun d => (d, s)
  | _, _, _ => none
theorem ops_dI {C : Int → Int → Prop} {gv : Int → Int → V} {f : Int → Int → Option D} (h : ∀ i j d, f i j = some d → C i j ∧ ∀ m H, Rep K m H d (gv i j)) : OpS K (rI C gv) (dI f) := by
  intro mg W σ m H s x y dx dy Q r px py g
  cases dx with
  | int i =>
    cases dy with
    | int j =>
      cases px; cases py
      cases e : f i j with
      | none => rw [show R.of (dI f (.int i) (.int j) s) = R.no by simp [dI, e]] at g; exact g.elim
      | some d =>
        rw [show R.of (dI f (.int i) (.int j) s) = .ok d s by simp [dI, e]] at g
        obtain ⟨h1, h2⟩ := h i j d e
        exact ⟨i, j, rfl, rfl, h1, g.now r (h2 m H)⟩
    | _ => exact g.elim
  | _ => exact g.elim
theorem ops_dI0 {gv : Int → Int → V} {f : Int → Int → D} (h : ∀ i j m H, Rep K m H (f i j) (gv i j)) : OpS K (rI0 gv) (dI fun i j => some (f i j)) := by
  intro mg W σ m H s x y dx dy Q r px py g
  obtain ⟨i, j, e1, e2, _, q⟩ := ops_dI (K := K) (C := fun _ _ => True) (gv := gv) (fun i j d e => ⟨trivial, by cases e; exact h i j⟩) r px py g
  exact ⟨i, j, e1, e2, q⟩
def dAdd : D → D → Store → Option (D × Store)
  | .int i, .int j, s => some (.int (i + j), s)
  | .str x, .str y, s => if x.length + y.length ≤ sizeLine then some (.str (x ++ y), s) else none
  | .tup xs, .tup ys, s => if xs.length + ys.length ≤ sizeLine then some (.tup (xs ++ ys), s) else none
  | .loc l, .loc k, s => match s[l]?, s[k]? with
    | some (.lst xs), some (.lst ys) => if xs.length + ys.length ≤ sizeLine then some (.loc s.length, s ++ [.lst (xs ++ ys)]) else none
    | _, _ => none
  | _, _, _ => none
def rAddA (K : PySem.W.Frag) : R2 := fun x y H Q => rI0 (fun i j => .int (i + j)) x y H Q ∨ (∃ i j, x = .str i ∧ y = .str j ∧ i.length + j.length ≤ sizeLine ∧ Q (.str (i ++ j)) H) ∨ rCatA K x y H Q ∨ rCat x y H Q
theorem op_addA {X : Cx} : OpR X (binaryOp .Add) (rAddA X.K) := op_add.or (op_add_str.or (op_catA.or op_cat))
theorem ops_add : OpS K (rAddA K) dAdd := by
  intro mg W σ m H s x y dx dy Q r px py g
  cases dx with
  | int i =>
    cases dy with
    | int j => cases px; cases py; exact .inl ⟨i, j, rfl, rfl, g.now r (.int _)⟩
    | _ => exact g.elim
  | str i =>
    cases dy with
    | str j =>
      cases px; cases py
      by_cases hz : i.length + j.length ≤ sizeLine
      · rw [show dAdd (.str i) (.str j) s = some (.str (i ++ j), s) by simp [dAdd, hz]] at g
        exact .inr (.inl ⟨i, j, rfl, rfl, hz, g.now r (.str _)⟩)
      · rw [show dAdd (.str i) (.str j) s = none by simp [dAdd, hz]] at g; exact g.elim
    | _ => exact g.elim
  | tup xs =>
    cases dy with
    | tup ys =>
      cases px with
      | tup h1 r1 =>
        cases py with
        | tup h2 r2 =>
          by_cases hz : xs.length + ys.length ≤ sizeLine
          · rw [show dAdd (.tup xs) (.tup ys) s = some (.tup (xs ++ ys), s) by simp [dAdd, hz]] at g
            refine .inr (.inr (.inl ⟨_, _, _, _, rfl, rfl, .inl (.inl h1), .inl (.inl h2), by rw [← r1.length, ← r2.length]; exact hz, fun e => ?_, fun _ e => ?_, fun _ _ p hp => ?_⟩))
            · subst e; cases r1; exact g.now r (.tup h2 r2)
            · subst e; cases r2; rw [List.append_nil] at g; exact g.now r (.tup h1 r1)
            · exact g m _ _ (le_new hp) (r.tmp hp) (rep_newtup hp (r1.append r2))
          · rw [show dAdd (.tup xs) (.tup ys) s = none by simp [dAdd, hz]] at g; exact g.elim
    | _ => exact g.elim
  | loc l =>
    cases dy with
    | loc k =>
      cases px with
      | loc h1 =>
        cases py with
        | loc h2 =>
          cases e1 : s[l]? with
          | none => rw [show dAdd (.loc l) (.loc k) s = none by simp [dAdd, e1]] at g; exact g.elim
          | some c1 =>
            cases c1 with
            | dic _ => rw [show dAdd (.loc l) (.loc k) s = none by simp [dAdd, e1]] at g; exact g.elim
            | dct _ => rw [show dAdd (.loc l) (.loc k) s = none by simp [dAdd, e1]] at g; exact g.elim
            | lst xs =>
              cases e2 : s[k]? with
              | none => rw [show dAdd (.loc l) (.loc k) s = none by simp [dAdd, e1, e2]] at g; exact g.elim
              | some c2 =>
                cases c2 with
                | dic _ => rw [show dAdd (.loc l) (.loc k) s = none by simp [dAdd, e1, e2]] at g; exact g.elim
                | dct _ => rw [show dAdd (.loc l) (.loc k) s = none by simp [dAdd, e1, e2]] at g; exact g.elim
                | lst ys =>
                  by_cases hz : xs.length + ys.length ≤ sizeLine
                  · rw [show dAdd (.loc l) (.loc k) s = some (.loc s.length, s ++ [.lst (xs ++ ys)]) by simp [dAdd, e1, e2, hz]] at g
                    obtain ⟨vs, q1, p1⟩ := r.list h1 e1
                    obtain ⟨ws, q2, p2⟩ := r.list h2 e2
                    refine .inr (.inr (.inr ⟨_, _, vs, ws, rfl, rfl, q1, q2, by rw [← p1.length, ← p2.length]; exact hz, fun p hp => ?_⟩))
                    exact g (m ++ [p]) _ _ (le_more r hp) (rel_newlist r hp (p1.append p2)) (.loc (len_get r))
                  · rw [show dAdd (.loc l) (.loc k) s = none by simp [dAdd, e1, e2, hz]] at g; exact g.elim
    | _ => exact g.elim
  | _ => exact g.elim
def dSub := dI fun i j => some (.int (i - j))
theorem ops_sub : OpS K (rI0 fun i j => .int (i - j)) dSub := ops_dI0 fun _ _ _ _ => .int _
noncomputable instance (i j : Int) : Decidable (CMul i j) := Classical.propDecidable _
noncomputable instance (i j : Int) : Decidable (CDiv i j) := Classical.propDecidable _
noncomputable instance (i j : Int) : Decidable (CDivN i j) := Classical.propDecidable _
noncomputable instance (i j : Int) : Decidable (CPow i j) := Classical.propDecidable _
noncomputable def dMul := dI fun i j => if CMul i j then some (.int (i * j)) else none
theorem ops_mul : OpS K (rI CMul fun i j => .int (i * j)) dMul := ops_dI fun i j d h => by
  split at h
  · cases h; exact ⟨by assumption, fun _ _ => .int _⟩
  · cases h
noncomputable def dDiv := dI fun i j => if CDiv i j then some (.int (i / j)) else none
theorem ops_div : OpS K (rI CDiv fun i j => .int (i / j)) dDiv := ops_dI fun i j d h => by
  split at h
  · cases h; exact ⟨by assumption, fun _ _ => .int _⟩
  · cases h
noncomputable def dMod := dI fun i j => if 0 < j then some (.int (i % j)) else none
theorem ops_mod : OpS K (rI (fun _ j => 0 < j) fun i j => .int (i % j)) dMod := ops_dI fun i j d h => by
  split at h
  · cases h; exact ⟨by assumption, fun _ _ => .int _⟩
  · cases h
noncomputable def dPow := dI fun i j => if CPow i j then some (.int (i ^ j.toNat)) else none
theorem ops_pow : OpS K (rI CPow fun i j => .int (i ^ j.toNat)) dPow := ops_dI fun i j d h => by
  split at h
  · cases h; exact ⟨by assumption, fun _ _ => .int _⟩
  · cases h
def dNeg : D → Store → Option (D × Store)
  | .int i, s => some (.int (-i), s)
  | _, _ => none
theorem uns_neg : UnS K (rU fun i => .int (-i)) dNeg := by
  intro mg W σ m H s x d Q r p g
  cases d with
  | int i => cases p; exact ⟨i, rfl, g.now r (.int _)⟩
  | _ => exact g.elim
/-! #### comparisons -/
def dLt : D → D → Store → Option (D × Store)
  | .int i, .int j, s => some (.bl (decide (i < j)), s)
  | .str x, .str y, s => some (.bl (decide (x.cps.toList < y.cps.toList)), s)
  | _, _, _ => none
def dLe : D → D → Store → Option (D × Store)
  | .int i, .int j, s => some (.bl (decide (i ≤ j)), s)
  | .str x, .str y, s => some (.bl (!decide (y.cps.toList < x.cps.toList)), s)
  | _, _, _ => none
def dGt : D → D → Store → Option (D × Store)
  | .int i, .int j, s => some (.bl (decide (j < i)), s)
  | .str x, .str y, s => some (.bl (decide (y.cps.toList < x.cps.toList)), s)
  | _, _, _ => none
def dGe : D → D → Store → Option (D × Store)
  | .int i, .int j, s => some (.bl (decide (j ≤ i)), s)
  | .str x, .str y, s => some (.bl (!decide (x.cps.toList < y.cps.toList)), s)
  | _, _, _ => none
def rCmpA (f : Int → Int → Bool) (k : Str → Str → Bool) : R2 := fun x y H Q => rI0 (fun i j => .bl (f i j)) x y H Q ∨ ∃ i j, x = .str i ∧ y = .str j ∧ Q (.bl (k i j)) H
theorem ops_cmp {f : Int → Int → Bool} {k : Str → Str → Bool} {g : D → D → Store → Option (D × Store)} (h1 : ∀ i j s, g (.int i) (.int j) s = some (.bl (f i j), s)) (h2 : ∀ i j s, g (.str i) (.str j) s = some (.bl (k i j), s))
    (h3 : ∀ x y s, (∀ i j, x = .int i → y = .int j → False) → (∀ i j, x = .str i → y = .str j → False) → g x y s = none) : OpS K (rCmpA f k) g := by
  intro mg W σ m H s x y dx dy Q r px py q
  by_cases ha : ∃ i j, dx = .int i ∧ dy = .int j
  · obtain ⟨i, j, rfl, rfl⟩ := ha
    cases px; cases py
    rw [h1] at q
    exact .inl ⟨i, j, rfl, rfl, q.now r (.bl _)⟩
  · by_cases hb : ∃ i j, dx = .str i ∧ dy = .str j
    · obtain ⟨i, j, rfl, rfl⟩ := hb
      cases px; cases py
      rw [h2] at q
      exact .inr ⟨i, j, rfl, rfl, q.now r (.bl _)⟩
    · rw [h3 dx dy s (fun i j e1 e2 => ha ⟨i, j, e1, e2⟩) (fun i j e1 e2 => hb ⟨i, j, e1, e2⟩)] at q
      exact q.elim
theorem ops_lt : OpS K (rCmpA (fun i j => decide (i < j)) fun x y => decide (x.cps.toList < y.cps.toList)) dLt :=
  ops_cmp (fun _ _ _ => rfl) (fun _ _ _ => rfl) fun x y s h1 h2 => by cases x <;> cases y <;> first | rfl | exact (h1 _ _ rfl rfl).elim | exact (h2 _ _ rfl rfl).elim
theorem ops_le : OpS K (rCmpA (fun i j => decide (i ≤ j)) fun x y => !decide (y.cps.toList < x.cps.toList)) dLe :=
  ops_cmp (fun _ _ _ => rfl) (fun _ _ _ => rfl) fun x y s h1 h2 => by cases x <;> cases y <;> first | rfl | exact (h1 _ _ rfl rfl).elim | exact (h2 _ _ rfl rfl).elim
theorem ops_gt : OpS K (rCmpA (fun i j => decide (j < i)) fun x y => decide (y.cps.toList < x.cps.toList)) dGt :=
  ops_cmp (fun _ _ _ => rfl) (fun _ _ _ => rfl) fun x y s h1 h2 => by cases x <;> cases y <;> first | rfl | exact (h1 _ _ rfl rfl).elim | exact (h2 _ _ rfl rfl).elim
theorem ops_ge : OpS K (rCmpA (fun i j => decide (j ≤ i)) fun x y => !decide (x.cps.toList < y.cps.toList)) dGe :=
  ops_cmp (fun _ _ _ => rfl) (fun _ _ _ => rfl) fun x y s h1 h2 => by cases x <;> cases y <;> first | rfl | exact (h1 _ _ rfl rfl).elim | exact (h2 _ _ rfl rfl).elim
theorem opA_lt {X : Cx} : OpR X (compareOp .Lt) (rCmpA (fun i j => decide (i < j)) fun x y => decide (x.cps.toList < y.cps.toList)) := op_lt.or op_lt_str
theorem opA_le {X : Cx} : OpR X (compareOp .LtE) (rCmpA (fun i j => decide (i ≤ j)) fun x y => !decide (y.cps.toList < x.cps.toList)) := op_le.or op_le_str
theorem opA_gt {X : Cx} : OpR X (compareOp .Gt) (rCmpA (fun i j => decide (j < i)) fun x y => decide (y.cps.toList < x.cps.toList)) := op_gt.or op_gt_str
theorem opA_ge {X : Cx} : OpR X (compareOp .GtE) (rCmpA (fun i j => decide (j ≤ i)) fun x y => !decide (x.cps.toList < y.cps.toList)) := op_ge.or op_ge_str
/-! #### == and != -/
mutual
/-- data without places -/
def py0 : D → Option PyData
  | .non => some .none
  | .bl b => some (.bool b)
  | .int i => some (.int i)
  | .str x => some (.str x)
  | .tup xs => (pys0 xs).map .tuple
  | .fl xs => (pys0 xs).map .list
  | .loc _ => none
  | .exv _ _ _ _ => none
def pys0 : List D → Option (List PyData)
  | [] => some []
  | x :: xs => (py0 x).bind fun a => (pys0 xs).map fun r => a :: r
end
/-- data, a list of the store at its head -/
def py1 (s : Store) : D → Option PyData
  | .loc l => match s[l]? with
    | some (.lst xs) => (pys0 xs).map .list
    | _ => none
  | d => py0 d
mutual
theorem py0_dp {m : List Addr} {H : Hp} : ∀ {d : D} {v : V} {p : PyData}, Rep K m H d v → py0 d = some p → Dp K H v p
  | .non, _, _, .non, e => by cases e; exact .non
  | .bl b, _, _, .bl _, e => by cases e; exact .bl b
  | .int b, _, _, .int _, e => by cases e; exact .int b
  | .str b, _, _, .str _, e => by cases e; exact .str b
  | .tup xs, _, _, .tup h r, e => by
    unfold py0 at e
    cases q : pys0 xs with
    | none => rw [q] at e; cases e
    | some ps => rw [q] at e; cases e; exact .tup (.inl (.inl h)) (pys0_dp r q)
  | .fl xs, _, _, .fl h r, e => by
    unfold py0 at e
    cases q : pys0 xs with
    | none => rw [q] at e; cases e
    | some ps => rw [q] at e; cases e; exact .lst h.sq (pys0_dp r q)
  | .loc _, _, _, _, e => by cases e
  | .exv _ _ _ _, _, _, _, e => by cases e
theorem pys0_dp {m : List Addr} {H : Hp} : ∀ {ds : List D} {vs : List V} {ps : List PyData}, Reps K m H ds vs → pys0 ds = some ps → DpAll K H vs ps
  | [], _, _, .nil, e => by cases e; exact .nil
  | x :: xs, _, _, .cons h r, e => by
    unfold pys0 at e
    cases q : py0 x with
    | none => rw [q] at e; cases e
    | some a =>
      cases q2 : pys0 xs with
      | none => rw [q, q2] at e; cases e
      | some b => rw [q, q2] at e; cases e; exact .cons (py0_dp h q) (pys0_dp r q2)
end
theorem py1_dp {m : List Addr} {H : Hp} {s : Store} (r : Rel K m H s) {d : D} {v : V} {p : PyData} (h : Rep K m H d v) (e : py1 s d = some p) : Dp K H v p := by
  cases d with
  | loc l =>
    cases h with
    | loc h =>
      unfold py1 at e
      cases q : s[l]? with
      | none => simp [q] at e
      | some c =>
        cases c with
        | dic _ => simp [q] at e
        | dct _ => simp [q] at e
        | lst xs =>
          simp only [q] at e
          obtain ⟨vs, q1, p1⟩ := r.list h q
          cases q2 : pys0 xs with
          | none => rw [q2] at e; cases e
          | some ps => rw [q2] at e; cases e; exact .lst (.inl (.inl q1)) (pys0_dp p1 q2)
  | _ => exact py0_dp h e
/-- scalars that == tells apart without more -/
def dScal : D → D → Option Bool
  | .non, .non => some true
  | .non, .int _ => some false | .int _, .non => some false | .non, .bl _ => some false | .bl _, .non => some false | .non, .str _ => some false | .str _, .non => some false
  | .int i, .int j => some (decide (i = j)) | .bl i, .bl j => some (decide (i = j)) | .str i, .str j => some (decide (i = j))
  | .int _, .str _ => some false | .str _, .int _ => some false | .bl _, .str _ => some false | .str _, .bl _ => some false
  | _, _ => none
def dEqB (x y : D) (s : Store) : Option Bool := match dScal x y with
  | some b => some b
  | none => (py1 s x).bind fun a => (py1 s y).bind fun b => if SeqAt.shaped a && SeqAt.shaped b then some (PyData.eqv a b) else none
def dEq (x y : D) (s : Store) : Option (D × Store) := (dEqB x y s).map fun b => (.bl b, s)
def dNe (x y : D) (s : Store) : Option (D × Store) := (dEqB x y s).map fun b => (.bl !b, s)
def rEqA (K : PySem.W.Frag) : R2 := fun x y H Q => rEq x y H Q ∨ rEqD K x y H Q
def rNeA (K : PySem.W.Frag) : R2 := fun x y H Q => rNe x y H Q ∨ rNeD K x y H Q
theorem opA_eq {X : Cx} (hu : X.A.units + 64 < cLine) : OpR X (compareOp .Eq) (rEqA X.K) := op_eq.or (op_eqD hu)
theorem opA_ne {X : Cx} (hu : X.A.units + 64 < cLine) : OpR X (compareOp .NotEq) (rNeA X.K) := op_ne.or (op_neD hu)
theorem scal_of {m : List Addr} {H : Hp} {dx dy : D} {x y : V} {b : Bool} (px : Rep K m H dx x) (py : Rep K m H dy y) (e : dScal dx dy = some b) : scal x y = true ∧ decide (x = y) = b := by
  cases px <;> cases py <;> first | (cases e; done) | (cases e; exact ⟨rfl, by simp⟩)
theorem eqB_cases {m : List Addr} {H : Hp} {s : Store} (r : Rel K m H s) {dx dy : D} {x y : V} {b : Bool} (px : Rep K m H dx x) (py : Rep K m H dy y) (e : dEqB dx dy s = some b) :
    (scal x y = true ∧ decide (x = y) = b) ∨ ∃ d e', Dp K H x d ∧ Dp K H y e' ∧ SeqAt.shaped d = true ∧ SeqAt.shaped e' = true ∧ PyData.eqv d e' = b := by
  unfold dEqB at e
  cases q : dScal dx dy with
  | some c => rw [q] at e; cases e; exact .inl (scal_of px py q)
  | none =>
    rw [q] at e
    cases q1 : py1 s dx with
    | none => rw [q1] at e; cases e
    | some a =>
      cases q2 : py1 s dy with
      | none => rw [q1, q2] at e; cases e
      | some c =>
        rw [q1, q2] at e
        simp only [Option.bind_some] at e
        split at e
        · rename_i hs
          rw [Bool.and_eq_true] at hs
          cases e
          exact .inr ⟨a, c, py1_dp r px q1, py1_dp r py q2, hs.1, hs.2, rfl⟩
        · cases e
theorem ops_eq : OpS K (rEqA K) dEq := by
  intro mg W σ m H s x y dx dy Q r px py g
  unfold dEq at g
  cases e : dEqB dx dy s with
  | none => rw [e] at g; exact g.elim
  | some b =>
    rw [e] at g
    have q := g.now r (.bl b)
    rcases eqB_cases r px py e with ⟨h1, h2⟩ | ⟨d, e', h1, h2, h3, h4, h5⟩
    · exact .inl ⟨h1, by rw [h2]; exact q⟩
    · exact .inr ⟨d, e', h1, h2, h3, h4, by rw [h5]; exact q⟩
theorem ops_ne : OpS K (rNeA K) dNe := by
  intro mg W σ m H s x y dx dy Q r px py g
  unfold dNe at g
  cases e : dEqB dx dy s with
  | none => rw [e] at g; exact g.elim
  | some b =>
    rw [e] at g
    have q := g.now r (.bl (!b))
    rcases eqB_cases r px py e with ⟨h1, h2⟩ | ⟨d, e', h1, h2, h3, h4, h5⟩
    · exact .inl ⟨h1, by rw [h2]; exact q⟩
    · exact .inr ⟨d, e', h1, h2, h3, h4, by rw [h5]; exact q⟩
/-! #### is, is not: None, True, False -/
theorem is_bool_gen {M : Model} {A : Around} {E : Value → Shared → Prop} {s : Shared} {Q : Value → Shared → Prop} {v : Value} {b : Bool} (hn : ∀ i, v ≠ .builtin i) (h : Q (.bool (v == .bool b)) s) : wpAny M A (compareOp .Is v (.bool b)) Q E s := by
  cases v <;> first | exact wpAny_pure h | exact (hn _ rfl).elim
theorem isnot_bool_gen {M : Model} {A : Around} {E : Value → Shared → Prop} {s : Shared} {Q : Value → Shared → Prop} {v : Value} {b : Bool} (hn : ∀ i, v ≠ .builtin i) (h : Q (.bool (!(v == .bool b))) s) : wpAny M A (compareOp .IsNot v (.bool b)) Q E s := by
  cases v <;> first | exact wpAny_pure h | exact (hn _ rfl).elim
theorem relv_nb {x : V} {v : Value} (r : RelV x v) : ∀ i, v ≠ .builtin i := fun i e => by
  subst e
  cases x with
  | non => cases r
  | bl c => cases r
  | int i => obtain ⟨t, e⟩ := r; cases e
  | str i => obtain ⟨t, e⟩ := r; cases e
  | byt i => obtain ⟨t, e⟩ := r; cases e
  | flt i => obtain ⟨t, e⟩ := r; cases e
  | ref i => cases r
  | ty i => cases r
theorem relv_bool {x : V} {v : Value} {b : Bool} (r : RelV x v) : (v == .bool b) = decide (x = .bl b) := by
  cases x with
  | non => cases r; simp
  | bl c => cases r; cases c <;> cases b <;> rfl
  | int i => obtain ⟨t, rfl⟩ := r; simp
  | str i => obtain ⟨t, rfl⟩ := r; simp
  | byt i => obtain ⟨t, rfl⟩ := r; simp
  | flt i => obtain ⟨t, rfl⟩ := r; simp
  | ref i => cases r; simp
  | ty i => cases r; simp
theorem op_isB {X : Cx} : OpR X (compareOp .Is) (fun x y H Q => ∃ b, y = .bl b ∧ Q (.bl (decide (x = .bl b))) H) := by
  intro pins s σ H x y v u Q I rx ry h
  obtain ⟨b, rfl, q⟩ := h
  cases ry
  exact is_bool_gen (relv_nb rx) (fin_bl I q (relv_bool rx).symm)
theorem op_notB {X : Cx} : OpR X (compareOp .IsNot) (fun x y H Q => ∃ b, y = .bl b ∧ Q (.bl (!decide (x = .bl b))) H) := by
  intro pins s σ H x y v u Q I rx ry h
  obtain ⟨b, rfl, q⟩ := h
  cases ry
  exact isnot_bool_gen (relv_nb rx) (fin_bl I q (by rw [relv_bool rx]))
def dIsB : D → D → Option Bool
  | .non, .non => some true
  | _, .non => some false
  | .bl c, .bl b => some (decide (c = b))
  | _, .bl _ => some false
  | _, _ => none
def dIs (x y : D) (s : Store) : Option (D × Store) := (dIsB x y).map fun b => (.bl b, s)
def dIsNot (x y : D) (s : Store) : Option (D × Store) := (dIsB x y).map fun b => (.bl !b, s)
def rIsA : R2 := fun x y H Q => (y = .non ∧ Q (.bl (decide (x = .non))) H) ∨ ∃ b, y = .bl b ∧ Q (.bl (decide (x = .bl b))) H
def rNotA : R2 := fun x y H Q => (y = .non ∧ Q (.bl (!decide (x = .non))) H) ∨ ∃ b, y = .bl b ∧ Q (.bl (!decide (x = .bl b))) H
theorem opA_is {X : Cx} : OpR X (compareOp .Is) rIsA := op_isN.or op_isB
theorem opA_isnot {X : Cx} : OpR X (compareOp .IsNot) rNotA := op_notN.or op_notB
theorem isB_cases {m : List Addr} {H : Hp} {dx dy : D} {x y : V} {b : Bool} (px : Rep K m H dx x) (py : Rep K m H dy y) (e : dIsB dx dy = some b) : (y = .non ∧ decide (x = .non) = b) ∨ ∃ c, y = .bl c ∧ decide (x = .bl c) = b := by
  cases py with
  | non => refine .inl ⟨rfl, ?_⟩; cases px <;> (cases e; simp)
  | bl c => refine .inr ⟨c, rfl, ?_⟩; cases px <;> (cases e; simp)
  | _ => cases px <;> cases e
theorem ops_is : OpS K rIsA dIs := by
  intro mg W σ m H s x y dx dy Q r px py g
  unfold dIs at g
  cases e : dIsB dx dy with
  | none => rw [e] at g; exact g.elim
  | some b =>
    rw [e] at g
    have q := g.now r (.bl b)
    rcases isB_cases px py e with ⟨rfl, h⟩ | ⟨c, rfl, h⟩
    · exact .inl ⟨rfl, by rw [h]; exact q⟩
    · exact .inr ⟨c, rfl, by rw [h]; exact q⟩
theorem ops_isnot : OpS K rNotA dIsNot := by
  intro mg W σ m H s x y dx dy Q r px py g
  unfold dIsNot at g
  cases e : dIsB dx dy with
  | none => rw [e] at g; exact g.elim
  | some b =>
    rw [e] at g
    have q := g.now r (.bl (!b))
    rcases isB_cases px py e with ⟨rfl, h⟩ | ⟨c, rfl, h⟩
    · exact .inl ⟨rfl, by rw [h]; exact q⟩
    · exact .inr ⟨c, rfl, by rw [h]; exact q⟩
end
end Mi
namespace Mi
open PySem PySem.Spec PyProof.Rows L2
section
variable {K : PySem.W.Frag} {m : List Addr} {H : Hp} {s : Store}
theorem Rep.sqT {xs : List D} {v : V} (h : Rep K m H (.tup xs) v) : ∃ a vs, v = .ref a ∧ SqT K H a vs ∧ Reps K m H xs vs := by
  cases h with
  | tup h r => exact ⟨_, _, rfl, .inl (.inl h), r⟩
theorem Rep.trk {xs : List D} {v : V} (h : Rep K m H (.tup xs) v) : ∃ a vs, v = .ref a ∧ H a = some (.tup vs) ∧ Reps K m H xs vs := by
  cases h with
  | tup h r => exact ⟨_, _, rfl, h, r⟩
/-- the items of a list: of the store, or never written -/
def lstOf (s : Store) : D → Option (List D)
  | .loc l => match s[l]? with
    | some (.lst xs) => some xs
    | _ => none
  | .fl xs => some xs
  | _ => none
theorem lstOf_sq (r : Rel K m H s) {d : D} {v : V} {xs : List D} (p : Rep K m H d v) (e : lstOf s d = some xs) : ∃ a vs, v = .ref a ∧ SqL K H a vs ∧ Reps K m H xs vs := by
  cases d with
  | loc l =>
    cases p with
    | loc h =>
      unfold lstOf at e
      cases q : s[l]? with
      | none => simp [q] at e
      | some c =>
        cases c with
        | dic _ => simp [q] at e
        | dct _ => simp [q] at e
        | lst ys =>
          simp only [q] at e
          cases e
          obtain ⟨vs, h1, h2⟩ := r.list h q
          exact ⟨_, vs, rfl, .inl (.inl h1), h2⟩
  | fl ys =>
    cases e
    cases p with
    | fl h q => exact ⟨_, _, rfl, h.sq, q⟩
  | _ => cases e
/-- list or tuple -/
def seqOf (s : Store) : D → Option (List D)
  | .tup xs => some xs
  | d => lstOf s d
theorem seqOf_sq (r : Rel K m H s) {d : D} {v : V} {xs : List D} (p : Rep K m H d v) (e : seqOf s d = some xs) : ∃ a vs, v = .ref a ∧ (SqL K H a vs ∨ SqT K H a vs) ∧ Reps K m H xs vs := by
  cases d with
  | tup ys =>
    cases e
    obtain ⟨a, vs, h1, h2, h3⟩ := p.sqT
    exact ⟨a, vs, h1, .inr h2, h3⟩
  | loc l => obtain ⟨a, vs, h1, h2, h3⟩ := lstOf_sq (d := .loc l) r p e; exact ⟨a, vs, h1, .inl h2, h3⟩
  | fl l => obtain ⟨a, vs, h1, h2, h3⟩ := lstOf_sq (d := .fl l) r p e; exact ⟨a, vs, h1, .inl h2, h3⟩
  | _ => cases e
/-! #### a[i] -/
def dIx (x i : D) (s : Store) : Option (D × Store) := match i with
  | .int i => match x with
    | .str z => if z.length ≤ sizeLine then (atI z.cps.toList i).map fun c => (.str ⟨#[c]⟩, s) else none
    | x => (seqOf s x).bind fun xs => (atI xs i).map fun d => (d, s)
  | _ => none
theorem Reps.atI {xs : List D} {vs : List V} {i : Int} {d : D} (r : Reps K m H xs vs) (e : L2.atI xs i = some d) : ∃ v, L2.atI vs i = some v ∧ Rep K m H d v := by
  unfold L2.atI at e ⊢
  rw [← r.length]
  cases q : ixN xs.length i with
  | none => rw [q] at e; cases e
  | some j =>
    rw [q] at e
    exact r.get e
theorem ops_ix : OpS K (rIx K) dIx := by
  intro mg W σ m H s x y dx dy Q r px py g
  cases dy with
  | int i =>
    cases py
    have seq : ∀ xs, seqOf s dx = some xs → (∀ d, L2.atI xs i = some d → G K mg (Rep K) W σ m H Q (.ok d s)) → (L2.atI xs i).isSome → rIx K x (.int i) H Q := by
      intro xs e q hs
      obtain ⟨d, hd⟩ := Option.isSome_iff_exists.mp hs
      obtain ⟨a, vs, rfl, hq, rr⟩ := seqOf_sq r px e
      obtain ⟨v, hv, rv⟩ := rr.atI hd
      have q2 := (q d hd).now r rv
      rcases hq with hq | hq
      · exact .inl ⟨a, vs, i, v, rfl, rfl, hq, hv, q2⟩
      · exact .inr (.inl ⟨a, vs, i, v, rfl, rfl, hq, hv, q2⟩)
    have gen : (∀ z, dx ≠ .str z) → rIx K x (.int i) H Q := by
      intro hn
      have e : dIx dx (.int i) s = (seqOf s dx).bind fun xs => (L2.atI xs i).map fun d => (d, s) := by
        cases dx <;> first | rfl | exact (hn _ rfl).elim
      rw [e] at g
      cases q : seqOf s dx with
      | none => rw [q] at g; exact g.elim
      | some xs =>
        rw [q] at g
        cases q2 : L2.atI xs i with
        | none => simp [q2] at g; exact g.elim
        | some d =>
          simp [q2] at g
          exact seq xs q (fun d' h => by rw [q2] at h; cases h; exact g) (by simp [q2])
    cases dx with
    | str z =>
      cases px
      by_cases hz : z.length ≤ sizeLine
      · cases q2 : L2.atI z.cps.toList i with
        | none => simp [dIx, hz, q2] at g; exact g.elim
        | some c =>
          simp [dIx, hz, q2] at g
          exact .inr (.inr ⟨z, i, c, rfl, rfl, hz, q2, g.now r (.str _)⟩)
      · simp [dIx, hz] at g; exact g.elim
    | _ => exact gen (fun z e => by cases e)
  | _ => exact g.elim
/-! #### slices -/
def cutD (xs : List D) (lo hi : Option Int) : List D := (xs.drop (HT.sIx xs.length 0 lo)).take (HT.sIx xs.length xs.length hi - HT.sIx xs.length 0 lo)
theorem Reps.cut {xs : List D} {vs : List V} (r : Reps K m H xs vs) (lo hi : Option Int) : Reps K m H (cutD xs lo hi) (cutV vs lo hi) := by
  unfold cutD cutV
  rw [← r.length]
  exact (r.drop _).take _
def dSl (x : D) (lo hi : Option Int) (s : Store) : Option (D × Store) := match x with
  | .tup xs => some (.tup (cutD xs lo hi), s)
  | x => (lstOf s x).map fun xs => (.loc s.length, s ++ [.lst (cutD xs lo hi)])
def SlS (K : PySem.W.Frag) (r : V → Option Int → Option Int → Hp → VK → Prop) (g : D → Option Int → Option Int → Store → Option (D × Store)) : Prop :=
  ∀ {mg : Str → Option Value} {W : WX} {σ : L2.St} {m : List Addr} {H : Hp} {s : Store} {x : V} {d : D} {lo hi : Option Int} {Q : VK}, Rel K m H s → Rep K m H d x → G K mg (Rep K) W σ m H Q (R.of (g d lo hi s)) → r x lo hi H Q
def rSlS : V → Option Int → Option Int → Hp → VK → Prop := fun x lo hi H Q => ∃ z : Str, x = .str z ∧ z.length ≤ sizeLine ∧ Q (.str (cutS z lo hi)) H
def rSlLT (K : PySem.W.Frag) : V → Option Int → Option Int → Hp → VK → Prop := fun x lo hi H Q => rSlL K x lo hi H Q ∨ rSlA K x lo hi H Q
theorem sl_LT {X : Cx} : SlR X (rSlLT X.K) := sl_list.or sl_tupA
theorem sls_LT : SlS K (rSlLT K) dSl := by
  intro mg W σ m H s x d lo hi Q r p g
  have lst : ∀ xs, lstOf s d = some xs → G K mg (Rep K) W σ m H Q (.ok (.loc s.length) (s ++ [.lst (cutD xs lo hi)])) → rSlLT K x lo hi H Q := by
    intro xs e q
    obtain ⟨a, vs, rfl, hq, rr⟩ := lstOf_sq r p e
    exact .inl ⟨a, vs, rfl, hq, fun q' hq' => q (m ++ [q']) _ _ (le_more r hq') (rel_newlist r hq' (rr.cut lo hi)) (.loc (len_get r))⟩
  have gen : (∀ ys, d ≠ .tup ys) → rSlLT K x lo hi H Q := by
    intro hn
    have e : dSl d lo hi s = (lstOf s d).map fun xs => (.loc s.length, s ++ [.lst (cutD xs lo hi)]) := by
      cases d <;> first | rfl | exact (hn _ rfl).elim
    rw [e] at g
    cases q : lstOf s d with
    | none => rw [q] at g; exact g.elim
    | some xs => rw [q] at g; exact lst xs q g
  cases d with
  | tup xs =>
    obtain ⟨a, vs, rfl, hq, rr⟩ := p.sqT
    have g' : G K mg (Rep K) W σ m H Q (.ok (.tup (cutD xs lo hi)) s) := g
    refine .inr ⟨a, vs, rfl, hq, fun w => ?_, fun _ q hn => g' m _ _ (le_new hn) (r.tmp hn) (rep_newtup hn (rr.cut lo hi))⟩
    have e : cutD xs lo hi = xs := by
      unfold cutD
      rw [rr.length, w.1, w.2, ← rr.length]
      simp
    rw [e] at g'
    exact g'.now r p
  | _ => exact gen (fun z e => by cases e)
def oNone : ME (Option Int) := fun _ s => .ok none s
def oSome (a : ME D) : ME (Option Int) := fun env s => (a env s).bind fun x s => match x with
  | .int i => .ok (some i) s
  | _ => .no
def ρO : List Addr → Hp → Option Int → Option Int → Prop := fun _ _ a b => a = b
abbrev To (K : PySem.W.Frag) (mg : Str → Option Value) (W : WX) (f : ME (Option Int)) : TO := Tm K mg ρO W f
def eSl (g : D → Option Int → Option Int → Store → Option (D × Store)) (a : ME D) (lo hi : ME (Option Int)) : ME D := fun env s => (a env s).bind fun x s => (lo env s).bind fun l s => (hi env s).bind fun u s => R.of (g x l u s)
end
section
variable {X : Cx} {W : WX} {pos p2 : Pos} {a b c e : Expr} {es : List Expr} {fa fb fc : ME D} {ga gb : ME Bool} {fs : ME (List D)} {ol oh : ME (Option Int)} {lo hi : Option Expr}
theorem co_none : PO X none (To X.K X.mg W oNone) := ⟨fun pins s σ H Q I ⟨m, env, st, r, E, g⟩ => po_none.run pins s σ H Q I (g m H none .refl r rfl)⟩
theorem co_some (h : PE X e (Te X.K X.mg W fa)) : PO X (some e) (To X.K X.mg W (oSome fa)) := ⟨fun pins s σ H Q I q =>
  (po_some h).run pins s σ H Q I (Tm.bind (k := fun _ x s => match x with | .int i => R.ok (some i) s | _ => R.no) q fun m1 H1 env x v s1 r1 E1 p1 g1 => by
    cases x with
    | int i => cases p1; exact ⟨i, rfl, g1 m1 H1 (some i) .refl r1 rfl⟩
    | _ => exact g1.elim)⟩
theorem ce_sl {r : V → Option Int → Option Int → Hp → VK → Prop} {g : D → Option Int → Option Int → Store → Option (D × Store)} (hr : SlR X r) (hs : SlS X.K r g) (ha : PE X a (Te X.K X.mg W fa)) (hl : PO X lo (To X.K X.mg W ol)) (hu : PO X hi (To X.K X.mg W oh)) :
    PE X (.Subscript a (.Slice lo hi none p2) pos) (Te X.K X.mg W (eSl g fa ol oh)) :=
  PE.imp (pe_slice hr ha hl hu) fun σ H Q h => Tm.bind (k := fun env x s => (ol env s).bind fun l s => (oh env s).bind fun u s => R.of (g x l u s)) h fun m1 H1 env x v s1 r1 E1 p1 g1 =>
    ⟨m1, env, s1, r1, E1, G.bind g1 fun m2 H2 l l' s2 l2 r2 p2 g2 => ⟨m2, env, s2, r2, E1.mono l2, G.bind g2 fun m3 H3 u u' s3 l3 r3 p3 g3 => by
      cases (show l = l' from p2); cases (show u = u' from p3)
      exact hs r3 ((p1.mono l2).mono l3) g3⟩⟩
end
/-! #### calls of builtins -/
section
variable {K : PySem.W.Frag}
def dLen : List D → Store → Option (D × Store)
  | [.str z], s => if z.length ≤ sizeLine then some (.int z.length, s) else none
  | [x], s => (seqOf s x).map fun xs => (.int xs.length, s)
  | _, _ => none
theorem fns_len : FnS K (fun xs H Q => ∃ x n, xs = [x] ∧ LenV K x H n ∧ Q (.int n) H) dLen := by
  intro mg W σ m H s xs ds Q r p g
  cases p with
  | nil => exact g.elim
  | @cons d v ds2 vs2 h p =>
    cases p with
    | cons h2 p2 => cases d <;> exact g.elim
    | nil =>
      have seq : ∀ xs, seqOf s d = some xs → G K mg (Rep K) W σ m H Q (.ok (.int xs.length) s) → ∃ x n, [v] = [x] ∧ LenV K x H n ∧ Q (.int n) H := by
        intro xs e q
        obtain ⟨a, vs, rfl, hq, rr⟩ := seqOf_sq r h e
        refine ⟨.ref a, xs.length, rfl, ?_, q.now r (.int _)⟩
        rcases hq with hq | hq
        · exact .inl ⟨vs, hq, rr.length⟩
        · exact .inr ⟨vs, hq, rr.length⟩
      have gen : (∀ z, d ≠ .str z) → ∃ x n, [v] = [x] ∧ LenV K x H n ∧ Q (.int n) H := by
        intro hn
        have e : dLen [d] s = (seqOf s d).map fun xs => (.int xs.length, s) := by cases d <;> first | rfl | exact (hn _ rfl).elim
        rw [e] at g
        cases q : seqOf s d with
        | none => rw [q] at g; exact g.elim
        | some xs => rw [q] at g; exact seq xs q g
      cases d with
      | str z =>
        cases h
        by_cases hz : z.length ≤ sizeLine
        · simp [dLen, hz] at g
          exact ⟨.str z, z.length, rfl, ⟨hz, rfl⟩, g.now r (.int _)⟩
        · simp [dLen, hz] at g; exact g.elim
      | _ => exact gen (fun z e => by cases e)
def dInt : List D → Store → Option (D × Store)
  | [.int i], s => some (.int i, s)
  | [.bl k], s => some (.int (if k then 1 else 0), s)
  | _, _ => none
theorem reps1 {m : List Addr} {H : Hp} {d : D} {xs : List V} (p : Reps K m H [d] xs) : ∃ v, xs = [v] ∧ Rep K m H d v := by
  cases p with
  | cons h p => cases p; exact ⟨_, rfl, h⟩
theorem reps2 {m : List Addr} {H : Hp} {d e : D} {xs : List V} (p : Reps K m H [d, e] xs) : ∃ v w, xs = [v, w] ∧ Rep K m H d v ∧ Rep K m H e w := by
  cases p with
  | cons h p =>
    obtain ⟨w, rfl, q⟩ := reps1 p
    exact ⟨_, w, rfl, h, q⟩
theorem fns_int : FnS K (fun xs H Q => (∃ i, xs = [.int i] ∧ Q (.int i) H) ∨ ∃ k, xs = [.bl k] ∧ Q (.int (if k then 1 else 0)) H) dInt := by
  intro mg W σ m H s xs ds Q r p g
  unfold dInt at g
  split at g
  · obtain ⟨v, rfl, h⟩ := reps1 p
    cases h
    exact .inl ⟨_, rfl, g.now r (.int _)⟩
  · obtain ⟨v, rfl, h⟩ := reps1 p
    cases h
    exact .inr ⟨_, rfl, g.now r (.int _)⟩
  · exact g.elim
def dAbs : List D → Store → Option (D × Store)
  | [.int i], s => some (.int (if i < 0 then -i else i), s)
  | _, _ => none
theorem fns_abs : FnS K (fun xs H Q => ∃ i, xs = [.int i] ∧ Q (.int (if i < 0 then -i else i)) H) dAbs := by
  intro mg W σ m H s xs ds Q r p g
  unfold dAbs at g
  split at g
  · obtain ⟨v, rfl, h⟩ := reps1 p
    cases h
    exact ⟨_, rfl, g.now r (.int _)⟩
  · exact g.elim
def dMax2 : List D → Store → Option (D × Store)
  | [.int i, .int j], s => some (.int (if j > i then j else i), s)
  | _, _ => none
theorem fns_max2 : FnS K (fun xs H Q => ∃ i j, xs = [.int i, .int j] ∧ Q (.int (if j > i then j else i)) H) dMax2 := by
  intro mg W σ m H s xs ds Q r p g
  unfold dMax2 at g
  split at g
  · obtain ⟨v, w, rfl, h, h2⟩ := reps2 p
    cases h; cases h2
    exact ⟨_, _, rfl, g.now r (.int _)⟩
  · exact g.elim
def dMin2 : List D → Store → Option (D × Store)
  | [.int i, .int j], s => some (.int (if j < i then j else i), s)
  | _, _ => none
theorem fns_min2 : FnS K (fun xs H Q => ∃ i j, xs = [.int i, .int j] ∧ Q (.int (if j < i then j else i)) H) dMin2 := by
  intro mg W σ m H s xs ds Q r p g
  unfold dMin2 at g
  split at g
  · obtain ⟨v, w, rfl, h, h2⟩ := reps2 p
    cases h; cases h2
    exact ⟨_, _, rfl, g.now r (.int _)⟩
  · exact g.elim
/-- all ints -/
def intsOf : List D → Option (List Int)
  | [] => some []
  | .int i :: r => (intsOf r).map fun x => i :: x
  | _ :: _ => none
theorem intsOf_map (ns : List Int) : intsOf (ns.map D.int) = some ns := by
  induction ns with
  | nil => rfl
  | cons n ns ih => simp [intsOf, ih]
theorem of_intsOf : ∀ {ds : List D} {ns : List Int}, intsOf ds = some ns → ds = ns.map D.int
  | [], _, e => by cases e; rfl
  | d :: ds, ns, e => by
    cases d with
    | int i =>
      unfold intsOf at e
      cases q : intsOf ds with
      | none => rw [q] at e; cases e
      | some x => rw [q] at e; cases e; rw [List.map_cons, of_intsOf q]
    | _ => cases e
def dSum : List D → Store → Option (D × Store)
  | [x], s => (lstOf s x).bind fun xs => (intsOf xs).map fun ns => (.int ns.sum, s)
  | _, _ => none
theorem fns_sum : FnS K (rSum K) dSum := by
  intro mg W σ m H s xs ds Q r p g
  unfold dSum at g
  split at g
  · obtain ⟨v, rfl, h⟩ := reps1 p
    rename_i x
    cases q : lstOf s x with
    | none => rw [q] at g; exact g.elim
    | some ys =>
      rw [q] at g
      cases q2 : intsOf ys with
      | none => simp [q2] at g; exact g.elim
      | some ns =>
        simp [q2] at g
        obtain ⟨a, vs, rfl, hq, rr⟩ := lstOf_sq r h q
        rw [of_intsOf q2] at rr
        have e := rr.ints
        subst e
        exact ⟨a, ns, rfl, hq, g.now r (.int _)⟩
  · exact g.elim
def dTuple : List D → Store → Option (D × Store)
  | [x], s => (seqOf s x).map fun xs => (.tup xs, s)
  | _, _ => none
theorem fns_tuple : FnS K (fun xs H Q => ∃ p ys, xs = [.ref p] ∧ ((SqL K H p ys ∧ ∀ l, H l = none → Q (.ref l) (upd H l (.tup ys))) ∨ (SqT K H p ys ∧ Q (.ref p) H))) dTuple := by
  intro mg W σ m H s xs ds Q r p g
  unfold dTuple at g
  split at g
  · obtain ⟨v, rfl, h⟩ := reps1 p
    rename_i x
    cases q : seqOf s x with
    | none => rw [q] at g; exact g.elim
    | some ys =>
      rw [q] at g
      have g' : G K mg (Rep K) W σ m H Q (.ok (.tup ys) s) := g
      have gen : (∀ zs, x ≠ .tup zs) → ∃ p ys, [v] = [V.ref p] ∧ ((SqL K H p ys ∧ ∀ l, H l = none → Q (.ref l) (upd H l (.tup ys))) ∨ (SqT K H p ys ∧ Q (.ref p) H)) := fun hn => by
        have q' : lstOf s x = some ys := by cases x <;> first | exact q | exact (hn _ rfl).elim
        obtain ⟨a, vs, rfl, hq, rr⟩ := lstOf_sq r h q'
        exact ⟨a, vs, rfl, .inl ⟨hq, fun l hl => g' m _ _ (le_new hl) (r.tmp hl) (rep_newtup hl rr)⟩⟩
      cases x with
      | tup zs =>
        cases q
        obtain ⟨a, vs, rfl, hq, rr⟩ := h.sqT
        exact ⟨a, vs, rfl, .inr ⟨hq, g'.now r h⟩⟩
      | _ => exact gen fun _ e => by cases e
  · exact g.elim
def dList : List D → Store → Option (D × Store)
  | [x], s => (seqOf s x).map fun xs => (.loc s.length, s ++ [.lst xs])
  | _, _ => none
theorem fns_list : FnS K (fun xs H Q => ∃ p ys, xs = [.ref p] ∧ (SqL K H p ys ∨ SqT K H p ys) ∧ ∀ l, H l = none → Q (.ref l) (upd H l (.lst ys))) dList := by
  intro mg W σ m H s xs ds Q r p g
  unfold dList at g
  split at g
  · obtain ⟨v, rfl, h⟩ := reps1 p
    rename_i x
    cases q : seqOf s x with
    | none => rw [q] at g; exact g.elim
    | some ys =>
      rw [q] at g
      have g' : G K mg (Rep K) W σ m H Q (.ok (.loc s.length) (s ++ [.lst ys])) := g
      obtain ⟨a, vs, rfl, hq, rr⟩ := seqOf_sq r h q
      exact ⟨a, vs, rfl, hq, fun l hl => g' (m ++ [l]) _ _ (le_more r hl) (rel_newlist r hl rr) (.loc (len_get r))⟩
  · exact g.elim
/-! #### isinstance(x, T), T a built-in type -/
def tyN (s : Store) : D → Option String
  | .non => some "NoneType"
  | .bl _ => some "bool"
  | .int _ => some "int"
  | .str _ => some "str"
  | .tup _ => some "tuple"
  | .fl _ => some "list"
  | .loc l => match s[l]? with
    | some (.lst _) => some "list"
    | some (.dic _) => some "dict"
    | some (.dct _) => some "dict"
    | none => none
  | .exv _ _ _ _ => none
theorem tyN_tyx {m : List Addr} {H : Hp} {s : Store} (r : Rel K m H s) {d : D} {v : V} {t : String} (p : Rep K m H d v) (e : tyN s d = some t) : TyX K H v (.type t) := by
  cases p with
  | non => cases e; exact .base .non
  | bl b => cases e; exact .base (.bl b)
  | int b => cases e; exact .base (.int b)
  | str b => cases e; exact .base (.str b)
  | tup h q =>
    have e' : t = "tuple" := (Option.some.inj e).symm
    subst e'
    exact .base (.tup h)
  | fl h q =>
    cases e
    rcases h with ⟨o, h⟩ | ⟨o, _, _, h1, h2, _⟩
    · exact .base (.frz h)
    · exact .kList h1 h2
  | @loc l a h =>
    unfold tyN at e
    cases q : s[l]? with
    | none => simp [q] at e
    | some c =>
      cases c with
      | lst xs => simp [q] at e; subst e; obtain ⟨vs, h1, _⟩ := r.list h q; exact .base (.lst h1)
      | dic xs => simp [q] at e; subst e; obtain ⟨vs, h1, _⟩ := r.at_ l a _ h q; exact .base (.dK h1)
      | dct xs => simp [q] at e; subst e; obtain ⟨vs, h1, _⟩ := r.at_ l a _ h q; exact .base (.dT h1)
  | exv h n r => cases e
def dIsi (T : String) (x : D) (s : Store) : Option (D × Store) := (tyN s x).bind fun t => (kitB t T).map fun b => (.bl b, s)
end
section
variable {X : Cx} {W : WX} {pos p p2 : Pos} {a b c e : Expr} {es : List Expr} {fa fb fc : ME D} {ga gb : ME Bool} {fs : ME (List D)}
theorem ce_isi {T : String} (hg : Gl X "isinstance") (hm : X.mg "isinstance" = none) (hgT : Gl X (T : Str)) (hmT : X.mg (T : Str) = none) (hvT : bootBuiltins (T : Str) = some (.type T)) (ha : PE X a (Te X.K X.mg W fa))
    (hnT : (T : Str) ≠ "__name__" := by decide) (hdT : ((T : Str) == ("__debug__" : Str)) = false := by decide)
    (hv : bootBuiltins "isinstance" = some (.builtin "isinstance") := by decide +kernel) (he : starEach [a, .Name T p2] X.env = (false, eval a X.env) :: starEach [.Name T p2] X.env := by rfl)
    (he2 : starEach [.Name T p2] X.env = (false, eval (.Name T p2) X.env) :: starEach [] X.env := by rfl)
    (hpl : (backTo pos (starEach [.Name T p2] X.env)).any (·.1) = false := by rfl) : PE X (.Call (.Name "isinstance" p) [a, .Name T p2] [] pos) (Te X.K X.mg W (e1 (dIsi T) fa)) :=
  PE.imp (pe_callB call_isi hg hm hv (pa_cons ha (pa_cons (pe_bltn (v := .ty T) hgT hmT hvT rfl hnT hdT) pa_nil he2) he) (by decide) (by decide) he hpl) fun σ H Q h =>
    Tm.bind (k := fun _ x s => R.of (dIsi T x s)) h fun m1 H1 env x v s1 r1 E1 p1 g1 => by
      unfold dIsi at g1
      cases q : tyN s1 x with
      | none => rw [q] at g1; exact g1.elim
      | some t =>
        rw [q] at g1
        cases q2 : kitB t T with
        | none => simp [q2] at g1; exact g1.elim
        | some k =>
          simp [q2] at g1
          exact ⟨v, .ty T, .type t, .type T, k, rfl, .ty T, tyN_tyx r1 p1 q, kit_ty q2, g1.now r1 (.bl _)⟩
/-! #### methods of builtin types -/
def tyOk (T : String) (s : Store) : D → Bool
  | .str _ => T == "str"
  | .int _ => T == "int"
  | .loc l => match s[l]? with
    | some (.lst _) => T == "list"
    | some (.dic _) => T == "dict"
    | some (.dct _) => T == "dict"
    | none => false
  | .fl _ => T == "list"
  | _ => false
theorem tyOk_tyV {T : String} {m : List Addr} {H : Hp} {s : Store} {K : PySem.W.Frag} (r : Rel K m H s) {d : D} {v : V} (p : Rep K m H d v) (e : tyOk T s d = true) : tyV K T v H := by
  cases p with
  | str b => exact beq_iff_eq.mp e
  | int b => exact beq_iff_eq.mp e
  | fl h q => exact .inl ⟨beq_iff_eq.mp e, _, h.sq⟩
  | @loc l a h =>
    unfold tyOk at e
    cases q : s[l]? with
    | none => simp [q] at e
    | some c =>
      cases c with
      | lst xs => simp [q] at e; obtain ⟨vs, h1, _⟩ := r.list h q; exact .inl ⟨e, vs, .inl (.inl h1)⟩
      | dic xs => simp [q] at e; obtain ⟨vs, h1, _⟩ := r.at_ l a _ h q; exact .inr (.inr (.inl ⟨e, .inl ⟨vs, h1⟩⟩))
      | dct xs => simp [q] at e; obtain ⟨vs, h1, _⟩ := r.at_ l a _ h q; exact .inr (.inr (.inl ⟨e, .inr ⟨vs, h1⟩⟩))
  | _ => cases e
def eMt (T : String) (g : D → List D → Store → Option (D × Store)) (a : ME D) (fs : ME (List D)) : ME D := fun env s => (a env s).bind fun x s => if tyOk T s x = true then (fs env s).bind fun xs s => R.of (g x xs s) else .no
def eMt0 (T : String) (g : D → List D → Store → Option (D × Store)) (a : ME D) : ME D := fun env s => (a env s).bind fun x s => if tyOk T s x = true then R.of (g x [] s) else .no
def MtS (K : PySem.W.Frag) (r : V → List V → Hp → VK → Prop) (g : D → List D → Store → Option (D × Store)) : Prop :=
  ∀ {mg : Str → Option Value} {W : WX} {σ : L2.St} {m : List Addr} {H : Hp} {s : Store} {x : V} {d : D} {xs : List V} {ds : List D} {Q : VK}, Rel K m H s → Rep K m H d x → Reps K m H ds xs → G K mg (Rep K) W σ m H Q (R.of (g d ds s)) → r x xs H Q
variable {o : Expr} {T id : String} {name : Str} {apos cpos : Pos} {r : V → List V → Hp → VK → Prop} {g : D → List D → Store → Option (D × Store)} {fo : ME D}
theorem ce_bm0 (pa : PlainAttrs T) (slot : Slot T name id) (hty : typeOf (.builtin id) = pure (.type "method_descriptor")) (hm : MtR X id r) (hs : MtS X.K r g) (ho : PE X o (Te X.K X.mg W fo))
    (hbase : attributeBase o name X.env (eval o X.env) = eval o X.env := by rfl) (hline : (apos.endLine == cpos.line) = true := by rfl) : PE X (.Call (.Attribute o name apos) [] [] cpos) (Te X.K X.mg W (eMt0 T g fo)) :=
  PE.imp (pe_bm0 pa slot hty hm ho hbase hline) fun σ H Q h => Tm.bind (k := fun env x s => if tyOk T s x = true then R.of (g x [] s) else R.no) h fun m1 H1 env x v s1 r1 E1 p1 g1 => by
    by_cases q : tyOk T s1 x = true
    · simp only [q, if_true] at g1
      exact ⟨tyOk_tyV r1 p1 q, hs r1 p1 .nil g1⟩
    · simp only [q, if_false] at g1
      exact g1.elim
theorem ce_bm (pa : PlainAttrs T) (slot : Slot T name id) (hty : typeOf (.builtin id) = pure (.type "method_descriptor")) (hm : MtR X id r) (hs : MtS X.K r g) (ho : PE X o (Te X.K X.mg W fo)) (ha : PA X (e :: es) (Ta X.K X.mg W fs))
    (hbase : attributeBase o name X.env (eval o X.env) = eval o X.env := by rfl)
    (hfew : ((backTo cpos (starEach (e :: es) X.env)).all (fun x => !x.1) && (backToKw cpos (keywordEach [] X.env)).all (fun x => x.1.isSome)
      && decide ((e :: es).length + ([] : List Keyword).length + (if ([] : List Keyword).isEmpty then 0 else 1) < 30)) = true := by rfl)
    (hline : (apos.endLine == cpos.line) = true := by rfl) (hst : starEach (e :: es) X.env = (false, eval e X.env) :: starEach es X.env := by rfl) (hplain : (backTo cpos (starEach es X.env)).any (·.1) = false := by rfl) :
    PE X (.Call (.Attribute o name apos) (e :: es) [] cpos) (Te X.K X.mg W (eMt T g fo fs)) :=
  PE.imp (pe_bm pa slot hty hm ho ha hbase hfew hline hst hplain) fun σ H Q h => Tm.bind (k := fun env x s => if tyOk T s x = true then (fs env s).bind fun xs s => R.of (g x xs s) else R.no) h fun m1 H1 env x v s1 r1 E1 p1 g1 => by
    by_cases q : tyOk T s1 x = true
    · simp only [q, if_true] at g1
      exact ⟨tyOk_tyV r1 p1 q, ⟨m1, env, s1, r1, E1, G.bind g1 fun m2 H2 xs vs s2 l2 r2 p2 g2 => hs r2 (p1.mono l2) p2 g2⟩⟩
    · simp only [q, if_false] at g1
      exact g1.elim
end
section
variable {K : PySem.W.Frag}
theorem le_setlist {m : List Addr} {H : Hp} {s : Store} (r : Rel K m H s) {l : Nat} {a : Addr} (h : m[l]? = some a) {vs : List V} {xs : List D} (p : Reps K m H xs vs) : Le K m H m (upd H a (.lst vs)) ∧ Rel K m (upd H a (.lst vs)) (s.set l (.lst xs)) :=
  have le := le_put (o := .lst vs) r (List.mem_of_getElem? h)
  ⟨le, r.put h ⟨vs, upd_same, p.mono le⟩⟩
def dAppend (x : D) (ys : List D) (s : Store) : Option (D × Store) := match x, ys with
  | .loc l, [y] => match s[l]? with
    | some (.lst xs) => if xs.length < sizeLine then some (.non, s.set l (.lst (xs ++ [y]))) else none
    | _ => none
  | _, _ => none
theorem mts_append : MtS K rAppend dAppend := by
  intro mg W σ m H s x d xs ds Q r p ps g
  unfold dAppend at g
  split at g
  · rename_i l y
    obtain ⟨w, rfl, h⟩ := reps1 ps
    cases p with
    | loc hl =>
      split at g
      · rename_i ys q
        split at g
        · rename_i hz
          obtain ⟨vs, h1, h2⟩ := r.list hl q
          obtain ⟨le, r2⟩ := le_setlist r hl (h2.append (.cons h .nil))
          exact ⟨_, vs, w, rfl, rfl, h1, by rw [← h2.length]; exact hz, g m _ _ le r2 .non⟩
        · exact g.elim
      · exact g.elim
  · exact g.elim
def dPop (x : D) (ys : List D) (s : Store) : Option (D × Store) := match x, ys with
  | .loc l, [] => match s[l]? with
    | some (.lst xs) => (xs[xs.length - 1]?).map fun y => (y, s.set l (.lst xs.dropLast))
    | _ => none
  | _, _ => none
theorem mts_pop : MtS K rPop dPop := by
  intro mg W σ m H s x d xs ds Q r p ps g
  unfold dPop at g
  split at g
  · rename_i l
    cases ps
    cases p with
    | loc hl =>
      split at g
      · rename_i ys q
        cases q2 : ys[ys.length - 1]? with
        | none => rw [q2] at g; exact g.elim
        | some y =>
          rw [q2] at g
          obtain ⟨vs, h1, h2⟩ := r.list hl q
          obtain ⟨v, hv, rv⟩ := h2.get q2
          obtain ⟨le, r2⟩ := le_setlist r hl h2.dropLast
          exact ⟨_, vs, v, rfl, rfl, h1, by rw [← h2.length]; exact hv, g m _ _ le r2 (rv.mono le)⟩
      · exact g.elim
  · exact g.elim
end
end Mi
namespace Mi
open PySem PySem.Spec PyProof.Rows L2
/-! ### targets -/
def gN (i : Nat) : D → Sl → Option Sl := fun d env => some (env.set i (some d))
def gsN : List D → Sl → Option Sl := fun xs env => match xs with
  | [] => some env
  | _ => none
def gsC (g : D → Sl → Option Sl) (r : List D → Sl → Option Sl) : List D → Sl → Option Sl := fun xs env => match xs with
  | x :: xs => (g x env).bind (r xs)
  | [] => none
def gT (n : Nat) (r : List D → Sl → Option Sl) : D → Sl → Option Sl := fun d env => match d with
  | .tup xs => if xs.length = n then r xs env else none
  | _ => none
def GTm (K : PySem.W.Frag) (vs : List Nat) (g : D → Sl → Option Sl) : TG := fun v σ H Q =>
  ∃ m env s d env', Rel K m H s ∧ RelE K m H env σ ∧ Rep K m H d v ∧ g d env = some env' ∧ ∀ σ', RelE K m H env' σ' → (∀ i, i ∉ vs → σ'[i]? = σ[i]?) → σ'.length = σ.length → Q σ' H
def GTs (K : PySem.W.Frag) (vs : List Nat) (g : List D → Sl → Option Sl) : TGs := fun xs σ H Q =>
  ∃ m env s ds env', Rel K m H s ∧ RelE K m H env σ ∧ Reps K m H ds xs ∧ g ds env = some env' ∧ ∀ σ', RelE K m H env' σ' → (∀ i, i ∉ vs → σ'[i]? = σ[i]?) → σ'.length = σ.length → Q σ' H
theorem relE_set {K : PySem.W.Frag} {m : List Addr} {H : Hp} {env : Sl} {σ : L2.St} (E : RelE K m H env σ) {d : D} {v : V} (p : Rep K m H d v) (i : Nat) : RelE K m H (env.set i (some d)) (σ.set i (some v)) := by
  refine ⟨by simp [E.1], fun j d' h => ?_⟩
  by_cases hj : i = j
  · subst hj
    by_cases hi : i < env.length
    · rw [List.getElem?_set_self hi] at h
      cases h
      exact ⟨v, by rw [List.getElem?_set_self (by rw [← E.1]; exact hi)], p⟩
    · rw [List.getElem?_eq_none (by simpa using hi)] at h; cases h
  · rw [List.getElem?_set_ne hj] at h
    rw [List.getElem?_set_ne hj]
    exact E.2 j d' h
section
variable {X : Cx} {pos : Pos}
theorem PG.imp {e : Expr} {t t' : TG} (h : PG X e t) (i : ∀ v σ H Q, t' v σ H Q → t v σ H Q) : PG X e t' := ⟨fun pins s σ H v u Q I r q => h.run pins s σ H v u Q I r (i v σ H Q q)⟩
theorem PGs.imp {e : List Expr} {t t' : TGs} (h : PGs X e t) (i : ∀ v σ H Q, t' v σ H Q → t v σ H Q) : PGs X e t' := ⟨fun pins s σ H v u Q I r q => h.run pins s σ H v u Q I r (i v σ H Q q)⟩
theorem cg_name {i : Nat} {x : Str} (hN : X.N.Nodup) (hi : X.N[i]? = some x) (hx : Loc X.env.scope x) (hf : X.fn x = true ∨ X.env.scope.names.lookup x = some .local := by first | exact .inl rfl | exact .inr rfl | assumption) : PG X (.Name x pos) (GTm X.K [i] (gN i)) :=
  PG.imp (pg_name hN hi hx hf) fun v σ H Q ⟨m, env, s, d, env', r, E, p, e, q⟩ => by
    cases e
    exact q _ (relE_set E p i) (fun j hj => List.getElem?_set_ne (by simpa [eq_comm] using hj)) (by simp)
theorem cgs_nil {vs : List Nat} : PGs X [] (GTs X.K vs gsN) := PGs.imp pgs_nil fun v σ H Q ⟨m, env, s, ds, env', r, E, p, e, q⟩ => by
  cases ds with
  | nil => cases e; cases p; exact ⟨rfl, q σ E (fun _ _ => rfl) rfl⟩
  | cons _ _ => cases e
theorem cgs_cons {e : Expr} {es : List Expr} {g : D → Sl → Option Sl} {r : List D → Sl → Option Sl} {vs ws us : List Nat} (h1 : PG X e (GTm X.K vs g)) (h2 : PGs X es (GTs X.K ws r)) (hv : ∀ i, i ∈ vs ∨ i ∈ ws → i ∈ us := by simp)
    (hs : (assignEach (e :: es) X.env).map (·.2) = assign e X.env :: (assignEach es X.env).map (·.2) := by rfl) : PGs X (e :: es) (GTs X.K us (gsC g r)) :=
  PGs.imp (pgs_cons h1 h2 hs) fun v σ H Q ⟨m, env, s, ds, env', rl, E, p, e, q⟩ => by
    cases ds with
    | nil => cases e
    | cons d ds =>
      cases p with
      | cons pd p =>
        have e : (g d env).bind (r ds) = some env' := e
        cases q1 : g d env with
        | none => rw [q1] at e; cases e
        | some env1 =>
          rw [q1] at e
          refine ⟨_, _, rfl, m, env, s, d, env1, rl, E, pd, q1, fun σ1 E1 k1 n1 => ⟨m, env1, s, ds, env', rl, E1, p, e, fun σ2 E2 k2 n2 => q σ2 E2 (fun i hi => ?_) (n2.trans n1)⟩⟩
          rw [k2 i (fun z => hi (hv i (.inr z))), k1 i (fun z => hi (hv i (.inl z)))]
theorem cg_tup {es : List Expr} {k n : Nat} {r : List D → Sl → Option Sl} {vs : List Nat} (hc : X.calm = true) (h : PGs X es (GTs X.K vs r)) (hn : (assignEach es X.env).length = n := by rfl) (hst : (assignEach es X.env).findIdx? (·.1) = none := by rfl) :
    PG X (.Tuple es k pos) (GTm X.K vs (gT n r)) := PG.imp (pg_tup (n := n) hc h hn hst) fun v σ H Q ⟨m, env, s, d, env', rl, E, p, e, q⟩ => by
  cases d with
  | tup xs =>
    obtain ⟨a, ws, rfl, hq, rr⟩ := p.sqT
    have e : (if xs.length = n then r xs env else none) = some env' := e
    split at e
    · rename_i hl
      exact ⟨a, ws, rfl, hq, by rw [← rr.length]; exact hl, m, env, s, xs, env', rl, E, rr, e, q⟩
    · cases e
  | _ => cases e
end
/-! ### statements -/
abbrev MS := Sl → Store → RS
section
variable (K : PySem.W.Frag) (mg : Str → Option Value)
def GS (W : WX) (Dn : Ends) (m : List Addr) (H : Hp) : RS → Prop
  | .nx env s => ∀ m' σ' H', Le K m H m' H' → Rel K m' H' s → RelE K m' H' env σ' → Dn.nx σ' H'
  | .rt d s => ∀ m' H' v, Le K m H m' H' → Rel K m' H' s → Rep K m' H' d v → Dn.rt v H'
  | .bk env s => ∀ m' σ' H', Le K m H m' H' → Rel K m' H' s → RelE K m' H' env σ' → Dn.bk σ' H'
  | .ct env s => ∀ m' σ' H', Le K m H m' H' → Rel K m' H' s → RelE K m' H' env σ' → Dn.ct σ' H'
  | .ex e env s => ∀ m' σ' H' c dd, Le K m H m' H' → Rel K m' H' s → RelE K m' H' env σ' → ExR K mg m' H' e c dd → W c dd σ' H'
  | .no => False
def Ts (W : WX) (f : MS) : TS := fun Dn σ H => ∃ m env s, Rel K m H s ∧ RelE K m H env σ ∧ GS K mg W Dn m H (f env s)
end
def RS.bind (r : RS) (k : Sl → Store → RS) : RS := match r with
  | .nx env s => k env s
  | r => r
/-- behind an expression -/
def R.then {α : Type} (r : R α) (env : Sl) (k : α → Store → RS) : RS := match r with
  | .ok a s => k a s
  | .ex e s => .ex e env s
  | .no => .no
@[simp] theorem RS.bind_nx (env : Sl) (s : Store) (k : Sl → Store → RS) : (RS.nx env s).bind k = k env s := rfl
@[simp] theorem RS.bind_rt (d : D) (s : Store) (k : Sl → Store → RS) : (RS.rt d s).bind k = .rt d s := rfl
@[simp] theorem RS.bind_bk (env : Sl) (s : Store) (k : Sl → Store → RS) : (RS.bk env s).bind k = .bk env s := rfl
@[simp] theorem RS.bind_ct (env : Sl) (s : Store) (k : Sl → Store → RS) : (RS.ct env s).bind k = .ct env s := rfl
@[simp] theorem RS.bind_ex (e : Ex) (env : Sl) (s : Store) (k : Sl → Store → RS) : (RS.ex e env s).bind k = .ex e env s := rfl
@[simp] theorem RS.bind_no (k : Sl → Store → RS) : (RS.no).bind k = .no := rfl
@[simp] theorem R.then_ok {α : Type} (a : α) (s : Store) (env : Sl) (k : α → Store → RS) : (R.ok a s).then env k = k a s := rfl
@[simp] theorem R.then_ex {α : Type} (e : Ex) (s : Store) (env : Sl) (k : α → Store → RS) : (R.ex e s : R α).then env k = .ex e env s := rfl
@[simp] theorem R.then_no {α : Type} (env : Sl) (k : α → Store → RS) : (R.no : R α).then env k = .no := rfl
def sNil : MS := fun env s => .nx env s
def sSeq (f g : MS) : MS := fun env s => (f env s).bind g
def sSet (i : Nat) (e : ME D) : MS := fun env s => (e env s).then env fun d s => .nx (env.set i (some d)) s
def sAsg (g : D → Sl → Option Sl) (e : ME D) : MS := fun env s => (e env s).then env fun d s => match g d env with
  | some env' => .nx env' s
  | none => .no
def sIf (c : ME Bool) (f g : MS) : MS := fun env s => (c env s).then env fun b s => if b then f env s else g env s
def sRet (e : ME D) : MS := fun env s => (e env s).then env fun d s => .rt d s
def sRetN : MS := fun _ s => .rt .non s
def sExpr (e : ME D) : MS := fun env s => (e env s).then env fun _ s => .nx env s
def sBrk : MS := fun env s => .bk env s
def sCnt : MS := fun env s => .ct env s
/-- o[i] = e: e, o, i in this sequence -/
def sPut (g : D → D → D → Store → Option Store) (o i e : ME D) : MS := fun env s => (e env s).then env fun d s => (o env s).then env fun x s => (i env s).then env fun y s => match g x y d s with
  | some s' => .nx env s'
  | none => .no
/-- name op= e -/
def sAug (i : Nat) (g : D → D → Store → Option (D × Store)) (e : ME D) : MS := fun env s => match env[i]? with
  | some (some x) => (e env s).then env fun y s => match g x y s with
    | some (z, s') => .nx (env.set i (some z)) s'
    | none => .no
  | _ => .no
structure Itm where
  xs : List D
  guard : Store → Prop
open Classical in
noncomputable def forL (guard : Store → Prop) (g : D → Sl → Option Sl) (b : MS) : List D → Sl → Store → RS
  | [], env, s => if guard s then .nx env s else .no
  | x :: xs, env, s => if guard s then (match g x env with
    | none => .no
    | some env1 => match b env1 s with
      | .nx env2 s2 => forL guard g b xs env2 s2
      | .ct env2 s2 => forL guard g b xs env2 s2
      | .bk env2 s2 => .nx env2 s2
      | .rt d s2 => .rt d s2
      | .ex e env2 s2 => .ex e env2 s2
      | .no => .no) else .no
noncomputable def sFor (it : ME Itm) (g : D → Sl → Option Sl) (b : MS) : MS := fun env s => (it env s).then env fun i s => forL i.guard g b i.xs env s
def whileN (c : ME Bool) (b : MS) : Nat → Sl → Store → RS
  | 0, _, _ => .no
  | n + 1, env, s => (c env s).then env fun k s => if k then (match b env s with
      | .nx env2 s2 => whileN c b n env2 s2
      | .ct env2 s2 => whileN c b n env2 s2
      | .bk env2 s2 => .nx env2 s2
      | .rt d s2 => .rt d s2
      | .ex e env2 s2 => .ex e env2 s2
      | .no => .no) else .nx env s
open Classical in
/-- a while: some number of turns is enough -/
noncomputable def sWhile (c : ME Bool) (b : MS) : MS := fun env s => if h : ∃ n, whileN c b n env s ≠ .no then whileN c b (Classical.choose h) env s else .no
section
variable {K : PySem.W.Frag} {mg : Str → Option Value} {m m1 : List Addr} {H H1 : Hp} {s : Store} {W : WX} {σ : L2.St} {Dn : Ends}
theorem GS.mono (e : Le K m H m1 H1) {r : RS} (h : GS K mg W Dn m H r) : GS K mg W Dn m1 H1 r := by
  cases r with
  | nx env s => exact fun m' σ' H' l => h m' σ' H' (e.trans l)
  | rt d s => exact fun m' σ' H' l => h m' σ' H' (e.trans l)
  | bk env s => exact fun m' σ' H' l => h m' σ' H' (e.trans l)
  | ct env s => exact fun m' σ' H' l => h m' σ' H' (e.trans l)
  | ex x env s => exact fun m' σ' H' c d l => h m' σ' H' c d (e.trans l)
  | no => exact h
/-- an expression first -/
theorem GS.ofE {α β : Type} {ρ : List Addr → Hp → α → β → Prop} {r : R α} {env : Sl} {k : α → Store → RS} {Q : β → Hp → Prop} (E : RelE K m H env σ) (h : GS K mg W Dn m H (r.then env k))
    (q : ∀ m1 H1 a b s1, Le K m H m1 H1 → Rel K m1 H1 s1 → ρ m1 H1 a b → GS K mg W Dn m1 H1 (k a s1) → Q b H1) : G K mg ρ W σ m H Q r := by
  cases r with
  | ok a s => exact fun m' H' b l r p => q m' H' a b s l r p (GS.mono l h)
  | ex x s => exact fun m' H' c d l r p => h m' σ H' c d l r (E.mono l) p
  | no => exact h
theorem Ts.ofE {α β : Type} {ρ : List Addr → Hp → α → β → Prop} {f : Sl → Store → R α} {k : Sl → α → Store → RS} {Q : β → Hp → Prop} (h : Ts K mg W (fun env s => (f env s).then env (k env)) Dn σ H)
    (q : ∀ m1 H1 env a b s1, Rel K m1 H1 s1 → RelE K m1 H1 env σ → ρ m1 H1 a b → GS K mg W Dn m1 H1 (k env a s1) → Q b H1) : Tm K mg ρ W f σ H Q := by
  obtain ⟨m, env, s, r, E, g⟩ := h
  exact ⟨m, env, s, r, E, GS.ofE E g fun m1 H1 a b s1 l r1 p g1 => q m1 H1 env a b s1 r1 (E.mono l) p g1⟩
end
section
variable {X : Cx} {W : WX} {pos : Pos} {e o i c tg iter : Expr} {st : Stmt} {rest body els : List Stmt} {fe fo fi : ME D} {gc : ME Bool} {f g : MS}
theorem css_nil : PSs X [] (Ts X.K X.mg W sNil) := PSs.imp pss_nil fun Dn σ H ⟨m, env, s, r, E, q⟩ => q m σ H .refl r E
theorem css_cons (h1 : PS X st (Ts X.K X.mg W f)) (h2 : PSs X rest (Ts X.K X.mg W g)) : PSs X (st :: rest) (Ts X.K X.mg W (sSeq f g)) :=
  PSs.imp (pss_cons h1 h2) fun Dn σ H ⟨m, env, s, r, E, q⟩ => by
    refine ⟨m, env, s, r, E, ?_⟩
    unfold sSeq at q
    cases hf : f env s with
    | nx env1 s1 => rw [hf] at q; exact fun m' σ' H' l r' E' => ⟨m', env1, s1, r', E', GS.mono l q⟩
    | rt d s1 => rw [hf] at q; exact q
    | bk env1 s1 => rw [hf] at q; exact q
    | ct env1 s1 => rw [hf] at q; exact q
    | ex x env1 s1 => rw [hf] at q; exact q
    | no => rw [hf] at q; exact q
theorem css_one (h1 : PS X st (Ts X.K X.mg W f)) : PSs X [st] (Ts X.K X.mg W f) := pss_one h1
theorem cs_pass : PS X (.Pass pos) (Ts X.K X.mg W sNil) := PS.imp ps_pass fun Dn σ H ⟨m, env, s, r, E, q⟩ => q m σ H .refl r E
theorem cs_doc {x j pos'} : PS X (.Expr (.Constant (.str x) j pos) pos') (Ts X.K X.mg W sNil) := PS.imp ps_doc fun Dn σ H ⟨m, env, s, r, E, q⟩ => q m σ H .refl r E
theorem cs_break : PS X (.Break pos) (Ts X.K X.mg W sBrk) := PS.imp ps_break fun Dn σ H ⟨m, env, s, r, E, q⟩ => q m σ H .refl r E
theorem cs_cont : PS X (.Continue pos) (Ts X.K X.mg W sCnt) := PS.imp ps_continue fun Dn σ H ⟨m, env, s, r, E, q⟩ => q m σ H .refl r E
theorem cs_set {j : Nat} {x : Str} {pos' : Pos} (hN : X.N.Nodup) (hi : X.N[j]? = some x) (hx : Loc X.env.scope x) (he : PE X e (Te X.K X.mg W fe)) (hs : swapsWith e (some (.Name x pos')) pos.line X.env = pure false := by rfl) (hf : X.fn x = true ∨ X.env.scope.names.lookup x = some .local := by first | exact .inl rfl | exact .inr rfl | assumption) :
    PS X (.Assign [.Name x pos'] e pos) (Ts X.K X.mg W (sSet j fe)) := PS.imp (ps_set (i := j) hN hi hx he hs hf) fun Dn σ H h =>
  Ts.ofE (k := fun env d s => .nx (env.set j (some d)) s) h fun m1 H1 env d v s1 r1 E1 p1 g1 => g1 m1 _ H1 .refl r1 (relE_set E1 p1 j)
theorem cs_asg {vs : List Nat} {g : D → Sl → Option Sl} (he : PE X e (Te X.K X.mg W fe)) (hg : PG X tg (GTm X.K vs g)) (hs : swapsWithSole [tg] e pos.line X.env = pure false := by rfl) (hw : swappedStores [tg] e X.env = pure none := by rfl)
    (h1 : (assignEach [tg] X.env).map (·.2) = [assign tg X.env] := by rfl) : PS X (.Assign [tg] e pos) (Ts X.K X.mg W (sAsg g fe)) := PS.imp (ps_asg he hg hs hw h1) fun Dn σ H h =>
  Ts.ofE (k := fun env d s => match g d env with | some env' => RS.nx env' s | none => RS.no) h fun m1 H1 env d v s1 r1 E1 p1 g1 => by
    cases q : g d env with
    | none => simp only [q] at g1; exact g1.elim
    | some env' =>
      simp only [q] at g1
      exact ⟨m1, env, s1, d, env', r1, E1, p1, q, fun σ' E' _ _ => g1 m1 σ' H1 .refl r1 E'⟩
theorem cs_expr (he : PE X e (Te X.K X.mg W fe)) (hs : swapsWith e none pos.line X.env = pure false := by rfl) : PS X (.Expr e pos) (Ts X.K X.mg W (sExpr fe)) := PS.imp (ps_expr he hs) fun Dn σ H h =>
  Ts.ofE (k := fun env _ s => RS.nx env s) h fun m1 H1 env d v s1 r1 E1 p1 g1 => g1 m1 σ H1 .refl r1 E1
theorem cs_ret (he : PE X e (Te X.K X.mg W fe)) : PS X (.Return (some e) pos) (Ts X.K X.mg W (sRet fe)) := PS.imp (ps_ret he) fun Dn σ H h =>
  Ts.ofE (k := fun _ d s => RS.rt d s) h fun m1 H1 env d v s1 r1 E1 p1 g1 => g1 m1 H1 v .refl r1 p1
theorem cs_retN : PS X (.Return none pos) (Ts X.K X.mg W sRetN) := PS.imp ps_retN fun Dn σ H ⟨m, env, s, r, E, q⟩ => q m H _ .refl r .non
theorem cs_if (hc : PT X c (Tt X.K X.mg W gc)) (ha : PSs X body (Ts X.K X.mg W f)) (hb : PSs X els (Ts X.K X.mg W g)) : PS X (.If c body els pos) (Ts X.K X.mg W (sIf gc f g)) := PS.imp (ps_if hc ha hb) fun Dn σ H h =>
  Ts.ofE (k := fun env (b : Bool) s => if b then f env s else g env s) h fun m1 H1 env d v s1 r1 E1 p1 g1 => by
    cases (show d = v from p1)
    cases d with
    | true => exact iteT ⟨m1, env, s1, r1, E1, g1⟩
    | false => exact iteF ⟨m1, env, s1, r1, E1, g1⟩
def PutS (K : PySem.W.Frag) (t : TSet) (g : D → D → D → Store → Option Store) : Prop :=
  ∀ {m : List Addr} {H : Hp} {s s' : Store} {x y z : V} {dx dy dz : D} {Q : Hp → Prop}, Rel K m H s → Rep K m H dx x → Rep K m H dy y → Rep K m H dz z → g dx dy dz s = some s' → (∀ H', Le K m H m H' → Rel K m H' s' → Q H') → t x y z H Q
theorem cs_put {t : TSet} {g : D → D → D → Store → Option Store} (he : PE X e (Te X.K X.mg W fe)) (ho : PE X o (Te X.K X.mg W fo)) (hi : PE X i (Te X.K X.mg W fi)) (hs : PSet X t) (hp : PutS X.K t g)
    (ha : ∀ v, assign (.Subscript o i pos) X.env v = (do
      let ov ← holding [v] (eval o X.env)
      let iv ← holding [v, ov] (eval i X.env)
      standAt pos
      holding [v, ov, iv] (setItem ov iv v)
      release [v, ov, iv] []) := by intro _; rfl) {pos' : Pos} (hs1 : swapsWithSole [.Subscript o i pos] e pos'.line X.env = pure false := by rfl) (hw : swappedStores [.Subscript o i pos] e X.env = pure none := by rfl)
    (h1 : (assignEach [.Subscript o i pos] X.env).map (·.2) = [assign (.Subscript o i pos) X.env] := by rfl) : PS X (.Assign [.Subscript o i pos] e pos') (Ts X.K X.mg W (sPut g fo fi fe)) :=
  PS.imp (ps_asg he (pg_sub ho hi hs ha) hs1 hw h1) fun Dn σ H h =>
    Ts.ofE (k := fun env d s => (fo env s).then env fun x s => (fi env s).then env fun y s => match g x y d s with | some s' => RS.nx env s' | none => RS.no) h fun m1 H1 env d v s1 r1 E1 p1 g1 =>
      ⟨m1, env, s1, r1, E1, GS.ofE E1 g1 fun m2 H2 x vx s2 l2 r2 p2 g2 => ⟨m2, env, s2, r2, E1.mono l2, GS.ofE (E1.mono l2) g2 fun m3 H3 y vy s3 l3 r3 p3 g3 => by
        cases q : g x y d s3 with
        | none => simp only [q] at g3; exact g3.elim
        | some s' =>
          simp only [q] at g3
          exact hp r3 (p2.mono l3) p3 ((p1.mono l2).mono l3) q fun H' l' r' => g3 m3 σ H' l' r' (((E1.mono l2).mono l3).mono l')⟩⟩
def IpS (K : PySem.W.Frag) (t : TIp) (g : D → D → Store → Option (D × Store)) : Prop := OpS K t g
theorem cs_aug {j : Nat} {x : Str} {op : Operator} {ti : TIp} {g : D → D → Store → Option (D × Store)} {pos' : Pos} (hN : X.N.Nodup) (hi : X.N[j]? = some x) (hx : Loc X.env.scope x) (he : PE X e (Te X.K X.mg W fe)) (ho : PIp X op ti) (hp : OpS X.K ti g) (hf : X.fn x = true ∨ X.env.scope.names.lookup x = some .local := by first | exact .inl rfl | exact .inr rfl | assumption) :
    PS X (.AugAssign (.Name x pos') op e pos) (Ts X.K X.mg W (sAug j g fe)) := PS.imp (ps_aug (i := j) hN hi hx he ho hf) fun Dn σ H ⟨m, env, s, r, E, q⟩ => by
  unfold sAug at q
  cases q1 : env[j]? with
  | none => simp only [q1] at q; exact q.elim
  | some o1 =>
    cases o1 with
    | none => simp only [q1] at q; exact q.elim
    | some d =>
      simp only [q1] at q
      obtain ⟨v, h1, h2⟩ := E.2 j d q1
      refine ⟨v, h1, m, env, s, r, E, GS.ofE E q fun m1 H1 y vy s1 l1 r1 p1 g1 => ?_⟩
      refine hp (mg := X.mg) (W := W) (σ := σ) r1 (h2.mono l1) p1 ?_
      cases q2 : g d y s1 with
      | none => simp only [q2] at g1; exact g1.elim
      | some zs =>
        obtain ⟨z, s'⟩ := zs
        simp only [q2] at g1
        exact fun m' H' b l r p => g1 m' _ H' l r (relE_set ((E.mono l1).mono l) p j)
/-! #### loops -/
def ItR (K : PySem.W.Frag) (m : List Addr) (H : Hp) (it : Itm) (J : It) : Prop := ∀ m2 H2 s2, Le K m H m2 H2 → Rel K m2 H2 s2 → it.guard s2 →
  (∀ i d, it.xs[i]? = some d → J.go i H2 ∧ ∀ v H3, J.yld i H2 v H3 → Le K m2 H2 m2 H3 ∧ Rel K m2 H3 s2 ∧ Rep K m2 H3 d v) ∧ J.stop it.xs.length H2
abbrev Ti (K : PySem.W.Frag) (mg : Str → Option Value) (W : WX) (f : ME Itm) : TI := Tm K mg (ItR K) W f
theorem cs_for {fi : ME Itm} {vs : List Nat} {gt : D → Sl → Option Sl} (hp : PassesOwn (model X.prog X.w) X.A X.env X.xe) (hc : X.calm = true) (hi : PI X tg iter (Ti X.K X.mg W fi)) (hg : PG X tg (GTm X.K vs gt)) (hb : PSs X body (Ts X.K X.mg W f))
    (hs : ∀ x, foldedSetIterable iter X.env x = pure x := by intro _; rfl) : PS X (.For tg iter body [] pos) (Ts X.K X.mg W (sFor fi gt f)) :=
  PS.imp (ps_for hp hc hi hg hb hs) fun Dn σ H h => Ts.ofE (k := fun env (i : Itm) s => forL i.guard gt f i.xs env s) h fun m1 H1 env it J s1 r1 E1 p1 g1 => by
    refine ⟨fun i k σ H => k = it.xs.length - i ∧ i ≤ it.xs.length ∧ ∃ m2 env2 s2, Le X.K m1 H1 m2 H ∧ Rel X.K m2 H s2 ∧ RelE X.K m2 H env2 σ ∧ GS X.K X.mg W Dn m2 H (forL it.guard gt f (it.xs.drop i) env2 s2),
      ⟨it.xs.length, by simp, Nat.zero_le _, m1, env, s1, .refl, r1, E1, g1⟩, ?_⟩
    rintro i k σ2 H2 ⟨rfl, hi, m2, env2, s2, l2, r2, E2, g2⟩
    by_cases hlt : i < it.xs.length
    · have hx : it.xs[i]? = some it.xs[i] := by simp [hlt]
      have hd : it.xs.drop i = it.xs[i] :: it.xs.drop (i + 1) := List.drop_eq_getElem_cons hlt
      rw [hd] at g2
      unfold forL at g2
      by_cases hgd : it.guard s2
      · simp only [hgd, if_true] at g2
        obtain ⟨hall, _⟩ := p1 m2 H2 s2 l2 r2 hgd
        obtain ⟨hgo, hy⟩ := hall i _ hx
        refine .inr ⟨hgo, fun σ' H' => ∃ m3 env3 s3, Le X.K m1 H1 m3 H' ∧ Rel X.K m3 H' s3 ∧ RelE X.K m3 H' env3 σ' ∧ GS X.K X.mg W Dn m3 H' (forL it.guard gt f (it.xs.drop (i + 1)) env3 s3),
          fun σ' H' ⟨m3, env3, s3, l3, r3, E3, g3⟩ => ⟨it.xs.length - (i + 1), by omega, rfl, hlt, m3, env3, s3, l3, r3, E3, g3⟩, fun v H3 y => ?_⟩
        obtain ⟨l3, r3, p3⟩ := hy v H3 y
        cases q : gt it.xs[i] env2 with
        | none => simp only [q] at g2; exact g2.elim
        | some env3 =>
          simp only [q] at g2
          refine ⟨m2, env2, s2, it.xs[i], env3, r3, E2.mono l3, p3, q, fun σ4 E4 _ _ => ⟨m2, env3, s2, r3, E4, ?_⟩⟩
          have g3 := GS.mono l3 g2
          have l4 := l2.trans l3
          cases hb2 : f env3 s2 with
          | nx env5 s5 => rw [hb2] at g3; exact fun m' σ' H' l r E => ⟨m', env5, s5, l4.trans l, r, E, GS.mono l g3⟩
          | ct env5 s5 => rw [hb2] at g3; exact fun m' σ' H' l r E => ⟨m', env5, s5, l4.trans l, r, E, GS.mono l g3⟩
          | bk env5 s5 => rw [hb2] at g3; exact g3
          | rt d s5 => rw [hb2] at g3; exact g3
          | ex x env5 s5 => rw [hb2] at g3; exact g3
          | no => rw [hb2] at g3; exact g3
      · simp only [hgd, if_false] at g2
        exact g2.elim
    · have e : i = it.xs.length := by omega
      subst e
      rw [List.drop_length] at g2
      unfold forL at g2
      by_cases hgd : it.guard s2
      · simp only [hgd, if_true] at g2
        exact .inl ⟨(p1 m2 H2 s2 l2 r2 hgd).2, g2 m2 σ2 H2 .refl r2 E2⟩
      · simp only [hgd, if_false] at g2
        exact g2.elim
theorem cs_while (hp : PassesOwn (model X.prog X.w) X.A X.env X.xe) (hc : PT X c (Tt X.K X.mg W gc)) (hb : PSs X body (Ts X.K X.mg W f)) : PS X (.While c body [] pos) (Ts X.K X.mg W (sWhile gc f)) :=
  PS.imp (ps_while hp hc hb) fun Dn σ H ⟨m, env, s, r, E, g⟩ => by
    unfold sWhile at g
    split at g
    · rename_i hx
      refine ⟨fun n σ H => ∃ m2 env2 s2, Rel X.K m2 H s2 ∧ RelE X.K m2 H env2 σ ∧ GS X.K X.mg W Dn m2 H (whileN gc f n env2 s2), ⟨_, m, env, s, r, E, g⟩, ?_⟩
      rintro n σ1 H1 ⟨m1, env1, s1, r1, E1, g1⟩
      cases n with
      | zero => exact g1.elim
      | succ n =>
        unfold whileN at g1
        refine ⟨m1, env1, s1, r1, E1, GS.ofE E1 g1 fun m2 H2 k kb s2 l2 r2 p2 g2 => ?_⟩
        cases (show k = kb from p2)
        cases k with
        | false => exact iteF (g2 m2 σ1 H2 .refl r2 (E1.mono l2))
        | true =>
          refine iteT ⟨fun σ' H' => ∃ m3 env3 s3, Rel X.K m3 H' s3 ∧ RelE X.K m3 H' env3 σ' ∧ GS X.K X.mg W Dn m3 H' (whileN gc f n env3 s3), fun σ' H' q => ⟨n, Nat.lt_succ_self n, q⟩, m2, env1, s2, r2, E1.mono l2, ?_⟩
          simp only [if_true] at g2
          cases hb2 : f env1 s2 with
          | nx env5 s5 => rw [hb2] at g2; exact fun m' σ' H' l r E => ⟨m', env5, s5, r, E, GS.mono l g2⟩
          | ct env5 s5 => rw [hb2] at g2; exact fun m' σ' H' l r E => ⟨m', env5, s5, r, E, GS.mono l g2⟩
          | bk env5 s5 => rw [hb2] at g2; exact g2
          | rt d s5 => rw [hb2] at g2; exact g2
          | ex x env5 s5 => rw [hb2] at g2; exact g2
          | no => rw [hb2] at g2; exact g2
    · exact g.elim
end
/-! #### what a loop walks -/
def always : Store → Prop := fun _ => True
/-- a list, a tuple, a text -/
def iSeq (a : ME D) : ME Itm := fun env s => (a env s).bind fun x s => match x with
  | .tup xs => .ok (Itm.mk (xs) (always)) s
  | .fl xs => .ok (Itm.mk (xs) (always)) s
  | .str z => .ok (Itm.mk (z.cps.toList.map fun c => .str ⟨#[c]⟩) (always)) s
  | .loc l => match s[l]? with
    | some (.lst xs) => .ok (Itm.mk (xs) (fun s2 => s2[l]? = some (.lst xs))) s
    | _ => .no
  | _ => .no
/-- a bound of a range -/
def InR (j : Int) : Prop := -(2 ^ 62) ≤ j ∧ j < 2 ^ 62
noncomputable instance (j : Int) : Decidable (InR j) := Classical.propDecidable _
noncomputable def iRange1 (a : ME (List D)) : ME Itm := fun env s => (a env s).bind fun x s => match x with
  | [.int j] => if InR j then .ok (Itm.mk ((List.range j.toNat).map fun i => .int ((0 : Int) + (i : Nat))) (always)) s else .no
  | _ => .no
noncomputable def iRange2 (a : ME (List D)) : ME Itm := fun env s => (a env s).bind fun x s => match x with
  | [.int i, .int j] => if InR i ∧ InR j then .ok (Itm.mk ((List.range (j - i).toNat).map fun k => .int (i + (k : Nat))) (always)) s else .no
  | _ => .no
section
variable {K : PySem.W.Frag} {m : List Addr} {H : Hp}
theorem itr_list {l : Nat} {xs : List D} {a : Addr} (h : m[l]? = some a) : ItR K m H ⟨xs, fun s2 => s2[l]? = some (.lst xs)⟩ (Itl K a) := fun m2 H2 s2 l2 r2 g => by
  have g' : s2[l]? = some (.lst xs) := g
  obtain ⟨vs, h1, h2⟩ := r2.list (l2.get h) g'
  have hq : SqL K H2 a vs := .inl (.inl h1)
  refine ⟨fun i d e => ?_, ⟨vs, hq, by rw [← h2.length]; exact Nat.le_refl _⟩⟩
  obtain ⟨v, hv, rv⟩ := h2.get e
  refine ⟨⟨vs, v, hq, hv⟩, fun w H3 y => ?_⟩
  obtain ⟨rfl, y⟩ := y
  have e2 := y vs hq
  rw [hv] at e2; cases e2
  exact ⟨.refl, r2, rv⟩
theorem itr_fl {xs : List D} {vs : List V} {a : Addr} (h : FrL K H a vs) (p : Reps K m H xs vs) : ItR K m H ⟨xs, always⟩ (Itl K a) := fun m2 H2 s2 l2 r2 g => by
  have hq : SqL K H2 a vs := (l2.frl a vs h).sq
  have h2 := p.mono l2
  refine ⟨fun i d e => ?_, ⟨vs, hq, by rw [← h2.length]; exact Nat.le_refl _⟩⟩
  obtain ⟨v, hv, rv⟩ := h2.get e
  refine ⟨⟨vs, v, hq, hv⟩, fun w H3 y => ?_⟩
  obtain ⟨rfl, y⟩ := y
  have e2 := y vs hq
  rw [hv] at e2; cases e2
  exact ⟨.refl, r2, rv⟩
theorem itr_tup {xs : List D} {vs : List V} {a : Addr} (h : SqT K H a vs) (p : Reps K m H xs vs) : ItR K m H ⟨xs, always⟩ (Itt K a) := fun m2 H2 s2 l2 r2 g => by
  have hq : SqT K H2 a vs := l2.tup a vs h
  have h2 := p.mono l2
  refine ⟨fun i d e => ?_, ⟨vs, hq, by rw [← h2.length]; exact Nat.le_refl _⟩⟩
  obtain ⟨v, hv, rv⟩ := h2.get e
  refine ⟨⟨vs, v, hq, hv⟩, fun w H3 y => ?_⟩
  obtain ⟨rfl, y⟩ := y
  have e2 := y vs hq
  rw [hv] at e2; cases e2
  exact ⟨.refl, r2, rv⟩
theorem itr_str {z : Str} : ItR K m H ⟨z.cps.toList.map fun c => .str ⟨#[c]⟩, always⟩ (Its z) := fun m2 H2 s2 l2 r2 g => by
  have w := walk_str (z := z)
  refine ⟨fun i d e => ?_, by
    have q := w.stops H2 trivial
    show (Its z).stop (List.map _ z.cps.toList).length H2
    rw [List.length_map, Array.length_toList]
    exact q⟩
  rw [List.getElem?_map, Array.getElem?_toList] at e
  cases hc : z.cps[i]? with
  | none => rw [hc] at e; cases e
  | some c =>
    rw [hc] at e; cases e
    have hi : i < z.cps.size := (Array.getElem?_eq_some_iff.mp hc).1
    refine ⟨w.goes i H2 hi trivial, fun v H3 y => ?_⟩
    obtain ⟨rfl, c', h1, rfl⟩ := w.yields i H2 v H3 hi trivial y
    rw [hc] at h1; cases h1
    exact ⟨.refl, r2, .str _⟩
theorem itr_range {lo : Int} {n : Nat} : ItR K m H ⟨(List.range n).map fun (i : Nat) => .int (lo + (i : Int)), always⟩ (Itr lo n) := fun m2 H2 s2 l2 r2 g => by
  refine ⟨fun i d e => ?_, by show n ≤ (List.map _ (List.range n)).length; simp⟩
  rw [List.getElem?_map] at e
  by_cases hi : i < n
  · rw [List.getElem?_range hi] at e
    cases e
    refine ⟨hi, fun v H3 y => ?_⟩
    obtain ⟨rfl, rfl⟩ := y
    exact ⟨.refl, r2, .int _⟩
  · rw [List.getElem?_eq_none (by simpa using hi)] at e; cases e
end
section
variable {X : Cx} {W : WX} {tg e a b : Expr} {p pos : Pos} {fe : ME D} {fs : ME (List D)}
theorem PI.imp {e : Expr} {t t' : TI} (h : PI X tg e t) (i : ∀ σ H Q, t' σ H Q → t σ H Q) : PI X tg e t' := ⟨fun pins s σ H Q I q => h.run pins s σ H Q I (i σ H Q q)⟩
def iAny (K : PySem.W.Frag) (tl : TE) : TI := fun σ H R => tl σ H fun x H1 => (∃ a, x = .ref a ∧ ((∃ xs, SqL K H1 a xs) ∧ R (Itl K a) H1 ∨ (∃ xs, SqT K H1 a xs) ∧ R (Itt K a) H1)) ∨ ∃ z, x = .str z ∧ R (Its z) H1
theorem pi_any {tl : TE} (hl : PE X e tl) : PI X tg e (iAny X.K tl) := by
  refine ⟨fun pins s σ H R I h => ?_⟩
  refine thn (hl.run pins s σ H _ I h) fun v s1 ⟨x, H1, I1, r1, q1⟩ => ?_
  rcases q1 with ⟨a, rfl, ⟨⟨xs, hq⟩, q⟩ | ⟨⟨xs, hq⟩, q⟩⟩ | ⟨z, rfl, q⟩
  · cases r1
    obtain ⟨its, rv, p, hz⟩ := I1.list hq
    refine wpAny_pyIter_list p.isList ?_
    refine ⟨s1.heap.objs.size, [s1.heap.objs.size], _, _, H1, rfl, I1.kept (t' := s1.toks) fun b o e => Heap.get?_push_of_some _ e, turn_list a _, ⟨_, Heap.get?_push_size _ rfl, rfl, rfl⟩, fun b hb => ?_, q⟩
    have e : b = s1.heap.objs.size := by simpa using hb
    subst e
    exact I1.fpOk (Nat.le_refl _) (I1.hok.fresh (Nat.le_refl _))
  · cases r1
    obtain ⟨its, rv, p, hz⟩ := I1.tuple hq
    refine wpAny_pyIter_tuple (show s1.heap.IsTuple a its.toArray from p) ?_
    refine ⟨s1.heap.objs.size, [s1.heap.objs.size], _, _, H1, rfl, I1.kept (t' := s1.toks) fun b o e => Heap.get?_push_of_some _ e, turn_tuple a _, ⟨_, Heap.get?_push_size _ rfl, rfl, rfl⟩, fun b hb => ?_, q⟩
    have e : b = s1.heap.objs.size := by simpa using hb
    subst e
    exact I1.fpOk (Nat.le_refl _) (I1.hok.fresh (Nat.le_refl _))
  · obtain ⟨t, rfl⟩ := r1
    cases ha : z.cps.all (· < 128)
    · exact wpAny_pyIter_wide ha (pi_one (tk := s1.toks) I1 _ (turn_str _ z t "str_iterator" (.inr rfl)) ⟨_, Heap.get?_push_size _ rfl, rfl, rfl⟩ q)
    · exact wpAny_pyIter_ascii ha (pi_one (tk := s1.toks) I1 _ (turn_str _ z t "str_ascii_iterator" (.inl rfl)) ⟨_, Heap.get?_push_size _ rfl, rfl, rfl⟩ q)
theorem ci_seq (he : PE X e (Te X.K X.mg W fe)) : PI X tg e (Ti X.K X.mg W (iSeq fe)) := PI.imp (pi_any he) fun σ H Rw h =>
  Tm.bind (k := fun _ x s => match x with
  | .tup xs => R.ok (Itm.mk (xs) (always)) s
  | .fl xs => R.ok (Itm.mk (xs) (always)) s
  | .str z => R.ok (Itm.mk (z.cps.toList.map fun c => .str ⟨#[c]⟩) (always)) s
  | .loc l => match s[l]? with
    | some (.lst xs) => R.ok (Itm.mk (xs) (fun s2 => s2[l]? = some (.lst xs))) s
    | _ => R.no
  | _ => R.no) h fun m1 H1 env x v s1 r1 E1 p1 g1 => by
    cases x with
    | tup xs =>
      obtain ⟨a, vs, rfl, hq, rr⟩ := p1.sqT
      exact .inl ⟨a, rfl, .inr ⟨⟨vs, hq⟩, g1 m1 H1 _ .refl r1 (itr_tup hq rr)⟩⟩
    | fl xs =>
      cases p1 with
      | fl hq rr => exact .inl ⟨_, rfl, .inl ⟨⟨_, hq.sq⟩, g1 m1 H1 _ .refl r1 (itr_fl hq rr)⟩⟩
    | str z => cases p1; exact .inr ⟨z, rfl, g1 m1 H1 _ .refl r1 itr_str⟩
    | loc l =>
      cases p1 with
      | loc hl =>
        cases q : s1[l]? with
        | none => simp only [q] at g1; exact g1.elim
        | some c =>
          cases c with
          | dic _ => simp only [q] at g1; exact g1.elim
          | dct _ => simp only [q] at g1; exact g1.elim
          | lst xs =>
            simp only [q] at g1
            obtain ⟨vs, h1, h2⟩ := r1.list hl q
            exact .inl ⟨_, rfl, .inl ⟨⟨vs, .inl (.inl h1)⟩, g1 m1 H1 _ .refl r1 (itr_list hl)⟩⟩
    | _ => exact g1.elim
theorem ci_range1 (hg : Gl X "range") (hm : X.mg "range" = none) (ha : PA X [a] (Ta X.K X.mg W fs)) (hs : starEach [a] X.env = [(false, eval a X.env)] := by rfl) : PI X tg (.Call (.Name "range" p) [a] [] pos) (Ti X.K X.mg W (iRange1 fs)) :=
  PI.imp (pi_range1 hg hm ha hs) fun σ H Rw h => Tm.bind (k := fun _ x s => match x with
  | [.int j] => if InR j then R.ok (Itm.mk ((List.range j.toNat).map fun i => .int ((0 : Int) + (i : Nat))) (always)) s else R.no
  | _ => R.no) h fun m1 H1 env x v s1 r1 E1 p1 g1 => by
    match x, p1, g1 with
    | [.int j], p1, g1 =>
      obtain ⟨v, rfl, h⟩ := reps1 p1
      cases h
      by_cases hj : InR j
      · simp only [hj, if_true] at g1
        exact ⟨j, rfl, hj.1, hj.2, g1 m1 H1 _ .refl r1 itr_range⟩
      · simp only [hj, if_false] at g1
        exact g1.elim
    | [], _, g1 => exact g1.elim
    | [.non], _, g1 => exact g1.elim
    | [.bl _], _, g1 => exact g1.elim
    | [.str _], _, g1 => exact g1.elim
    | [.tup _], _, g1 => exact g1.elim
    | [.fl _], _, g1 => exact g1.elim
    | [.loc _], _, g1 => exact g1.elim
    | [.exv _ _ _ _], _, g1 => exact g1.elim
    | .non :: _ :: _, _, g1 => exact g1.elim
    | .bl _ :: _ :: _, _, g1 => exact g1.elim
    | .int _ :: _ :: _, _, g1 => exact g1.elim
    | .str _ :: _ :: _, _, g1 => exact g1.elim
    | .tup _ :: _ :: _, _, g1 => exact g1.elim
    | .fl _ :: _ :: _, _, g1 => exact g1.elim
    | .loc _ :: _ :: _, _, g1 => exact g1.elim
    | .exv _ _ _ _ :: _ :: _, _, g1 => exact g1.elim
theorem ci_range2 (hg : Gl X "range") (hm : X.mg "range" = none) (ha : PA X [a, b] (Ta X.K X.mg W fs)) (hs : starEach [a, b] X.env = [(false, eval a X.env), (false, eval b X.env)] := by rfl) (hs2 : starEach [b] X.env = [(false, eval b X.env)] := by rfl) :
    PI X tg (.Call (.Name "range" p) [a, b] [] pos) (Ti X.K X.mg W (iRange2 fs)) :=
  PI.imp (pi_range2 hg hm ha hs hs2) fun σ H Rw h => Tm.bind (k := fun _ x s => match x with
  | [.int i, .int j] => if InR i ∧ InR j then R.ok (Itm.mk ((List.range (j - i).toNat).map fun k => .int (i + (k : Nat))) (always)) s else R.no
  | _ => R.no) h fun m1 H1 env x v s1 r1 E1 p1 g1 => by
    split at g1
    · rename_i i j
      obtain ⟨v, w, rfl, h, h2⟩ := reps2 p1
      cases h; cases h2
      by_cases hj : InR i ∧ InR j
      · simp only [hj, and_self, if_true] at g1
        exact ⟨i, j, rfl, ⟨hj.1.1, hj.1.2, hj.2.1, hj.2.2⟩, g1 m1 H1 _ .refl r1 itr_range⟩
      · simp only [hj, if_false] at g1
        exact g1.elim
    · exact g1.elim
end
/-- o[i] = e of a list -/
def pList (x y z : D) (s : Store) : Option Store := match x, y with
  | .loc l, .int i => match s[l]? with
    | some (.lst xs) => (ixN xs.length i).map fun j => s.set l (.lst (xs.set j z))
    | _ => none
  | _, _ => none
theorem puts_list {K : PySem.W.Frag} : PutS K rSetL pList := by
  intro m H s s' x y z dx dy dz Q r px py pz e q
  unfold pList at e
  split at e
  · rename_i l i
    cases px with
    | loc hl =>
      cases py
      split at e
      · rename_i xs q1
        cases q2 : ixN xs.length i with
        | none => rw [q2] at e; cases e
        | some j =>
          rw [q2] at e
          cases e
          obtain ⟨vs, h1, h2⟩ := r.list hl q1
          obtain ⟨le, r2⟩ := le_setlist r hl (h2.set pz j)
          exact ⟨_, vs, i, j, rfl, rfl, h1, by rw [← h2.length]; exact q2, q _ le r2⟩
      · cases e
  · cases e
end Mi
namespace Mi
open PySem PySem.Spec PyProof.Rows L2
/-! ### list comprehensions -/
/-- a list that is being made is no cell yet: what a value's standing needs -/
structure Lw (K : PySem.W.Frag) (m : List Addr) (H : Hp) (m' : List Addr) (H' : Hp) : Prop where
  pre : ∃ r, m' = m ++ r
  tup : ∀ a xs, SqT K H a xs → SqT K H' a xs
  frl : ∀ a xs, FrL K H a xs → FrL K H' a xs
  xd : ∀ b vfs, H b = some (.xd vfs) → b ∉ m → H' b = some (.xd vfs) ∧ b ∉ m'
  trk : ∀ a xs, H a = some (.tup xs) → H' a = some (.tup xs)
section
variable {K : PySem.W.Frag} {mg : Str → Option Value} {m m1 m2 : List Addr} {H H1 H2 : Hp} {s : Store} {p : Addr}
theorem Le.w (e : Le K m H m1 H1) : Lw K m H m1 H1 := ⟨e.pre, e.tup, e.frl, fun b vfs h n => ⟨e.fr _ _ h n, fun z => (e.nw _ z).elim n fun q => by rw [h] at q; cases q⟩, e.trk⟩
theorem Lw.get (e : Lw K m H m1 H1) {l : Nat} {a : Addr} (h : m[l]? = some a) : m1[l]? = some a := by
  obtain ⟨r, rfl⟩ := e.pre
  rw [List.getElem?_append_left (by
    rcases Nat.lt_or_ge l m.length with q | q
    · exact q
    · rw [List.getElem?_eq_none q] at h; cases h)]
  exact h
mutual
theorem Rep.monoW (e : Lw K m H m1 H1) : ∀ {d : D} {v : V}, Rep K m H d v → Rep K m1 H1 d v
  | _, _, .non => .non
  | _, _, .bl b => .bl b
  | _, _, .int i => .int i
  | _, _, .str x => .str x
  | _, _, .tup h r => .tup (e.trk _ _ h) (Reps.monoW e r)
  | _, _, .fl h r => .fl (e.frl _ _ h) (Reps.monoW e r)
  | _, _, .loc h => .loc (e.get h)
  | _, _, .exv h n r => .exv (e.xd _ _ h n).1 (e.xd _ _ h n).2 (FldR.monoW e r)
theorem Reps.monoW (e : Lw K m H m1 H1) : ∀ {ds : List D} {vs : List V}, Reps K m H ds vs → Reps K m1 H1 ds vs
  | _, _, .nil => .nil
  | _, _, .cons h r => .cons (Rep.monoW e h) (Reps.monoW e r)
theorem FldR.monoW (e : Lw K m H m1 H1) : ∀ {ds : List (Str × D)} {vs : List (Str × V)}, FldR K m H ds vs → FldR K m1 H1 ds vs
  | _, _, .nil => .nil
  | _, _, .cons h r => .cons (Rep.monoW e h) (FldR.monoW e r)
end
theorem RepK.monoW {κ : Type} (e : Lw K m H m1 H1) : ∀ {ds : List (κ × D)} {vs : List (κ × V)}, RepK K m H ds vs → RepK K m1 H1 ds vs
  | _, _, .nil => .nil
  | _, _, .cons h r => .cons (h.monoW e) (RepK.monoW e r)
theorem RelE.monoW (e : Lw K m H m1 H1) {env : Sl} {σ : L2.St} (h : RelE K m H env σ) : RelE K m1 H1 env σ :=
  ⟨h.1, fun i d q => let ⟨v, h1, h2⟩ := h.2 i d q; ⟨v, h1, h2.monoW e⟩⟩
theorem CellR.monoW {c : Cell} {a : Addr} (e : Lw K m H m1 H1) (hs : H1 a = H a) (h : CellR K m H a c) : CellR K m1 H1 a c := by
  cases c with
  | lst xs => obtain ⟨vs, h1, h2⟩ := h; exact ⟨vs, hs.trans h1, h2.monoW e⟩
  | dic kvs => obtain ⟨ws, h1, h2⟩ := h; exact ⟨ws, hs.trans h1, h2.monoW e⟩
  | dct kvs => obtain ⟨ws, h1, h2⟩ := h; exact ⟨ws, hs.trans h1, h2.monoW e⟩
/-- a list of ours that is no cell is written -/
theorem lw_side {vs ws : List V} (h : H p = some (.lst vs)) : Lw K m H m (upd H p (HO.lst ws)) :=
  ⟨⟨[], by simp⟩, fun b xs q => by
    rcases q with (q | ⟨ob, q⟩) | q
    · exact .inl (.inl (by rw [upd_ne (fun z => by subst z; rw [h] at q; cases q)]; exact q))
    · exact .inl (.inr ⟨ob, by rw [upd_ne (fun z => by subst z; rw [h] at q; cases q)]; exact q⟩)
    · exact .inr q, fun b xs q => by
    rcases q with ⟨ob, q⟩ | q
    · exact .inl ⟨ob, by rw [upd_ne (fun z => by subst z; rw [h] at q; cases q)]; exact q⟩
    · exact .inr q, fun b vfs q n => ⟨by rw [upd_ne (fun z => by subst z; rw [h] at q; cases q)]; exact q, n⟩, fun b xs q => by rw [upd_ne (fun z => by subst z; rw [h] at q; cases q)]; exact q⟩
theorem Rel.side (r : Rel K m H s) {vs ws : List V} (h : H p = some (.lst vs)) (n : p ∉ m) : Rel K m (upd H p (HO.lst ws)) s :=
  ⟨r.len, r.nd, fun l a c h1 h2 => (r.at_ l a c h1 h2).monoW (lw_side h) (upd_ne fun z => by subst z; exact n (List.mem_of_getElem? h1))⟩
theorem Le.side (e : Le K m H m1 H1) {vs ws : List V} (h0 : H p = none) (h : H1 p = some (.lst vs)) : Le K m H m1 (upd H1 p (HO.lst ws)) :=
  ⟨e.pre, fun a xs q => (lw_side (m := m1) h).tup a xs (e.tup a xs q), fun a xs q => (lw_side (m := m1) h).frl a xs (e.frl a xs q), fun b o q n => by
    rw [upd_ne (fun z => by subst z; rw [h0] at q; cases q)]; exact e.fr b o q n, e.nw, fun a xs q => (lw_side (K := K) (m := m1) h).trk a xs (e.trk a xs q)⟩
theorem lw_adopt {vs : List V} (h : H p = some (.lst vs)) : Lw K m H (m ++ [p]) H := ⟨⟨[p], rfl⟩, fun _ _ q => q, fun _ _ q => q, fun b vfs q n => ⟨q, fun z => by
    rcases List.mem_append.mp z with z | z
    · exact n z
    · rw [List.mem_singleton.mp z, h] at q; cases q⟩, fun _ _ q => q⟩
theorem Rel.adopt (r : Rel K m H s) {xs : List D} {vs : List V} (n : p ∉ m) (h : H p = some (.lst vs)) (q : Reps K m H xs vs) : Rel K (m ++ [p]) H (s ++ [Cell.lst xs]) := by
  refine ⟨by simp [r.len], ?_, fun j b d h1 h2 => ?_⟩
  · rw [List.nodup_append]
    exact ⟨r.nd, by simp, fun x hx y hy => by rw [List.mem_singleton.mp hy]; exact fun z => n (z ▸ hx)⟩
  · rcases Nat.lt_or_ge j m.length with w | w
    · rw [List.getElem?_append_left w] at h1
      rw [List.getElem?_append_left (by rw [← r.len]; exact w)] at h2
      exact (r.at_ j b d h1 h2).monoW (lw_adopt h) rfl
    · rw [List.getElem?_append_right w] at h1
      rw [List.getElem?_append_right (by rw [← r.len]; exact w), ← r.len] at h2
      cases hk : j - m.length with
      | zero =>
        rw [hk] at h1 h2
        simp at h1 h2
        subst h1; subst h2
        exact ⟨vs, h, q.monoW (lw_adopt h)⟩
      | succ n => rw [hk] at h1; simp at h1
theorem Le.adopt (e : Le K m H m1 H1) (h0 : H p = none) : Le K m H (m1 ++ [p]) H1 := by
  refine ⟨?_, e.tup, e.frl, e.fr, fun b h => ?_, e.trk⟩
  · obtain ⟨r, rfl⟩ := e.pre
    exact ⟨r ++ [p], by simp⟩
  · rcases List.mem_append.mp h with q | q
    · exact e.nw b q
    · rw [List.mem_singleton.mp q]; exact .inr h0
end
def wipeE (env : Sl) : List Nat → Sl
  | [] => env
  | v :: vs => (wipeE env vs).set v none
theorem wipeE_length (env : Sl) : ∀ vs : List Nat, (wipeE env vs).length = env.length
  | [] => rfl
  | v :: vs => by unfold wipeE; rw [List.length_set, wipeE_length env vs]
theorem wipeE_some {env : Sl} {i : Nat} {x : D} : ∀ {vs : List Nat}, (wipeE env vs)[i]? = some (some x) → env[i]? = some (some x) ∧ i ∉ vs
  | [], h => ⟨h, by simp⟩
  | v :: vs, h => by
    unfold wipeE at h
    by_cases hi : v = i
    · subst hi
      by_cases hv : v < (wipeE env vs).length
      · rw [List.getElem?_set_self hv] at h; cases h
      · rw [List.getElem?_eq_none (by simpa using hv)] at h; cases h
    · rw [List.getElem?_set_ne hi] at h
      obtain ⟨h1, h2⟩ := wipeE_some h
      exact ⟨h1, by simp only [List.mem_cons, not_or]; exact ⟨fun e => hi e.symm, h2⟩⟩
theorem relE_wipe {K : PySem.W.Frag} {m : List Addr} {H : Hp} {env : Sl} {σ : L2.St} (E : RelE K m H env σ) (vs : List Nat) : RelE K m H (wipeE env vs) (wipe σ vs) := by
  refine ⟨by rw [wipeE_length, wipe_length]; exact E.1, fun i d h => ?_⟩
  obtain ⟨h1, h2⟩ := wipeE_some h
  obtain ⟨v, h3, h4⟩ := E.2 i d h1
  exact ⟨v, by rw [wipe_out h2]; exact h3, h4⟩
theorem wipe_in {σ : L2.St} {i : Nat} : ∀ {vs : List Nat}, i ∈ vs → i < σ.length → (wipe σ vs)[i]? = some none
  | v :: vs, h, hl => by
    unfold wipe
    by_cases hv : v = i
    · subst hv
      rw [List.getElem?_set_self (by rw [wipe_length]; exact hl)]
    · rw [List.getElem?_set_ne hv]
      exact wipe_in (by rcases List.mem_cons.mp h with e | e; exact absurd e.symm hv; exact e) hl
theorem wipe_congr {σ σ' : L2.St} {vs : List Nat} (hl : σ'.length = σ.length) (h : ∀ i, i ∉ vs → σ'[i]? = σ[i]?) : wipe σ' vs = wipe σ vs := by
  apply List.ext_getElem?
  intro i
  by_cases hi : i ∈ vs
  · by_cases hn : i < σ.length
    · rw [wipe_in hi (by rw [hl]; exact hn), wipe_in hi hn]
    · rw [List.getElem?_eq_none (by rw [wipe_length, hl]; omega), List.getElem?_eq_none (by rw [wipe_length]; omega)]
  · rw [wipe_out hi, wipe_out hi, h i hi]
theorem wipe_wipe (σ : L2.St) (vs : List Nat) : wipe (wipe σ vs) vs = wipe σ vs := wipe_congr (wipe_length σ vs) fun i hi => wipe_out hi
/-- nothing is raised within a comprehension -/
def noX {α : Type} : R α → R α
  | .ok a s => .ok a s
  | _ => .no
open Classical in
noncomputable def lcL (guard : Store → Prop) (g : D → Sl → Option Sl) (t : ME Bool) (e : ME D) (env : Sl) : List D → List D → Store → R (List D)
  | [], acc, s => if guard s then .ok acc s else .no
  | x :: xs, acc, s => if guard s then (match g x env with
    | none => .no
    | some env1 => match t env1 s with
      | .ok b s1 => if b then (match e env1 s1 with
        | .ok y s2 => if acc.length < sizeLine then lcL guard g t e env xs (acc ++ [y]) s2 else .no
        | _ => .no) else lcL guard g t e env xs acc s1
      | _ => .no) else .no
noncomputable def eLc (it : ME Itm) (vs : List Nat) (g : D → Sl → Option Sl) (t : ME Bool) (e : ME D) : ME D := fun env s => (it env s).bind fun i s => (lcL i.guard g t e (wipeE env vs) i.xs [] s).bind fun acc s => .ok (.loc s.length) (s ++ [.lst acc])
def tT : ME Bool := fun _ s => .ok true s
abbrev WF : WX := fun _ _ _ _ => False
section
variable {X : Cx} {W : WX}
theorem lc_run {fi : ME Itm} {vs : List Nat} {gt : D → Sl → Option Sl} {ft : ME Bool} {fe : ME D} : ∀ σ H Q, Te X.K X.mg W (eLc fi vs gt ft fe) σ H Q →
    tLc (Ti X.K X.mg W fi) (GTm X.K vs gt) (Tt X.K X.mg WF ft) (Te X.K X.mg WF fe) vs σ H Q := fun σ H Q h =>
  Tm.bind (k := fun env (i : Itm) s => (lcL i.guard gt ft fe (wipeE env vs) i.xs [] s).bind fun acc s => R.ok (D.loc s.length) (s ++ [Cell.lst acc])) h fun m1 H1 env it J s1 r1 E1 p1 g1 => by
    intro P hP
    refine ⟨fun i k H => k = it.xs.length - i ∧ i ≤ it.xs.length ∧ ∃ m2 s2 acc accV, Le X.K m1 H1 m2 H ∧ Rel X.K m2 H s2 ∧ H P = some (.lst accV) ∧ P ∉ m2 ∧ Reps X.K m2 H acc accV ∧
        G X.K X.mg (Rep X.K) W σ m1 H1 Q ((lcL it.guard gt ft fe (wipeE env vs) (it.xs.drop i) acc s2).bind fun acc s => R.ok (D.loc s.length) (s ++ [Cell.lst acc])),
      ⟨it.xs.length, by simp, Nat.zero_le _, m1, s1, [], [], le_new hP, r1.tmp hP, upd_same, r1.new_notin hP, .nil, g1⟩, ?_⟩
    rintro i k H2 ⟨rfl, hi, m2, s2, acc, accV, l2, r2, hD, nD, pA, g2⟩
    by_cases hlt : i < it.xs.length
    · have hx : it.xs[i]? = some it.xs[i] := by simp [hlt]
      have hd : it.xs.drop i = it.xs[i] :: it.xs.drop (i + 1) := List.drop_eq_getElem_cons hlt
      rw [hd] at g2
      unfold lcL at g2
      by_cases hgd : it.guard s2
      · simp only [hgd, if_true] at g2
        obtain ⟨hall, _⟩ := p1 m2 H2 s2 l2 r2 hgd
        obtain ⟨hgo, hy⟩ := hall i _ hx
        refine .inr ⟨hgo, fun H' => ∃ m2 s2 acc accV, Le X.K m1 H1 m2 H' ∧ Rel X.K m2 H' s2 ∧ H' P = some (.lst accV) ∧ P ∉ m2 ∧ Reps X.K m2 H' acc accV ∧
          G X.K X.mg (Rep X.K) W σ m1 H1 Q ((lcL it.guard gt ft fe (wipeE env vs) (it.xs.drop (i + 1)) acc s2).bind fun acc s => R.ok (D.loc s.length) (s ++ [Cell.lst acc])),
          fun H' q => ⟨it.xs.length - (i + 1), by omega, rfl, hlt, q⟩, fun v H3 y => ?_⟩
        obtain ⟨l3, r3, p3⟩ := hy v H3 y
        cases q : gt it.xs[i] (wipeE env vs) with
        | none => simp only [q] at g2; exact g2.elim
        | some env3 =>
          simp only [q] at g2
          have l13 := l2.trans l3
          have hD3 := l3.fr P _ hD nD
          refine ⟨m2, wipeE env vs, s2, it.xs[i], env3, r3, relE_wipe (E1.mono l13) vs, p3, q, fun σ4 E4 k4 n4 => ⟨by rw [wipe_congr n4 k4, wipe_wipe], m2, env3, s2, r3, E4, ?_⟩⟩
          cases ht : ft env3 s2 with
          | no => rw [ht] at g2; exact g2.elim
          | ex x s4 => rw [ht] at g2; exact g2.elim
          | ok b s4 =>
            simp only [ht] at g2
            intro m5 H5 b' l5 r5 eb
            cases (show b = b' from eb)
            have hD5 := l5.fr P _ hD3 nD
            have nD5 : P ∉ m5 := fun z => by
              rcases l5.nw P z with w | w
              · exact nD w
              · rw [hD3] at w; cases w
            have l15 := l13.trans l5
            cases b with
            | false =>
              refine iteF ⟨m5, s4, acc, accV, l15, r5, hD5, nD5, (pA.mono l3).mono l5, ?_⟩
              simpa using g2
            | true =>
              simp only [if_true] at g2
              refine iteT ⟨m5, env3, s4, r5, E4.mono l5, ?_⟩
              cases he : fe env3 s4 with
              | no => rw [he] at g2; exact g2.elim
              | ex x s6 => rw [he] at g2; exact g2.elim
              | ok y s6 =>
                simp only [he] at g2
                by_cases hz : acc.length < sizeLine
                · simp only [hz, if_true] at g2
                  intro m7 H7 yv l7 r7 p7
                  have hD7 := l7.fr P _ hD5 nD5
                  have nD7 : P ∉ m7 := fun z => by
                    rcases l7.nw P z with w | w
                    · exact nD5 w
                    · rw [hD5] at w; cases w
                  have pA7 := ((pA.mono l3).mono l5).mono l7
                  exact ⟨accV, hD7, by rw [← pA.length]; exact hz, m7, s6, acc ++ [y], accV ++ [yv], (l15.trans l7).side hP hD7, r7.side hD7 nD7, upd_same, nD7,
                    (pA7.monoW (lw_side hD7)).append (.cons (p7.monoW (lw_side hD7)) .nil), g2⟩
                · simp only [hz, if_false] at g2
                  exact g2.elim
      · simp only [hgd, if_false] at g2
        exact g2.elim
    · have e : i = it.xs.length := by omega
      subst e
      rw [List.drop_length] at g2
      unfold lcL at g2
      by_cases hgd : it.guard s2
      · simp only [hgd, if_true] at g2
        refine .inl ⟨(p1 m2 H2 s2 l2 r2 hgd).2, ?_⟩
        exact g2 (m2 ++ [P]) H2 (.ref P) (l2.adopt hP) (r2.adopt nD hD pA) (.loc (len_get r2))
      · simp only [hgd, if_false] at g2
        exact g2.elim
variable {elt tg iter c : Expr} {ifs : List Expr} {scope : Scope} {own : List (Str × Nat)} {pos : Pos} {fi : ME Itm} {gt : D → Sl → Option Sl} {ft : ME Bool} {fe : ME D}
theorem cts_nil : PTs X [] (Tt X.K X.mg W tT) := ⟨fun pins s σ H Q I ⟨m, env, st, r, E, g⟩ => pts_nil.run pins s σ H Q I (g.nowB r)⟩
theorem cts_one (h : PT X c (Tt X.K X.mg W ft)) : PTs X [c] (Tt X.K X.mg W ft) := pts_one h
theorem ce_lc (hc : X.calm = true) (hN : X.N.Nodup) (hi : PI X tg iter (Ti X.K X.mg W fi)) (ok : BlkOk X.N X.env.scope scope own)
    (hg : ∀ (s : Shared) (H : Hp) (C : Addr) (cl : List (Str × Addr)) (fp : List Addr), PG (X.blk s H scope (compEnvC scope cl C X.env) fp) tg (GTm X.K (own.map (·.2)) gt)) (ht : ∀ (s : Shared) (H : Hp) (C : Addr) (cl : List (Str × Addr)) (fp : List Addr), PTs (X.blk s H scope (compEnvC scope cl C X.env) fp) ifs (Tt X.K X.mg WF ft))
    (he : ∀ (s : Shared) (H : Hp) (C : Addr) (cl : List (Str × Addr)) (fp : List Addr), PE (X.blk s H scope (compEnvC scope cl C X.env) fp) elt (Te X.K X.mg WF fe)) (hs : ∀ x, foldedSetIterable iter X.env x = pure x := by intro _; rfl) :
    PE X (.ListComp elt [⟨tg, iter, ifs, 0⟩] scope pos) (Te X.K X.mg W (eLc fi (own.map (·.2)) gt ft fe)) := PE.imp (pe_lc hc hN hi ok hg ht he hs) lc_run
theorem cs_setLc {i : Nat} {y : Str} {py spos : Pos} (hc : X.calm = true) (hN : X.N.Nodup) (hy : X.N[i]? = some y) (hyl : X.env.scope.names.lookup y = some .local)
    (hsw : swapsWith (.ListComp elt [⟨tg, iter, ifs, 0⟩] scope pos) (some (.Name y py)) spos.line X.env = pure true) (hi : PI X tg iter (Ti X.K X.mg W fi)) (ok : BlkOk X.N X.env.scope scope own)
    (hg : ∀ (s : Shared) (H : Hp) (C : Addr) (cl : List (Str × Addr)) (fp : List Addr), PG (X.blk s H scope (compEnvC scope cl C X.env) fp) tg (GTm X.K (own.map (·.2)) gt)) (ht : ∀ (s : Shared) (H : Hp) (C : Addr) (cl : List (Str × Addr)) (fp : List Addr), PTs (X.blk s H scope (compEnvC scope cl C X.env) fp) ifs (Tt X.K X.mg WF ft))
    (he : ∀ (s : Shared) (H : Hp) (C : Addr) (cl : List (Str × Addr)) (fp : List Addr), PE (X.blk s H scope (compEnvC scope cl C X.env) fp) elt (Te X.K X.mg WF fe)) (hs : ∀ x, foldedSetIterable iter X.env x = pure x := by intro _; rfl) :
    PS X (.Assign [.Name y py] (.ListComp elt [⟨tg, iter, ifs, 0⟩] scope pos) spos) (Ts X.K X.mg W (sSet i (eLc fi (own.map (·.2)) gt ft fe))) := PS.imp (ps_setLc (i := i) hc hN hy hyl hsw hi ok hg ht he hs) fun Dn σ H h =>
  lc_run σ H _ (Ts.ofE (k := fun env d s => RS.nx (env.set i (some d)) s) h fun m1 H1 env d v s1 r1 E1 p1 g1 => g1 m1 _ H1 .refl r1 (relE_set E1 p1 i))
end
/-! ### a def -/
/-- the mirror of a def: N names, n of them parameters -/
def fnM (N n : Nat) (b : MS) : List D → Store → R D := fun ds s => match b (ds.map some ++ List.replicate (N - n) none) s with
  | .rt d s => .ok d s
  | .nx _ s => .ok .non s
  | .ex e _ s => .ex e s
  | _ => .no
theorem relE_start {K : PySem.W.Frag} {m : List Addr} {H : Hp} {N : List Str} {ds : List D} {vs : List V} (p : Reps K m H ds vs) : RelE K m H (ds.map some ++ List.replicate (N.length - ds.length) none) (L2.start N vs) := by
  have hl := p.length
  refine ⟨by simp [L2.start, hl], fun i d h => ?_⟩
  by_cases hi : i < ds.length
  · rw [List.getElem?_append_left (by simpa using hi), List.getElem?_map] at h
    cases q : ds[i]? with
    | none => rw [q] at h; cases h
    | some d' =>
      rw [q] at h; cases h
      obtain ⟨v, h1, h2⟩ := p.get q
      refine ⟨v, ?_, h2⟩
      unfold L2.start
      rw [List.getElem?_append_left (by simpa using (hl ▸ hi)), List.getElem?_map, h1]
      rfl
  · rw [List.getElem?_append_right (by simpa using Nat.le_of_not_lt hi), List.getElem?_replicate] at h
    split at h <;> cases h
theorem okM {P : Program} {w : World} {K : PySem.W.Frag} {mg : Str → Option Value} {base : Heap} {x qual : Str} {st : Stmt} {f : Addr} {fd : FuncData} {N ps : List Str} {k n : Nat} {b : MS} (F : Fun K x qual st f fd) (S : FnScope N ps (defScope st)) (hn : ps.length = n)
    (hb : ∀ (cdv : Value) (A : Around) (outer : List Env) (s : Shared) (H : Hp) (E : XK), Room k (A.deeper (envOfC qual (defScope st) s.heap.objs.size f cdv)) → Takes (cxOf (L2.CX P w) P w K mg base N qual (defScope st) f cdv A outer s H E) (fun c d _ H => E c d H) →
      PSs (cxOf (L2.CX P w) P w K mg base N qual (defScope st) f cdv A outer s H E) (defBody st) (Ts K mg (fun c d _ H => E c d H) b)) :
    FnOk P w K mg base (L2.CX P w) (k + 1) f fd ps (spM K mg n (fnM N.length n b)) := by
  refine F.okX S (fun vs H Q E h => by rw [hn]; exact h.1) fun cdv A outer s H vs Q E hr h => ⟨_, hb cdv A outer s H E hr (takes_of rfl rfl rfl rfl), ?_⟩
  obtain ⟨hl, m, s, ds, r, p, g⟩ := h
  refine ⟨m, _, s, r, relE_start (N := N) p, ?_⟩
  have hd : ds.length = n := by rw [p.length, hl]
  unfold fnM at g
  rw [hd]
  cases q : b (ds.map some ++ List.replicate (N.length - n) none) s with
  | nx env s1 => rw [q] at g; exact fun m' σ' H' l r' _ => g m' H' .non l r' .non
  | rt d s1 => rw [q] at g; exact g
  | ex e env s1 => rw [q] at g; exact fun m' σ' H' c dd l r' _ x => g m' H' c dd l r' x
  | bk env s1 => rw [q] at g; exact g.elim
  | ct env s1 => rw [q] at g; exact g.elim
  | no => rw [q] at g; exact g.elim
end Mi
namespace Mi
open PySem PySem.Spec PyProof.Rows L2
/-! ### the law's end -/
theorem an_nil : ∀ (xs : List D) (s : Store) (env : Sl) (s' : Store), aNil env s = .ok xs s' → xs.length = 0 := fun xs s env s' h => by cases h; rfl
theorem an_cons {a : ME D} {r : ME (List D)} {n : Nat} (h : ∀ (xs : List D) (s : Store) (env : Sl) (s' : Store), r env s = .ok xs s' → xs.length = n) :
    ∀ (xs : List D) (s : Store) (env : Sl) (s' : Store), aCons a r env s = .ok xs s' → xs.length = n + 1 := fun xs s env s' e => by
  unfold aCons at e
  cases q : a env s with
  | no => rw [q] at e; cases e
  | ex x s1 => rw [q] at e; cases e
  | ok x s1 =>
    rw [q] at e
    simp only [R.bind_ok] at e
    cases q2 : r env s1 with
    | no => rw [q2] at e; cases e
    | ex x s2 => rw [q2] at e; cases e
    | ok ys s2 =>
      rw [q2] at e
      simp only [R.bind_ok] at e
      have z := h ys s1 env s2 q2
      cases e
      rw [List.length_cons, z]
def dAddI : D → D → Store → Option (D × Store) := dI fun i j => some (.int (i + j))
theorem ips_add {K : PySem.W.Frag} : OpS K (ipI fun i j => i + j) dAddI := fun {mg W σ m H s x y dx dy Q} r px py g => ops_dI0 (K := K) (gv := fun i j => .int (i + j)) (fun _ _ _ _ => .int _) r px py g
theorem ips_sub {K : PySem.W.Frag} : OpS K (ipI fun i j => i - j) dSub := fun {mg W σ m H s x y dx dy Q} r px py g => ops_sub (K := K) r px py g
theorem cx_none {P : Program} {w : World} {l : List Env} {H : Hp} {s : Shared} {e : Value} {s' : Shared} (h : L2.CX P w l H s (fun _ _ _ => False) e s') : False := by
  obtain ⟨_, _, _, _, _, _, _, _, _, _, _, _, z⟩ := h
  exact z
def spLaw (K : PySem.W.Frag) : Sp := fun vs H Q _ => ∃ (a : Addr) (ns : List Int), vs = [.ref a] ∧ SqL K H a (ns.map V.int) ∧ ns.length ≤ 63 ∧ Only H ∧ ∀ H', Q (.bl true) H'
theorem law_imp {K : PySem.W.Frag} {mg : Str → Option Value} {g : List D → Store → R D} (h : ∀ ns : List Int, ns.length ≤ 63 → ∃ s, g [.fl (ns.map D.int)] [] = .ok (.bl true) s) :
    ∀ vs H Q E, spLaw K vs H Q E → spM K mg 1 g vs H Q E := fun vs H Q E ⟨a, ns, e, hS, hl, hO, q⟩ => by
  subst e
  refine ⟨rfl, [], [], [.fl (ns.map D.int)], ⟨rfl, List.nodup_nil, fun l a c h => by simp at h⟩, .cons (.fl (vs := ns.map V.int) ?_ (reps_ints ns)) .nil, ?_⟩
  · rcases hS with (hS | hS) | hS
    · rcases hO a with z | ⟨o, xs, z⟩
      · rw [hS] at z; cases z
      · rw [hS] at z; cases z
    · exact .inl hS
    · exact .inr hS
  · obtain ⟨s, e⟩ := h ns hl
    rw [e]
    intro m' H' v _ _ p
    cases p
    exact q H'
end Mi
namespace Mi
open PySem PySem.Spec PyProof.Rows L2
/-! ### running a mirror by simp -/
@[simp] theorem line_num : sizeLine = 16777216 := sizeLine_eq
/-- what range(n) gives -/
def rng (n : Nat) : List D := (List.range n).map fun i => .int ((0 : Int) + (i : Nat))
section
variable (env : Sl) (s : Store)
@[simp] theorem eC_eq (d : D) : eC d env s = .ok d s := rfl
@[simp] theorem eV_0 (d : D) (r : Sl) : eV 0 (some d :: r) s = .ok d s := rfl
@[simp] theorem eV_s (i : Nat) (o : Option D) (r : Sl) : eV (i + 1) (o :: r) s = eV i r s := rfl
@[simp] theorem e2_eq (g) (a b : ME D) : e2 g a b env s = (a env s).bind fun x s => (b env s).bind fun y s => R.of (g x y s) := rfl
@[simp] theorem e1_eq (g) (a : ME D) : e1 g a env s = (a env s).bind fun x s => R.of (g x s) := rfl
@[simp] theorem aNil_eq : aNil env s = .ok [] s := rfl
@[simp] theorem aCons_eq (a : ME D) (r : ME (List D)) : aCons a r env s = (a env s).bind fun x s => (r env s).bind fun xs s => .ok (x :: xs) s := rfl
@[simp] theorem eFn_eq (g) (a : ME (List D)) : eFn g a env s = (a env s).bind fun xs s => R.of (g xs s) := rfl
theorem le_line {n : Nat} (h : n ≤ 1000000) : n ≤ sizeLine := by rw [sizeLine_eq]; omega
theorem lt_line {n : Nat} (h : n ≤ 1000000) : n < sizeLine := by rw [sizeLine_eq]; omega
@[simp] theorem eTup_eq (a : ME (List D)) : eTup a env s = (a env s).bind fun xs s => if xs.length ≤ sizeLine then .ok (.tup xs) s else .no := rfl
@[simp] theorem eLst_eq (a : ME (List D)) : eLst a env s = (a env s).bind fun xs s => if xs.length ≤ sizeLine then .ok (.loc s.length) (s ++ [.lst xs]) else .no := rfl
/-- written displays -/
def arity : ME (List D) → Nat → Prop := fun a n => ∀ env s xs s', a env s = .ok xs s' → xs.length = n
theorem tup_short (xs : List D) (h : xs.length ≤ 1000000) : (if xs.length ≤ sizeLine then (R.ok (D.tup xs) s : R D) else .no) = .ok (.tup xs) s := if_pos (le_line h)
@[simp] theorem eCall_eq (g : List D → Store → R D) (a : ME (List D)) : eCall g a env s = (a env s).bind g := rfl
@[simp] theorem tV_eq (a : ME D) : tV a env s = (a env s).bind fun x s => match x with | .bl b => .ok b s | _ => .no := rfl
@[simp] theorem tAnd_eq (a b : ME Bool) : tAnd a b env s = (a env s).bind fun x s => if x then b env s else .ok false s := rfl
@[simp] theorem tOr_eq (a b : ME Bool) : tOr a b env s = (a env s).bind fun x s => if x then .ok true s else b env s := rfl
@[simp] theorem tNot_eq (a : ME Bool) : tNot a env s = (a env s).bind fun x s => .ok (!x) s := rfl
@[simp] theorem eIf_eq (c : ME Bool) (a b : ME D) : eIf c a b env s = (c env s).bind fun x s => if x then a env s else b env s := rfl
@[simp] theorem eAnd_eq (a b : ME D) : eAnd a b env s = (a env s).bind fun x s => match x with | .bl true => b env s | .bl false => .ok (.bl false) s | _ => .no := rfl
@[simp] theorem eOr_eq (a b : ME D) : eOr a b env s = (a env s).bind fun x s => match x with | .bl true => .ok (.bl true) s | .bl false => b env s | _ => .no := rfl
@[simp] theorem eNot_eq (a : ME D) : eNot a env s = (a env s).bind fun x s => match x with | .bl c => .ok (.bl !c) s | _ => .no := rfl
@[simp] theorem eChain_eq (g g') (a b c : ME D) : eChain g g' a b c env s = (a env s).bind fun x s => (b env s).bind fun y s => (R.of (g x y s)).bind fun z s => match z with
  | .bl true => (c env s).bind fun w s => R.of (g' y w s)
  | .bl false => .ok (.bl false) s
  | _ => .no := rfl
@[simp] theorem eMt_eq (T : String) (g) (a : ME D) (fs : ME (List D)) : eMt T g a fs env s = (a env s).bind fun x s => if tyOk T s x = true then (fs env s).bind fun xs s => R.of (g x xs s) else .no := rfl
@[simp] theorem eMt0_eq (T : String) (g) (a : ME D) : eMt0 T g a env s = (a env s).bind fun x s => if tyOk T s x = true then R.of (g x [] s) else .no := rfl
@[simp] theorem oNone_eq : oNone env s = .ok none s := rfl
@[simp] theorem oSome_eq (a : ME D) : oSome a env s = (a env s).bind fun x s => match x with | .int i => .ok (some i) s | _ => .no := rfl
@[simp] theorem eSl_eq (g) (a : ME D) (lo hi : ME (Option Int)) : eSl g a lo hi env s = (a env s).bind fun x s => (lo env s).bind fun l s => (hi env s).bind fun u s => R.of (g x l u s) := rfl
@[simp] theorem gN_eq (i : Nat) (d : D) : gN i d env = some (env.set i (some d)) := rfl
@[simp] theorem gsN_eq : gsN [] env = some env := rfl
@[simp] theorem gsC_eq (g) (r) (x : D) (xs : List D) : gsC g r (x :: xs) env = (g x env).bind (r xs) := rfl
@[simp] theorem gT_eq (n : Nat) (r) (xs : List D) : gT n r (.tup xs) env = if xs.length = n then r xs env else none := rfl
@[simp] theorem sNil_eq : sNil env s = .nx env s := rfl
@[simp] theorem sSeq_eq (f g : MS) : sSeq f g env s = (f env s).bind g := rfl
@[simp] theorem sSet_eq (i : Nat) (e : ME D) : sSet i e env s = (e env s).then env fun d s => .nx (env.set i (some d)) s := rfl
@[simp] theorem sAsg_eq (g) (e : ME D) : sAsg g e env s = (e env s).then env fun d s => match g d env with | some env' => .nx env' s | none => .no := rfl
@[simp] theorem sIf_eq (c : ME Bool) (f g : MS) : sIf c f g env s = (c env s).then env fun b s => if b then f env s else g env s := rfl
@[simp] theorem sRet_eq (e : ME D) : sRet e env s = (e env s).then env fun d s => .rt d s := rfl
@[simp] theorem sRetN_eq : sRetN env s = .rt .non s := rfl
@[simp] theorem sExpr_eq (e : ME D) : sExpr e env s = (e env s).then env fun _ s => .nx env s := rfl
@[simp] theorem sBrk_eq : sBrk env s = .bk env s := rfl
@[simp] theorem sCnt_eq : sCnt env s = .ct env s := rfl
@[simp] theorem sPut_eq (g) (o i e : ME D) : sPut g o i e env s = (e env s).then env fun d s => (o env s).then env fun x s => (i env s).then env fun y s => match g x y d s with
  | some s' => .nx env s'
  | none => .no := rfl
@[simp] theorem sFor_eq (it : ME Itm) (g) (b : MS) : sFor it g b env s = (it env s).then env fun i s => forL i.guard g b i.xs env s := rfl
@[simp] theorem eLc_eq (it : ME Itm) (vs g t e) : eLc it vs g t e env s = (it env s).bind fun i s => (lcL i.guard g t e (wipeE env vs) i.xs [] s).bind fun acc s => .ok (.loc s.length) (s ++ [.lst acc]) := rfl
@[simp] theorem tT_eq : tT env s = .ok true s := rfl
@[simp] theorem iSeq_eq (a : ME D) : iSeq a env s = (a env s).bind fun x s => match x with
  | .tup xs => .ok (Itm.mk xs always) s
  | .fl xs => .ok (Itm.mk xs always) s
  | .str z => .ok (Itm.mk (z.cps.toList.map fun c => .str ⟨#[c]⟩) always) s
  | .loc l => match s[l]? with
    | some (.lst xs) => .ok (Itm.mk xs fun s2 => s2[l]? = some (.lst xs)) s
    | _ => .no
  | _ => .no := rfl
noncomputable def rangeOf (x : List D) (s : Store) : R Itm := match x with
  | [.int j] => if InR j then .ok (Itm.mk (rng j.toNat) always) s else .no
  | _ => .no
@[simp] theorem iRange1_eq (a : ME (List D)) : iRange1 a env s = (a env s).bind rangeOf := (rfl)
theorem big62 : (1000000000 : Int) < 2 ^ 62 := by decide
@[simp] theorem rangeOf_int (j : Int) (h0 : 0 ≤ j) (h1 : j ≤ 1000000000) : rangeOf [.int j] s = .ok (Itm.mk (rng j.toNat) always) s :=
  if_pos ⟨Int.le_trans (by decide) h0, Int.lt_of_le_of_lt h1 big62⟩
noncomputable def rangeOf2 (x : List D) (s : Store) : R Itm := match x with
  | [.int i, .int j] => if InR i ∧ InR j then .ok (Itm.mk ((List.range (j - i).toNat).map fun k => .int (i + (k : Nat))) always) s else .no
  | _ => .no
@[simp] theorem iRange2_eq (a : ME (List D)) : iRange2 a env s = (a env s).bind rangeOf2 := (rfl)
@[simp] theorem rangeOf2_int (i j : Int) (h0 : 0 ≤ i) (h1 : i ≤ 1000000000) (h2 : 0 ≤ j) (h3 : j ≤ 1000000000) : rangeOf2 [.int i, .int j] s = .ok (Itm.mk ((List.range (j - i).toNat).map fun k => .int (i + (k : Nat))) always) s :=
  if_pos ⟨⟨Int.le_trans (by decide) h0, Int.lt_of_le_of_lt h1 big62⟩, Int.le_trans (by decide) h2, Int.lt_of_le_of_lt h3 big62⟩
@[simp] theorem wipeE_nil : wipeE env [] = env := rfl
@[simp] theorem wipeE_cons (v : Nat) (vs : List Nat) : wipeE env (v :: vs) = (wipeE env vs).set v none := rfl
@[simp] theorem forL_nil_always (g) (b : MS) : forL always g b [] env s = .nx env s := by unfold forL; simp [always]
theorem forL_cons_always (g) (b : MS) (x : D) (xs : List D) : forL always g b (x :: xs) env s = match g x env with
    | none => .no
    | some env1 => match b env1 s with
      | .nx env2 s2 => forL always g b xs env2 s2
      | .ct env2 s2 => forL always g b xs env2 s2
      | .bk env2 s2 => .nx env2 s2
      | .rt d s2 => .rt d s2
      | .ex e env2 s2 => .ex e env2 s2
      | .no => .no := by
  conv => lhs; unfold forL
  exact (if_pos trivial).trans rfl
theorem forL_nil (gd : Store → Prop) (h : gd s) (g) (b : MS) : forL gd g b [] env s = .nx env s := by unfold forL; simp [h]
theorem forL_cons (gd : Store → Prop) (h : gd s) (g) (b : MS) (x : D) (xs : List D) : forL gd g b (x :: xs) env s = match g x env with
    | none => .no
    | some env1 => match b env1 s with
      | .nx env2 s2 => forL gd g b xs env2 s2
      | .ct env2 s2 => forL gd g b xs env2 s2
      | .bk env2 s2 => .nx env2 s2
      | .rt d s2 => .rt d s2
      | .ex e env2 s2 => .ex e env2 s2
      | .no => .no := by
  conv => lhs; unfold forL
  exact (if_pos h).trans rfl
theorem lcL_nil (gd : Store → Prop) (h : gd s) (g t e) (acc : List D) : lcL gd g t e env [] acc s = .ok acc s := by unfold lcL; simp [h]
theorem lcL_cons (gd : Store → Prop) (h : gd s) (g t e) (acc : List D) (x : D) (xs : List D) : lcL gd g t e env (x :: xs) acc s = match g x env with
    | none => .no
    | some env1 => match t env1 s with
      | .ok b s1 => if b then (match e env1 s1 with
        | .ok y s2 => if acc.length < sizeLine then lcL gd g t e env xs (acc ++ [y]) s2 else .no
        | _ => .no) else lcL gd g t e env xs acc s1
      | _ => .no := by
  conv => lhs; unfold lcL
  exact (if_pos h).trans rfl
end
@[simp] theorem dI_eq (f : Int → Int → Option D) (i j : Int) (s : Store) : dI f (.int i) (.int j) s = (f i j).map fun d => (d, s) := rfl
@[simp] theorem dAdd_int (i j : Int) (s : Store) : dAdd (.int i) (.int j) s = some (.int (i + j), s) := rfl
theorem dAdd_loc {s : Store} {l k : Nat} {xs ys : List D} (h : s[l]? = some (.lst xs)) (h2 : s[k]? = some (.lst ys)) (hz : xs.length + ys.length ≤ 1000000) : dAdd (.loc l) (.loc k) s = some (.loc s.length, s ++ [.lst (xs ++ ys)]) := by
  have q := le_line hz
  simp only [dAdd, h, h2, q, if_true]
theorem dAdd_tup {s : Store} {xs ys : List D} (hz : xs.length + ys.length ≤ 1000000) : dAdd (.tup xs) (.tup ys) s = some (.tup (xs ++ ys), s) := by
  have q := le_line hz
  simp only [dAdd, q, if_true]
@[simp] theorem dSub_int (i j : Int) (s : Store) : dSub (.int i) (.int j) s = some (.int (i - j), s) := rfl
theorem dMul_int (i j : Int) (s : Store) (h : CMul i j) : dMul (.int i) (.int j) s = some (.int (i * j), s) := by simp [dMul, h]
/-- one factor is small -/
@[simp] theorem dMul_r (i j : Int) (s : Store) (h : -(2 ^ 64) < j ∧ j < 2 ^ 64) : dMul (.int i) (.int j) s = some (.int (i * j), s) := dMul_int i j s (.inr h)
theorem dMul_l (i j : Int) (s : Store) (h : -(2 ^ 64) < i ∧ i < 2 ^ 64) : dMul (.int i) (.int j) s = some (.int (i * j), s) := dMul_int i j s (.inl h)
@[simp] theorem dDiv_int (i j : Int) (s : Store) (h : 0 < j ∧ j < 1073741824) : dDiv (.int i) (.int j) s = some (.int (i / j), s) := by
  have q : CDiv i j := h
  simp [dDiv, q]
@[simp] theorem dMod_int (i j : Int) (s : Store) (h : 0 < j) : dMod (.int i) (.int j) s = some (.int (i % j), s) := by simp [dMod, h]
@[simp] theorem dPow_int (i j : Int) (s : Store) (h : 0 ≤ j ∧ j ≤ 1000000 ∧ i.natAbs < 2 ^ 64) : dPow (.int i) (.int j) s = some (.int (i ^ j.toNat), s) := by
  have q : CPow i j := h
  simp [dPow, q]
@[simp] theorem dNeg_int (i : Int) (s : Store) : dNeg (.int i) s = some (.int (-i), s) := rfl
@[simp] theorem dLt_int (i j : Int) (s : Store) : dLt (.int i) (.int j) s = some (.bl (decide (i < j)), s) := rfl
@[simp] theorem dLe_int (i j : Int) (s : Store) : dLe (.int i) (.int j) s = some (.bl (decide (i ≤ j)), s) := rfl
@[simp] theorem dGt_int (i j : Int) (s : Store) : dGt (.int i) (.int j) s = some (.bl (decide (j < i)), s) := rfl
@[simp] theorem dGe_int (i j : Int) (s : Store) : dGe (.int i) (.int j) s = some (.bl (decide (j ≤ i)), s) := rfl
@[simp] theorem dEq_int (i j : Int) (s : Store) : dEq (.int i) (.int j) s = some (.bl (decide (i = j)), s) := rfl
@[simp] theorem dNe_int (i j : Int) (s : Store) : dNe (.int i) (.int j) s = some (.bl (!decide (i = j)), s) := rfl
@[simp] theorem dEq_bl (i j : Bool) (s : Store) : dEq (.bl i) (.bl j) s = some (.bl (decide (i = j)), s) := rfl
@[simp] theorem dNe_bl (i j : Bool) (s : Store) : dNe (.bl i) (.bl j) s = some (.bl (!decide (i = j)), s) := rfl
@[simp] theorem dEq_str (i j : Str) (s : Store) : dEq (.str i) (.str j) s = some (.bl (decide (i = j)), s) := rfl
@[simp] theorem dNe_str (i j : Str) (s : Store) : dNe (.str i) (.str j) s = some (.bl (!decide (i = j)), s) := rfl
@[simp] theorem dIs_non_non (s : Store) : dIs .non .non s = some (.bl true, s) := rfl
@[simp] theorem dIs_int_non (i : Int) (s : Store) : dIs (.int i) .non s = some (.bl false, s) := rfl
@[simp] theorem dIs_bl_bl (i j : Bool) (s : Store) : dIs (.bl i) (.bl j) s = some (.bl (decide (i = j)), s) := rfl
@[simp] theorem dIs_str_non (i : Str) (s : Store) : dIs (.str i) .non s = some (.bl false, s) := rfl
@[simp] theorem dIs_tup_non (i : List D) (s : Store) : dIs (.tup i) .non s = some (.bl false, s) := rfl
@[simp] theorem dIsNot_non_non (s : Store) : dIsNot .non .non s = some (.bl false, s) := rfl
@[simp] theorem dIsNot_int_non (i : Int) (s : Store) : dIsNot (.int i) .non s = some (.bl true, s) := rfl
@[simp] theorem dIsNot_bl_bl (i j : Bool) (s : Store) : dIsNot (.bl i) (.bl j) s = some (.bl (!decide (i = j)), s) := rfl
@[simp] theorem dIsNot_str_non (i : Str) (s : Store) : dIsNot (.str i) .non s = some (.bl true, s) := rfl
@[simp] theorem dIsNot_tup_non (i : List D) (s : Store) : dIsNot (.tup i) .non s = some (.bl true, s) := rfl
@[simp] theorem dInt_int (i : Int) (s : Store) : dInt [.int i] s = some (.int i, s) := rfl
@[simp] theorem dInt_bl (i : Bool) (s : Store) : dInt [.bl i] s = some (.int (if i then 1 else 0), s) := rfl
theorem dMax2_int (i j : Int) (s : Store) : dMax2 [.int i, .int j] s = some (.int (if j > i then j else i), s) := rfl
theorem dMin2_int (i j : Int) (s : Store) : dMin2 [.int i, .int j] s = some (.int (if j < i then j else i), s) := rfl
theorem max_if (i j : Int) : (if j > i then j else i) = max i j := by
  rw [Int.max_def]; split <;> split <;> omega
theorem min_if (i j : Int) : (if j < i then j else i) = min i j := by
  rw [Int.min_def]; split <;> split <;> omega
@[simp] theorem dMax2_max (i j : Int) (s : Store) : dMax2 [.int i, .int j] s = some (.int (max i j), s) := by rw [dMax2_int, max_if]
@[simp] theorem dMin2_min (i j : Int) (s : Store) : dMin2 [.int i, .int j] s = some (.int (min i j), s) := by rw [dMin2_int, min_if]
@[simp] theorem lstOf_fl (s : Store) (xs : List D) : lstOf s (.fl xs) = some xs := rfl
theorem lstOf_loc {s : Store} {l : Nat} {xs : List D} (h : s[l]? = some (.lst xs)) : lstOf s (.loc l) = some xs := by simp [lstOf, h]
@[simp] theorem seqOf_tup (s : Store) (xs : List D) : seqOf s (.tup xs) = some xs := rfl
@[simp] theorem seqOf_fl (s : Store) (xs : List D) : seqOf s (.fl xs) = some xs := rfl
theorem seqOf_loc {s : Store} {l : Nat} {xs : List D} (h : s[l]? = some (.lst xs)) : seqOf s (.loc l) = some xs := by simp [seqOf, lstOf, h]
@[simp] theorem dLen_tup (s : Store) (xs : List D) : dLen [.tup xs] s = some (.int xs.length, s) := rfl
@[simp] theorem dLen_fl (s : Store) (xs : List D) : dLen [.fl xs] s = some (.int xs.length, s) := rfl
theorem dLen_loc {s : Store} {l : Nat} {xs : List D} (h : s[l]? = some (.lst xs)) : dLen [.loc l] s = some (.int xs.length, s) := by simp [dLen, seqOf, lstOf, h]
@[simp] theorem dTuple_tup (s : Store) (xs : List D) : dTuple [.tup xs] s = some (.tup xs, s) := rfl
theorem dTuple_loc {s : Store} {l : Nat} {xs : List D} (h : s[l]? = some (.lst xs)) : dTuple [.loc l] s = some (.tup xs, s) := by simp [dTuple, seqOf, lstOf, h]
theorem dSum_loc {s : Store} {l : Nat} {ns : List Int} (h : s[l]? = some (.lst (ns.map D.int))) : dSum [.loc l] s = some (.int ns.sum, s) := by simp [dSum, lstOf, h, intsOf_map]
theorem dIx_tup (s : Store) (xs : List D) (i : Int) : dIx (.tup xs) (.int i) s = (atI xs i).map fun d => (d, s) := rfl
theorem dIx_loc {s : Store} {l : Nat} {xs : List D} (h : s[l]? = some (.lst xs)) (i : Int) : dIx (.loc l) (.int i) s = (atI xs i).map fun d => (d, s) := by simp [dIx, seqOf, lstOf, h]
theorem atI_ofNat (xs : List D) (j : Nat) (d : D) (h : xs[j]? = some d) : atI xs (j : Int) = some d := atI_nat h
@[simp] theorem atI_zero (x : D) (xs : List D) : atI (x :: xs) 0 = some x := atI_nat (j := 0) rfl
@[simp] theorem atI_one (x y : D) (xs : List D) : atI (x :: y :: xs) 1 = some y := atI_nat (j := 1) rfl
@[simp] theorem atI_two (x y z : D) (xs : List D) : atI (x :: y :: z :: xs) 2 = some z := atI_nat (j := 2) rfl
@[simp] theorem atI_three (x y z w : D) (xs : List D) : atI (x :: y :: z :: w :: xs) 3 = some w := atI_nat (j := 3) rfl
theorem dAppend_loc {s : Store} {l : Nat} {xs : List D} (h : s[l]? = some (.lst xs)) (hz : xs.length ≤ 1000000) (y : D) : dAppend (.loc l) [y] s = some (.non, s.set l (.lst (xs ++ [y]))) := by
  have q := lt_line hz
  simp only [dAppend, h, q, if_true]
theorem dPop_loc {s : Store} {l : Nat} {xs : List D} {y : D} (h : s[l]? = some (.lst (xs ++ [y]))) : dPop (.loc l) [] s = some (y, s.set l (.lst xs)) := by simp [dPop, h]
theorem tyOk_list {s : Store} {l : Nat} {xs : List D} (h : s[l]? = some (.lst xs)) : tyOk "list" s (.loc l) = true := by simp [tyOk, h]
theorem pList_loc {s : Store} {l : Nat} {xs : List D} (h : s[l]? = some (.lst xs)) (j : Nat) (hj : j < xs.length) (z : D) : pList (.loc l) (.int j) z s = some (s.set l (.lst (xs.set j z))) := by
  have e : ixN xs.length (j : Int) = some j := by
    unfold ixN
    rw [if_pos (by omega), if_pos (by omega)]
    simp
  simp [pList, h, e]
theorem pList_zero {s : Store} {l : Nat} {x : D} {xs : List D} (h : s[l]? = some (.lst (x :: xs))) (z : D) : pList (.loc l) (.int 0) z s = some (s.set l (.lst (z :: xs))) :=
  pList_loc h 0 (by simp) z
@[simp] theorem fnM_eq (N n : Nat) (b : MS) (ds : List D) (s : Store) : fnM N n b ds s = match b (ds.map some ++ List.replicate (N - n) none) s with
  | .rt d s => .ok d s
  | .nx _ s => .ok .non s
  | .ex e _ s => .ex e s
  | _ => .no := rfl
/-! ### stores: what stays -/
/-- all places of s but p are as they were -/
def Kp (p : Nat) (s s' : Store) : Prop := s.length ≤ s'.length ∧ ∀ l, l < s.length → l ≠ p → s'[l]? = s[l]?
theorem Kp.refl (p : Nat) (s : Store) : Kp p s s := ⟨Nat.le_refl _, fun _ _ _ => rfl⟩
theorem Kp.trans {p : Nat} {s s1 s2 : Store} (a : Kp p s s1) (b : Kp p s1 s2) : Kp p s s2 :=
  ⟨Nat.le_trans a.1 b.1, fun l h n => (b.2 l (Nat.lt_of_lt_of_le h a.1) n).trans (a.2 l h n)⟩
theorem Kp.set (p : Nat) (s : Store) (c : Cell) : Kp p s (s.set p c) := ⟨by simp, fun l _ n => List.getElem?_set_ne (Ne.symm n)⟩
theorem Kp.app (p : Nat) (s r : Store) : Kp p s (s ++ r) := ⟨by simp, fun l h _ => List.getElem?_append_left h⟩
theorem Kp.get {p : Nat} {s s' : Store} (a : Kp p s s') {l : Nat} {c : Cell} (h : s[l]? = some c) (n : l ≠ p) : s'[l]? = some c := by
  rw [a.2 l (by
    rcases Nat.lt_or_ge l s.length with q | q
    · exact q
    · rw [List.getElem?_eq_none q] at h; cases h) n]
  exact h
theorem lt_of_get {s : Store} {l : Nat} {c : Cell} (h : s[l]? = some c) : l < s.length := by
  rcases Nat.lt_or_ge l s.length with q | q
  · exact q
  · rw [List.getElem?_eq_none q] at h; cases h
theorem get_new (s : Store) (c : Cell) : (s ++ [c])[s.length]? = some c := by simp
theorem get_set {s : Store} {l : Nat} {c c' : Cell} (h : s[l]? = some c) : (s.set l c')[l]? = some c' := List.getElem?_set_self (lt_of_get h)
/-! #### isinstance -/
@[simp] theorem kit_NoneType_int : kitB "NoneType" "int" = some false := by decide +kernel
@[simp] theorem kit_NoneType_bool : kitB "NoneType" "bool" = some false := by decide +kernel
@[simp] theorem kit_NoneType_str : kitB "NoneType" "str" = some false := by decide +kernel
@[simp] theorem kit_NoneType_tuple : kitB "NoneType" "tuple" = some false := by decide +kernel
@[simp] theorem kit_NoneType_list : kitB "NoneType" "list" = some false := by decide +kernel
@[simp] theorem kit_NoneType_dict : kitB "NoneType" "dict" = some false := by decide +kernel
@[simp] theorem kit_bool_int : kitB "bool" "int" = some true := by decide +kernel
@[simp] theorem kit_bool_bool : kitB "bool" "bool" = some true := by decide +kernel
@[simp] theorem kit_bool_str : kitB "bool" "str" = some false := by decide +kernel
@[simp] theorem kit_bool_tuple : kitB "bool" "tuple" = some false := by decide +kernel
@[simp] theorem kit_bool_list : kitB "bool" "list" = some false := by decide +kernel
@[simp] theorem kit_bool_dict : kitB "bool" "dict" = some false := by decide +kernel
@[simp] theorem kit_int_int : kitB "int" "int" = some true := by decide +kernel
@[simp] theorem kit_int_bool : kitB "int" "bool" = some false := by decide +kernel
@[simp] theorem kit_int_str : kitB "int" "str" = some false := by decide +kernel
@[simp] theorem kit_int_tuple : kitB "int" "tuple" = some false := by decide +kernel
@[simp] theorem kit_int_list : kitB "int" "list" = some false := by decide +kernel
@[simp] theorem kit_int_dict : kitB "int" "dict" = some false := by decide +kernel
@[simp] theorem kit_str_int : kitB "str" "int" = some false := by decide +kernel
@[simp] theorem kit_str_bool : kitB "str" "bool" = some false := by decide +kernel
@[simp] theorem kit_str_str : kitB "str" "str" = some true := by decide +kernel
@[simp] theorem kit_str_tuple : kitB "str" "tuple" = some false := by decide +kernel
@[simp] theorem kit_str_list : kitB "str" "list" = some false := by decide +kernel
@[simp] theorem kit_str_dict : kitB "str" "dict" = some false := by decide +kernel
@[simp] theorem kit_tuple_int : kitB "tuple" "int" = some false := by decide +kernel
@[simp] theorem kit_tuple_bool : kitB "tuple" "bool" = some false := by decide +kernel
@[simp] theorem kit_tuple_str : kitB "tuple" "str" = some false := by decide +kernel
@[simp] theorem kit_tuple_tuple : kitB "tuple" "tuple" = some true := by decide +kernel
@[simp] theorem kit_tuple_list : kitB "tuple" "list" = some false := by decide +kernel
@[simp] theorem kit_tuple_dict : kitB "tuple" "dict" = some false := by decide +kernel
@[simp] theorem kit_list_int : kitB "list" "int" = some false := by decide +kernel
@[simp] theorem kit_list_bool : kitB "list" "bool" = some false := by decide +kernel
@[simp] theorem kit_list_str : kitB "list" "str" = some false := by decide +kernel
@[simp] theorem kit_list_tuple : kitB "list" "tuple" = some false := by decide +kernel
@[simp] theorem kit_list_list : kitB "list" "list" = some true := by decide +kernel
@[simp] theorem kit_list_dict : kitB "list" "dict" = some false := by decide +kernel
@[simp] theorem kit_dict_int : kitB "dict" "int" = some false := by decide +kernel
@[simp] theorem kit_dict_bool : kitB "dict" "bool" = some false := by decide +kernel
@[simp] theorem kit_dict_str : kitB "dict" "str" = some false := by decide +kernel
@[simp] theorem kit_dict_tuple : kitB "dict" "tuple" = some false := by decide +kernel
@[simp] theorem kit_dict_list : kitB "dict" "list" = some false := by decide +kernel
@[simp] theorem kit_dict_dict : kitB "dict" "dict" = some true := by decide +kernel
@[simp] theorem dIsi_eq (T : String) (x : D) (s : Store) : dIsi T x s = (tyN s x).bind fun t => (kitB t T).map fun b => (.bl b, s) := rfl
@[simp] theorem tyN_non (s : Store) : tyN s .non = some "NoneType" := rfl
@[simp] theorem tyN_bl (s : Store) (b : Bool) : tyN s (.bl b) = some "bool" := rfl
@[simp] theorem tyN_int (s : Store) (b : Int) : tyN s (.int b) = some "int" := rfl
@[simp] theorem tyN_str (s : Store) (b : Str) : tyN s (.str b) = some "str" := rfl
@[simp] theorem tyN_tup (s : Store) (b : List D) : tyN s (.tup b) = some "tuple" := rfl
theorem tyN_lst {s : Store} {l : Nat} {xs : List D} (h : s[l]? = some (.lst xs)) : tyN s (.loc l) = some "list" := by simp [tyN, h]
/-! ### loops by what holds between the turns -/
/-- a call's end -/
def Rets {α : Type} (P : α → Store → Prop) : R α → Prop
  | .ok d s => P d s
  | _ => False
@[simp] theorem Rets_ok {α : Type} (P : α → Store → Prop) (d : α) (s : Store) : Rets P (.ok d s) = P d s := rfl
@[simp] theorem Rets_no {α : Type} (P : α → Store → Prop) : Rets P .no = False := rfl
@[simp] theorem Rets_ex {α : Type} (P : α → Store → Prop) (e : Ex) (s : Store) : Rets P (.ex e s) = False := rfl
theorem Rets.out {α : Type} {P : α → Store → Prop} {r : R α} (h : Rets P r) : ∃ d s, r = .ok d s ∧ P d s := by
  cases r with
  | ok d s => exact ⟨d, s, rfl, h⟩
  | ex e s => exact h.elim
  | no => exact h.elim
/-- what a turn's end asks: I of the next turn, Q of leaving -/
def Turns (I : Sl → Store → Prop) (Q : RS → Prop) : RS → Prop
  | .nx env s => I env s
  | .ct env s => I env s
  | .bk env s => Q (.nx env s)
  | .rt d s => Q (.rt d s)
  | .ex e env s => Q (.ex e env s)
  | .no => False
section
variable (I : Sl → Store → Prop) (Q : RS → Prop) (env : Sl) (s : Store)
@[simp] theorem Turns_nx : Turns I Q (.nx env s) = I env s := rfl
@[simp] theorem Turns_ct : Turns I Q (.ct env s) = I env s := rfl
@[simp] theorem Turns_bk : Turns I Q (.bk env s) = Q (.nx env s) := rfl
@[simp] theorem Turns_rt (d : D) : Turns I Q (.rt d s) = Q (.rt d s) := rfl
@[simp] theorem Turns_ex (e : Ex) : Turns I Q (.ex e env s) = Q (.ex e env s) := rfl
@[simp] theorem Turns_no : Turns I Q .no = False := rfl
end
/-- store the item, run the body -/
def turn (g : D → Sl → Option Sl) (b : MS) (x : D) : MS := fun env s => match g x env with
  | none => .no
  | some env1 => b env1 s
@[simp] theorem turn_gN (i : Nat) (b : MS) (x : D) (env : Sl) (s : Store) : turn (gN i) b x env s = b (env.set i (some x)) s := rfl
@[simp] theorem turn_gT (n : Nat) (r) (b : MS) (xs : List D) (env : Sl) (s : Store) : turn (gT n r) b (.tup xs) env s = match (if xs.length = n then r xs env else none) with
  | none => .no
  | some env1 => b env1 s := rfl
theorem forL_rule {gd : Store → Prop} {g : D → Sl → Option Sl} {b : MS} (I : List D → Sl → Store → Prop) (Q : RS → Prop) (hg : ∀ xs env s, I xs env s → gd s)
    (hs : ∀ x xs env s, I (x :: xs) env s → Turns (I xs) Q (turn g b x env s)) (he : ∀ env s, I [] env s → Q (.nx env s)) : ∀ {xs : List D} {env : Sl} {s : Store}, I xs env s → Q (forL gd g b xs env s) := by
  intro xs
  induction xs with
  | nil => intro env s h; rw [forL_nil env s gd (hg _ _ _ h)]; exact he env s h
  | cons x xs ih =>
    intro env s h
    rw [forL_cons env s gd (hg _ _ _ h)]
    have h1 := hs x xs env s h
    unfold turn at h1
    cases e1 : g x env with
    | none => rw [e1] at h1; exact h1.elim
    | some env1 =>
      rw [e1] at h1
      dsimp only at h1 ⊢
      cases q : b env1 s with
      | nx env2 s2 => rw [q] at h1; exact ih h1
      | ct env2 s2 => rw [q] at h1; exact ih h1
      | bk env2 s2 => rw [q] at h1; exact h1
      | rt d s2 => rw [q] at h1; exact h1
      | ex e env2 s2 => rw [q] at h1; exact h1
      | no => rw [q] at h1; exact h1.elim
/-- a loop that runs through -/
theorem forL_thru {gd : Store → Prop} {g : D → Sl → Option Sl} {b : MS} (I : List D → Sl → Store → Prop) (hg : ∀ xs env s, I xs env s → gd s)
    (hs : ∀ x xs env s, I (x :: xs) env s → Turns (I xs) (fun _ => False) (turn g b x env s)) {xs : List D} {env : Sl} {s : Store} (h : I xs env s) : ∃ env' s', forL gd g b xs env s = .nx env' s' ∧ I [] env' s' :=
  forL_rule I (fun r => ∃ env' s', r = .nx env' s' ∧ I [] env' s') hg (fun x xs env s h => by
    have z := hs x xs env s h
    cases q : turn g b x env s with
    | nx env2 s2 => rw [q] at z; exact z
    | ct env2 s2 => rw [q] at z; exact z
    | bk env2 s2 => rw [q] at z; exact z.elim
    | rt d s2 => rw [q] at z; exact z.elim
    | ex e env2 s2 => rw [q] at z; exact z.elim
    | no => rw [q] at z; exact z.elim) (fun env s h => ⟨env, s, rfl, h⟩) h
/-! a loop over range(n) -/
theorem rng_drop {n i : Nat} (h : i < n) : (rng n).drop i = .int ((0 : Int) + (i : Nat)) :: (rng n).drop (i + 1) := by
  have hl : i < (rng n).length := by simpa [rng] using h
  rw [List.drop_eq_getElem_cons hl]
  simp [rng]
theorem rng_lt {n i : Nat} {x : D} {xs : List D} (e : x :: xs = (rng n).drop i) : i < n ∧ x = .int (i : Nat) ∧ xs = (rng n).drop (i + 1) := by
  have hlt : i < n := by
    rcases Nat.lt_or_ge i n with w | w
    · exact w
    · rw [List.drop_eq_nil_of_le (by simpa [rng] using w)] at e; cases e
  rw [rng_drop hlt] at e
  obtain ⟨rfl, rfl⟩ := List.cons.inj e
  exact ⟨hlt, by rw [Int.zero_add], rfl⟩
theorem rng_end {n i : Nat} (hi : i ≤ n) (e : [] = (rng n).drop i) : i = n := by
  rcases Nat.lt_or_ge i n with w | w
  · rw [rng_drop w] at e; cases e
  · omega
theorem forL_range {gd : Store → Prop} {g : D → Sl → Option Sl} {b : MS} (n : Nat) (I : Nat → Sl → Store → Prop) (Q : RS → Prop) (hg : ∀ i env s, i ≤ n → I i env s → gd s)
    (hs : ∀ i env s, i < n → I i env s → Turns (I (i + 1)) Q (turn g b (.int (i : Nat)) env s)) (he : ∀ env s, I n env s → Q (.nx env s)) {env : Sl} {s : Store} (h : I 0 env s) : Q (forL gd g b (rng n) env s) := by
  refine forL_rule (fun xs env s => ∃ i, i ≤ n ∧ xs = (rng n).drop i ∧ I i env s) Q (fun xs env s ⟨i, hi, _, q⟩ => hg i env s hi q) (fun x xs env s ⟨i, hi, e, q⟩ => ?_) (fun env s ⟨i, hi, e, q⟩ => ?_) ⟨0, Nat.zero_le _, rfl, h⟩
  · obtain ⟨hlt, rfl, rfl⟩ := rng_lt e
    have t1 := hs i env s hlt q
    cases hb : turn g b (.int (i : Nat)) env s with
    | nx env2 s2 => rw [hb] at t1; exact ⟨i + 1, hlt, rfl, t1⟩
    | ct env2 s2 => rw [hb] at t1; exact ⟨i + 1, hlt, rfl, t1⟩
    | bk env2 s2 => rw [hb] at t1; exact t1
    | rt d s2 => rw [hb] at t1; exact t1
    | ex x env2 s2 => rw [hb] at t1; exact t1
    | no => rw [hb] at t1; exact t1
  · have hlt := rng_end hi e
    subst hlt
    exact he env s q
theorem forL_rangeT {gd : Store → Prop} {g : D → Sl → Option Sl} {b : MS} (n : Nat) (I : Nat → Sl → Store → Prop) (hg : ∀ i env s, i ≤ n → I i env s → gd s)
    (hs : ∀ i env s, i < n → I i env s → Turns (I (i + 1)) (fun _ => False) (turn g b (.int (i : Nat)) env s)) {env : Sl} {s : Store} (h : I 0 env s) : ∃ env' s', forL gd g b (rng n) env s = .nx env' s' ∧ I n env' s' :=
  forL_range n I (fun r => ∃ env' s', r = .nx env' s' ∧ I n env' s') hg (fun i env s hi h => by
    have z := hs i env s hi h
    cases q : turn g b (.int (i : Nat)) env s with
    | nx env2 s2 => rw [q] at z; exact z
    | ct env2 s2 => rw [q] at z; exact z
    | bk env2 s2 => rw [q] at z; exact z.elim
    | rt d s2 => rw [q] at z; exact z.elim
    | ex e env2 s2 => rw [q] at z; exact z.elim
    | no => rw [q] at z; exact z.elim) (fun env s h => ⟨env, s, rfl, h⟩) h
/-! comprehensions -/
/-- one item: kept with its value, or not -/
def pick (g : D → Sl → Option Sl) (t : ME Bool) (e : ME D) (x : D) (env : Sl) (s : Store) : R (Option D) := match g x env with
  | none => .no
  | some env1 => (t env1 s).bind fun b s => if b then (e env1 s).bind fun y s => .ok (some y) s else .ok none s
@[simp] theorem pick_gN (i : Nat) (t : ME Bool) (e : ME D) (x : D) (env : Sl) (s : Store) : pick (gN i) t e x env s = (t (env.set i (some x)) s).bind fun b s => if b then (e (env.set i (some x)) s).bind fun y s => .ok (some y) s else .ok none s := rfl
@[simp] theorem pick_gT (n : Nat) (r) (t : ME Bool) (e : ME D) (xs : List D) (env : Sl) (s : Store) : pick (gT n r) t e (.tup xs) env s = match (if xs.length = n then r xs env else none) with
  | none => .no
  | some env1 => (t env1 s).bind fun b s => if b then (e env1 s).bind fun y s => .ok (some y) s else .ok none s := rfl
/-- what an item's end asks of the list so far -/
def Kept (I : List D → Store → Prop) (acc : List D) : R (Option D) → Prop
  | .ok (some y) s => acc.length ≤ 1000000 ∧ I (acc ++ [y]) s
  | .ok none s => I acc s
  | _ => False
@[simp] theorem Kept_some (I : List D → Store → Prop) (acc : List D) (y : D) (s : Store) : Kept I acc (.ok (some y) s) = (acc.length ≤ 1000000 ∧ I (acc ++ [y]) s) := rfl
@[simp] theorem Kept_none (I : List D → Store → Prop) (acc : List D) (s : Store) : Kept I acc (.ok none s) = I acc s := rfl
@[simp] theorem Kept_no (I : List D → Store → Prop) (acc : List D) : Kept I acc .no = False := rfl
theorem lcL_thru {gd : Store → Prop} {g : D → Sl → Option Sl} {t : ME Bool} {e : ME D} {env : Sl} (I : List D → List D → Store → Prop) (hg : ∀ xs acc s, I xs acc s → gd s)
    (hs : ∀ x xs acc s, I (x :: xs) acc s → Kept (I xs) acc (pick g t e x env s)) :
    ∀ {xs acc : List D} {s : Store}, I xs acc s → ∃ acc' s', lcL gd g t e env xs acc s = .ok acc' s' ∧ I [] acc' s' := by
  intro xs
  induction xs with
  | nil => intro acc s h; exact ⟨acc, s, lcL_nil env s gd (hg _ _ _ h) g t e acc, h⟩
  | cons x xs ih =>
    intro acc s h
    rw [lcL_cons env s gd (hg _ _ _ h)]
    have h1 := hs x xs acc s h
    unfold pick at h1
    cases e1 : g x env with
    | none => rw [e1] at h1; exact h1.elim
    | some env1 =>
      rw [e1] at h1
      dsimp only at h1 ⊢
      cases e2 : t env1 s with
      | no => rw [e2] at h1; exact h1.elim
      | ex x s => rw [e2] at h1; exact h1.elim
      | ok k s1 =>
        rw [e2] at h1
        simp only [R.bind_ok] at h1
        cases k with
        | false => simpa using ih (by simpa using h1)
        | true =>
          simp only [if_true] at h1 ⊢
          cases e3 : e env1 s1 with
          | no => rw [e3] at h1; exact h1.elim
          | ex x s => rw [e3] at h1; exact h1.elim
          | ok y s2 =>
            rw [e3] at h1
            obtain ⟨hz, h3⟩ := (show acc.length ≤ 1000000 ∧ I xs (acc ++ [y]) s2 from h1)
            have z := lt_line hz
            simp only [z, if_true]
            exact ih h3
/-- a comprehension that leaves the store as it is -/
theorem lcL_fm {β : Type} {gd : Store → Prop} {g : D → Sl → Option Sl} {t : ME Bool} {e : ME D} {env : Sl} {s : Store} (hg : gd s) (h : β → D) (f : β → Option D) :
    ∀ (xs : List β) (acc : List D), (∀ x ∈ xs, pick g t e (h x) env s = .ok (f x) s) → acc.length + xs.length ≤ 1000000 → lcL gd g t e env (xs.map h) acc s = .ok (acc ++ xs.filterMap f) s := by
  intro xs
  induction xs with
  | nil => intro acc _ _; rw [List.map_nil, lcL_nil env s gd hg]; simp
  | cons x xs ih =>
    intro acc hp hz
    rw [List.length_cons] at hz
    rw [List.map_cons, lcL_cons env s gd hg]
    have h1 := hp x (by simp)
    unfold pick at h1
    cases e1 : g (h x) env with
    | none => rw [e1] at h1; cases h1
    | some env1 =>
      rw [e1] at h1
      dsimp only at h1 ⊢
      cases e2 : t env1 s with
      | no => rw [e2] at h1; cases h1
      | ex x s => rw [e2] at h1; cases h1
      | ok k s1 =>
        rw [e2] at h1
        simp only [R.bind_ok] at h1
        cases k with
        | false =>
          simp at h1
          obtain ⟨h2, rfl⟩ := h1
          simp only [Bool.false_eq_true, if_false]
          rw [ih acc (fun y hy => hp y (by simp [hy])) (by omega), List.filterMap_cons, ← h2]
        | true =>
          simp only [if_true] at h1 ⊢
          cases e3 : e env1 s1 with
          | no => rw [e3] at h1; cases h1
          | ex x s => rw [e3] at h1; cases h1
          | ok y s2 =>
            rw [e3] at h1
            simp at h1
            obtain ⟨h2, rfl⟩ := h1
            have z : acc.length < sizeLine := lt_line (by omega)
            simp only [z, if_true]
            rw [ih (acc ++ [y]) (fun y hy => hp y (by simp [hy])) (by simp; omega), List.filterMap_cons, ← h2]
            simp
theorem lcL_map {β : Type} {gd : Store → Prop} {g : D → Sl → Option Sl} {t : ME Bool} {e : ME D} {env : Sl} {s : Store} (hg : gd s) (h : β → D) (f : β → D) (xs : List β)
    (hp : ∀ x ∈ xs, pick g t e (h x) env s = .ok (some (f x)) s) (hz : xs.length ≤ 1000000) : lcL gd g t e env (xs.map h) [] s = .ok (xs.map f) s := by
  have w := lcL_fm hg h (fun x => some (f x)) xs [] hp (by simpa using hz)
  rw [w]
  simp
theorem lcL_range {gd : Store → Prop} {g : D → Sl → Option Sl} {t : ME Bool} {e : ME D} {env : Sl} (n : Nat) (I : Nat → List D → Store → Prop) (hg : ∀ i acc s, i ≤ n → I i acc s → gd s)
    (hs : ∀ i acc s, i < n → I i acc s → Kept (I (i + 1)) acc (pick g t e (.int (i : Nat)) env s)) {acc : List D} {s : Store}
    (h : I 0 acc s) : ∃ acc' s', lcL gd g t e env (rng n) acc s = .ok acc' s' ∧ I n acc' s' := by
  obtain ⟨acc', s', h1, i, hi, e, h2⟩ := lcL_thru (gd := gd) (g := g) (t := t) (e := e) (env := env) (fun xs acc s => ∃ i, i ≤ n ∧ xs = (rng n).drop i ∧ I i acc s) (fun xs acc s ⟨i, hi, _, q⟩ => hg i acc s hi q) (fun x xs acc s ⟨i, hi, e, q⟩ => by
    obtain ⟨hlt, rfl, rfl⟩ := rng_lt e
    have z := hs i acc s hlt q
    cases hp : pick g t _ (.int (i : Nat)) env s with
    | no => rw [hp] at z; exact z
    | ex x s => rw [hp] at z; exact z
    | ok o s2 =>
      rw [hp] at z
      cases o with
      | none => exact ⟨i + 1, hlt, rfl, z⟩
      | some y => exact ⟨z.1, i + 1, hlt, rfl, z.2⟩) (xs := rng n) ⟨0, Nat.zero_le _, rfl, h⟩
  have hlt := rng_end hi e
  subst hlt
  exact ⟨acc', s', h1, h2⟩
/-- all ints -/
def Ints (xs : List D) : Prop := ∃ ns : List Int, xs = ns.map D.int
theorem cut_ints {xs : List D} (h : Ints xs) (lo hi : Option Int) : Ints (Mi.cutD xs lo hi) := by
  obtain ⟨ns, rfl⟩ := h
  unfold Mi.cutD
  exact ⟨_, by rw [← List.map_drop, ← List.map_take]⟩
theorem cut_len (xs : List D) (lo hi : Option Int) : (Mi.cutD xs lo hi).length ≤ xs.length := by
  unfold Mi.cutD
  simp
  omega
end Mi
namespace Mi
open PySem PySem.W PySem.Spec PySem.Calls PyProof.Rows L2
section
variable {prog : Program} {w : World} {A : Around} {E : Value → Shared → Prop} {s : Shared}
/-- the items of a tuple, collected -/
theorem tup_coll {t : Addr} {us : List Value} {R : List Value → Shared → Prop} (ht : IsTup s.heap t us.toArray) (hz : us.length ≤ sizeLine)
    (q : R us { s with heap := (s.heap.push (seqObj "list" #[] 0)).update s.heap.objs.size (Obj.mapSeq (· ++ us.toArray)) }) : wpAny (model prog w) A (collect (.ref t)) R E s := by
  obtain ⟨o, ho, hc, n, hd⟩ := ht
  have ho1 : (s.heap.push (seqObj "list" #[] 0)).get? t = some o := Heap.get?_push_of_some _ ho
  have hn1 : (s.heap.push (seqObj "list" #[] 0)).get? s.heap.objs.size = some (seqObj "list" #[] 0) := Heap.get?_push_size _ rfl
  have hT : (Value.type "tuple" == Value.type "tuple") = true := by rfl
  unfold collect
  refine wpAny_bind (wpAny_runValue (codeAny_builtin entry_proto_collect' ?_))
  show wpAny _ _ (do again (.builtin "list.__iadd__" ⟨[← newList [], .ref t], []⟩)) _ _ s
  refine wpAny_bind (wpAny_newList (wpAny_pure ⟨Code.quiet_builtin _ (by decide +kernel), ?_⟩))
  refine codeAny_builtin entry_list_iadd' ?_
  show wpAny _ _ (Builtin.List.listExtendWith (.ref s.heap.objs.size) (.ref t) (.ref s.heap.objs.size)) _ _ { s with heap := s.heap.push (seqObj "list" #[] 0) }
  unfold Builtin.List.listExtendWith
  refine wpAny_bind (wpAny_typeOf (T := "tuple") ⟨o, ho1, hc⟩ ?_)
  rw [if_pos (by rw [hT]; simp)]
  refine wpAny_bind (listItems_at ho1 hd (wpAny_bind (listItems_at (xs := #[]) (n := 0) hn1 rfl ?_)))
  rw [if_neg (by simp)]
  refine wpAny_bind (listUpdate_at (xs := #[]) (n := 0) hn1 rfl ?_ (Nat.zero_le _) (by rw [Array.size_append]; simp; have := sizeLine_eq; omega))
  refine wpAny_pure ?_
  refine wpAny_bind (wpAny_load (get?_update_seq hn1 _) ?_)
  have e : (((#[] : Array Value) ++ us.toArray).toList) = us := by simp
  show wpAny _ _ (pure ((#[] : Array Value) ++ us.toArray).toList) R E _
  rw [e]
  exact wpAny_pure q
/-- sorted(a tuple), by what sorts the new list -/
theorem tup_sorted {κ : _} {t : Addr} {us : List Value} {R : Value → Shared → Prop} (ht : IsTup s.heap t us.toArray) (hz : us.length ≤ sizeLine)
    (S : SortsAt prog w A.in1.in1 { s with heap := sortingHeap (copyHeap s.heap us) (s.heap.objs.size + 1) us } κ us)
    (q : R (.ref (s.heap.objs.size + 1)) { s with heap := sortedAll s.heap us (sortVals κ false us us).toArray }) : wpAny (model prog w) A (call (.builtin "sorted") [.ref t]) R E s := by
  have hs : ((s.heap.push (seqObj "list" #[] 0)).update s.heap.objs.size (Obj.mapSeq (· ++ us.toArray))).objs.size = s.heap.objs.size + 1 := by rw [Heap.size_update, size_push']
  refine call_function_entry_kw kind_sorted plain_sorted entry_sorted (args_sorted1 _) ?_
  unfold Builtin.«sorted»
  refine wpAny_bind (m := checkCount "sorted" 1 1 _) (wpAny_pure (wpAny_bind (tup_coll ht hz (wpAny_bind (wpAny_newList ?_ hz)))))
  show wpAny _ _ _ _ _ { s with heap := copyHeap s.heap us }
  rw [hs]
  refine wpAny_bind (wpAny_holding (wpAny_call_entry_kw slot_list_sort ⟨_, copyHeap_at s.heap us, rfl⟩ entry_list_sort ?body (args_list_sort _)))
  case body =>
    have b := list_sort_vals (s := { s with heap := copyHeap s.heap us }) (A := A.in1.in1) (E := E) (P := fun f s' => f = .done (.ret .none) ∧ R (.ref (s.heap.objs.size + 1)) s') (copyHeap_at s.heap us) S hz ⟨rfl, q⟩
    refine wpAny_mono b (fun f s' hf => ?_) fun _ _ e => e
    obtain ⟨rfl, hq⟩ := hf
    exact ⟨_, rfl, wpAny_pure ⟨_, rfl, hq⟩⟩
end
/-! ### sorted as a call -/
noncomputable def pyD (d : D) : PyData := (py0 d).getD .none
def rSortB (K : PySem.W.Frag) : List V → Hp → VK → Prop := fun vs H Q => ∃ (a : Addr) (bs : List (D × V)), vs = [.ref a] ∧ (SqL K H a (bs.map Prod.snd) ∨ SqT K H a (bs.map Prod.snd)) ∧ (∀ b ∈ bs, Dp K H b.2 (pyD b.1)) ∧
  AllAlike (bs.map fun b => pyD b.1) ∧ Sortable (bs.map fun b => pyD b.1) ∧ (∀ b ∈ bs, (pyD b.1).depth ≤ 60) ∧ ∀ p, H p = none → Q (.ref p) (upd H p (.lst ((bs.mergeSort (dataLe false fun b => pyD b.1)).map Prod.snd)))
theorem each_vals : ∀ {bs : List (D × V)} {us : List Value}, Vals (bs.map Prod.snd) us → EachIs (fun u b => RelV b.2 u) us bs
  | [], _, .nil => .nil
  | _ :: bs, _, .cons r t => .cons r (each_vals (bs := bs) t)
theorem vals_each : ∀ {bs : List (D × V)} {us : List Value}, EachIs (fun u b => RelV b.2 u) us bs → Vals (bs.map Prod.snd) us
  | [], _, .nil => .nil
  | _ :: bs, _, .cons r t => .cons r (vals_each (bs := bs) t)
theorem each_dp {X : Cx} {pins : List (Addr × Obj)} {σ : L2.St} {H : Hp} {s : Shared} (I : Inv X pins σ H s) : ∀ {bs : List (D × V)} {us : List Value}, (∀ b ∈ bs, Dp X.K H b.2 (pyD b.1)) → EachIs (fun u b => RelV b.2 u) us bs → EachIs (fun u b => ∃ as, Reads s.heap u (pyD b.1) as) us bs
  | [], _, _, .nil => .nil
  | b :: bs, _, h, .cons r t => .cons (Dp.reads I _ _ _ (h b (by simp)) r) (each_dp I (fun z hz => h z (by simp [hz])) t)
theorem cr_sortedB {X : Cx} (hu : X.A.units + 64 < cLine) : CallR X (.builtin "sorted") (rSortB X.K) := by
  intro pins s σ H vs us Q I r h
  obtain ⟨a, bs, rfl, hs, hd, hal, hk, hdep, q⟩ := h
  rw [Vals.ref1 r]
  have fin : ∀ (its out : List Value), its.length = bs.length → bs.length ≤ sizeLine → EachIs (fun u b => RelV b.2 u) out (bs.mergeSort (dataLe false fun b => pyD b.1)) → out.length = bs.length →
      ∃ v H', Inv X pins σ H' { s with heap := sortedAll s.heap its out.toArray } ∧ RelV v (Value.ref (s.heap.objs.size + 1)) ∧ Q v H' := fun its out h1 h2 h3 h4 => by
    obtain ⟨n, hn⟩ := sortedAll_at s.heap its out.toArray
    exact ⟨.ref _, upd H (s.heap.objs.size + 1) (.lst ((bs.mergeSort (dataLe false fun b => pyD b.1)).map Prod.snd)), I.laid (t' := s.toks) (fun _ _ => sortedAll_old) (Nat.le_succ _) ⟨by rw [List.length_map, List.length_mergeSort]; exact h2, out, n, vals_each h3, hn⟩, rfl, q _ (I.hok.fresh (Nat.le_succ _))⟩
  rcases hs with hs | hs
  · obtain ⟨its, rv, hl, hz⟩ := I.list hs
    have hL : bs.length ≤ sizeLine := by simpa using hz
    have e1 := each_vals rv
    refine sorted_data hl.isList e1 (each_dp I hd e1) hal hk hL (fun b hb => by have := hdep b hb; omega) fun out h1 h2 => ?_
    exact fin its out e1.length hL h2 h1
  · obtain ⟨its, rv, hl, hz⟩ := I.tuple hs
    have hL : bs.length ≤ sizeLine := by simpa using hz
    have e1 := each_vals rv
    have er := (each_dp I hd e1).mono fun _ _ ⟨as, z⟩ => (⟨as, PyProof.Rows.Reads.keeps (fun _ _ => sorting_copy_old) z⟩ : ∃ as, Reads (sortingHeap (copyHeap s.heap its) (s.heap.objs.size + 1) its) _ _ as)
    refine tup_sorted hl (by rw [e1.length]; exact hL) (SortsAt.data (A := X.A.in1.in1) (s := { s with heap := sortingHeap (copyHeap s.heap its) (s.heap.objs.size + 1) its }) (each_map (R := fun v d => ∃ as, Reads (sortingHeap (copyHeap s.heap its) (s.heap.objs.size + 1) its) v d as) (fun b : D × V => pyD b.1) er) hal hk (bound_map (enc := fun b : D × V => pyD b.1) (bs := bs) fun b hb => by have := hdep b hb; show X.A.units + 1 + 1 + (pyD b.1).depth < cLine; omega)) ?_
    exact fin its _ e1.length hL (sortVals_data false e1 er hal) (by rw [sortVals_length false rfl]; exact e1.length)
/-! ### its mirror -/
def sortOk (xs : List D) : Prop := (∀ d ∈ xs, (py0 d).isSome = true ∧ (pyD d).depth ≤ 60) ∧ AllAlike (xs.map pyD) ∧ Sortable (xs.map pyD)
noncomputable def sortD (xs : List D) : List D := xs.mergeSort (dataLe false pyD)
open Classical in
noncomputable def dSorted : List D → Store → Option (D × Store)
  | [x], s => (seqOf s x).bind fun xs => if sortOk xs then some (.loc s.length, s ++ [.lst (sortD xs)]) else none
  | _, _ => none
theorem zip_map1 {K : PySem.W.Frag} {m : List Addr} {H : Hp} : ∀ {xs : List D} {vs : List V}, Reps K m H xs vs → (xs.zip vs).map Prod.fst = xs ∧ (xs.zip vs).map Prod.snd = vs ∧ ∀ b ∈ xs.zip vs, Rep K m H b.1 b.2
  | [], _, .nil => ⟨rfl, rfl, fun _ h => by cases h⟩
  | x :: xs, _, .cons h r => by
    obtain ⟨a, b, c⟩ := zip_map1 r
    exact ⟨by simp [a], by simp [b], fun z hz => by
      rcases List.mem_cons.mp hz with e | e
      · rw [e]; exact h
      · exact c z e⟩
theorem reps_map {K : PySem.W.Frag} {m : List Addr} {H : Hp} : ∀ {bs : List (D × V)}, (∀ b ∈ bs, Rep K m H b.1 b.2) → Reps K m H (bs.map Prod.fst) (bs.map Prod.snd)
  | [], _ => .nil
  | b :: bs, h => .cons (h b (by simp)) (reps_map fun z hz => h z (by simp [hz]))
theorem fns_sorted {K : PySem.W.Frag} : FnS K (rSortB K) dSorted := by
  intro mg W σ m H s xs ds Q r p g
  unfold dSorted at g
  split at g
  · obtain ⟨v, rfl, h⟩ := reps1 p
    rename_i x
    cases q : seqOf s x with
    | none => rw [q] at g; exact g.elim
    | some ys =>
      rw [q] at g
      simp only [Option.bind_some] at g
      split at g
      · rename_i ok
        have g' : G K mg (Rep K) W σ m H Q (.ok (.loc s.length) (s ++ [.lst (sortD ys)])) := g
        obtain ⟨a, vs, rfl, hq, rr⟩ := seqOf_sq r h q
        obtain ⟨z1, z2, z3⟩ := zip_map1 rr
        have e1 : ((ys.zip vs).map fun b => pyD b.1) = ys.map pyD := by
          conv => rhs; rw [← z1, List.map_map]
          rfl
        have z4 : ∀ b ∈ ys.zip vs, b.1 ∈ ys := fun b hb => by
          have := List.mem_map.mpr ⟨b, hb, (rfl : b.1 = b.1)⟩
          rw [z1] at this
          exact this
        refine ⟨a, ys.zip vs, rfl, by rw [z2]; exact hq, fun b hb => ?_, by rw [e1]; exact ok.2.1, by rw [e1]; exact ok.2.2, fun b hb => (ok.1 _ (z4 b hb)).2, fun l hl => ?_⟩
        · obtain ⟨w1, _⟩ := ok.1 _ (z4 b hb)
          obtain ⟨pd, hp⟩ := Option.isSome_iff_exists.mp w1
          have := py0_dp (z3 b hb) hp
          unfold pyD
          rw [hp]
          exact this
        · have e2 : sortD ys = ((ys.zip vs).mergeSort (dataLe false fun b => pyD b.1)).map Prod.fst := by
            rw [List.map_mergeSort (r := dataLe false fun b : D × V => pyD b.1) (s := dataLe false pyD) (fun _ _ _ _ => rfl), z1]
            rfl
          rw [e2] at g'
          refine g' (m ++ [l]) _ _ (le_more r hl) (rel_newlist r hl (reps_map fun b hb => z3 b ?_)) (.loc (len_get r))
          exact (List.mergeSort_perm _ _).mem_iff.mp hb
      · exact g.elim
  · exact g.elim
end Mi
namespace HT
open PySem PySem.Spec PyProof.Rows
section
variable {prog : Program} {w : World} {A : Around} {E : Value → Shared → Prop} {s : Shared}
theorem rev_pick (xs : Array Value) : ((List.range xs.size).filterMap fun (m : Nat) => xs[((xs.size : Int) - 1 + (m : Int) * (-1)).toNat]?).toArray = xs.toList.reverse.toArray := by
  have q := PySem.W.krv_pick xs
  unfold slicePick at q
  rw [PySem.W.krv_bounds] at q
  have q' : ((sliceRange ((xs.size : Int) - 1) (-1) (-1)).filterMap (xs[·]?)).toArray = xs.toList.reverse.toArray := q
  rw [PySem.W.krv_sliceRange, List.filterMap_map] at q'
  rw [← q']
  refine congrArg List.toArray (congrArg (fun f => List.filterMap f (List.range xs.size)) (funext fun m => ?_))
  show xs[_]? = xs[_]?
  refine congrArg (fun i : Nat => xs[i]?) ?_
  show ((xs.size : Int) - 1 + (m : Int) * (-1)).toNat = xs.size - 1 - m
  omega
theorem sliced_back {sl : Addr} {vl vu vs : Value} {n : Nat} {R : Int × Int × Nat → Shared → Prop} (hs : s.heap.IsSliceOf sl vl vu vs) (pl : IsPart vl none) (pu : IsPart vu none) (ps : IsPart vs (some (-1)))
    (q : R ((n : Int) - 1, -1, n) s) : wpAny (model prog w) A (Builtin.Slice.sliceApplied (.ref sl) (pure (n : Int))) R E s := by
  obtain ⟨os, hos, hcs, hds⟩ := id hs
  have e : Builtin.Slice.slicePlaces ((n : Int) - 1) (-1) (-1) = n := by
    unfold Builtin.Slice.slicePlaces
    rw [if_neg (by omega)]
    by_cases c : (n : Int) - 1 > -1
    · rw [if_pos c]
      simp
    · rw [if_neg c]
      omega
  unfold Builtin.Slice.sliceApplied Builtin.Slice.sliceFields
  refine wpAny_bind (wpAny_bind (wpAny_field hos hds (x := vl) rfl (wpAny_bind (wpAny_field hos hds (x := vu) rfl (wpAny_bind (wpAny_field hos hds (x := vs) rfl (wpAny_pure ?_)))))))
  refine wpAny_bind (slicePart_ ps ?_)
  show wpAny _ _ (if ((-1 : Int) == 0) = true then _ else _) _ _ s
  rw [if_neg (by decide)]
  refine wpAny_bind (slicePart_ pl (wpAny_bind (slicePart_ pu (wpAny_bind (wpAny_pure ?_)))))
  show wpAny _ _ (pure ((n : Int) - 1, (-1 : Int), Builtin.Slice.slicePlaces ((n : Int) - 1) (-1) (-1))) _ _ s
  rw [e]
  exact wpAny_pure q
theorem tup_back {t sl : Addr} {items : Array Value} {vl vu vs : Value} {R : Value → Shared → Prop} (ht : IsTup s.heap t items) (hs : s.heap.IsSliceOf sl vl vu vs) (pl : IsPart vl none) (pu : IsPart vu none) (ps : IsPart vs (some (-1)))
    (hz : items.size ≤ sizeLine) (h : R (.ref s.heap.objs.size) { s with heap := s.heap.push { cls := .type "tuple", data := .seq items.toList.reverse.toArray } }) : wpAny (model prog w) A (getItem (.ref t) (.ref sl)) R E s := by
  have room : sizeOk (.seq items.toList.reverse.toArray) := by
    show items.toList.reverse.toArray.size ≤ sizeLine
    rw [List.size_toArray, List.length_reverse]
    exact hz
  obtain ⟨os, hos, hcs, hds⟩ := id hs
  have hT : s.TypeIs (.ref sl) "slice" := ⟨os, hos, hcs⟩
  unfold getItem
  try with_reducible refine wpAny_holding ?_
  first | refine wpAny_bind (wpAny_pure ?_) | skip
  refine wpAny_bind (wpAny_sequenceKey ht.typeIs (by decide) ?_)
  refine wpAny_bind (wpAny_callSpecial?_slot (name := Str.ofString "__getitem__") ht.typeIs PyProof.Rows.slot_tuple_getitem (wpAny_call_entry PyProof.Rows.slot_tuple_getitem ht.typeIs entry_tuple_getitem ?_ (args_tuple_getitem _ _)))
  show wpAny _ _ (Builtin.Tuple.tupleItemsOf (.ref t) >>= _) _ _ s
  refine wpAny_bind (tupleItemsOf_ ht (wpAny_bind (wpAny_typeOf hT ?_)))
  rw [if_pos (by decide)]
  refine wpAny_bind (sliced_back hs pl pu ps ?_)
  show wpAny _ _ (if ((((items.size : Int) - 1) == 0 && (-1 : Int) == 1 && items.size == items.size) = true) then _ else _) _ _ s
  rw [if_neg (by simp), rev_pick]
  first
    | exact wpAny_bind (m := Builtin.Tuple.tupleExact _) (wpAny_newObj_type (wpAny_pure ⟨_, rfl, wpAny_pure h⟩) room)
    | exact wpAny_bind (m := Builtin.Tuple.tupleExact _) (wpAny_newObj_type (wpAny_bind (wpAny_pure (wpAny_pure ⟨_, rfl, wpAny_pure h⟩))) room)
    | exact wpAny_bind (wpAny_bind (m := Builtin.Tuple.tupleExact _) (wpAny_newObj_type (wpAny_pure (wpAny_pure ⟨_, rfl, wpAny_pure h⟩)) room))
    | exact wpAny_bind (wpAny_bind (m := Builtin.Tuple.tupleExact _) (wpAny_newObj_type (wpAny_pure ⟨_, rfl, wpAny_pure h⟩) room))
end
end HT
namespace Mi
open PySem PySem.Spec PyProof.Rows L2
/-- a[::-1], a list or a tuple -/
def tBack (K : PySem.W.Frag) (te : TE) : TE := fun σ H Q => te σ H fun x H1 => ∃ a xs, x = .ref a ∧ ((SqL K H1 a xs ∧ ∀ p, H1 p = none → Q (.ref p) (upd H1 p (.lst xs.reverse))) ∨ (SqT K H1 a xs ∧ ∀ p, H1 p = none → Q (.ref p) (upd H1 p (.tup xs.reverse))))
theorem pe_back {X : Cx} {e : Expr} {te : TE} {k : Nat} {p1 p2 p3 pos : Pos} (he : PE X e te) : PE X (.Subscript e (.Slice none none (some (.UnaryOp .USub (.Constant (.int 1) k p1) p2)) p3) pos) (tBack X.K te) := by
  refine ⟨fun pins s σ H Q I h => Subscript_ (thn (he.run pins s σ H _ I h) fun v s1 ⟨x, H1, I1, r1, a, xs, ex, q⟩ => ?_)⟩
  subst ex
  cases r1
  have step : PO X (some (.UnaryOp .USub (.Constant (.int 1) k p1) p2)) (tPart (tUn (rU fun i => .int (-i)) (tC (.int 1)))) := po_some (pe_un un_neg pe_int)
  refine wpAny_Slice (thn (po_none.run pins s1 σ H1 (fun o H2 => o = none ∧ H2 = H1) I1 ⟨rfl, rfl⟩) fun vl s2 ⟨l, H2, I2, pl, el, e2⟩ => ?_)
  cases el
  cases e2
  refine thn (po_none.run pins s2 σ H1 (fun o H3 => o = none ∧ H3 = H1) I2 ⟨rfl, rfl⟩) fun vu s3 ⟨u, H3, I3, pu, eu, e3⟩ => ?_
  cases eu
  cases e3
  refine thn (step.run pins s3 σ H1 (fun o H4 => o = some (-1) ∧ H4 = H1) I3 ⟨1, rfl, -1, rfl, rfl, rfl⟩) fun vs s4 ⟨o, H4, I4, ps, eo, e4⟩ => ?_
  cases eo
  cases e4
  have I5 : Inv X pins σ H1 { s4 with heap := s4.heap.push { cls := .type "slice", data := .fields #[vl, vu, vs] } } := I4.kept (t' := s4.toks) fun b ob q => Heap.get?_push_of_some _ q
  show wpAny (model X.prog X.w) X.A (subscriptTail e (.Slice none none (some (.UnaryOp .USub (.Constant (.int 1) k p1) p2)) p3) (.ref a) (.ref s4.heap.objs.size)) (EP X pins σ Q) X.xe { s4 with heap := s4.heap.push { cls := .type "slice", data := .fields #[vl, vu, vs] } }
  rcases q with ⟨hx, q⟩ | ⟨hx, q⟩
  · obtain ⟨its, r, ht, hz⟩ := I5.list hx
    have hlen := r.length
    refine tail_any (ops := [.ref a, .ref s4.heap.objs.size]) ht.isList.typeIs (PySem.slot_list_getitem.lookup) ?_ (by with_unfolding_all rfl)
    refine wpAny_getItem_list_slice ht.isList (Heap.IsSliceOf.new _ vl vu vs) pl pu ps (by decide) ?_ (by rw [List.size_toArray]; omega)
    rw [PySem.W.krv_pick]
    refine ⟨.ref _, _, I5.laid (t' := s4.toks) (o := .lst xs.reverse) (fun b ob q => Heap.get?_push_of_some _ q) (Nat.le_refl _) ?_, rfl, q _ (I5.hok.fresh (Nat.le_refl _))⟩
    exact ⟨by rw [List.length_reverse]; exact hz, _, 0, r.reverse, Heap.get?_push_size _ rfl⟩
  · obtain ⟨its, r, ht, hz⟩ := I5.tuple hx
    have hlen := r.length
    refine tail_any (ops := [.ref a, .ref s4.heap.objs.size]) ht.typeIs (PyProof.Rows.slot_tuple_getitem.lookup) ?_ (by with_unfolding_all rfl)
    refine HT.tup_back ht (Heap.IsSliceOf.new _ vl vu vs) pl pu ps (by rw [List.size_toArray]; omega) ?_
    refine ⟨.ref _, _, I5.laid (t' := s4.toks) (o := .tup xs.reverse) (fun b ob q => Heap.get?_push_of_some _ q) (Nat.le_refl _) ?_, rfl, q _ (I5.hok.fresh (Nat.le_refl _))⟩
    exact ⟨by rw [List.length_reverse]; exact hz, _, r.reverse, IsTup.new _ _⟩
def dRev (x : D) (s : Store) : Option (D × Store) := match x with
  | .tup xs => some (.tup xs.reverse, s)
  | x => (lstOf s x).map fun xs => (.loc s.length, s ++ [.lst xs.reverse])
theorem Reps.rev {K : PySem.W.Frag} {m : List Addr} {H : Hp} {xs : List D} {vs : List V} (h : Reps K m H xs vs) : Reps K m H xs.reverse vs.reverse := by
  obtain ⟨a, b, c⟩ := zip_map1 h
  have q := reps_map (bs := (xs.zip vs).reverse) fun z hz => c z (List.mem_reverse.mp hz)
  rw [List.map_reverse, List.map_reverse, a, b] at q
  exact q
section
variable {X : Cx} {W : WX} {pos p1 p2 p3 : Pos} {k : Nat} {a : Expr} {fa : ME D}
theorem ce_back (ha : PE X a (Te X.K X.mg W fa)) : PE X (.Subscript a (.Slice none none (some (.UnaryOp .USub (.Constant (.int 1) k p1) p2)) p3) pos) (Te X.K X.mg W (e1 dRev fa)) :=
  PE.imp (pe_back ha) fun σ H Q h => Tm.bind (k := fun env x s => R.of (dRev x s)) h fun m1 H1 env x v s1 r1 E1 p g1 => by
    have gen : (∀ ys, x ≠ .tup ys) → ∃ a xs, v = .ref a ∧ ((SqL X.K H1 a xs ∧ ∀ p, H1 p = none → Q (.ref p) (upd H1 p (.lst xs.reverse))) ∨ (SqT X.K H1 a xs ∧ ∀ p, H1 p = none → Q (.ref p) (upd H1 p (.tup xs.reverse)))) := by
      intro hn
      have e : dRev x s1 = (lstOf s1 x).map fun xs => (.loc s1.length, s1 ++ [.lst xs.reverse]) := by
        cases x <;> first | rfl | exact (hn _ rfl).elim
      rw [e] at g1
      cases q : lstOf s1 x with
      | none => rw [q] at g1; exact g1.elim
      | some xs =>
        rw [q] at g1
        have g2 : G X.K X.mg (Rep X.K) W σ m1 H1 Q (.ok (.loc s1.length) (s1 ++ [.lst xs.reverse])) := g1
        obtain ⟨a, vs, rfl, hq, rr⟩ := lstOf_sq r1 p q
        exact ⟨a, vs, rfl, .inl ⟨hq, fun l hl => g2 (m1 ++ [l]) _ _ (le_more r1 hl) (rel_newlist r1 hl rr.rev) (.loc (len_get r1))⟩⟩
    cases x with
    | tup xs =>
      obtain ⟨a, vs, rfl, hq, rr⟩ := p.sqT
      have g2 : G X.K X.mg (Rep X.K) W σ m1 H1 Q (.ok (.tup xs.reverse) s1) := g1
      exact ⟨a, vs, rfl, .inr ⟨hq, fun l hl => g2 m1 _ _ (le_new hl) (r1.tmp hl) (rep_newtup hl rr.rev)⟩⟩
    | _ => exact gen (fun _ h => nomatch h)
end
end Mi
namespace Mi
open PySem PySem.Spec PyProof.Rows L2
section
variable {K : PySem.W.Frag}
theorem reps3 {m : List Addr} {H : Hp} {d e f : D} {xs : List V} (p : Reps K m H [d, e, f] xs) : ∃ u v w, xs = [u, v, w] ∧ Rep K m H d u ∧ Rep K m H e v ∧ Rep K m H f w := by
  cases p with
  | cons h r =>
    obtain ⟨v, w, rfl, h2, h3⟩ := reps2 r
    exact ⟨_, v, w, rfl, h, h2, h3⟩
/-! #### min, max of three -/
def dMax3 : List D → Store → Option (D × Store)
  | [.int i, .int j, .int k], s => some (.int (max (max i j) k), s)
  | _, _ => none
def dMin3 : List D → Store → Option (D × Store)
  | [.int i, .int j, .int k], s => some (.int (min (min i j) k), s)
  | _, _ => none
theorem nu_lt (i j : Int) : nuLt (.int i) (.int j) = some (decide (i < j)) := rfl
theorem nu_max (i j : Int) : nuMax2 (.int i) (.int j) = some (.int (max i j)) := by
  show (nuLt (.int i) (.int j)).map _ = _
  rw [nu_lt, Option.map_some]
  by_cases c : i < j
  · simp [c, Int.max_def, Int.le_of_lt c]
  · simp [c, Int.max_def]
    omega
theorem nu_min (i j : Int) : nuMin2 (.int i) (.int j) = some (.int (min i j)) := by
  show (nuLt (.int j) (.int i)).map _ = _
  rw [nu_lt, Option.map_some]
  by_cases c : j < i
  · simp [c, Int.min_def]
    omega
  · simp [c, Int.min_def]
theorem fns_max3 : FnS K (rNuC3 nuMax3) dMax3 := by
  intro mg W σ m H s xs ds Q r p g
  unfold dMax3 at g
  split at g
  · obtain ⟨u, v, w, rfl, h, h2, h3⟩ := reps3 p
    cases h; cases h2; cases h3
    exact ⟨_, _, _, _, rfl, by rw [nuMax3, nu_max, Option.bind_some, nu_max], g.now r (.int _)⟩
  · exact g.elim
theorem fns_min3 : FnS K (rNuC3 nuMin3) dMin3 := by
  intro mg W σ m H s xs ds Q r p g
  unfold dMin3 at g
  split at g
  · obtain ⟨u, v, w, rfl, h, h2, h3⟩ := reps3 p
    cases h; cases h2; cases h3
    exact ⟨_, _, _, _, rfl, by rw [nuMin3, nu_min, Option.bind_some, nu_min], g.now r (.int _)⟩
  · exact g.elim
/-! #### min, max of a list of ints -/
def dMaxL : List D → Store → Option (D × Store)
  | [x], s => (lstOf s x).bind fun xs => (intsOf xs).bind fun ns => ns.max?.map fun z => (.int z, s)
  | _, _ => none
def dMinL : List D → Store → Option (D × Store)
  | [x], s => (lstOf s x).bind fun xs => (intsOf xs).bind fun ns => ns.min?.map fun z => (.int z, s)
  | _, _ => none
theorem fns_maxL : FnS K (rMax K) dMaxL := by
  intro mg W σ m H s xs ds Q r p g
  unfold dMaxL at g
  split at g
  · obtain ⟨v, rfl, h⟩ := reps1 p
    rename_i x
    cases q : lstOf s x with
    | none => rw [q] at g; exact g.elim
    | some ys =>
      rw [q, Option.bind_some] at g
      cases q2 : intsOf ys with
      | none => rw [q2] at g; exact g.elim
      | some ns =>
        rw [q2, Option.bind_some] at g
        cases q3 : ns.max? with
        | none => rw [q3] at g; exact g.elim
        | some z =>
          rw [q3] at g
          obtain ⟨a, vs, rfl, hq, rr⟩ := lstOf_sq r h q
          rw [of_intsOf q2] at rr
          have e := rr.ints
          subst e
          obtain ⟨z1, z2⟩ := List.max?_eq_some_iff.mp q3
          refine ⟨a, ns, rfl, hq, List.length_pos_iff_exists_mem.mpr ⟨z, z1⟩, fun y h1 h2 => ?_⟩
          have e : y = z := Int.le_antisymm (z2 y h1) (h2 z z1)
          rw [e]
          exact G.now (d := D.int z) g r (.int _)
  · exact g.elim
theorem fns_minL : FnS K (rMin K) dMinL := by
  intro mg W σ m H s xs ds Q r p g
  unfold dMinL at g
  split at g
  · obtain ⟨v, rfl, h⟩ := reps1 p
    rename_i x
    cases q : lstOf s x with
    | none => rw [q] at g; exact g.elim
    | some ys =>
      rw [q, Option.bind_some] at g
      cases q2 : intsOf ys with
      | none => rw [q2] at g; exact g.elim
      | some ns =>
        rw [q2, Option.bind_some] at g
        cases q3 : ns.min? with
        | none => rw [q3] at g; exact g.elim
        | some z =>
          rw [q3] at g
          obtain ⟨a, vs, rfl, hq, rr⟩ := lstOf_sq r h q
          rw [of_intsOf q2] at rr
          have e := rr.ints
          subst e
          obtain ⟨z1, z2⟩ := List.min?_eq_some_iff.mp q3
          refine ⟨a, ns, rfl, hq, List.length_pos_iff_exists_mem.mpr ⟨z, z1⟩, fun y h1 h2 => ?_⟩
          have e : y = z := Int.le_antisymm (h2 z z1) (z2 y h1)
          rw [e]
          exact G.now (d := D.int z) g r (.int _)
  · exact g.elim
end
end Mi
namespace Mi
open PySem PySem.Spec PyProof.Rows L2
/-! ### a while by an invariant and a measure -/
theorem whileN_more {c : ME Bool} {b : MS} : ∀ {n : Nat} {env : Sl} {s : Store}, whileN c b n env s ≠ .no → whileN c b (n + 1) env s = whileN c b n env s := by
  intro n
  induction n with
  | zero => intro env s h; exact (h rfl).elim
  | succ n ih =>
    intro env s h
    unfold whileN at h ⊢
    cases e : c env s with
    | no => rfl
    | ex x s1 => rfl
    | ok k s1 =>
      rw [e] at h
      cases k with
      | false => rfl
      | true =>
        simp only [R.then, if_true] at h ⊢
        cases e2 : b env s1 with
        | nx env2 s2 => rw [e2] at h; exact ih h
        | ct env2 s2 => rw [e2] at h; exact ih h
        | bk env2 s2 => rfl
        | rt d s2 => rfl
        | ex x env2 s2 => rfl
        | no => rfl
theorem whileN_add {c : ME Bool} {b : MS} {n : Nat} {env : Sl} {s : Store} (h : whileN c b n env s ≠ .no) : ∀ k, whileN c b (n + k) env s = whileN c b n env s
  | 0 => rfl
  | k + 1 => by
    have q := whileN_add h k
    rw [← q] at h
    rw [← Nat.add_assoc, whileN_more h, q]
theorem whileN_one {c : ME Bool} {b : MS} {n m : Nat} {env : Sl} {s : Store} (h : whileN c b n env s ≠ .no) (h2 : whileN c b m env s ≠ .no) : whileN c b n env s = whileN c b m env s := by
  rw [← whileN_add h m, ← whileN_add h2 n, Nat.add_comm]
theorem sWhile_of {c : ME Bool} {b : MS} {n : Nat} {env : Sl} {s : Store} (h : whileN c b n env s ≠ .no) : sWhile c b env s = whileN c b n env s := by
  have z : ∃ n, whileN c b n env s ≠ .no := ⟨n, h⟩
  unfold sWhile
  rw [dif_pos z]
  exact whileN_one (Classical.choose_spec z) h
/-- one turn's promise -/
theorem while_rule {c : ME Bool} {b : MS} (I : Nat → Sl → Store → Prop) (Q : RS → Prop) (no : ¬ Q .no)
    (hs : ∀ n env s, I n env s → (∃ s', c env s = .ok false s' ∧ Q (.nx env s')) ∨ (∃ s', c env s = .ok true s' ∧ Turns (fun env s => ∃ m, m < n ∧ I m env s) Q (b env s'))) {n : Nat} {env : Sl} {s : Store} (h : I n env s) : Q (sWhile c b env s) := by
  have key : ∀ n env s, I n env s → ∃ k, Q (whileN c b k env s) := by
    intro n
    induction n using Nat.strongRecOn with
    | ind n ih =>
      intro env s h
      rcases hs n env s h with ⟨s', e, q⟩ | ⟨s', e, q⟩
      · refine ⟨1, ?_⟩
        unfold whileN
        rw [e]
        exact q
      · cases e2 : b env s' with
        | nx env2 s2 =>
          rw [e2] at q
          obtain ⟨m, hm, hi⟩ := q
          obtain ⟨k, hk⟩ := ih m hm env2 s2 hi
          refine ⟨k + 1, ?_⟩
          unfold whileN
          simp only [e, R.then, if_true, e2]
          exact hk
        | ct env2 s2 =>
          rw [e2] at q
          obtain ⟨m, hm, hi⟩ := q
          obtain ⟨k, hk⟩ := ih m hm env2 s2 hi
          refine ⟨k + 1, ?_⟩
          unfold whileN
          simp only [e, R.then, if_true, e2]
          exact hk
        | bk env2 s2 =>
          rw [e2] at q
          refine ⟨1, ?_⟩
          unfold whileN
          simp only [e, R.then, if_true, e2]
          exact q
        | rt d s2 =>
          rw [e2] at q
          refine ⟨1, ?_⟩
          unfold whileN
          simp only [e, R.then, if_true, e2]
          exact q
        | ex x env2 s2 =>
          rw [e2] at q
          refine ⟨1, ?_⟩
          unfold whileN
          simp only [e, R.then, if_true, e2]
          exact q
        | no => rw [e2] at q; exact q.elim
  obtain ⟨k, hk⟩ := key n env s h
  have nn : whileN c b k env s ≠ .no := fun e => no (e ▸ hk)
  rw [sWhile_of nn]
  exact hk
/-! ### name op= e -/
@[simp] theorem sAug_eq (i : Nat) (g : D → D → Store → Option (D × Store)) (e : ME D) (env : Sl) (s : Store) : sAug i g e env s = match env[i]? with
  | some (some x) => (e env s).then env fun y s => match g x y s with
    | some (z, s') => .nx (env.set i (some z)) s'
    | none => .no
  | _ => .no := rfl
@[simp] theorem dAddI_int (i j : Int) (s : Store) : dAddI (.int i) (.int j) s = some (.int (i + j), s) := rfl
/-! ### a value's truth -/
open Classical in
noncomputable def dTru (s : Store) : D → Option Bool
  | .non => some false
  | .bl b => some b
  | .int i => some (i != 0)
  | .str y => if y.length ≤ sizeLine then some ((y.length : Int) != 0) else none
  | .tup xs => some (!xs.isEmpty)
  | .fl xs => some (!xs.isEmpty)
  | .loc l => match s[l]? with
    | some (.lst xs) => some (!xs.isEmpty)
    | some (.dic ks) => some (!ks.isEmpty)
    | _ => none
  | .exv _ _ _ _ => none
theorem reps_empty {K : PySem.W.Frag} {m : List Addr} {H : Hp} {xs : List D} {vs : List V} (h : Reps K m H xs vs) : xs.isEmpty = vs.isEmpty := by
  cases h <;> rfl
theorem repk_empty {K : PySem.W.Frag} {m : List Addr} {H : Hp} {xs : List (Key × D)} {vs : List (Key × V)} (h : RepK K m H xs vs) : xs.isEmpty = vs.isEmpty := by
  cases h <;> rfl
theorem dTru_ok {K : PySem.W.Frag} {m : List Addr} {H : Hp} {s : Store} (r : Rel K m H s) {d : D} {v : V} {k : Bool} (p : Rep K m H d v) (e : dTru s d = some k) : TruV K v H k := by
  cases p with
  | non => cases e; rfl
  | bl b => cases e; rfl
  | int i => cases e; rfl
  | str y =>
    by_cases hz : y.length ≤ sizeLine
    · simp only [dTru, if_pos hz] at e
      cases e
      exact ⟨hz, rfl⟩
    · simp only [dTru, if_neg hz] at e
      cases e
  | tup h q => have e' := Option.some.inj e; subst e'; exact .inr (.inl ⟨_, .inl (.inl h), by rw [reps_empty q]⟩)
  | fl h q => cases e; exact .inl ⟨_, h.sq, by rw [reps_empty q]⟩
  | @loc l a h =>
    unfold dTru at e
    cases q : s[l]? with
    | none => simp [q] at e
    | some c =>
      cases c with
      | lst xs =>
        simp only [q] at e
        cases e
        obtain ⟨vs, q1, p1⟩ := r.list h q
        exact .inl ⟨vs, .inl (.inl q1), by rw [reps_empty p1]⟩
      | dic ks =>
        simp only [q] at e
        cases e
        obtain ⟨ws, q1, p1⟩ := r.at_ l a _ h q
        exact .inr (.inr ⟨ws, q1, by rw [repk_empty p1]⟩)
      | dct _ => simp [q] at e
  | exv => cases e
noncomputable def tTru (a : ME D) : ME Bool := fun env s => (a env s).bind fun x s => match dTru s x with
  | some b => .ok b s
  | none => .no
section
variable {X : Cx} {W : WX} {a : Expr} {fa : ME D}
theorem ct_tru (ha : PE X a (Te X.K X.mg W fa)) (he : ∀ whole, isTrue a X.env whole = (do let v ← whole; standAt a.pos; holding [v] (truthy v)) := by intro _; rfl) : PT X a (Tt X.K X.mg W (tTru fa)) :=
  PT.imp (pt_truth ha he) fun σ H Q h => Tm.bind (k := fun _ x s => match dTru s x with | some b => R.ok b s | none => R.no) h fun m1 H1 env x v s1 r1 E1 p1 g1 => by
    cases q : dTru s1 x with
    | none => rw [q] at g1; exact g1.elim
    | some k => rw [q] at g1; exact ⟨k, dTru_ok r1 p1 q, g1.nowB r1⟩
end
@[simp] theorem tTru_eq (a : ME D) (env : Sl) (s : Store) : tTru a env s = (a env s).bind fun x s => match dTru s x with | some b => .ok b s | none => .no := rfl
@[simp] theorem dTru_bl (s : Store) (b : Bool) : dTru s (.bl b) = some b := rfl
@[simp] theorem dTru_non (s : Store) : dTru s .non = some false := rfl
@[simp] theorem dTru_tup (s : Store) (xs : List D) : dTru s (.tup xs) = some (!xs.isEmpty) := rfl
theorem dTru_loc {s : Store} {l : Nat} {xs : List D} (h : s[l]? = some (.lst xs)) : dTru s (.loc l) = some (!xs.isEmpty) := by simp [dTru, h]
/-! ### the last place -/
@[simp] theorem atI_neg1 (xs : List D) (y : D) : atI (xs ++ [y]) (-1) = some y := L2.atI_last xs y
theorem pList_last {s : Store} {l : Nat} {xs : List D} {y : D} (h : s[l]? = some (.lst (xs ++ [y]))) (z : D) : pList (.loc l) (.int (-1)) z s = some (s.set l (.lst (xs ++ [z]))) := by
  have e : ixN (xs ++ [y]).length (-1) = some xs.length := by
    unfold ixN
    simp
    omega
  have e' : ixN (xs.length + 1) (-1) = some xs.length := by simpa using e
  simp [pList, h]
  exact ⟨xs.length, e', by simp⟩
end Mi
namespace Mi
open PySem PySem.Spec PyProof.Rows L2
/-! ### raise C(e, ..), C with an __init__ that stores its parameters -/
def sRaise (c : Str) (ns : List Str) (a : ME (List D)) : MS := fun env s => (a env s).then env fun xs s => if xs.length = ns.length then .ex ⟨c, (ns.zip xs).reverse⟩ env s else .no
/-- what __init__(self, p) of one field leaves -/
def spI1 (C : Addr) (f : Str) : Sp := fun vs H Q _ => ∃ a y, vs = [.ref a, y] ∧ H a = some (exo a C none) ∧ ∀ dx, H dx = none → dx ≠ a → Q .non (upd (upd H dx (exd dx [(f, y)])) a (exo a C (some dx)))
def spI2 (C : Addr) (f g : Str) : Sp := fun vs H Q _ => ∃ a y z, vs = [.ref a, y, z] ∧ H a = some (exo a C none) ∧ ∀ dx, H dx = none → dx ≠ a → Q .non (upd (upd (upd H dx (exd dx [(f, y)])) a (exo a C (some dx))) dx (exd dx [(g, z), (f, y)]))
section
variable {P : Program} {w : World} {K : PySem.W.Frag} {mg : Str → Option Value} {base : Heap} {x qual : Str} {st : Stmt} {fi C : Addr} {fd : FuncData} {N ps : List Str} {f g : Str}
theorem okI1 (F : Fun K x qual st fi fd) (S : FnScope N ps (defScope st)) (hN : N.length = 2) (hn : ps.length = 2) (T : OexC K C) (no : PySem.W.findIn K (.ref C) f = some none)
    (hb : ∀ (cdv : Value) (A : Around) (outer : List Env) (s : Shared) (H : Hp) (E : XK), PSs (cxOf (L2.CX P w) P w K mg base N qual (defScope st) fi cdv A outer s H E) (defBody st) (tOst K f (tVar 0) (tVar 1))) : FnOk P w K mg base (L2.CX P w) 1 fi fd ps (spI1 C f) := by
  refine F.okX S (fun vs H Q E ⟨a, y, e, _⟩ => by rw [hn, e]; rfl) fun cdv A outer s H vs Q E hr ⟨a, y, e, ha, q⟩ => ⟨_, hb cdv A outer s H E, ?_⟩
  subst e
  match N, hN with
  | [n1, n2], _ => exact ⟨y, rfl, .ref a, rfl, a, C, rfl, T, no, .inl ⟨ha, fun dx h1 h2 => q dx h1 h2⟩⟩
theorem okI2 (F : Fun K x qual st fi fd) (S : FnScope N ps (defScope st)) (hN : N.length = 3) (hn : ps.length = 3) (T : OexC K C) (no : PySem.W.findIn K (.ref C) f = some none) (no2 : PySem.W.findIn K (.ref C) g = some none)
    (hb : ∀ (cdv : Value) (A : Around) (outer : List Env) (s : Shared) (H : Hp) (E : XK), PSs (cxOf (L2.CX P w) P w K mg base N qual (defScope st) fi cdv A outer s H E) (defBody st) (tSeq (tOst K f (tVar 0) (tVar 1)) (tOst K g (tVar 0) (tVar 2)))) : FnOk P w K mg base (L2.CX P w) 1 fi fd ps (spI2 C f g) := by
  refine F.okX S (fun vs H Q E ⟨a, y, z, e, _⟩ => by rw [hn, e]; rfl) fun cdv A outer s H vs Q E hr ⟨a, y, z, e, ha, q⟩ => ⟨_, hb cdv A outer s H E, ?_⟩
  subst e
  match N, hN with
  | [n1, n2, n3], _ =>
    refine ⟨y, rfl, .ref a, rfl, a, C, rfl, T, no, .inl ⟨ha, fun dx h1 h2 => ?_⟩⟩
    refine ⟨z, rfl, .ref a, rfl, a, C, rfl, T, no2, .inr ⟨dx, [(f, y)], upd_same, by rw [upd_ne h2]; exact upd_same, by simp, q dx h1 h2⟩⟩
theorem del_upd {H : Hp} {a d : Addr} {o1 o2 : HO} (ha : H a = none) (h : d ≠ a) (G : Hp) (hG : ∀ b, b ≠ a → b ≠ d → G b = H b) : upd (del G a) d o1 = upd H d o1 := by
  funext b
  by_cases e : b = d
  · rw [e, upd_same, upd_same]
  · rw [upd_ne e, upd_ne e]
    by_cases e2 : b = a
    · rw [e2, del_same, ha]
    · rw [del_ne e2, hG b e2 e]
end
section
variable {X : Cx} {W : WX} {c q : Str} {C fI : Addr} {fd : FuncData} {k : Nat} {f g x1 x2 x0 : Str} {p pos pos2 : Pos} {e e2 : Expr} {fs : ME (List D)}
theorem cs_raise1 (hc : X.calm = true) (tk : Takes X W) (gC : X.mg c = some (.ref C)) (T : OexC X.K C) (iC : PySem.W.findIn X.K (.ref C) "__init__" = some (some (.ref fI))) (tI : PySem.W.typeIn X.K (.ref fI) = some (.type "function"))
    (F : FnOk X.prog X.w X.K X.mg X.base (L2.CX X.prog X.w) 1 fI fd [x0, x1] (spI1 C f)) (hr : Room 2 X.A) (hb : Binds X.K fd [x0, x1] []) (hg : Gl X c) (ha : PA X [e] (Ta X.K X.mg W fs)) (hdb : (c == ("__debug__" : Str)) = false := by decide)
    (he : starEach [e] X.env = (false, eval e X.env) :: starEach [] X.env := by rfl) (hpl : (backTo pos (starEach [] X.env)).any (·.1) = false := by rfl) :
    PS X (.Raise (some (.Call (.Name c p) [e] [] pos)) none pos2) (Ts X.K X.mg W (sRaise c [f] fs)) :=
  PS.imp (ps_raise hc tk (pmk_oex (dvs := []) T iC tI F hr hb .nil (fun pins σ H s e s' I h => (cx_none h).elim) hg gC ha hdb he hpl)) fun Dn σ H h =>
    Ts.ofE (k := fun env (xs : List D) s => if xs.length = [f].length then RS.ex ⟨c, ([f].zip xs).reverse⟩ env s else .no) h fun m1 H1 env xs vs s1 r1 E1 p1 g1 => by
      split at g1
      · rename_i hl
        match xs, vs, p1, hl with
        | [x], [v], .cons pv .nil, _ =>
          refine ⟨by simp, fun a ha => ⟨a, v, rfl, upd_same, fun dx h1 h2 => ⟨rfl, dx, [(f, v)], upd_same, by rw [upd_ne h2]; exact upd_same, by rw [upd_ne h2] at h1; exact h1, ?_⟩⟩⟩
          have h1' : H1 dx = none := by rw [upd_ne h2] at h1; exact h1
          rw [del_upd (o2 := exo a C none) ha h2 _ fun b h3 h4 => by rw [upd_ne h3, upd_ne h4, upd_ne h3]]
          exact g1 m1 _ _ _ _ (le_new h1') (r1.tmp h1') (E1.mono (le_new h1')) ⟨gC, .inr ⟨dx, _, rfl, upd_same, r1.new_notin h1', .cons (pv.mono (le_new h1')) .nil⟩⟩
      · exact g1.elim
theorem cs_raise2 (hc : X.calm = true) (tk : Takes X W) (gC : X.mg c = some (.ref C)) (T : OexC X.K C) (iC : PySem.W.findIn X.K (.ref C) "__init__" = some (some (.ref fI))) (tI : PySem.W.typeIn X.K (.ref fI) = some (.type "function"))
    (F : FnOk X.prog X.w X.K X.mg X.base (L2.CX X.prog X.w) 1 fI fd [x0, x1, x2] (spI2 C f g)) (hr : Room 2 X.A) (hb : Binds X.K fd [x0, x1, x2] []) (hg : Gl X c) (ha : PA X [e, e2] (Ta X.K X.mg W fs)) (hdb : (c == ("__debug__" : Str)) = false := by decide)
    (he : starEach [e, e2] X.env = (false, eval e X.env) :: starEach [e2] X.env := by rfl) (hpl : (backTo pos (starEach [e2] X.env)).any (·.1) = false := by rfl) :
    PS X (.Raise (some (.Call (.Name c p) [e, e2] [] pos)) none pos2) (Ts X.K X.mg W (sRaise c [f, g] fs)) :=
  PS.imp (ps_raise hc tk (pmk_oex (dvs := []) T iC tI F hr hb .nil (fun pins σ H s e s' I h => (cx_none h).elim) hg gC ha hdb he hpl)) fun Dn σ H h =>
    Ts.ofE (k := fun env (xs : List D) s => if xs.length = [f, g].length then RS.ex ⟨c, ([f, g].zip xs).reverse⟩ env s else .no) h fun m1 H1 env xs vs s1 r1 E1 p1 g1 => by
      split at g1
      · rename_i hl
        match xs, vs, p1, hl with
        | [x, y], [v, z], .cons pv (.cons pz .nil), _ =>
          refine ⟨by simp, fun a ha => ⟨a, v, z, rfl, upd_same, fun dx h1 h2 => ⟨rfl, dx, [(g, z), (f, v)], by rw [upd_ne (Ne.symm h2)]; exact upd_same, upd_same, by rw [upd_ne h2] at h1; exact h1, ?_⟩⟩⟩
          have h1' : H1 dx = none := by rw [upd_ne h2] at h1; exact h1
          rw [del_upd (o2 := exo a C none) ha h2 _ fun b h3 h4 => by rw [upd_ne h4, upd_ne h3, upd_ne h4, upd_ne h3]]
          exact g1 m1 _ _ _ _ (le_new h1') (r1.tmp h1') (E1.mono (le_new h1')) ⟨gC, .inr ⟨dx, _, rfl, upd_same, r1.new_notin h1', .cons (pz.mono (le_new h1')) (.cons (pv.mono (le_new h1')) .nil)⟩⟩
      · exact g1.elim
end
/-! ### n.f of the exception that a suite holds -/
def eFld (g : Nat × Nat) (i : Nat) (f : Str) : ME D := fun env s => match env[i]? with
  | some (some (.exv a dd _ fs)) => if a = g.1 ∧ dd = g.2 then (match fs.lookup f with
    | some d => .ok d s
    | none => .no) else .no
  | _ => .no
theorem fld_lookup {K : PySem.W.Frag} {m : List Addr} {H : Hp} {f : Str} : ∀ {fs : List (Str × D)} {vfs : List (Str × V)} {d : D}, FldR K m H fs vfs → fs.lookup f = some d → ∃ v, vfs.lookup f = some v ∧ Rep K m H d v
  | _, _, _, .nil, e => by cases e
  | (h, x) :: fs, (_, v) :: vfs, d, .cons p r, e => by
    by_cases c : f = h
    · subst c
      simp [List.lookup] at e ⊢
      subst e
      exact p
    · have c' : (f == h) = false := by simpa using c
      simp only [List.lookup, c'] at e ⊢
      exact fld_lookup r e
section
variable {X : Cx} {W : WX} {a : Addr} {oe : Obj} {cls : Value} {d : Option Addr} {pn : List (Addr × Obj)} {pos p : Pos} {n f : Str} {i : Nat} {g : Nat × Nat}
theorem ce_fld (hX : ∃ C, cls = .ref C ∧ XfC X.K C ∧ PySem.W.findIn X.K (.ref C) f = some none) (hz : Zc cls d oe) (hf : ∃ vs, oe.data = .fields vs) (g1 : g.1 = a) (g2 : d = some g.2)
    (he : PE (X.suite a ((a, oe) :: pn)) (.Name n p) (tVar i)) (hb : attributeBase (.Name n p) f X.env (eval (.Name n p) X.env) = eval (.Name n p) X.env := by rfl) :
    PE (X.suite a ((a, oe) :: pn)) (.Attribute (.Name n p) f pos) (Te X.K X.mg W (eFld g i f)) := by
  obtain ⟨C, ec, T, hno⟩ := hX
  refine PE.imp (pe_xf T hno hz hf he hb) fun σ H Q ⟨m, env, s, r, E, q⟩ => ?_
  unfold eFld at q
  cases e1 : env[i]? with
  | none => rw [e1] at q; exact q.elim
  | some o =>
    cases o with
    | none => rw [e1] at q; exact q.elim
    | some x =>
      rw [e1] at q
      cases x with
      | exv a' dd c fs =>
        simp only at q
        split at q
        · rename_i hh
          obtain ⟨h1, h2⟩ := hh
          cases e2 : fs.lookup f with
          | none => rw [e2] at q; exact q.elim
          | some dv =>
            rw [e2] at q
            obtain ⟨v, hv, pr⟩ := E.2 i _ e1
            cases pr with
            | exv h n' rf =>
              obtain ⟨u, hu, pu⟩ := fld_lookup rf e2
              refine ⟨_, hv, by rw [h1, g1], ec, g.2, _, u, g2, by rw [← h2]; exact h, hu, ?_⟩
              exact G.now q r pu
        · exact q.elim
      | _ => exact q.elim
end
/-! ### try: body except x as n: suite -/
def clr (i : Nat) : RS → RS
  | .nx env s => .nx (env.set i none) s
  | .bk env s => .bk (env.set i none) s
  | .ct env s => .ct (env.set i none) s
  | .rt d s => .rt d s
  | .ex _ _ _ => .no
  | .no => .no
open Classical in
noncomputable def sTryAs (i : Nat) (cs : List Str) (body : MS) (suite : Nat × Nat → MS) : MS := fun env s => match body env s with
  | .ex e env2 s2 => if e.cls ∈ cs ∧ e.fs ≠ [] ∧ ∀ g : Nat × Nat, clr i (suite g (env2.set i (some (.exv g.1 g.2 e.cls e.fs))) s2) = clr i (suite (0, 0) (env2.set i (some (.exv 0 0 e.cls e.fs))) s2)
    then clr i (suite (0, 0) (env2.set i (some (.exv 0 0 e.cls e.fs))) s2) else .no
  | r => r
theorem relE_clr {K : PySem.W.Frag} {m : List Addr} {H : Hp} {env : Sl} {σ : L2.St} (E : RelE K m H env σ) (i : Nat) : RelE K m H (env.set i none) (σ.set i none) := by
  refine ⟨by simp [E.1], fun j d h => ?_⟩
  by_cases c : i = j
  · subst c
    rw [List.getElem?_set] at h
    by_cases q : i < env.length
    · rw [if_pos rfl, if_pos q] at h; cases h
    · rw [if_pos rfl, if_neg q] at h; cases h
  · rw [List.getElem?_set_ne c] at h ⊢
    exact E.2 j d h
theorem gs_clr {K : PySem.W.Frag} {mg : Str → Option Value} {W W2 : WX} {Dn : Ends} {m : List Addr} {H : Hp} {i : Nat} {r : RS} (h : GS K mg W Dn m H (clr i r)) :
    GS K mg W2 { nx := fun σ' H' => Dn.nx (σ'.set i none) H', rt := Dn.rt, bk := fun σ' H' => Dn.bk (σ'.set i none) H', ct := fun σ' H' => Dn.ct (σ'.set i none) H' } m H r := by
  cases r with
  | nx env s => exact fun m' σ' H' l r E => h m' _ H' l r (relE_clr E i)
  | bk env s => exact fun m' σ' H' l r E => h m' _ H' l r (relE_clr E i)
  | ct env s => exact fun m' σ' H' l r E => h m' _ H' l r (relE_clr E i)
  | rt d s => exact h
  | ex e env s => exact h.elim
  | no => exact h.elim
section
variable {X : Cx} {W : WX} {x n : Str} {c : Value} {i : Nat} {body suite : List Stmt} {b₀ : Stmt} {np pos pos' : Pos} {fb : MS} {fs : Nat × Nat → MS} {cs : List Str}
theorem cs_tryAs (hs : X.stack = X.env :: X.outer) (hf : X.env.frame = some X.env.locals) (hN : X.N.Nodup) (hi : X.N[i]? = some n) (hln : X.env.kindOf n = some .local) (hc : Names X x c) (tk : Takes X W)
    (hcs : ∀ k ∈ cs, ∀ cls, X.mg k = some cls → PySem.W.exmOne X.K cls c = some true)
    (hb : ∀ (W : WX) (pn : List (Addr × Obj)) (xe : Value → Shared → Prop), Takes (X.tr pn xe) W → PSs (X.tr pn xe) body (Ts X.K X.mg W fb))
    (hsu : ∀ (a : Addr) (oe : Obj) (cls : Value) (d : Option Addr) (pn : List (Addr × Obj)) (g : Nat × Nat) (k : Str), Zc cls d oe → (∃ vs, oe.data = .fields vs) → g.1 = a → d = some g.2 → k ∈ cs → X.mg k = some cls →
      PSs (X.suite a ((a, oe) :: pn)) (b₀ :: suite) (Ts X.K X.mg (fun _ _ _ _ => False) (fs g))) :
    PS X (.Try body [.ExceptHandler (some (.Name x np)) (some n) (b₀ :: suite) pos'] [] [] pos) (Ts X.K X.mg W (sTryAs i cs fb fs)) :=
  PS.imp (ps_try_as (i := i) (tb := fun W => Ts X.K X.mg W fb) (ts := fun a cls d => fun Dn σ H => ∃ (g : Nat × Nat) (k : Str), g.1 = a ∧ d = some g.2 ∧ k ∈ cs ∧ X.mg k = some cls ∧ Ts X.K X.mg (fun _ _ _ _ => False) (fs g) Dn σ H) (Wout := W) hs hf hN hi hln hc tk
    (fun W pn xe tk _ => hb W pn xe tk) (fun a oe cls d pn hz hf => ⟨fun pins s σ H Dn I ⟨g, k, h1, h2, h3, h4, h⟩ => (hsu a oe cls d pn g k hz hf h1 h2 h3 h4).run pins s σ H Dn I h⟩)) fun Dn σ H ⟨m, env, s, r, E, q⟩ => by
    refine ⟨m, env, s, r, E, ?_⟩
    unfold sTryAs at q
    cases e : fb env s with
    | ex ex env2 s2 =>
      rw [e] at q
      simp only at q
      split at q
      · rename_i hh
        obtain ⟨h1, h2, h3⟩ := hh
        intro m' σ' H' cv dd l r' E' xr
        obtain ⟨gk, hx⟩ := xr
        rcases hx with ⟨z, _⟩ | ⟨da, vfs, ed, hd, nd, rf⟩
        · exact (h2 z).elim
        · refine ⟨true, hcs _ h1 _ gk, fun _ a ha => ⟨(a, da), ex.cls, rfl, ed, h1, gk, m', _, s2, r', relE_set E' (.exv hd nd rf : Rep X.K m' H' (.exv a da ex.cls ex.fs) (.ref a)) i, ?_⟩, fun z => Bool.noConfusion z⟩
          rw [← h3 (a, da)] at q
          exact gs_clr (GS.mono l q)
      · exact q.elim
    | nx env2 s2 => rw [e] at q; exact q
    | rt d s2 => rw [e] at q; exact q
    | bk env2 s2 => rw [e] at q; exact q
    | ct env2 s2 => rw [e] at q; exact q
    | no => rw [e] at q; exact q.elim
end
/-! ### words for printed texts -/
def clsBody : Stmt → List Stmt
  | .ClassDef (body := b) .. => b
  | _ => []
section
variable {K : PySem.W.Frag} {mg : Str → Option Value} {c f k : Str} {C : Addr} {cls : Value}
theorem hcs1 (g : mg c = some (.ref C)) (te : PySem.W.exmOne K (.ref C) (.ref C) = some true) : ∀ k ∈ [c], ∀ cls, mg k = some cls → PySem.W.exmOne K cls (.ref C) = some true := fun k hk cls e => by
  rw [List.mem_singleton.mp hk, g] at e
  cases e
  exact te
theorem hxf1 (g : mg c = some (.ref C)) (xf : XfC K C) (no : PySem.W.findIn K (.ref C) f = some none) (h3 : k ∈ [c]) (h4 : mg k = some cls) : ∃ C, cls = .ref C ∧ XfC K C ∧ PySem.W.findIn K (.ref C) f = some none := by
  rw [List.mem_singleton.mp h3, g] at h4
  cases h4
  exact ⟨C, rfl, xf, no⟩
theorem exm_own (h1 : PySem.W.subIn K (.ref C) (.type "BaseException") = some true) (h2 : PySem.W.isClsIn K C = true) (h3 : PySem.W.typeIn K (.ref C) = some (.type "type")) (h4 : PySem.W.subIn K (.ref C) (.ref C) = some true) : PySem.W.exmOne K (.ref C) (.ref C) = some true := by
  have z1 : (PySem.W.subIn K (.ref C) (.type "BaseException") == some true) = true := by rw [h1] <;> rfl
  have z2 : (PySem.W.clsIn K C).isSome = true := h2
  have z3 : ((PySem.W.clsIn K C).isSome && PySem.W.typeIn K (.ref C) == some (.type "type")) = true := by rw [z2, h3] <;> rfl
  have q : (if (PySem.W.subIn K (.ref C) (.type "BaseException") == some true) = true then (if ((PySem.W.clsIn K C).isSome && PySem.W.typeIn K (.ref C) == some (.type "type")) = true then PySem.W.subIn K (.ref C) (.ref C) else none) else none) = some true := by
    rw [if_pos z1, if_pos z3, h4]
  exact q
end
end Mi
namespace Mi
open PySem PySem.Spec PyProof.Rows L2
/-! ### enumerate of a tuple -/
theorem enum_made {v : Value} {o : Obj} {Hh : Heap → Prop} (B : Begins v o Hh) :
    Meets (Builtin.«enumerate.__new__» ⟨[.type "enumerate", v], []⟩) (fun _ R s => Hh s.heap ∧
      R (.ok (.ret (.ref (s.heap.push o).objs.size))) { s with heap := (s.heap.push o).push { cls := .type "enumerate", data := .fields #[.none, .bool false, .ref s.heap.objs.size, rawInt 0, .none, .none] } }) :=
  .of_wp fun prog w A R s h => by
    obtain ⟨hp, g, d, tk, os⟩ := s
    obtain ⟨h1, h⟩ := h
    have hsub := sub_enumerate
    have it : ∀ {A' : Around} {E : Value → Shared → Prop} {Q : Value → Shared → Prop}, Q (.ref hp.objs.size) ⟨hp.push o, g, d, tk, os⟩ → wpAny (model prog w) A' (pyIter v) Q E ⟨hp, g, d, tk, os⟩ := fun q => B.iter prog w _ _ ⟨hp, g, d, tk, os⟩ _ h1 q
    wp_walk using it
    refine wpAny_stack_any fun st => wpAny_pure ?_
    split
    · rename_i c _ _ _ _ _
      cases (c == Value.type "enumerate")
      · wp_walk using it
        exact ⟨_, rfl, h⟩
      · wp_walk using it
        exact ⟨_, rfl, h⟩
    · wp_walk using it
      exact ⟨_, rfl, h⟩
section
variable {prog : Program} {w : World} {A : Around} {E : Value → Shared → Prop} {s : Shared}
theorem enum_call {v : Value} {o : Obj} {Hh : Heap → Prop} {R : Value → Shared → Prop} (B : Begins v o Hh) (h1 : Hh s.heap)
    (q : ∀ h', IsEnum h' (s.heap.objs.size + 1) s.heap.objs.size 0 .none → h'.get? s.heap.objs.size = some o → (∀ b o, s.heap.get? b = some o → h'.get? b = some o) → R (.ref (s.heap.objs.size + 1)) { s with heap := h' }) :
    wpAny (model prog w) A (call (.type "enumerate") [v]) R E s := by
  refine callType_new F.called_enumerate (by decide) (F.typeCall_enumerate_1 _) (F.newCall_enumerate_1 _) (fun obj => F.args_object_init_2 obj _) F.entry_enumerate_new (enum_made B) ⟨h1, ?_⟩
  have hz : (s.heap.push o).objs.size = s.heap.objs.size + 1 := Heap.size_push ..
  show _ ∧ _
  rw [hz]
  have he : IsEnum ((s.heap.push o).push { cls := .type "enumerate", data := .fields #[.none, .bool false, .ref s.heap.objs.size, rawInt 0, .none, .none] }) (s.heap.objs.size + 1) s.heap.objs.size 0 .none := by
    have := Heap.get?_push_size (s.heap.push o) (o := { cls := .type "enumerate", data := .fields #[.none, .bool false, .ref s.heap.objs.size, rawInt 0, .none, .none] }) rfl
    rw [hz] at this
    exact this
  exact ⟨⟨_, he, rfl⟩, q _ he (Heap.get?_push_of_some _ (Heap.get?_push_size _ B.free)) fun b o x => Heap.get?_push_of_some _ (Heap.get?_push_of_some _ x)⟩
end
def Itu (K : PySem.W.Frag) (a : Addr) : It :=
  ⟨fun i H => ∃ (xs : List V) (x : V), SqT K H a xs ∧ xs[i]? = some x, fun i H v H' => ∃ T x, v = .ref T ∧ H T = none ∧ H' = upd H T (.tup [.int (i : Nat), x]) ∧ ∀ xs, SqT K H a xs → xs[i]? = some x, fun i H => ∃ xs : List V, SqT K H a xs ∧ xs.length = i⟩
theorem turn_enumT {P : Program} {w : World} {K : PySem.W.Frag} {elts : List Expr} {kk : Nat} {tpos : Pos} (a e it : Addr) :
    Turn P w K (.Tuple elts kk tpos) (Itu K a) [e, it] e (fun i h => (∃ old, IsEnum h e it ((i : Nat) : Int) old) ∧ h.IsTupleIter it a i ∧ e ≠ it) where
  mem := by simp
  obj := fun i h st b hb => by
    obtain ⟨⟨old, he⟩, ⟨o, ho, hc, hd⟩, _⟩ := st
    rcases (by simpa using hb : b = e ∨ b = it) with z | z
    · rw [z]; exact ⟨_, he, fun v q => nomatch q⟩
    · rw [z]; exact ⟨o, ho, fun v q => by rw [hd] at q; cases q⟩
  keep := fun i h h' st k => let ⟨⟨old, he⟩, hi, hne⟩ := st; ⟨⟨old, k e (by simp) _ he⟩, hi.at fun o q => k it (by simp) o q, hne⟩
  item := by
    intro X hP hw hK hc i pins s σ H E I hf st hg
    subst hP hw hK
    obtain ⟨⟨old, he⟩, hit, hne⟩ := st
    obtain ⟨xs, x, hq, hx⟩ := hg
    obtain ⟨its, rv, p, hz⟩ := I.tuple hq
    obtain ⟨u, hu, ru⟩ := rv.get hx
    have hel : e < s.heap.objs.size := Heap.lt_size he
    have hil : it < s.heap.objs.size := by obtain ⟨_, q, _⟩ := hit; exact Heap.lt_size q
    have ait : a ≠ it := fun z => by
      obtain ⟨o1, q1, c1, _⟩ := p
      obtain ⟨o2, q2, c2, _⟩ := hit
      rw [z] at q1
      rw [q1] at q2
      cases q2
      rw [c1] at c2
      exact absurd (Value.type.inj c2) (by decide)
    have ea : e ≠ a := fun z => by
      obtain ⟨o1, q1, c1, _⟩ := p
      have he' := he
      unfold IsEnum at he'
      rw [z, q1] at he'
      cases he'
      exact absurd (Value.type.inj c1) (by decide)
    refine wpAny_pyNext_enum_itemD (Draws.tuple (A := X.A.in1) (I.ok.hd hc) it a ait its.toArray) he ⟨hit, p⟩ (by have := (List.getElem?_eq_some_iff.mp hu).1; simpa using this) hne (by simp [hne, ea]) fun x' h' tk hP ho hst' hT hsz hk => ?_
    have ex : x' = u := by
      have hP' : its.toArray[i]? = some x' := hP
      rw [List.getElem?_toArray, hu] at hP'
      cases hP'
      rfl
    subst ex
    refine ⟨_, rfl, wpAny_letOwnedTupleGo_enum (s := { s with heap := h', toks := tk + 1 }) ho fun h'' he' sb => ?_⟩
    have hT2 : h''.get? s.heap.objs.size = some { cls := .type "tuple", data := .seq #[.int i tk, x'] } := (sb.2 _ (Nat.ne_of_gt hel)).trans hT
    have new : ObjOk X.prog X.w (upd H s.heap.objs.size (.tup [.int (i : Nat), x])) h'' s.heap.objs.size (.tup [.int (i : Nat), x]) :=
      ⟨by show 2 ≤ sizeLine; decide, [.int i tk, x'], .cons ⟨_, rfl⟩ (.cons ru .nil), ⟨_, hT2, rfl, _, rfl⟩⟩
    have I1 : Inv X pins σ (upd H s.heap.objs.size (.tup [.int (i : Nat), x])) { s with heap := h'', toks := tk + 1 } :=
      I.turnedNew (ch := [e, it]) (fun b ob hb q => (sb.2 b (fun z => hb (by simp [z]))).trans (hk b ob (fun z => hb (by simp [z])) (fun z => hb (by simp [z])) q)) hf (Nat.le_refl _) new
    refine ⟨.ref s.heap.objs.size, _, I1, rfl, ⟨_, x, rfl, I.hok.fresh (Nat.le_refl _), rfl, fun ys hy => by rw [I.tuple_inj hy hq]; exact hx⟩, ⟨⟨x', ?_⟩, hst'.1.at fun o q => (sb.2 it (Ne.symm hne)).trans q, hne⟩, fun b hb => ?_⟩
    · have e1 : ((i + 1 : Nat) : Int) = (i : Int) + 1 := by omega
      rw [e1]; exact he'
    · have hb' : b < s.heap.objs.size := by
        rcases (by simpa using hb : b = e ∨ b = it) with z | z
        · rw [z]; exact hel
        · rw [z]; exact hil
      rw [upd_ne (Nat.ne_of_lt hb')]
      exact (hf b hb).1
  done := by
    intro X hP hw hK hc i pins s σ H E I hf st hg
    subst hP hw hK
    obtain ⟨⟨old, he⟩, hit, hne⟩ := st
    obtain ⟨xs, hq, hx⟩ := hg
    obtain ⟨its, rv, p, hz⟩ := I.tuple hq
    obtain ⟨f0, f1, f2, f3, f4, f5⟩ := hf it (by simp)
    have hl := rv.length
    have ait : a ≠ it := fun z => by
      obtain ⟨o1, q1, c1, _⟩ := p
      obtain ⟨o2, q2, c2, _⟩ := hit
      rw [z] at q1
      rw [q1] at q2
      cases q2
      rw [c1] at c2
      exact absurd (Value.type.inj c2) (by decide)
    have en : its.toArray.size = i := by rw [List.size_toArray]; omega
    exact wpAny_pyNext_enum_endD (Draws.tuple (A := X.A.in1) (I.ok.hd hc) it a ait its.toArray) he ⟨by rw [en]; exact hit, p⟩ fun h' eb => ⟨rfl, I.turned (t' := s.toks) (fun b o hb q => eb b o hb q) f0 f1 f3 f4 f5⟩
  self := fun A i s Q E st h => let ⟨⟨_, he⟩, _⟩ := st; wpAny_pyIter_enum he h
/-- enumerate(x), x a list or a tuple -/
def iEnumA (K : PySem.W.Frag) (ta : TA) : TI := fun σ H R => ta σ H fun vs H1 => ∃ a, vs = [.ref a] ∧ (((∃ xs, SqL K H1 a xs) ∧ R (Ite K a) H1) ∨ ((∃ xs, SqT K H1 a xs) ∧ R (Itu K a) H1))
theorem pi_enumA {X : Cx} {e : Expr} {ta : TA} {p pos tpos : Pos} {elts : List Expr} {kk : Nat} (hg : Gl X "enumerate") (hm : X.mg "enumerate" = none) (ha : PA X [e] ta) (hs : starEach [e] X.env = [(false, eval e X.env)] := by rfl) :
    PI X (.Tuple elts kk tpos) (.Call (.Name "enumerate" p) [e] [] pos) (iEnumA X.K ta) := by
  refine ⟨fun pins s σ H R I h => ?_⟩
  refine Call_ (ld_blt I hg hm boot_enumerate (PyProof.Rows.callWith_type1 (thn (ha.run pos pins s σ H _ I h) fun us s1 ⟨vs, H1, I1, r1, a, ex, q1⟩ => ?_) hs rfl))
  subst ex
  cases r1 with
  | cons r rr =>
    cases rr
    cases r
    have fp : ∀ b ∈ [s1.heap.objs.size + 1, s1.heap.objs.size], FpOk X pins H1 b := fun b hb => by
      have hle : s1.heap.objs.size ≤ b := by
        rcases (by simpa using hb : b = s1.heap.objs.size + 1 ∨ b = s1.heap.objs.size) with z | z
        · rw [z]; exact Nat.le_add_right _ _
        · rw [z]; exact Nat.le_refl _
      exact I1.fpOk hle (I1.hok.fresh hle)
    rcases q1 with ⟨⟨xs, hq⟩, q⟩ | ⟨⟨xs, hq⟩, q⟩
    · obtain ⟨its, rv, p', hz⟩ := I1.list hq
      refine call_enumerate_list p'.isList fun h' he hit hsz hk => wpAny_pyIter_enum he ?_
      exact ⟨s1.heap.objs.size + 1, [s1.heap.objs.size + 1, s1.heap.objs.size], _, _, H1, rfl, I1.kept (t' := s1.toks) hk, turn_enum a (s1.heap.objs.size + 1) s1.heap.objs.size, ⟨⟨.none, he⟩, hit, Nat.succ_ne_self _⟩, fp, q⟩
    · obtain ⟨its, rv, p', hz⟩ := I1.tuple hq
      refine enum_call (begins_tuple a its.toArray) p' fun h' he hit hk => wpAny_pyIter_enum he ?_
      exact ⟨s1.heap.objs.size + 1, [s1.heap.objs.size + 1, s1.heap.objs.size], _, _, H1, rfl, I1.kept (t' := s1.toks) hk, turn_enumT a (s1.heap.objs.size + 1) s1.heap.objs.size, ⟨⟨.none, he⟩, ⟨_, hit, rfl, rfl⟩, Nat.succ_ne_self _⟩, fp, q⟩
/-! ### its mirror -/
def enm (xs : List D) : List D := xs.mapIdx fun i x => .tup [.int (i : Nat), x]
theorem enm_len (xs : List D) : (enm xs).length = xs.length := by simp [enm]
theorem enm_get {xs : List D} {i : Nat} {d : D} (h : (enm xs)[i]? = some d) : ∃ x, xs[i]? = some x ∧ d = .tup [.int (i : Nat), x] := by
  unfold enm at h
  rw [List.getElem?_mapIdx] at h
  cases e : xs[i]? with
  | none => rw [e] at h; cases h
  | some x => rw [e] at h; cases h; exact ⟨x, rfl, rfl⟩
def iEnm (a : ME (List D)) : ME Itm := fun env s => (a env s).bind fun x s => match x with
  | [.tup xs] => .ok (Itm.mk (enm xs) always) s
  | [.fl xs] => .ok (Itm.mk (enm xs) always) s
  | [.loc l] => match s[l]? with
    | some (.lst xs) => .ok (Itm.mk (enm xs) (fun s2 => s2[l]? = some (.lst xs))) s
    | _ => .no
  | _ => .no
section
variable {K : PySem.W.Frag} {m : List Addr} {H : Hp}
theorem enm_turn {m2 : List Addr} {H2 H3 : Hp} {s2 : Store} {v : V} {i : Nat} {x : D} {xs : List D} {vs : List V} (r2 : Rel K m2 H2 s2) (h : Reps K m2 H2 xs vs) (e : xs[i]? = some x) {T : Addr} {y : V} (ev : v = .ref T) (hT : H2 T = none) (h3 : H3 = upd H2 T (.tup [.int (i : Nat), y])) (hy : vs[i]? = some y) :
    Le K m2 H2 m2 H3 ∧ Rel K m2 H3 s2 ∧ Rep K m2 H3 (.tup [.int (i : Nat), x]) v := by
  subst ev h3
  obtain ⟨w, hw, rw'⟩ := h.get e
  rw [hy] at hw
  cases hw
  exact ⟨le_new hT, r2.tmp hT, rep_newtup hT (.cons (.int _) (.cons rw' .nil))⟩
theorem itr_enumL {l : Nat} {xs : List D} {a : Addr} (h : m[l]? = some a) : ItR K m H ⟨enm xs, fun s2 => s2[l]? = some (.lst xs)⟩ (Ite K a) := fun m2 H2 s2 l2 r2 g => by
  have g' : s2[l]? = some (.lst xs) := g
  obtain ⟨vs, h1, h2⟩ := r2.list (l2.get h) g'
  have hq : SqL K H2 a vs := .inl (.inl h1)
  refine ⟨fun i d e => ?_, ⟨vs, hq, by rw [← h2.length]; exact Nat.le_of_eq (enm_len xs).symm⟩⟩
  obtain ⟨x, hx, rfl⟩ := enm_get e
  obtain ⟨v, hv, rv⟩ := h2.get hx
  refine ⟨⟨vs, v, hq, hv⟩, fun w H3 y => ?_⟩
  obtain ⟨T, z, ev, hT, h3, y⟩ := y
  exact enm_turn r2 h2 hx ev hT h3 (y vs hq)
theorem itr_enumF {xs : List D} {vs : List V} {a : Addr} (h : FrL K H a vs) (p : Reps K m H xs vs) : ItR K m H ⟨enm xs, always⟩ (Ite K a) := fun m2 H2 s2 l2 r2 g => by
  have hq : SqL K H2 a vs := (l2.frl a vs h).sq
  have h2 := p.mono l2
  refine ⟨fun i d e => ?_, ⟨vs, hq, by rw [← h2.length]; exact Nat.le_of_eq (enm_len xs).symm⟩⟩
  obtain ⟨x, hx, rfl⟩ := enm_get e
  obtain ⟨v, hv, rv⟩ := h2.get hx
  refine ⟨⟨vs, v, hq, hv⟩, fun w H3 y => ?_⟩
  obtain ⟨T, z, ev, hT, h3, y⟩ := y
  exact enm_turn r2 h2 hx ev hT h3 (y vs hq)
theorem itr_enumT {xs : List D} {vs : List V} {a : Addr} (h : SqT K H a vs) (p : Reps K m H xs vs) : ItR K m H ⟨enm xs, always⟩ (Itu K a) := fun m2 H2 s2 l2 r2 g => by
  have hq : SqT K H2 a vs := l2.tup a vs h
  have h2 := p.mono l2
  refine ⟨fun i d e => ?_, ⟨vs, hq, by rw [← h2.length]; exact (enm_len xs).symm⟩⟩
  obtain ⟨x, hx, rfl⟩ := enm_get e
  obtain ⟨v, hv, rv⟩ := h2.get hx
  refine ⟨⟨vs, v, hq, hv⟩, fun w H3 y => ?_⟩
  obtain ⟨T, z, ev, hT, h3, y⟩ := y
  exact enm_turn r2 h2 hx ev hT h3 (y vs hq)
end
section
variable {X : Cx} {W : WX} {e : Expr} {p pos tpos : Pos} {elts : List Expr} {kk : Nat} {fs : ME (List D)}
theorem ci_enum (hg : Gl X "enumerate") (hm : X.mg "enumerate" = none) (ha : PA X [e] (Ta X.K X.mg W fs)) (hs : starEach [e] X.env = [(false, eval e X.env)] := by rfl) :
    PI X (.Tuple elts kk tpos) (.Call (.Name "enumerate" p) [e] [] pos) (Ti X.K X.mg W (iEnm fs)) := PI.imp (pi_enumA hg hm ha hs) fun σ H Rw h =>
  Tm.bind (k := fun _ (x : List D) s => match x with
  | [.tup xs] => R.ok (Itm.mk (enm xs) always) s
  | [.fl xs] => R.ok (Itm.mk (enm xs) always) s
  | [.loc l] => match s[l]? with
    | some (.lst xs) => R.ok (Itm.mk (enm xs) (fun s2 => s2[l]? = some (.lst xs))) s
    | _ => R.no
  | _ => R.no) h fun m1 H1 env x vs s1 r1 E1 p1 g1 => by
    split at g1
    · obtain ⟨v, rfl, h1⟩ := reps1 p1
      obtain ⟨a, vs, rfl, hq, rr⟩ := h1.sqT
      exact ⟨a, rfl, .inr ⟨⟨vs, hq⟩, g1 m1 H1 _ .refl r1 (itr_enumT hq rr)⟩⟩
    · obtain ⟨v, rfl, h1⟩ := reps1 p1
      cases h1 with
      | fl hq rr => exact ⟨_, rfl, .inl ⟨⟨_, hq.sq⟩, g1 m1 H1 _ .refl r1 (itr_enumF hq rr)⟩⟩
    · obtain ⟨v, rfl, h1⟩ := reps1 p1
      cases h1 with
      | loc hl =>
        split at g1
        · rename_i q
          obtain ⟨vs, h1, h2⟩ := r1.list hl q
          exact ⟨_, rfl, .inl ⟨⟨vs, .inl (.inl h1)⟩, g1 m1 H1 _ .refl r1 (itr_enumL hl)⟩⟩
        · exact g1.elim
    · exact g1.elim
end
/-! ### all, any of a list of bools -/
def blsOf : List D → Option (List Bool)
  | [] => some []
  | .bl i :: r => (blsOf r).map fun x => i :: x
  | _ :: _ => none
theorem blsOf_map (bs : List Bool) : blsOf (bs.map D.bl) = some bs := by
  induction bs with
  | nil => rfl
  | cons n ns ih => simp [blsOf, ih]
theorem bls_reps {K : PySem.W.Frag} {m : List Addr} {H : Hp} : ∀ {ds : List D} {vs : List V} {bs : List Bool}, Reps K m H ds vs → blsOf ds = some bs → vs = bs.map V.bl
  | [], _, _, .nil, e => by cases e; rfl
  | d :: ds, _, bs, .cons p r, e => by
    cases d with
    | bl i =>
      unfold blsOf at e
      cases q : blsOf ds with
      | none => rw [q] at e; cases e
      | some x => rw [q] at e; cases e; cases p; rw [List.map_cons, bls_reps r q]
    | _ => cases e
def dAll : List D → Store → Option (D × Store)
  | [x], s => (lstOf s x).bind fun xs => (blsOf xs).map fun bs => (.bl (bs.all id), s)
  | _, _ => none
def dAny : List D → Store → Option (D × Store)
  | [x], s => (lstOf s x).bind fun xs => (blsOf xs).map fun bs => (.bl (bs.any id), s)
  | _, _ => none
section
variable {K : PySem.W.Frag}
theorem fns_all : FnS K (rAll K) dAll := by
  intro mg W σ m H s xs ds Q r p g
  unfold dAll at g
  split at g
  · obtain ⟨v, rfl, h⟩ := reps1 p
    rename_i x
    cases q : lstOf s x with
    | none => rw [q] at g; exact g.elim
    | some ys =>
      rw [q, Option.bind_some] at g
      cases q2 : blsOf ys with
      | none => rw [q2] at g; exact g.elim
      | some bs =>
        rw [q2] at g
        obtain ⟨a, vs, rfl, hq, rr⟩ := lstOf_sq r h q
        have e := bls_reps rr q2
        subst e
        exact ⟨a, bs, rfl, hq, G.now (d := D.bl (bs.all id)) g r (.bl _)⟩
  · exact g.elim
theorem fns_any : FnS K (rAny K) dAny := by
  intro mg W σ m H s xs ds Q r p g
  unfold dAny at g
  split at g
  · obtain ⟨v, rfl, h⟩ := reps1 p
    rename_i x
    cases q : lstOf s x with
    | none => rw [q] at g; exact g.elim
    | some ys =>
      rw [q, Option.bind_some] at g
      cases q2 : blsOf ys with
      | none => rw [q2] at g; exact g.elim
      | some bs =>
        rw [q2] at g
        obtain ⟨a, vs, rfl, hq, rr⟩ := lstOf_sq r h q
        have e := bls_reps rr q2
        subst e
        exact ⟨a, bs, rfl, hq, G.now (d := D.bl (bs.any id)) g r (.bl _)⟩
  · exact g.elim
end
end Mi
namespace Mi
open PySem PySem.Spec PyProof.Rows L2
/-! ### dicts with ints and texts as keys -/
def rIxDic : R2 := fun x y H Q => ∃ a v, x = .ref a ∧ DGet H a y (some v) ∧ Q v H
theorem ix_dic {X : Cx} (hu : X.A.units + 64 < cLine) : IxR X rIxDic := by
  intro value slice pins s σ H x y v u Q I rx ry h hs
  obtain ⟨a, z, rfl, g, q⟩ := h
  cases rx
  exact tail_any (ops := [.ref a, u]) (dict_typeIs I g) PySem.F.slot_dict_getitem.lookup (d_getItem (by omega) I g ry fun w' s' I' r' => ⟨z, H, I', r', q⟩) hs
theorem ix_any {X : Cx} (hu : X.A.units + 64 < cLine) : IxR X (fun x y H Q => rIx X.K x y H Q ∨ rIxDic x y H Q) := ix_seq.or (ix_dic hu)
def rSetDic : TSet := fun x y z H Q => ∃ a H', x = .ref a ∧ DPut H a y z H' ∧ Q H'
theorem set_dic {X : Cx} (hu : X.A.units + 64 < cLine) : PSet X rSetDic := by
  intro pins s σ H o i v ov iv u Q I ro ri rv h
  obtain ⟨a, H', rfl, g, q⟩ := h
  cases ro
  exact d_setItem (by omega) I g ri rv fun s' I' => ⟨H', I', q⟩
theorem pset_or {X : Cx} {t t' : TSet} (h : PSet X t) (h' : PSet X t') : PSet X (fun x y z H Q => t x y z H Q ∨ t' x y z H Q) := by
  intro pins s σ H o i v ov iv u Q I ro ri rv q
  rcases q with q | q
  · exact h pins s σ H o i v ov iv u Q I ro ri rv q
  · exact h' pins s σ H o i v ov iv u Q I ro ri rv q
theorem set_any {X : Cx} (hu : X.A.units + 64 < cLine) : PSet X (fun x y z H Q => rSetL x y z H Q ∨ rSetDic x y z H Q) := pset_or set_list (set_dic hu)
/-! ### mirrors -/
def keyOf : D → Option Key
  | .int i => some (.inl i)
  | .str z => some (.inr z)
  | _ => none
theorem keyOf_rep {K : PySem.W.Frag} {m : List Addr} {H : Hp} {d : D} {v : V} {k : Key} (p : Rep K m H d v) (e : keyOf d = some k) : v = kV k := by
  cases p <;> first | (cases e; done) | (cases e; rfl)
def getD {κ : Type} [DecidableEq κ] (ks : List (κ × D)) (k : κ) : Option D := (ks.find? fun kv => decide (kv.1 = k)).map (·.2)
def putD {κ : Type} [DecidableEq κ] (ks : List (κ × D)) (k : κ) (v : D) : List (κ × D) :=
  if (ks.any fun kv => decide (kv.1 = k)) = true then ks.map (fun kv => if kv.1 = k then (kv.1, v) else kv) else ks ++ [(k, v)]
def dicOf (s : Store) : D → Option (Nat × List (Key × D))
  | .loc l => match s[l]? with
    | some (.dic ks) => some (l, ks)
    | _ => none
  | _ => none
/-- keys that are tuples of ints and texts -/
def keysOf : List D → Option (List Key)
  | [] => some []
  | x :: xs => (keyOf x).bind fun k => (keysOf xs).map fun r => k :: r
def keyT : D → Option (List Key)
  | .tup xs => keysOf xs
  | _ => none
def dctOf (s : Store) : D → Option (Nat × List (List Key × D))
  | .loc l => match s[l]? with
    | some (.dct ks) => some (l, ks)
    | _ => none
  | _ => none
theorem keysOf_rep {K : PySem.W.Frag} {m : List Addr} {H : Hp} : ∀ {ds : List D} {vs : List V} {ks : List Key}, Reps K m H ds vs → keysOf ds = some ks → vs = ks.map kV
  | _, _, _, .nil, e => by cases e; rfl
  | x :: xs, _, ks, .cons p r, e => by
    unfold keysOf at e
    cases q : keyOf x with
    | none => rw [q] at e; cases e
    | some k =>
      rw [q, Option.bind_some] at e
      cases q2 : keysOf xs with
      | none => rw [q2] at e; cases e
      | some r2 =>
        rw [q2] at e
        cases e
        rw [keyOf_rep p q, keysOf_rep r q2]
        rfl
theorem keyT_rep {K : PySem.W.Frag} {m : List Addr} {H : Hp} {d : D} {v : V} {k : List Key} (p : Rep K m H d v) (e : keyT d = some k) : ∃ b, v = .ref b ∧ H b = some (.tup (k.map kV)) := by
  cases d with
  | tup xs =>
    obtain ⟨a, vs, rfl, h, r⟩ := p.trk
    rw [keysOf_rep r e] at h
    exact ⟨a, rfl, h⟩
  | _ => cases e
/-- x[i], x a dict or a sequence -/
def dIxA (x i : D) (s : Store) : Option (D × Store) := match dicOf s x with
  | some (_, ks) => (keyOf i).bind fun k => (getD ks k).map fun d => (d, s)
  | none => match dctOf s x with
    | some (_, ks) => (keyT i).bind fun k => (getD ks k).map fun d => (d, s)
    | none => dIx x i s
section
variable {K : PySem.W.Frag} {m : List Addr} {H : Hp} {s : Store}
section
variable {κ : Type} [DecidableEq κ]
theorem repk_get {k : κ} : ∀ {ks : List (κ × D)} {vs : List (κ × V)} {d : D}, RepK K m H ks vs → getD ks k = some d → ∃ v, valV vs k = some v ∧ Rep K m H d v
  | _, _, _, .nil, e => by cases e
  | (q, x) :: ks, (_, v) :: vs, d, .cons p r, e => by
    by_cases c : q = k
    · subst c
      refine ⟨v, valV_pos rfl, ?_⟩
      simp [getD, List.find?_cons] at e
      subst e
      exact p
    · rw [valV_neg c]
      refine repk_get r ?_
      simpa [getD, List.find?_cons, c] using e
theorem repk_any {k : κ} : ∀ {ks : List (κ × D)} {vs : List (κ × V)}, RepK K m H ks vs → (ks.any fun kv => decide (kv.1 = k)) = (vs.any fun kv => decide (kv.1 = k))
  | _, _, .nil => rfl
  | (q, x) :: ks, (_, v) :: vs, .cons p r => by simp [repk_any r]
theorem repk_map {k : κ} {y : D} {w : V} (p : Rep K m H y w) : ∀ {ks : List (κ × D)} {vs : List (κ × V)}, RepK K m H ks vs → RepK K m H (ks.map fun kv => if kv.1 = k then (kv.1, y) else kv) (vs.map fun kv => if kv.1 = k then (kv.1, w) else kv)
  | _, _, .nil => .nil
  | (q, x) :: ks, (_, v) :: vs, .cons h r => by
    by_cases c : q = k
    · simp only [List.map_cons, c, if_true]
      exact .cons p (repk_map p r)
    · simp only [List.map_cons, c, if_false]
      exact .cons h (repk_map p r)
theorem repk_app {ks : List (κ × D)} {vs : List (κ × V)} {k : κ} {y : D} {w : V} (h : RepK K m H ks vs) (p : Rep K m H y w) : RepK K m H (ks ++ [(k, y)]) (vs ++ [(k, w)]) := by
  induction ks generalizing vs with
  | nil => cases h; exact .cons p .nil
  | cons a ks ih => cases h with | cons q r => exact .cons q (ih r)
theorem repk_put {ks : List (κ × D)} {vs : List (κ × V)} {k : κ} {y : D} {w : V} (h : RepK K m H ks vs) (p : Rep K m H y w) : RepK K m H (putD ks k y) (putK vs k w) := by
  unfold putD putK
  rw [repk_any h]
  split
  · exact repk_map p h
  · exact repk_app h p
theorem repk_len : ∀ {ks : List (κ × D)} {vs : List (κ × V)}, RepK K m H ks vs → ks.length = vs.length
  | _, _, .nil => rfl
  | _, _, .cons _ r => by simp [repk_len r]
end
theorem dicOf_at (r : Rel K m H s) {d : D} {v : V} {l : Nat} {ks : List (Key × D)} (p : Rep K m H d v) (e : dicOf s d = some (l, ks)) : ∃ a vs, d = .loc l ∧ v = .ref a ∧ m[l]? = some a ∧ H a = some (.dK vs) ∧ RepK K m H ks vs := by
  cases p with
  | @loc l' a h =>
    unfold dicOf at e
    cases q : s[l']? with
    | none => simp [q] at e
    | some c =>
      cases c with
      | lst _ => simp [q] at e
      | dct _ => simp [q] at e
      | dic ks' =>
        simp only [q] at e
        cases e
        obtain ⟨ws, h1, h2⟩ := r.at_ _ a _ h q
        exact ⟨a, ws, rfl, rfl, h, h1, h2⟩
  | _ => cases e
theorem dctOf_at (r : Rel K m H s) {d : D} {v : V} {l : Nat} {ks : List (List Key × D)} (p : Rep K m H d v) (e : dctOf s d = some (l, ks)) : ∃ a vs, d = .loc l ∧ v = .ref a ∧ m[l]? = some a ∧ H a = some (.dT vs) ∧ RepK K m H ks vs := by
  cases p with
  | @loc l' a h =>
    unfold dctOf at e
    cases q : s[l']? with
    | none => simp [q] at e
    | some c =>
      cases c with
      | lst _ => simp [q] at e
      | dic _ => simp [q] at e
      | dct ks' =>
        simp only [q] at e
        cases e
        obtain ⟨ws, h1, h2⟩ := r.at_ _ a _ h q
        exact ⟨a, ws, rfl, rfl, h, h1, h2⟩
  | _ => cases e
theorem ops_ixA : OpS K (fun x y H Q => rIx K x y H Q ∨ rIxDic x y H Q) dIxA := by
  intro mg W σ m H s x y dx dy Q r px py g
  unfold dIxA at g
  cases e : dicOf s dx with
  | none =>
    rw [e] at g
    simp only at g
    cases e0 : dctOf s dx with
    | none => rw [e0] at g; exact .inl (ops_ix r px py g)
    | some o =>
      obtain ⟨l, ks⟩ := o
      rw [e0] at g
      simp only at g
      cases e1 : keyT dy with
      | none => rw [e1] at g; exact g.elim
      | some k =>
        rw [e1, Option.bind_some] at g
        cases e2 : getD ks k with
        | none => rw [e2] at g; exact g.elim
        | some d =>
          rw [e2] at g
          obtain ⟨a, vs, _, rfl, _, h1, h2⟩ := dctOf_at r px e0
          obtain ⟨v, hv, pv⟩ := repk_get h2 e2
          obtain ⟨b, rfl, hb⟩ := keyT_rep py e1
          exact .inr ⟨a, v, rfl, hv ▸ DGet.t h1 hb, G.now (d := d) g r pv⟩
  | some o =>
    obtain ⟨l, ks⟩ := o
    rw [e] at g
    simp only at g
    cases e1 : keyOf dy with
    | none => rw [e1] at g; exact g.elim
    | some k =>
      rw [e1, Option.bind_some] at g
      cases e2 : getD ks k with
      | none => rw [e2] at g; exact g.elim
      | some d =>
        rw [e2] at g
        obtain ⟨a, vs, _, rfl, _, h1, h2⟩ := dicOf_at r px e
        obtain ⟨v, hv, pv⟩ := repk_get h2 e2
        rw [keyOf_rep py e1]
        exact .inr ⟨a, v, rfl, hv ▸ DGet.k h1, G.now (d := d) g r pv⟩
open Classical in
/-- o[i] = e, o a dict or a list -/
noncomputable def pAny (x y z : D) (s : Store) : Option Store := match dicOf s x with
  | some (l, ks) => (keyOf y).bind fun k => if ks.length < sizeLine then some (s.set l (.dic (putD ks k z))) else none
  | none => match dctOf s x with
    | some (l, ks) => (keyT y).bind fun k => if ks.length < sizeLine then some (s.set l (.dct (putD ks k z))) else none
    | none => pList x y z s
theorem puts_any : PutS K (fun x y z H Q => rSetL x y z H Q ∨ rSetDic x y z H Q) pAny := by
  intro m H s s' x y z dx dy dz Q r px py pz e q
  unfold pAny at e
  cases e0 : dicOf s dx with
  | none =>
    rw [e0] at e
    simp only at e
    cases e3 : dctOf s dx with
    | none => rw [e3] at e; exact .inl (puts_list r px py pz e q)
    | some o =>
      obtain ⟨l, ks⟩ := o
      rw [e3] at e
      simp only at e
      cases e1 : keyT dy with
      | none => rw [e1] at e; cases e
      | some k =>
        rw [e1, Option.bind_some] at e
        split at e
        · rename_i hz
          cases e
          obtain ⟨a, vs, rfl, rfl, hl, h1, h2⟩ := dctOf_at r px e3
          obtain ⟨b, rfl, hb⟩ := keyT_rep py e1
          have le := le_put (o := .dT (putK vs k z)) r (List.mem_of_getElem? hl)
          refine .inr ⟨a, _, rfl, DPut.t h1 hb (by rw [← repk_len h2]; exact hz), q _ le (r.put hl ⟨_, upd_same, ?_⟩)⟩
          have h3 := repk_put (k := k) h2 pz
          exact h3.mono le
        · cases e
  | some o =>
    obtain ⟨l, ks⟩ := o
    rw [e0] at e
    simp only at e
    cases e1 : keyOf dy with
    | none => rw [e1] at e; cases e
    | some k =>
      rw [e1, Option.bind_some] at e
      split at e
      · rename_i hz
        cases e
        obtain ⟨a, vs, rfl, rfl, hl, h1, h2⟩ := dicOf_at r px e0
        rw [keyOf_rep py e1]
        have le := le_put (o := .dK (putK vs k z)) r (List.mem_of_getElem? hl)
        refine .inr ⟨a, _, rfl, DPut.k h1 (by rw [← repk_len h2]; exact hz), q _ le (r.put hl ⟨_, upd_same, ?_⟩)⟩
        have h3 := repk_put (k := k) h2 pz
        exact h3.mono le
      · cases e
end
/-- {} -/
def eDict0 : ME D := fun _ s => .ok (.loc s.length) (s ++ [.dic []])
def eDict0T : ME D := fun _ s => .ok (.loc s.length) (s ++ [.dct []])
section
variable {X : Cx} {W : WX} {pos : Pos}
theorem ce_dict0T : PE X (.Dict [] [] pos) (Te X.K X.mg W eDict0T) := PE.imp pe_dnewT fun σ H Q ⟨m, env, s, r, E, g⟩ p hp =>
  g (m ++ [p]) _ _ (le_more r hp) (r.new hp ⟨[], upd_same, .nil⟩) (.loc (len_get r))
theorem ce_dict0 : PE X (.Dict [] [] pos) (Te X.K X.mg W eDict0) := PE.imp pe_dnewK fun σ H Q ⟨m, env, s, r, E, g⟩ p hp =>
  g (m ++ [p]) _ _ (le_more r hp) (r.new hp ⟨[], upd_same, .nil⟩) (.loc (len_get r))
end
end Mi
namespace Mi
open PySem PySem.Spec PyProof.Rows L2
/-! ### equations for simp -/
@[simp] theorem dIxA_tup (xs : List D) (i : D) (s : Store) : dIxA (.tup xs) i s = dIx (.tup xs) i s := rfl
@[simp] theorem dIxA_str (z : Str) (i : D) (s : Store) : dIxA (.str z) i s = dIx (.str z) i s := rfl
theorem dIxA_loc {s : Store} {l : Nat} {xs : List D} (h : s[l]? = some (.lst xs)) (i : Int) : dIxA (.loc l) (.int i) s = (L2.atI xs i).map fun d => (d, s) := by
  have e : dicOf s (.loc l) = none := by simp [dicOf, h]
  have e2 : dctOf s (.loc l) = none := by simp [dctOf, h]
  unfold dIxA
  rw [e]
  simp only
  rw [e2]
  exact dIx_loc h i
theorem dIxA_dct {s : Store} {l : Nat} {ks : List (List Key × D)} (h : s[l]? = some (.dct ks)) {i d : D} {k : List Key} (hk : keyT i = some k) (hd : getD ks k = some d) : dIxA (.loc l) i s = some (d, s) := by
  have e : dicOf s (.loc l) = none := by simp [dicOf, h]
  have e2 : dctOf s (.loc l) = some (l, ks) := by simp [dctOf, h]
  unfold dIxA
  rw [e]
  simp only
  rw [e2]
  simp [hk, hd]
theorem pAny_dct {s : Store} {l : Nat} {ks : List (List Key × D)} (h : s[l]? = some (.dct ks)) {i : D} {k : List Key} (hk : keyT i = some k) (hz : ks.length ≤ 1000000) (z : D) : pAny (.loc l) i z s = some (s.set l (.dct (putD ks k z))) := by
  have e : dicOf s (.loc l) = none := by simp [dicOf, h]
  have e2 : dctOf s (.loc l) = some (l, ks) := by simp [dctOf, h]
  have q : ks.length < sizeLine := by rw [sizeLine_eq]; omega
  unfold pAny
  rw [e]
  simp only
  rw [e2]
  simp only [hk, Option.bind_some, if_pos q]
@[simp] theorem eDict0T_eq (env : Sl) (s : Store) : eDict0T env s = .ok (.loc s.length) (s ++ [.dct []]) := rfl
theorem dIxA_dic {s : Store} {l : Nat} {ks : List (Key × D)} (h : s[l]? = some (.dic ks)) {i d : D} {k : Key} (hk : keyOf i = some k) (hd : getD ks k = some d) : dIxA (.loc l) i s = some (d, s) := by
  have e : dicOf s (.loc l) = some (l, ks) := by simp [dicOf, h]
  unfold dIxA
  rw [e]
  simp [hk, hd]
theorem pAny_loc {s : Store} {l : Nat} {xs : List D} (h : s[l]? = some (.lst xs)) (i z : D) : pAny (.loc l) i z s = pList (.loc l) i z s := by
  have e : dicOf s (.loc l) = none := by simp [dicOf, h]
  have e2 : dctOf s (.loc l) = none := by simp [dctOf, h]
  unfold pAny
  rw [e]
  simp only
  rw [e2]
theorem pAny_dic {s : Store} {l : Nat} {ks : List (Key × D)} (h : s[l]? = some (.dic ks)) {i : D} {k : Key} (hk : keyOf i = some k) (hz : ks.length ≤ 1000000) (z : D) : pAny (.loc l) i z s = some (s.set l (.dic (putD ks k z))) := by
  have e : dicOf s (.loc l) = some (l, ks) := by simp [dicOf, h]
  have q : ks.length < sizeLine := by rw [sizeLine_eq]; omega
  unfold pAny
  rw [e]
  simp only [hk, Option.bind_some, if_pos q]
@[simp] theorem eDict0_eq (env : Sl) (s : Store) : eDict0 env s = .ok (.loc s.length) (s ++ [.dic []]) := rfl
@[simp] theorem iEnm_eq (a : ME (List D)) (env : Sl) (s : Store) : iEnm a env s = (a env s).bind fun x s => match x with
  | [.tup xs] => .ok (Itm.mk (enm xs) always) s
  | [.fl xs] => .ok (Itm.mk (enm xs) always) s
  | [.loc l] => match s[l]? with
    | some (.lst xs) => .ok (Itm.mk (enm xs) (fun s2 => s2[l]? = some (.lst xs))) s
    | _ => .no
  | _ => .no := rfl
@[simp] theorem sRaise_eq (c : Str) (ns : List Str) (a : ME (List D)) (env : Sl) (s : Store) : sRaise c ns a env s = (a env s).then env fun xs s => if xs.length = ns.length then .ex ⟨c, (ns.zip xs).reverse⟩ env s else .no := rfl
theorem dAll_loc {s : Store} {l : Nat} {bs : List Bool} (h : s[l]? = some (.lst (bs.map D.bl))) : dAll [.loc l] s = some (.bl (bs.all id), s) := by simp [dAll, lstOf, h, blsOf_map]
theorem putD_get {κ : Type} [DecidableEq κ] (ks : List (κ × D)) (k : κ) (z : D) : getD (putD ks k z) k = some z := by
  unfold putD getD
  by_cases c : (ks.any fun kv => decide (kv.1 = k)) = true
  · rw [if_pos c]
    induction ks with
    | nil => simp at c
    | cons p ks ih =>
      by_cases q : p.1 = k
      · simp [q]
      · have c' : (ks.any fun kv => decide (kv.1 = k)) = true := by simpa [q] using c
        simpa [List.find?_cons, q] using ih c'
  · rw [if_neg c, List.find?_append]
    have n : ks.find? (fun kv => decide (kv.1 = k)) = none := List.find?_eq_none.mpr fun x hx h => c (List.any_eq_true.mpr ⟨x, hx, h⟩)
    rw [n]
    simp
theorem putD_other {κ : Type} [DecidableEq κ] {k k' : κ} (ne : k' ≠ k) (ks : List (κ × D)) (z : D) : getD (putD ks k z) k' = getD ks k' := by
  unfold putD getD
  by_cases c : (ks.any fun kv => decide (kv.1 = k)) = true
  · rw [if_pos c]
    clear c
    induction ks with
    | nil => rfl
    | cons p ks ih =>
      by_cases q : p.1 = k
      · have n : ¬ p.1 = k' := fun e => ne (e.symm.trans q)
        have n2 : ¬ k = k' := fun e => ne e.symm
        simpa [List.find?_cons, q, n, n2] using ih
      · by_cases q2 : p.1 = k'
        · simp [List.find?_cons, q, q2, ne]
        · simpa [List.find?_cons, q, q2] using ih
  · rw [if_neg c, List.find?_append]
    have n : ¬ k = k' := fun e => ne e.symm
    simp [n]
theorem putD_len {κ : Type} [DecidableEq κ] (ks : List (κ × D)) (k : κ) (z : D) : (putD ks k z).length ≤ ks.length + 1 := by
  unfold putD
  split <;> simp
end Mi
namespace Mi
open PySem PySem.Spec PyProof.Rows L2
/-! ### in, not in -/
theorem un65 {k : Nat} {A : Around} (r : Room k A) : A.units + 65 < cLine := by have := r.un; omega
def flatD : D → Bool
  | .non => true
  | .bl _ => true
  | .int _ => true
  | .str _ => true
  | _ => false
def eqD : D → D → Bool
  | .non, .non => true
  | .bl a, .bl b => a == b
  | .bl a, .int b => (if a then 1 else 0) == b
  | .int a, .bl b => a == (if b then 1 else 0)
  | .int a, .int b => a == b
  | .str a, .str b => a == b
  | _, _ => false
def inFlat (x : D) (xs : List D) : Option Bool := if flatD x = true ∧ xs.all flatD = true then some (xs.any fun z => eqD z x) else none
def inDeep (x y : D) (s : Store) : Option Bool := (py1 s x).bind fun a => (py1 s y).bind fun b => match b with
  | .list ds => if (SeqAt.shaped a && SeqAt.shaped (.list ds)) = true then some (ds.any fun z => PyData.eqv z a) else none
  | _ => none
/-- x in y -/
def dInB (x y : D) (s : Store) : Option Bool := match dicOf s y with
  | some (_, ks) => (keyOf x).map fun k => (getD ks k).isSome
  | none => match dctOf s y with
    | some (_, ks) => (keyT x).map fun k => (getD ks k).isSome
    | none => match y, x with
      | .str b, .str a => some (!(Builtin.Str.occurrences b a 0 b.length 1).isEmpty)
      | y, x => match (seqOf s y).bind (inFlat x) with
        | some c => some c
        | none => inDeep x y s
def dIn (x y : D) (s : Store) : Option (D × Store) := (dInB x y s).map fun b => (.bl b, s)
def dNotIn (x y : D) (s : Store) : Option (D × Store) := (dInB x y s).map fun b => (.bl !b, s)
def rDin : R2 := fun y x H Q => ∃ a o, x = .ref a ∧ DGet H a y o ∧ Q (.bl o.isSome) H
def rDnotin : R2 := fun y x H Q => ∃ a o, x = .ref a ∧ DGet H a y o ∧ Q (.bl (!o.isSome)) H
def rSin : R2 := fun x y H Q => ∃ i j, x = .str i ∧ y = .str j ∧ Q (.bl (!(Builtin.Str.occurrences j i 0 j.length 1).isEmpty)) H
def rSnotin : R2 := fun x y H Q => ∃ i j, x = .str i ∧ y = .str j ∧ Q (.bl (!(!(Builtin.Str.occurrences j i 0 j.length 1).isEmpty))) H
theorem op_din {X : Cx} (hu : X.A.units + 65 < cLine) : OpR X (compareOp .In) rDin := by
  intro pins s σ H x y v u Q I rx ry h
  obtain ⟨a, o, rfl, g, q⟩ := h
  cases ry
  exact d_in (by omega) I g rx fun s' I' => ⟨.bl o.isSome, H, I', rfl, q⟩
theorem op_dnotin {X : Cx} (hu : X.A.units + 65 < cLine) : OpR X (compareOp .NotIn) rDnotin := by
  intro pins s σ H x y v u Q I rx ry h
  obtain ⟨a, o, rfl, g, q⟩ := h
  cases ry
  exact d_notIn (by omega) I g rx fun s' I' => ⟨.bl (!o.isSome), H, I', rfl, q⟩
def rInA (K : PySem.W.Frag) : R2 := fun x y H Q => rIn K false x y H Q ∨ rDin x y H Q ∨ rSin x y H Q ∨ rInD K x y H Q
def rNotInA (K : PySem.W.Frag) : R2 := fun x y H Q => rIn K true x y H Q ∨ rDnotin x y H Q ∨ rSnotin x y H Q ∨ rNotInD K x y H Q
theorem opA_in {X : Cx} (hu : X.A.units + 65 < cLine) : OpR X (compareOp .In) (rInA X.K) := op_in_seq.or ((op_din hu).or (op_in_str.or (op_inD hu)))
theorem opA_notin {X : Cx} (hu : X.A.units + 65 < cLine) : OpR X (compareOp .NotIn) (rNotInA X.K) := op_notIn_seq.or ((op_dnotin hu).or (op_notin_str.or (op_notInD hu)))
section
variable {K : PySem.W.Frag} {m : List Addr} {H : Hp} {s : Store}
theorem flat_rep {d : D} {v : V} (p : Rep K m H d v) (h : flatD d = true) : flatV v = true := by
  cases p <;> first | rfl | cases h
theorem eqD_rep {d e : D} {v w : V} (p : Rep K m H d v) (q : Rep K m H e w) (h : flatD d = true) (h2 : flatD e = true) : eqV v w = eqD d e := by
  cases p <;> first | (cases h; done) | (cases q <;> first | (cases h2; done) | rfl)
theorem flat_reps : ∀ {xs : List D} {vs : List V}, Reps K m H xs vs → xs.all flatD = true → vs.all flatV = true
  | _, _, .nil, _ => rfl
  | _, _, .cons h r, e => by
    rw [List.all_cons, Bool.and_eq_true] at e
    rw [List.all_cons, Bool.and_eq_true]
    exact ⟨flat_rep h e.1, flat_reps r e.2⟩
theorem in_reps {x : D} {w : V} (p : Rep K m H x w) (hx : flatD x = true) : ∀ {xs : List D} {vs : List V}, Reps K m H xs vs → xs.all flatD = true → inV w vs = xs.any fun z => eqD z x
  | _, _, .nil, _ => rfl
  | _, _, .cons h r, e => by
    rw [List.all_cons, Bool.and_eq_true] at e
    rw [List.any_cons, ← in_reps p hx r e.2, ← eqD_rep h p e.1 hx]
    rfl
theorem repk_some {κ : Type} [DecidableEq κ] {k : κ} : ∀ {ks : List (κ × D)} {vs : List (κ × V)}, RepK K m H ks vs → (valV vs k).isSome = (getD ks k).isSome
  | _, _, .nil => rfl
  | (q, x) :: ks, (_, v) :: vs, .cons p r => by
    by_cases c : q = k
    · subst c
      rw [valV_pos rfl]
      simp [getD, List.find?_cons]
    · rw [valV_neg c, repk_some r]
      simp [getD, List.find?_cons, c]
theorem inB_cases (r : Rel K m H s) {dx dy : D} {x y : V} {b : Bool} (px : Rep K m H dx x) (py : Rep K m H dy y) (e : dInB dx dy s = some b) :
    (∃ p xs, y = .ref p ∧ (SqL K H p xs ∨ SqT K H p xs) ∧ flatV x = true ∧ xs.all flatV = true ∧ inV x xs = b) ∨ (∃ a o, y = .ref a ∧ DGet H a x o ∧ o.isSome = b) ∨
      (∃ i j, x = .str i ∧ y = .str j ∧ (!(Builtin.Str.occurrences j i 0 j.length 1).isEmpty) = b) ∨ ∃ d ds, Dp K H x d ∧ Dp K H y (.list ds) ∧ SeqAt.shaped d = true ∧ SeqAt.shaped (.list ds) = true ∧ (ds.any fun z => PyData.eqv z d) = b := by
  unfold dInB at e
  cases e0 : dicOf s dy with
  | some o =>
    obtain ⟨l, ks⟩ := o
    rw [e0] at e
    simp only at e
    cases e1 : keyOf dx with
    | none => rw [e1] at e; cases e
    | some k =>
      rw [e1] at e
      cases e
      obtain ⟨a, vs, _, rfl, _, h1, h2⟩ := dicOf_at r py e0
      rw [keyOf_rep px e1]
      exact .inr (.inl ⟨a, valV vs k, rfl, DGet.k h1, repk_some h2⟩)
  | none =>
    rw [e0] at e
    simp only at e
    cases e9 : dctOf s dy with
    | some o =>
      obtain ⟨l, ks⟩ := o
      rw [e9] at e
      simp only at e
      cases e1 : keyT dx with
      | none => rw [e1] at e; cases e
      | some k =>
        rw [e1] at e
        cases e
        obtain ⟨a, vs, _, rfl, _, h1, h2⟩ := dctOf_at r py e9
        obtain ⟨b, rfl, hb⟩ := keyT_rep px e1
        exact .inr (.inl ⟨a, valV vs k, rfl, DGet.t h1 hb, repk_some h2⟩)
    | none =>
     rw [e9] at e
     simp only at e
     split at e
     · cases px; cases py
       cases e
       exact .inr (.inr (.inl ⟨_, _, rfl, rfl, rfl⟩))
     · split at e
       · rename_i c hc
         cases e
         cases e2 : seqOf s dy with
         | none => rw [e2] at hc; cases hc
         | some xs =>
           rw [e2, Option.bind_some] at hc
           unfold inFlat at hc
           split at hc
           · rename_i hf
             cases hc
             obtain ⟨a, vs, rfl, h1, h2⟩ := seqOf_sq r py e2
             exact .inl ⟨a, vs, rfl, h1, flat_rep px hf.1, flat_reps h2 hf.2, in_reps px hf.1 h2 hf.2⟩
           · cases hc
       · unfold inDeep at e
         cases q1 : py1 s dx with
         | none => rw [q1] at e; cases e
         | some a =>
           cases q2 : py1 s dy with
           | none => rw [q1, q2] at e; cases e
           | some c =>
             rw [q1, q2] at e
             simp only [Option.bind_some] at e
             split at e
             · rename_i ds
               split at e
               · rename_i hs
                 rw [Bool.and_eq_true] at hs
                 cases e
                 exact .inr (.inr (.inr ⟨a, ds, py1_dp r px q1, py1_dp r py q2, hs.1, hs.2, rfl⟩))
               · cases e
             · cases e
theorem ops_in : OpS K (rInA K) dIn := by
  intro mg W σ m H s x y dx dy Q r px py g
  unfold dIn at g
  cases e : dInB dx dy s with
  | none => rw [e] at g; exact g.elim
  | some b =>
    rw [e] at g
    have q := g.now r (.bl b)
    rcases inB_cases r px py e with ⟨p, xs, h1, h2, h3, h4, h5⟩ | ⟨a, o, h1, h2, h3⟩ | ⟨i, j, h1, h2, h3⟩ | ⟨d, ds, h1, h2, h3, h4, h5⟩
    · exact .inl ⟨p, xs, h1, h2, h3, h4, by subst h5; exact q⟩
    · exact .inr (.inl ⟨a, o, h1, h2, by subst h3; exact q⟩)
    · exact .inr (.inr (.inl ⟨i, j, h1, h2, by subst h3; exact q⟩))
    · exact .inr (.inr (.inr ⟨d, ds, h1, h2, h3, h4, by subst h5; exact q⟩))
theorem ops_notin : OpS K (rNotInA K) dNotIn := by
  intro mg W σ m H s x y dx dy Q r px py g
  unfold dNotIn at g
  cases e : dInB dx dy s with
  | none => rw [e] at g; exact g.elim
  | some b =>
    rw [e] at g
    have q := g.now r (.bl (!b))
    rcases inB_cases r px py e with ⟨p, xs, h1, h2, h3, h4, h5⟩ | ⟨a, o, h1, h2, h3⟩ | ⟨i, j, h1, h2, h3⟩ | ⟨d, ds, h1, h2, h3, h4, h5⟩
    · exact .inl ⟨p, xs, h1, h2, h3, h4, by subst h5; exact q⟩
    · exact .inr (.inl ⟨a, o, h1, h2, by subst h3; exact q⟩)
    · exact .inr (.inr (.inl ⟨i, j, h1, h2, by subst h3; exact q⟩))
    · exact .inr (.inr (.inr ⟨d, ds, h1, h2, h3, h4, by subst h5; exact q⟩))
/-! ### str(i), str(z) -/
noncomputable instance (i : Int) : Decidable (i.natAbs.log2 < 1920) := Classical.propDecidable _
noncomputable def dStr : List D → Store → Option (D × Store)
  | [.int i], s => if i.natAbs.log2 < 1920 then some (.str (toString i), s) else none
  | [.str z], s => some (.str z, s)
  | _, _ => none
def rStr : List V → Hp → VK → Prop := fun xs H Q => (∃ i, xs = [.int i] ∧ i.natAbs.log2 < 1920 ∧ Q (.str (toString i)) H) ∨ ∃ a, xs = [.str a] ∧ Q (.str a) H
theorem call_strA {X : Cx} : CallR X (.type "str") rStr := call_str_int.or SkE.call_str_str
theorem fns_str : FnS K rStr dStr := by
  intro mg W σ m H s xs ds Q r p g
  unfold dStr at g
  split at g
  · rename_i i
    obtain ⟨v, rfl, h⟩ := reps1 p
    cases h
    split at g
    · rename_i hz
      exact .inl ⟨i, rfl, hz, g.now r (.str _)⟩
    · exact g.elim
  · rename_i z
    obtain ⟨v, rfl, h⟩ := reps1 p
    cases h
    exact .inr ⟨z, rfl, g.now r (.str _)⟩
  · exact g.elim
/-! ### xs.extend(ys), ys a list or a tuple -/
end
section
open PySem.AutoSeq1
theorem list_extend_tup (l : Addr) (items : Array Value) (n : Nat) (b : Addr) (items2 : Array Value) (n2 : Nat) (dd : Option Addr) (sl : Array (Option Value)) (hs0 : ¬(!items.isEmpty && Builtin.List.listTooLong (items.size + items2.size)) = true) (hs1 : items.size ≤ sizeLine) (hs2 : items.size + items2.size ≤ sizeLine + 1) :
    Meets (Builtin.«list.extend» ⟨[.ref l, .ref b], []⟩) (fun _ R s => s.heap.get? l = some { cls := .type "list", dict := none, data := .seq items n, slots := #[] } ∧ s.heap.get? b = some { cls := .type "tuple", dict := dd, data := .seq items2 n2, slots := sl } ∧ R (.ok (.ret Value.none)) { s with heap := s.heap.update l (Obj.mapSeq fun x => x ++ items2), toks := s.toks }) :=
  .of_wp fun prog w A R s h => by
    obtain ⟨hp, g, d, tk, os⟩ := s; obtain ⟨hl, hb, h⟩ := h; have f1 := PySem.AutoSeq1.idx_int; have f2 := PySem.AutoSeq1.sub_tuple_tuple; have f3 := PySem.AutoSeq1.sub_list_list; have f4 := PySem.AutoSeq1.sub_tuple_list; have f5 := PySem.AutoSeq1.sub_list_tuple;
    have hz' : (items ++ items2).size ≤ sizeLine + 1 := by rw [Array.size_append]; exact hs2
    wp_walk using (wpAny_updateSeq hl rfl (hz := hs1) (_hz' := hz')), wpAny_loadPart' hl, wpAny_loadPart' hb; exact ⟨_, rfl, h⟩
end
def rExtT (K : PySem.W.Frag) : V → List V → Hp → VK → Prop := fun x vs H Q => ∃ l b xs zs, x = .ref l ∧ vs = [.ref b] ∧ H l = some (.lst xs) ∧ SqT K H b zs ∧ xs.length + zs.length ≤ sizeLine ∧ Q .non (upd H l (.lst (xs ++ zs)))
theorem mt_extT {X : Cx} : MtR X "list.extend" (rExtT X.K) := by
  intro pins s σ H x vs v us Q I rx rv h
  obtain ⟨l, b, xs, zs, rfl, rfl, hH, hB, hz, q⟩ := h
  cases rx
  obtain ⟨u, rfl, ru⟩ := rv.one
  cases ru
  obtain ⟨z, its, n, r, hl, e⟩ := I.lstM hH
  obtain ⟨its2, r2, ⟨⟨cls, dd, data, sl⟩, e2, hc, n2, hd⟩, hl2⟩ := I.tuple hB
  simp only at hc hd
  subst hc hd
  have hl3 := r2.length
  have hsz : its.toArray.size + its2.toArray.size ≤ sizeLine := by rw [List.size_toArray, List.size_toArray]; omega
  have hlong : ¬ (!its.toArray.isEmpty && Builtin.List.listTooLong (its.toArray.size + its2.toArray.size)) = true := by
    rw [notLongL hsz, Bool.and_false]
    exact Bool.false_ne_true
  refine call_meets F.slot_list_extend ⟨_, e, rfl⟩ F.entry_list_extend (F.args_list_extend_2 _ _)
    (list_extend_tup l its.toArray n b its2.toArray n2 dd sl hlong (by rw [List.size_toArray]; omega) (by omega)) ⟨e, e2, ?_⟩
  refine ⟨.non, _, I.lset (its' := its ++ its2) hH e (by simp) (r.append r2) ?_, rfl, q⟩
  rw [List.length_append]
  omega
theorem MtR.or' {X : Cx} {id : String} {r r' : V → List V → Hp → VK → Prop} (h : MtR X id r) (h' : MtR X id r') : MtR X id (fun x vs H Q => r x vs H Q ∨ r' x vs H Q) := by
  intro pins s σ H x vs v us Q I rx rv q
  rcases q with q | q
  · exact h pins s σ H x vs v us Q I rx rv q
  · exact h' pins s σ H x vs v us Q I rx rv q
def rExtA (K : PySem.W.Frag) : V → List V → Hp → VK → Prop := fun x vs H Q => rExtend x vs H Q ∨ rExtT K x vs H Q
theorem mt_extA {X : Cx} : MtR X "list.extend" (rExtA X.K) := MtR.or' mt_extend mt_extT
noncomputable def dExtend (x : D) (ys : List D) (s : Store) : Option (D × Store) := match x, ys with
  | .loc l, [.loc k] => match s[l]?, s[k]? with
    | some (.lst xs), some (.lst zs) => if xs.length + zs.length ≤ sizeLine then some (.non, s.set l (.lst (xs ++ zs))) else none
    | _, _ => none
  | .loc l, [.tup zs] => match s[l]? with
    | some (.lst xs) => if xs.length + zs.length ≤ sizeLine then some (.non, s.set l (.lst (xs ++ zs))) else none
    | _ => none
  | _, _ => none
section
variable {K : PySem.W.Frag}
theorem mts_extend : MtS K (rExtA K) dExtend := by
  intro mg W σ m H s x d xs ds Q r p ps g
  unfold dExtend at g
  split at g
  · rename_i l k
    obtain ⟨w, rfl, h⟩ := reps1 ps
    cases p with
    | loc hl =>
      cases h with
      | loc hk =>
        split at g
        · rename_i ys zs q q2
          split at g
          · rename_i hz
            obtain ⟨vs, h1, h2⟩ := r.list hl q
            obtain ⟨ws, h3, h4⟩ := r.list hk q2
            obtain ⟨le, r2⟩ := le_setlist r hl (h2.append h4)
            exact .inl ⟨_, _, vs, ws, rfl, rfl, h1, h3, by rw [← h2.length, ← h4.length]; exact hz, g m _ _ le r2 .non⟩
          · exact g.elim
        · exact g.elim
  · rename_i l zs
    obtain ⟨w, rfl, h⟩ := reps1 ps
    cases p with
    | loc hl =>
      obtain ⟨a, ws, rfl, h3, h4⟩ := h.sqT
      split at g
      · rename_i ys q
        split at g
        · rename_i hz
          obtain ⟨vs, h1, h2⟩ := r.list hl q
          obtain ⟨le, r2⟩ := le_setlist r hl (h2.append h4)
          exact .inr ⟨_, _, vs, ws, rfl, rfl, h1, h3, by rw [← h2.length, ← h4.length]; exact hz, g m _ _ le r2 .non⟩
        · exact g.elim
      · exact g.elim
  · exact g.elim
/-! ### xs.pop(i), xs.insert(i, x) -/
noncomputable def dPopX (x : D) (ys : List D) (s : Store) : Option (D × Store) := match x, ys with
  | .loc l, [.int i] => match s[l]? with
    | some (.lst xs) => if -(2 ^ 63) ≤ i ∧ i < 2 ^ 63 then (seqIndex? i xs.length).bind fun k => (xs[k]?).map fun y => (y, s.set l (.lst (xs.eraseIdx k))) else none
    | _ => none
  | _, _ => none
theorem mts_popX : MtS K rPopAt dPopX := by
  intro mg W σ m H s x d xs ds Q r p ps g
  unfold dPopX at g
  split at g
  · rename_i l i
    obtain ⟨w, rfl, h⟩ := reps1 ps
    cases h
    cases p with
    | loc hl =>
      split at g
      · rename_i ys q
        split at g
        · rename_i hz
          cases q1 : seqIndex? i ys.length with
          | none => rw [q1] at g; exact g.elim
          | some k =>
            rw [q1, Option.bind_some] at g
            cases q2 : ys[k]? with
            | none => rw [q2] at g; exact g.elim
            | some y =>
              rw [q2] at g
              obtain ⟨vs, h1, h2⟩ := r.list hl q
              obtain ⟨v, hv, rv⟩ := h2.get q2
              obtain ⟨le, r2⟩ := le_setlist r hl (h2.erase k)
              exact ⟨_, vs, i, k, v, rfl, rfl, h1, hz.1, hz.2, by rw [← h2.length]; exact q1, hv, g m _ _ le r2 (rv.mono le)⟩
        · exact g.elim
      · exact g.elim
  · exact g.elim
def rIns : V → List V → Hp → VK → Prop := fun x vs H Q => ∃ (l : Addr) (xs : List V) (i : Int) (y : V), x = .ref l ∧ vs = [.int i, y] ∧ H l = some (.lst xs) ∧ xs.length < sizeLine ∧ 0 ≤ i ∧ i < 2 ^ 63 ∧
    Q .non (upd H l (.lst (xs.take i.toNat ++ [y] ++ xs.drop i.toNat)))
noncomputable def dInsert (x : D) (ys : List D) (s : Store) : Option (D × Store) := match x, ys with
  | .loc l, [.int i, y] => match s[l]? with
    | some (.lst xs) => if xs.length < sizeLine ∧ 0 ≤ i ∧ i < 2 ^ 63 then some (.non, s.set l (.lst (xs.take i.toNat ++ [y] ++ xs.drop i.toNat))) else none
    | _ => none
  | _, _ => none
theorem mts_insert : MtS K rIns dInsert := by
  intro mg W σ m H s x d xs ds Q r p ps g
  unfold dInsert at g
  split at g
  · rename_i l i y
    obtain ⟨w, w2, rfl, h, hy⟩ := reps2 ps
    cases h
    cases p with
    | loc hl =>
      split at g
      · rename_i ys q
        split at g
        · rename_i hz
          obtain ⟨vs, h1, h2⟩ := r.list hl q
          obtain ⟨le, r2⟩ := le_setlist r hl (((h2.take i.toNat).append (.cons hy .nil)).append (h2.drop i.toNat))
          exact ⟨_, vs, i, w2, rfl, rfl, h1, by rw [← h2.length]; exact hz.1, hz.2.1, hz.2.2, g m _ _ le r2 .non⟩
        · exact g.elim
      · exact g.elim
  · exact g.elim
/-! ### xs.index(x): items of a list -/
noncomputable def dIndex (x : D) (ys : List D) (s : Store) : Option (D × Store) := match ys with
  | [y] => (lstOf s x).bind fun xs => if flatD y = true ∧ xs.all flatD = true then (xs.findIdx? fun z => eqD z y).map fun j => (.int (j : Nat), s) else none
  | _ => none
theorem mts_index : MtS K (rIndex K) dIndex := by
  intro mg W σ m H s x d xs ds Q r p ps g
  unfold dIndex at g
  split at g
  · rename_i y
    obtain ⟨w, rfl, h⟩ := reps1 ps
    cases e : lstOf s d with
    | none => rw [e] at g; exact g.elim
    | some zs =>
      rw [e, Option.bind_some] at g
      split at g
      · rename_i hf
        cases q : zs.findIdx? fun z => eqD z y with
        | none => rw [q] at g; exact g.elim
        | some j =>
          rw [q] at g
          obtain ⟨a, vs, rfl, h1, h2⟩ := lstOf_sq r p e
          obtain ⟨hj, q1, q2⟩ := List.findIdx?_eq_some_iff_getElem.mp q
          have fl : ∀ i (hi : i < zs.length), flatD zs[i] = true := fun i hi => List.all_eq_true.mp hf.2 _ (List.getElem_mem hi)
          obtain ⟨v, hv, rv⟩ := h2.get (List.getElem?_eq_getElem hj)
          refine ⟨a, vs, w, j, v, rfl, rfl, h1, flat_rep h hf.1, flat_reps h2 hf.2, hv, by rw [eqD_rep rv h (fl j hj) hf.1]; exact q1, fun i z hi hz => ?_, g.now r (.int _)⟩
          have hi' : i < zs.length := by omega
          obtain ⟨v', hv', rv'⟩ := h2.get (List.getElem?_eq_getElem hi')
          rw [hz] at hv'
          cases hv'
          rw [eqD_rep rv' h (fl i hi') hf.1]
          simpa using q2 i hi
      · exact g.elim
  · exact g.elim
end
/-! ### equations for simp -/
theorem any_str (x : Str) (xs : List Str) : ((xs.map D.str).any fun z => eqD z (.str x)) = decide (x ∈ xs) := by
  rw [List.any_map, Bool.eq_iff_iff, List.any_eq_true, decide_eq_true_iff]
  exact ⟨fun ⟨z, h, e⟩ => by simp [eqD] at e; subst e; exact h, fun h => ⟨x, h, by simp [eqD]⟩⟩
theorem any_int (x : Int) (xs : List Int) : ((xs.map D.int).any fun z => eqD z (.int x)) = decide (x ∈ xs) := by
  rw [List.any_map, Bool.eq_iff_iff, List.any_eq_true, decide_eq_true_iff]
  exact ⟨fun ⟨z, h, e⟩ => by simp [eqD] at e; subst e; exact h, fun h => ⟨x, h, by simp [eqD]⟩⟩
theorem flat_str (xs : List Str) : (xs.map D.str).all flatD = true := by simp [flatD]
theorem flat_int (xs : List Int) : (xs.map D.int).all flatD = true := by simp [flatD]
theorem dInB_tupS (x : Str) (xs : List Str) (s : Store) : dInB (.str x) (.tup (xs.map D.str)) s = some (decide (x ∈ xs)) := by
  have e : inFlat (.str x) (xs.map D.str) = some (decide (x ∈ xs)) := by
    unfold inFlat
    rw [if_pos ⟨rfl, flat_str xs⟩, any_str]
  simp [dInB, dicOf, dctOf, seqOf, e]
theorem dInB_tupI (x : Int) (xs : List Int) (s : Store) : dInB (.int x) (.tup (xs.map D.int)) s = some (decide (x ∈ xs)) := by
  have e : inFlat (.int x) (xs.map D.int) = some (decide (x ∈ xs)) := by
    unfold inFlat
    rw [if_pos ⟨rfl, flat_int xs⟩, any_int]
  simp [dInB, dicOf, dctOf, seqOf, e]
theorem dInB_locS {l : Nat} {xs : List Str} {s : Store} (h : s[l]? = some (.lst (xs.map D.str))) (x : Str) : dInB (.str x) (.loc l) s = some (decide (x ∈ xs)) := by
  have e : inFlat (.str x) (xs.map D.str) = some (decide (x ∈ xs)) := by
    unfold inFlat
    rw [if_pos ⟨rfl, flat_str xs⟩, any_str]
  simp [dInB, dicOf, dctOf, seqOf, lstOf, h, e]
theorem dInB_locI {l : Nat} {xs : List Int} {s : Store} (h : s[l]? = some (.lst (xs.map D.int))) (x : Int) : dInB (.int x) (.loc l) s = some (decide (x ∈ xs)) := by
  have e : inFlat (.int x) (xs.map D.int) = some (decide (x ∈ xs)) := by
    unfold inFlat
    rw [if_pos ⟨rfl, flat_int xs⟩, any_int]
  simp [dInB, dicOf, dctOf, seqOf, lstOf, h, e]
theorem dInB_dct {s : Store} {l : Nat} {ks : List (List Key × D)} (h : s[l]? = some (.dct ks)) {x : D} {k : List Key} (hk : keyT x = some k) : dInB x (.loc l) s = some (getD ks k).isSome := by
  have e : dicOf s (.loc l) = none := by simp [dicOf, h]
  have e2 : dctOf s (.loc l) = some (l, ks) := by simp [dctOf, h]
  unfold dInB
  rw [e]
  simp only
  rw [e2]
  simp [hk]
theorem dInB_dic {s : Store} {l : Nat} {ks : List (Key × D)} (h : s[l]? = some (.dic ks)) {x : D} {k : Key} (hk : keyOf x = some k) : dInB x (.loc l) s = some (getD ks k).isSome := by
  have e : dicOf s (.loc l) = some (l, ks) := by simp [dicOf, h]
  unfold dInB
  rw [e]
  simp [hk]
theorem dIn_of {x y : D} {s : Store} {b : Bool} (h : dInB x y s = some b) : dIn x y s = some (.bl b, s) := by simp [dIn, h]
theorem dNotIn_of {x y : D} {s : Store} {b : Bool} (h : dInB x y s = some b) : dNotIn x y s = some (.bl !b, s) := by simp [dNotIn, h]
theorem dExtend_tup {s : Store} {l : Nat} {xs : List D} (h : s[l]? = some (.lst xs)) (zs : List D) (hz : xs.length + zs.length ≤ 1000000) : dExtend (.loc l) [.tup zs] s = some (.non, s.set l (.lst (xs ++ zs))) := by
  have q : xs.length + zs.length ≤ sizeLine := by rw [sizeLine_eq]; omega
  simp only [dExtend, h]
  rw [if_pos q]
/-! ### loops by place -/
theorem forL_at {gd : Store → Prop} {g : D → Sl → Option Sl} {b : MS} (xs : List D) (I : Nat → Sl → Store → Prop) (Q : RS → Prop) (hg : ∀ i env s, I i env s → gd s)
    (hs : ∀ i d env s, xs[i]? = some d → I i env s → Turns (I (i + 1)) Q (turn g b d env s)) (he : ∀ env s, I xs.length env s → Q (.nx env s)) {env : Sl} {s : Store} (h : I 0 env s) : Q (forL gd g b xs env s) := by
  refine forL_rule (fun ys env s => ∃ i, i ≤ xs.length ∧ ys = xs.drop i ∧ I i env s) Q (fun ys env s ⟨i, hi, _, q⟩ => hg i env s q) (fun x ys env s ⟨i, hi, e, q⟩ => ?_) (fun env s ⟨i, hi, e, q⟩ => ?_) ⟨0, Nat.zero_le _, rfl, h⟩
  · have hx : xs[i]? = some x := by
      have := congrArg (fun l : List D => l[0]?) e
      simpa using this.symm
    have hy : ys = xs.drop (i + 1) := by
      have := congrArg List.tail e
      simpa [List.tail_drop] using this
    have hlt := (List.getElem?_eq_some_iff.mp hx).1
    have t1 := hs i x env s hx q
    cases hb : turn g b x env s with
    | nx env2 s2 => rw [hb] at t1; exact ⟨i + 1, hlt, hy, t1⟩
    | ct env2 s2 => rw [hb] at t1; exact ⟨i + 1, hlt, hy, t1⟩
    | bk env2 s2 => rw [hb] at t1; exact t1
    | rt d s2 => rw [hb] at t1; exact t1
    | ex x env2 s2 => rw [hb] at t1; exact t1
    | no => rw [hb] at t1; exact t1
  · have : i = xs.length := by
      have := congrArg List.length e
      simp at this
      omega
    subst this
    exact he env s q
theorem forL_atT {gd : Store → Prop} {g : D → Sl → Option Sl} {b : MS} (xs : List D) (I : Nat → Sl → Store → Prop) (hg : ∀ i env s, I i env s → gd s)
    (hs : ∀ i d env s, xs[i]? = some d → I i env s → Turns (I (i + 1)) (fun _ => False) (turn g b d env s)) {env : Sl} {s : Store} (h : I 0 env s) : ∃ env' s', forL gd g b xs env s = .nx env' s' ∧ I xs.length env' s' :=
  forL_at xs I (fun r => ∃ env' s', r = .nx env' s' ∧ I xs.length env' s') hg (fun i d env s hi h => by
    have z := hs i d env s hi h
    cases q : turn g b d env s with
    | nx env2 s2 => rw [q] at z; exact z
    | ct env2 s2 => rw [q] at z; exact z
    | bk env2 s2 => rw [q] at z; exact z.elim
    | rt d s2 => rw [q] at z; exact z.elim
    | ex e env2 s2 => rw [q] at z; exact z.elim
    | no => rw [q] at z; exact z.elim) (fun env s h => ⟨env, s, rfl, h⟩) h
/-- a loop of yes-no turns: it goes on, or it returns -/
theorem forL_find {gd : Store → Prop} {g : D → Sl → Option Sl} {b : MS} (xs : List D) (I : Nat → Sl → Store → Prop) (ok : Nat → Bool) (out : Nat → D) (hg : ∀ i env s, I i env s → gd s)
    (hs : ∀ i d env s, xs[i]? = some d → I i env s → if ok i = true then Turns (I (i + 1)) (fun _ => False) (turn g b d env s) else ∃ s', turn g b d env s = .rt (out i) s' ∧ ∃ env', I i env' s') {env : Sl} {s : Store} (h : I 0 env s) :
    match (List.range xs.length).find? (fun i => !ok i) with
    | none => ∃ env' s', forL gd g b xs env s = .nx env' s' ∧ I xs.length env' s'
    | some i => ∃ s' env', forL gd g b xs env s = .rt (out i) s' ∧ I i env' s' := by
  have key : ∀ n, n ≤ xs.length → (∀ j, j < n → ok j = true) → ∀ env s, I n env s → match (List.range' n (xs.length - n)).find? (fun i => !ok i) with
      | none => ∃ env' s', forL gd g b (xs.drop n) env s = .nx env' s' ∧ I xs.length env' s'
      | some i => ∃ s' env', forL gd g b (xs.drop n) env s = .rt (out i) s' ∧ I i env' s' := by
    intro n
    induction hk : xs.length - n generalizing n with
    | zero =>
      intro hn _ env s hI
      have : n = xs.length := by omega
      subst this
      simp
      rw [forL_nil env s gd (hg _ _ _ hI)]
      exact ⟨_, _, rfl, hI⟩
    | succ k ih =>
      intro hn hall env s hI
      have hlt : n < xs.length := by omega
      rw [List.drop_eq_getElem_cons hlt, forL_cons env s gd (hg _ _ _ hI), List.range'_succ]
      have z := hs n xs[n] env s (by simp [hlt]) hI
      unfold turn at z
      by_cases c : ok n = true
      · rw [if_pos c] at z
        simp only [List.find?_cons, c, Bool.not_true]
        cases e1 : g xs[n] env with
        | none => rw [e1] at z; exact z.elim
        | some env1 =>
          rw [e1] at z
          dsimp only at z ⊢
          have hall' : ∀ j, j < n + 1 → ok j = true := fun j hj => by
            rcases Nat.lt_or_ge j n with w | w
            · exact hall j w
            · have : j = n := by omega
              rw [this]; exact c
          cases q : b env1 s with
          | nx env2 s2 => rw [q] at z; exact ih (n + 1) (by omega) hlt hall' env2 s2 z
          | ct env2 s2 => rw [q] at z; exact ih (n + 1) (by omega) hlt hall' env2 s2 z
          | bk env2 s2 => rw [q] at z; exact z.elim
          | rt d s2 => rw [q] at z; exact z.elim
          | ex e env2 s2 => rw [q] at z; exact z.elim
          | no => rw [q] at z; exact z.elim
      · rw [if_neg c] at z
        obtain ⟨s', h1, env', h2⟩ := z
        have c' : ok n = false := by simpa using c
        simp only [List.find?_cons, c', Bool.not_false]
        cases e1 : g xs[n] env with
        | none => rw [e1] at h1; cases h1
        | some env1 =>
          rw [e1] at h1
          dsimp only at h1 ⊢
          rw [h1]
          exact ⟨s', env', rfl, h2⟩
  have := key 0 (Nat.zero_le _) (fun j hj => absurd hj (Nat.not_lt_zero j)) env s h
  rw [Nat.sub_zero, ← List.range_eq_range', List.drop_zero] at this
  exact this
/-- range(i, j) -/
def rng2 (lo : Int) (n : Nat) : List D := (List.range n).map fun k => .int (lo + (k : Nat))
theorem rng2_get {lo : Int} {n i : Nat} {d : D} (h : (rng2 lo n)[i]? = some d) : i < n ∧ d = .int (lo + (i : Nat)) := by
  unfold rng2 at h
  rw [List.getElem?_map] at h
  cases e : (List.range n)[i]? with
  | none => rw [e] at h; cases h
  | some k =>
    rw [e] at h
    cases h
    obtain ⟨hl, he⟩ := List.getElem?_eq_some_iff.mp e
    simp at hl he
    exact ⟨hl, by rw [he]⟩
theorem rng2_len (lo : Int) (n : Nat) : (rng2 lo n).length = n := by simp [rng2]
theorem range2_int (i j : Int) (s : Store) (h0 : 0 ≤ i) (h1 : i ≤ 1000000000) (h2 : 0 ≤ j) (h3 : j ≤ 1000000000) : rangeOf2 [.int i, .int j] s = .ok (Itm.mk (rng2 i (j - i).toNat) always) s := rangeOf2_int s i j h0 h1 h2 h3
theorem rng_get {n i : Nat} {d : D} (h : (rng n)[i]? = some d) : i < n ∧ d = .int (i : Nat) := by
  obtain ⟨a, b⟩ := rng2_get (lo := 0) (n := n) h
  exact ⟨a, by rw [b, Int.zero_add]⟩
theorem rng_len (n : Nat) : (rng n).length = n := by simp [rng]
theorem map_get {α : Type} {f : α → D} {xs : List α} {i : Nat} {d : D} (h : (xs.map f)[i]? = some d) : ∃ x, xs[i]? = some x ∧ d = f x := by
  rw [List.getElem?_map] at h
  cases e : xs[i]? with
  | none => rw [e] at h; cases h
  | some x => rw [e] at h; cases h; exact ⟨x, rfl, rfl⟩
/-- a loop that looks for one that fails, and returns r there -/
theorem forL_all {α : Type} {gd : Store → Prop} {g : D → Sl → Option Sl} {b : MS} (f : α → D) (as : List α) (I : Sl → Prop) (s : Store) (ok : α → Bool) (r : D) (hg : gd s)
    (hs : ∀ a ∈ as, ∀ env, I env → if ok a = true then ∃ env', turn g b (f a) env s = .nx env' s ∧ I env' else turn g b (f a) env s = .rt r s) {env : Sl} (h : I env) :
    if as.all ok = true then ∃ env', forL gd g b (as.map f) env s = .nx env' s ∧ I env' else forL gd g b (as.map f) env s = .rt r s := by
  induction as generalizing env with
  | nil =>
    rw [List.map_nil, forL_nil env s gd hg]
    exact ⟨_, rfl, h⟩
  | cons a as ih =>
    rw [List.map_cons, forL_cons env s gd hg]
    have z := hs a (List.mem_cons_self ..) env h
    unfold turn at z
    by_cases c : ok a = true
    · rw [if_pos c] at z
      obtain ⟨env', z1, z2⟩ := z
      have q := ih (fun a' ha' => hs a' (List.mem_cons_of_mem _ ha')) z2
      cases e1 : g (f a) env with
      | none => rw [e1] at z1; cases z1
      | some env1 =>
        rw [e1] at z1
        dsimp only at z1 ⊢
        rw [z1]
        simpa [c] using q
    · rw [if_neg c] at z
      have c' : ok a = false := by simpa using c
      cases e1 : g (f a) env with
      | none => rw [e1] at z; cases z
      | some env1 =>
        rw [e1] at z
        dsimp only at z ⊢
        rw [z]
        simp [c']
theorem app_new (s : Store) (xs : List D) (y : D) (h : xs.length ≤ 1000000) : dAppend (.loc s.length) [y] (s ++ [.lst xs]) = some (.non, s ++ [.lst (xs ++ [y])]) := by
  have q := dAppend_loc (get_new s (.lst xs)) h y
  rw [q]
  simp
theorem ty_new (s : Store) (xs : List D) : tyOk "list" (s ++ [.lst xs]) (.loc s.length) = true := tyOk_list (get_new s (.lst xs))
theorem tyN_isi {s : Store} {d : D} {t : String} (h : tyN s d = some t) (T : String) : dIsi T d s = (kitB t T).map fun b => (.bl b, s) := by simp [h]
end Mi
namespace Mi
open PySem PySem.Spec PyProof.Rows L2
/-! ### more rules for mirrors -/
theorem tryAs_ex {i : Nat} {cs : List Str} {body : MS} {suite : Nat × Nat → MS} {env env2 : Sl} {s s2 : Store} {e : Ex} {r : RS} (h : body env s = .ex e env2 s2) (h1 : e.cls ∈ cs) (h2 : e.fs ≠ [])
    (h3 : ∀ g : Nat × Nat, clr i (suite g (env2.set i (some (.exv g.1 g.2 e.cls e.fs))) s2) = r) : sTryAs i cs body suite env s = r := by
  unfold sTryAs
  rw [h]
  simp only
  rw [if_pos ⟨h1, h2, fun g => by rw [h3 g]; exact (h3 (0, 0)).symm⟩]
  exact h3 (0, 0)
/-- what stood before stands, and something new behind it -/
def Ext (s s' : Store) : Prop := ∃ r, s' = s ++ r
theorem Ext.refl (s : Store) : Ext s s := ⟨[], by simp⟩
theorem Ext.mk (s r : Store) : Ext s (s ++ r) := ⟨r, rfl⟩
theorem Ext.trans {a b c : Store} (h : Ext a b) (k : Ext b c) : Ext a c := by
  obtain ⟨r, rfl⟩ := h
  obtain ⟨t, rfl⟩ := k
  exact ⟨r ++ t, by simp⟩
theorem Ext.get {a b : Store} (h : Ext a b) {l : Nat} {c : Cell} (e : a[l]? = some c) : b[l]? = some c := by
  obtain ⟨r, rfl⟩ := h
  rw [List.getElem?_append_left (lt_of_get e)]
  exact e
theorem Ext.le {a b : Store} (h : Ext a b) : a.length ≤ b.length := by
  obtain ⟨r, rfl⟩ := h
  simp
/-- an item of a tuple or a list, by place -/
theorem ix_map {α : Type} {f : α → D} {xs : List α} {i : Int} (h0 : 0 ≤ i) (h1 : i < xs.length) : ∃ a, a ∈ xs ∧ xs[i.toNat]? = some a ∧ ∀ s, dIx (.tup (xs.map f)) (.int i) s = some (f a, s) := by
  obtain ⟨n, rfl⟩ := Int.eq_ofNat_of_zero_le h0
  have hn : n < xs.length := by omega
  refine ⟨xs[n], List.getElem_mem _, by simp [hn], fun s => ?_⟩
  rw [dIx_tup, atI_ofNat _ _ (f xs[n]) (by simp [hn])]
  rfl
theorem ixL_map {α : Type} {f : α → D} {xs : List α} {s : Store} {l : Nat} (h : s[l]? = some (.lst (xs.map f))) {i : Int} (h0 : 0 ≤ i) (h1 : i < xs.length) : ∃ a, a ∈ xs ∧ xs[i.toNat]? = some a ∧ dIx (.loc l) (.int i) s = some (f a, s) := by
  obtain ⟨n, rfl⟩ := Int.eq_ofNat_of_zero_le h0
  have hn : n < xs.length := by omega
  refine ⟨xs[n], List.getElem_mem _, by simp [hn], ?_⟩
  rw [dIx_loc h, L2.atI_nat (v := f xs[n]) (by simp [hn])]
  rfl
theorem ix_mem {xs : List D} {i : Int} (h0 : 0 ≤ i) (h1 : i < xs.length) : ∃ a, a ∈ xs ∧ ∀ s, dIx (.tup xs) (.int i) s = some (a, s) := by
  obtain ⟨n, rfl⟩ := Int.eq_ofNat_of_zero_le h0
  have hn : n < xs.length := by omega
  refine ⟨xs[n], List.getElem_mem _, fun s => ?_⟩
  rw [dIx_tup, atI_ofNat _ _ xs[n] (by simp [hn])]
  rfl
theorem ixL_mem {xs : List D} {s : Store} {l : Nat} (h : s[l]? = some (.lst xs)) {i : Int} (h0 : 0 ≤ i) (h1 : i < xs.length) : ∃ a, a ∈ xs ∧ dIx (.loc l) (.int i) s = some (a, s) := by
  obtain ⟨n, rfl⟩ := Int.eq_ofNat_of_zero_le h0
  have hn : n < xs.length := by omega
  refine ⟨xs[n], List.getElem_mem _, ?_⟩
  rw [dIx_loc h, L2.atI_nat (v := xs[n]) (by simp [hn])]
  rfl
theorem dAdd_s {a b : Str} (h : a.length + b.length ≤ 1000000) (s : Store) : dAdd (.str a) (.str b) s = some (.str (a ++ b), s) := by
  have q := le_line h
  simp only [dAdd, q, if_true]
theorem cutS1 (ws : List Str) {k : Nat} (h : k ≤ ws.length) : cutD (ws.map D.str) none (some (k : Int)) = (ws.take k).map D.str := by
  unfold cutD
  rw [HT.sIx_none, HT.sIx_nat]
  simp [Nat.min_eq_left h]
theorem cutS2 (ws : List Str) {k : Nat} (h : k + 1 ≤ ws.length) : cutD (ws.map D.str) (some ((k : Int) + 1)) none = (ws.drop (k + 1)).map D.str := by
  unfold cutD
  rw [HT.sIx_none, show ((k : Int) + 1) = ((k + 1 : Nat) : Int) by omega, HT.sIx_nat, List.length_map, Nat.min_eq_left h, ← List.map_drop]
  rw [List.take_of_length_le (by simp)]
theorem sort_strs (A : List Str) : sortOk (A.map D.str) ∧ ∃ M : List Str, sortD (A.map D.str) = M.map D.str ∧ M.length = A.length ∧ M.Perm A := by
  refine ⟨⟨fun d hd => ?_, ?_, ?_⟩, A.mergeSort fun x y => PySem.W.dataLe false pyD (D.str x) (D.str y), ?_, List.length_mergeSort _, List.mergeSort_perm _ _⟩
  · obtain ⟨x, _, rfl⟩ := List.mem_map.mp hd
    exact ⟨rfl, by show PyData.depth (.str x) ≤ 60; simp [PyData.depth]⟩
  · rw [List.map_map]
    exact PySem.W.AllAlike.of (enc := fun x => pyD (D.str x)) fun x y => by show PySem.W.alike (.str x) (.str y) = true; simp [PySem.W.alike]
  · rw [List.map_map]
    exact PySem.W.Sortable.others (enc := fun x => pyD (D.str x)) fun x => ⟨by show PyData.str x ≠ .none; simp, fun xs => by show PyData.str x ≠ .tuple xs; simp⟩
  · unfold sortD
    rw [List.map_mergeSort (r := fun x y : Str => PySem.W.dataLe false pyD (D.str x) (D.str y)) (s := PySem.W.dataLe false pyD) fun _ _ _ _ => rfl]
/-- a comprehension by place -/
theorem lcL_at {gd : Store → Prop} {g : D → Sl → Option Sl} {t : ME Bool} {e : ME D} {env : Sl} (xs : List D) (I : Nat → List D → Store → Prop) (hg : ∀ i acc s, I i acc s → gd s)
    (hs : ∀ i d acc s, xs[i]? = some d → I i acc s → Kept (I (i + 1)) acc (pick g t e d env s)) {acc : List D} {s : Store} (h : I 0 acc s) : ∃ acc' s', lcL gd g t e env xs acc s = .ok acc' s' ∧ I xs.length acc' s' := by
  obtain ⟨acc', s', h1, i, hi, e, h2⟩ := lcL_thru (gd := gd) (g := g) (t := t) (e := e) (env := env) (fun ys acc s => ∃ i, i ≤ xs.length ∧ ys = xs.drop i ∧ I i acc s) (fun _ acc s ⟨i, hi, _, q⟩ => hg i acc s q) (fun x ys acc s ⟨i, hi, e, q⟩ => by
    have hx : xs[i]? = some x := by
      have := congrArg (fun l : List D => l[0]?) e
      simpa using this.symm
    have hy : ys = xs.drop (i + 1) := by
      have := congrArg List.tail e
      simpa [List.tail_drop] using this
    have hlt := (List.getElem?_eq_some_iff.mp hx).1
    have z := hs i x acc s hx q
    cases hp : pick g t _ x env s with
    | no => rw [hp] at z; exact z
    | ex x s => rw [hp] at z; exact z
    | ok o s2 =>
      rw [hp] at z
      cases o with
      | none => exact ⟨i + 1, hlt, hy, z⟩
      | some y => exact ⟨z.1, i + 1, hlt, hy, z.2⟩) (xs := xs) ⟨0, Nat.zero_le _, rfl, h⟩
  have : i = xs.length := by
    have := congrArg List.length e
    simp at this
    omega
  subst this
  exact ⟨acc', s', h1, h2⟩
/-! ### statement by statement -/
section
variable {P : RS → Prop} {i : Nat} {a : ME D} {t : ME Bool} {f g r : MS} {env env2 : Sl} {s s' s2 : Store} {d : D}
theorem st_set (h : a env s = .ok d s') (k : P (r (env.set i (some d)) s')) : P (sSeq (sSet i a) r env s) := by
  show P (RS.bind ((a env s).then env fun d s => .nx (env.set i (some d)) s) r)
  rw [h]
  exact k
theorem st_no (h : t env s = .ok false s') (k : P (r env s')) : P (sSeq (sIf t f sNil) r env s) := by
  show P (RS.bind ((t env s).then env fun b s => if b then f env s else sNil env s) r)
  rw [h]
  exact k
theorem st_else (h : t env s = .ok false s') (h2 : g env s' = .nx env2 s2) (k : P (r env2 s2)) : P (sSeq (sIf t f g) r env s) := by
  show P (RS.bind ((t env s).then env fun b s => if b then f env s else g env s) r)
  rw [h]
  show P (RS.bind (g env s') r)
  rw [h2]
  exact k
theorem st_yes (h : t env s = .ok true s') (h2 : f env s' = .nx env2 s2) (k : P (r env2 s2)) : P (sSeq (sIf t f g) r env s) := by
  show P (RS.bind ((t env s).then env fun b s => if b then f env s else g env s) r)
  rw [h]
  show P (RS.bind (f env s') r)
  rw [h2]
  exact k
theorem st_out (h : t env s = .ok true s') (h2 : f env s' = .rt d s2) (k : P (.rt d s2)) : P (sSeq (sIf t f g) r env s) := by
  show P (RS.bind ((t env s).then env fun b s => if b then f env s else g env s) r)
  rw [h]
  show P (RS.bind (f env s') r)
  rw [h2]
  exact k
theorem st_for {it : ME Itm} {x : Itm} {gt : D → Sl → Option Sl} {b : MS} (h : it env s = .ok x s') (h2 : forL x.guard gt b x.xs env s' = .nx env2 s2) (k : P (r env2 s2)) : P (sSeq (sFor it gt b) r env s) := by
  show P (RS.bind ((it env s).then env fun i s => forL i.guard gt b i.xs env s) r)
  rw [h]
  show P (RS.bind (forL x.guard gt b x.xs env s') r)
  rw [h2]
  exact k
theorem st_expr (h : a env s = .ok d s') (k : P (r env s')) : P (sSeq (sExpr a) r env s) := by
  show P (RS.bind ((a env s).then env fun _ s => .nx env s) r)
  rw [h]
  exact k
theorem st_ret (h : a env s = .ok d s') (k : P (.rt d s')) : P (sRet a env s) := by
  show P ((a env s).then env fun d s => .rt d s)
  rw [h]
  exact k
/-- it returns True -/
def Yes (r : RS) : Prop := ∃ s, r = .rt (.bl true) s
theorem Yes.fn {N n : Nat} {b : MS} {ds : List D} {s : Store} (h : Yes (b (ds.map some ++ List.replicate (N - n) none) s)) : ∃ s', fnM N n b ds s = .ok (.bl true) s' := by
  obtain ⟨s', e⟩ := h
  exact ⟨s', by rw [fnM_eq, e]⟩
end
end Mi
namespace Mi
open PySem PySem.Spec PyProof.Rows L2
/-! ### dict comprehensions -/
section
variable {K : PySem.W.Frag} {mg : Str → Option Value} {m m1 m2 : List Addr} {H H1 H2 : Hp} {s : Store} {p : Addr}
theorem lw_sideD {vs ws : List (Key × V)} (h : H p = some (.dK vs)) : Lw K m H m (upd H p (HO.dK ws)) :=
  ⟨⟨[], by simp⟩, fun b xs q => by
    rcases q with (q | ⟨ob, q⟩) | q
    · exact .inl (.inl (by rw [upd_ne (fun z => by subst z; rw [h] at q; cases q)]; exact q))
    · exact .inl (.inr ⟨ob, by rw [upd_ne (fun z => by subst z; rw [h] at q; cases q)]; exact q⟩)
    · exact .inr q, fun b xs q => by
    rcases q with ⟨ob, q⟩ | q
    · exact .inl ⟨ob, by rw [upd_ne (fun z => by subst z; rw [h] at q; cases q)]; exact q⟩
    · exact .inr q, fun b vfs q n => ⟨by rw [upd_ne (fun z => by subst z; rw [h] at q; cases q)]; exact q, n⟩, fun b xs q => by rw [upd_ne (fun z => by subst z; rw [h] at q; cases q)]; exact q⟩
theorem Rel.sideD (r : Rel K m H s) {vs ws : List (Key × V)} (h : H p = some (.dK vs)) (n : p ∉ m) : Rel K m (upd H p (HO.dK ws)) s :=
  ⟨r.len, r.nd, fun l a c h1 h2 => (r.at_ l a c h1 h2).monoW (lw_sideD h) (upd_ne fun z => by subst z; exact n (List.mem_of_getElem? h1))⟩
theorem Le.sideD (e : Le K m H m1 H1) {vs ws : List (Key × V)} (h0 : H p = none) (h : H1 p = some (.dK vs)) : Le K m H m1 (upd H1 p (HO.dK ws)) :=
  ⟨e.pre, fun a xs q => (lw_sideD (m := m1) h).tup a xs (e.tup a xs q), fun a xs q => (lw_sideD (m := m1) h).frl a xs (e.frl a xs q), fun b o q n => by
    rw [upd_ne (fun z => by subst z; rw [h0] at q; cases q)]; exact e.fr b o q n, e.nw, fun a xs q => (lw_sideD (K := K) (m := m1) h).trk a xs (e.trk a xs q)⟩
theorem lw_adoptD {vs : List (Key × V)} (h : H p = some (.dK vs)) : Lw K m H (m ++ [p]) H := ⟨⟨[p], rfl⟩, fun _ _ q => q, fun _ _ q => q, fun b vfs q n => ⟨q, fun z => by
    rcases List.mem_append.mp z with z | z
    · exact n z
    · rw [List.mem_singleton.mp z, h] at q; cases q⟩, fun _ _ q => q⟩
theorem Rel.adoptD (r : Rel K m H s) {xs : List (Key × D)} {vs : List (Key × V)} (n : p ∉ m) (h : H p = some (.dK vs)) (q : RepK K m H xs vs) : Rel K (m ++ [p]) H (s ++ [Cell.dic xs]) := by
  refine ⟨by simp [r.len], ?_, fun j b d h1 h2 => ?_⟩
  · rw [List.nodup_append]
    exact ⟨r.nd, by simp, fun x hx y hy => by rw [List.mem_singleton.mp hy]; exact fun z => n (z ▸ hx)⟩
  · rcases Nat.lt_or_ge j m.length with w | w
    · rw [List.getElem?_append_left w] at h1
      rw [List.getElem?_append_left (by rw [← r.len]; exact w)] at h2
      exact (r.at_ j b d h1 h2).monoW (lw_adoptD h) rfl
    · rw [List.getElem?_append_right w] at h1
      rw [List.getElem?_append_right (by rw [← r.len]; exact w), ← r.len] at h2
      cases hk : j - m.length with
      | zero =>
        rw [hk] at h1 h2
        simp at h1 h2
        subst h1; subst h2
        exact ⟨vs, h, q.monoW (lw_adoptD h)⟩
      | succ n => rw [hk] at h1; simp at h1
end
open Classical in
noncomputable def dcL (guard : Store → Prop) (g : D → Sl → Option Sl) (t : ME Bool) (ek ev : ME D) (env : Sl) : List D → List (Key × D) → Store → R (List (Key × D))
  | [], acc, s => if guard s then .ok acc s else .no
  | x :: xs, acc, s => if guard s then (match g x env with
    | none => .no
    | some env1 => match t env1 s with
      | .ok b s1 => if b then (match ek env1 s1 with
        | .ok y s2 => match ev env1 s2 with
          | .ok z s3 => match keyOf y with
            | some k => if acc.length < sizeLine then dcL guard g t ek ev env xs (putD acc k z) s3 else .no
            | none => .no
          | _ => .no
        | _ => .no) else dcL guard g t ek ev env xs acc s1
      | _ => .no) else .no
/-- {k: v for target in iter if ..} -/
noncomputable def eDc (it : ME Itm) (vs : List Nat) (g : D → Sl → Option Sl) (t : ME Bool) (ek ev : ME D) : ME D := fun env s => (it env s).bind fun i s => (dcL i.guard g t ek ev (wipeE env vs) i.xs [] s).bind fun acc s => .ok (.loc s.length) (s ++ [.dic acc])
section
variable {X : Cx} {W : WX}
theorem dc_run {fi : ME Itm} {vs : List Nat} {gt : D → Sl → Option Sl} {ft : ME Bool} {fk fv : ME D} : ∀ σ H Q, Te X.K X.mg W (eDc fi vs gt ft fk fv) σ H Q →
    tDc (Ti X.K X.mg W fi) (GTm X.K vs gt) (Tt X.K X.mg WF ft) (Te X.K X.mg WF fk) (Te X.K X.mg WF fv) vs σ H Q := fun σ H Q h =>
  Tm.bind (k := fun env (i : Itm) s => (dcL i.guard gt ft fk fv (wipeE env vs) i.xs [] s).bind fun acc s => R.ok (D.loc s.length) (s ++ [Cell.dic acc])) h fun m1 H1 env it J s1 r1 E1 p1 g1 => by
    intro P hP
    refine ⟨fun i k H => k = it.xs.length - i ∧ i ≤ it.xs.length ∧ ∃ m2 s2 acc accV, Le X.K m1 H1 m2 H ∧ Rel X.K m2 H s2 ∧ H P = some (.dK accV) ∧ P ∉ m2 ∧ RepK X.K m2 H acc accV ∧
        G X.K X.mg (Rep X.K) W σ m1 H1 Q ((dcL it.guard gt ft fk fv (wipeE env vs) (it.xs.drop i) acc s2).bind fun acc s => R.ok (D.loc s.length) (s ++ [Cell.dic acc])),
      ⟨it.xs.length, by simp, Nat.zero_le _, m1, s1, [], [], le_new hP, r1.tmp hP, upd_same, r1.new_notin hP, .nil, g1⟩, ?_⟩
    rintro i k H2 ⟨rfl, hi, m2, s2, acc, accV, l2, r2, hD, nD, pA, g2⟩
    by_cases hlt : i < it.xs.length
    · have hx : it.xs[i]? = some it.xs[i] := by simp [hlt]
      have hd : it.xs.drop i = it.xs[i] :: it.xs.drop (i + 1) := List.drop_eq_getElem_cons hlt
      rw [hd] at g2
      unfold dcL at g2
      by_cases hgd : it.guard s2
      · simp only [hgd, if_true] at g2
        obtain ⟨hall, _⟩ := p1 m2 H2 s2 l2 r2 hgd
        obtain ⟨hgo, hy⟩ := hall i _ hx
        refine .inr ⟨hgo, fun H' => ∃ m2 s2 acc accV, Le X.K m1 H1 m2 H' ∧ Rel X.K m2 H' s2 ∧ H' P = some (.dK accV) ∧ P ∉ m2 ∧ RepK X.K m2 H' acc accV ∧
          G X.K X.mg (Rep X.K) W σ m1 H1 Q ((dcL it.guard gt ft fk fv (wipeE env vs) (it.xs.drop (i + 1)) acc s2).bind fun acc s => R.ok (D.loc s.length) (s ++ [Cell.dic acc])),
          fun H' q => ⟨it.xs.length - (i + 1), by omega, rfl, hlt, q⟩, fun v H3 y => ?_⟩
        obtain ⟨l3, r3, p3⟩ := hy v H3 y
        cases q : gt it.xs[i] (wipeE env vs) with
        | none => simp only [q] at g2; exact g2.elim
        | some env3 =>
          simp only [q] at g2
          have l13 := l2.trans l3
          have hD3 := l3.fr P _ hD nD
          refine ⟨m2, wipeE env vs, s2, it.xs[i], env3, r3, relE_wipe (E1.mono l13) vs, p3, q, fun σ4 E4 k4 n4 => ⟨by rw [wipe_congr n4 k4, wipe_wipe], m2, env3, s2, r3, E4, ?_⟩⟩
          cases ht : ft env3 s2 with
          | no => rw [ht] at g2; exact g2.elim
          | ex x s4 => rw [ht] at g2; exact g2.elim
          | ok b s4 =>
            simp only [ht] at g2
            intro m5 H5 b' l5 r5 eb
            cases (show b = b' from eb)
            have hD5 := l5.fr P _ hD3 nD
            have nD5 : P ∉ m5 := fun z => by
              rcases l5.nw P z with w | w
              · exact nD w
              · rw [hD3] at w; cases w
            have l15 := l13.trans l5
            cases b with
            | false =>
              refine iteF ⟨m5, s4, acc, accV, l15, r5, hD5, nD5, (pA.mono l3).mono l5, ?_⟩
              simpa using g2
            | true =>
              simp only [if_true] at g2
              refine iteT ⟨m5, env3, s4, r5, E4.mono l5, ?_⟩
              cases he : fk env3 s4 with
              | no => rw [he] at g2; exact g2.elim
              | ex x s6 => rw [he] at g2; exact g2.elim
              | ok y s6 =>
                simp only [he] at g2
                intro m7 H7 yv l7 r7 p7
                have hD7 := l7.fr P _ hD5 nD5
                have nD7 : P ∉ m7 := fun z => by
                  rcases l7.nw P z with w | w
                  · exact nD5 w
                  · rw [hD5] at w; cases w
                refine ⟨m7, env3, s6, r7, (E4.mono l5).mono l7, ?_⟩
                cases hv : fv env3 s6 with
                | no => rw [hv] at g2; exact g2.elim
                | ex x s8 => rw [hv] at g2; exact g2.elim
                | ok z s8 =>
                  simp only [hv] at g2
                  intro m9 H9 zv l9 r9 p9
                  have hD9 := l9.fr P _ hD7 nD7
                  have nD9 : P ∉ m9 := fun z => by
                    rcases l9.nw P z with w | w
                    · exact nD7 w
                    · rw [hD7] at w; cases w
                  cases hk : keyOf y with
                  | none => simp only [hk] at g2; exact g2.elim
                  | some k =>
                    simp only [hk] at g2
                    by_cases hz : acc.length < sizeLine
                    · simp only [hz, if_true] at g2
                      have pA9 := (((pA.mono l3).mono l5).mono l7).mono l9
                      have pP := (repk_put (k := k) pA9 p9).monoW (lw_sideD (m := m9) (ws := putK accV k zv) hD9)
                      exact ⟨accV, k, keyOf_rep p7 hk, hD9, by rw [← repk_len pA]; exact hz, m9, s8, putD acc k z, putK accV k zv, ((l15.trans l7).trans l9).sideD hP hD9, r9.sideD hD9 nD9, upd_same, nD9, pP, g2⟩
                    · simp only [hz, if_false] at g2
                      exact g2.elim
      · simp only [hgd, if_false] at g2
        exact g2.elim
    · have e : i = it.xs.length := by omega
      subst e
      rw [List.drop_length] at g2
      unfold dcL at g2
      by_cases hgd : it.guard s2
      · simp only [hgd, if_true] at g2
        refine .inl ⟨(p1 m2 H2 s2 l2 r2 hgd).2, ?_⟩
        exact g2 (m2 ++ [P]) H2 (.ref P) (l2.adopt hP) (r2.adoptD nD hD pA) (.loc (len_get r2))
      · simp only [hgd, if_false] at g2
        exact g2.elim
variable {ek ev tg iter c : Expr} {ifs : List Expr} {scope : Scope} {own : List (Str × Nat)} {pos : Pos} {fi : ME Itm} {gt : D → Sl → Option Sl} {ft : ME Bool} {fk fv : ME D}
theorem ce_dc (hc : X.calm = true) (hN : X.N.Nodup) (hi : PI X tg iter (Ti X.K X.mg W fi)) (ok : BlkOk X.N X.env.scope scope own)
    (hg : ∀ (s : Shared) (H : Hp) (C : Addr) (cl : List (Str × Addr)) (fp : List Addr), PG (X.blk s H scope (compEnvC scope cl C X.env) fp) tg (GTm X.K (own.map (·.2)) gt)) (ht : ∀ (s : Shared) (H : Hp) (C : Addr) (cl : List (Str × Addr)) (fp : List Addr), PTs (X.blk s H scope (compEnvC scope cl C X.env) fp) ifs (Tt X.K X.mg WF ft))
    (hk : ∀ (s : Shared) (H : Hp) (C : Addr) (cl : List (Str × Addr)) (fp : List Addr), PE (X.blk s H scope (compEnvC scope cl C X.env) fp) ek (Te X.K X.mg WF fk))
    (he : ∀ (s : Shared) (H : Hp) (C : Addr) (cl : List (Str × Addr)) (fp : List Addr), PE (X.blk s H scope (compEnvC scope cl C X.env) fp) ev (Te X.K X.mg WF fv)) (hs : ∀ x, foldedSetIterable iter X.env x = pure x := by intro _; rfl) :
    PE X (.DictComp ek ev [⟨tg, iter, ifs, 0⟩] scope pos) (Te X.K X.mg W (eDc fi (own.map (·.2)) gt ft fk fv)) := PE.imp (pe_dc hc hN hi ok hg ht hk he hs) dc_run
end
/-! ### name = {k: v for ..} on one line -/
section
variable {X : Cx} {W : WX} {kx vx tg iter : Expr} {ifs : List Expr} {sc : Scope} {own : List (Str × Nat)} {cp sp np : Pos} {z : Str} {l : Nat}
theorem sw_dict {env : Env} {gs : List Comprehension} (kind : env.scope.kind = .function) (there : env.scope.names.lookup z = some .local) (line : (np.line == cp.line) = true)
    (none_own : (sc.names.any fun (n, k) => n == z && (k == .local || k == .cell)) = false) : swapsWith (.DictComp kx vx gs sc cp) (some (.Name z np)) l env = pure true := by
  have q1 : env.kindOf z = some .local := there
  have q2 : env.blockKind = .function := by
    unfold Env.blockKind
    rw [kind]
    rfl
  unfold swapsWith
  simp only [q2, q1, none_own, Expr.pos, line]
  rfl
theorem cs_setDc {i : Nat} {fi : ME Itm} {gt : D → Sl → Option Sl} {ft : ME Bool} {fk fv : ME D} (calm : X.calm = true) (nd : X.N.Nodup) (at_ : X.N[i]? = some z) (there : X.env.scope.names.lookup z = some .local)
    (swaps : swapsWith (.DictComp kx vx [⟨tg, iter, ifs, 0⟩] sc cp) (some (.Name z np)) sp.line X.env = pure true) (pi : PI X tg iter (Ti X.K X.mg W fi)) (ok : BlkOk X.N X.env.scope sc own)
    (pg : ∀ (s : Shared) (H : Hp) (C : Addr) (cl : List (Str × Addr)) (fp : List Addr), PG (X.blk s H sc (compEnvC sc cl C X.env) fp) tg (GTm X.K (own.map (·.2)) gt))
    (pt : ∀ (s : Shared) (H : Hp) (C : Addr) (cl : List (Str × Addr)) (fp : List Addr), PTs (X.blk s H sc (compEnvC sc cl C X.env) fp) ifs (Tt X.K X.mg WF ft))
    (pk : ∀ (s : Shared) (H : Hp) (C : Addr) (cl : List (Str × Addr)) (fp : List Addr), PE (X.blk s H sc (compEnvC sc cl C X.env) fp) kx (Te X.K X.mg WF fk))
    (pv : ∀ (s : Shared) (H : Hp) (C : Addr) (cl : List (Str × Addr)) (fp : List Addr), PE (X.blk s H sc (compEnvC sc cl C X.env) fp) vx (Te X.K X.mg WF fv)) (folds : ∀ x, foldedSetIterable iter X.env x = pure x := by intro _; rfl) :
    PS X (.Assign [.Name z np] (.DictComp kx vx [⟨tg, iter, ifs, 0⟩] sc cp) sp) (Ts X.K X.mg W (sSet i (eDc fi (own.map (·.2)) gt ft fk fv))) := by
  constructor
  intro pins s σ H Dn I told
  rw [exec_Assign_Name_used _ _ _ _ swaps]
  apply wpAny_bind
  apply wpAny_standAt
  apply wpAny_bind
  show wpAny _ X.A (do
    let _ ← comprehension (.DictComp kx vx [⟨tg, iter, ifs, 0⟩] sc cp) sc X.env (firstIterPos [⟨tg, iter, ifs, 0⟩] cp) newDict false (eval iter X.env) (some (assign (.Name z np) X.env))) _ _ s
  have asked : tDc (Ti X.K X.mg W fi) (GTm X.K (own.map (·.2)) gt) (Tt X.K X.mg WF ft) (Te X.K X.mg WF fk) (Te X.K X.mg WF fv) (own.map (·.2)) σ H (fun x H1 => gName i x σ H1 Dn.nx) :=
    dc_run σ H _ (Ts.ofE (k := fun env d s => RS.nx (env.set i (some d)) s) told fun m1 H1 env d v s1 r1 E1 p1 g1 => g1 m1 _ H1 .refl r1 (relE_set E1 p1 i))
  apply wpAny_bind
  refine thn (dc_core (Qf := fun _ t => L2.SP X pins Dn .next t) calm nd I pi ok pg pt pk pv folds asked ?_) (fun _ _ q => wpAny_pure (wpAny_pure q))
  intro L C t m H2 I2 q ns fpok
  show wpAny _ _ (assign (.Name z np) X.env (.ref L)) _ _ _
  apply wpAny_assign_Name
  refine store_ok2 (v := V.ref L) I2 nd at_ (.inl there) rfl ?_ (.inr there)
  rintro t2 I3 ⟨a, but, where_⟩
  obtain ⟨g0, g1, g2, g3, g4, g5⟩ := fpok
  have away : C ≠ a := where_.elim (fun e => e.symm ▸ g1) (fun e w => g4 z a e w.symm)
  refine ⟨m, ns.sameBut but away, fun h4 but2 => ?_⟩
  exact ⟨_, H2, I3.turned (t' := t2.toks) (fun b o nb e => (but2.2 b nb).trans e) g0 g1 g3 g4 g5, q⟩
end
/-! ### x[i], x a text besides -/
def dIxZ (x i : D) (s : Store) : Option (D × Store) := match x, i with
  | .str z, .int j => if z.length ≤ 1000000 then (L2.atI z.cps.toList j).map fun c => (.str ⟨#[c]⟩, s) else none
  | .str _, _ => none
  | x, i => dIxA x i s
def rIxZ (K : PySem.W.Frag) : R2 := fun x y H Q => (rIx K x y H Q ∨ rIxDic x y H Q) ∨ rIxS x y H Q
theorem ix_Z {X : Cx} (hu : X.A.units + 64 < cLine) : IxR X (rIxZ X.K) := (ix_any hu).or ix_str
section
variable {K : PySem.W.Frag}
theorem ops_ixZ : OpS K (rIxZ K) dIxZ := by
  intro mg W σ m H s x y dx dy Q r px py g
  by_cases hz : ∃ z, dx = .str z
  · obtain ⟨z, rfl⟩ := hz
    cases px
    cases dy with
    | int j =>
      cases py
      by_cases hl : z.length ≤ 1000000
      · cases e : L2.atI z.cps.toList j with
        | none => simp [dIxZ, hl, e] at g; exact g.elim
        | some c =>
          have g' : G K mg (Rep K) W σ m H Q (.ok (.str ⟨#[c]⟩) s) := by simpa [dIxZ, hl, e] using g
          exact .inr ⟨z, j, c, rfl, rfl, le_line hl, e, g'.now r (.str _)⟩
      · simp [dIxZ, hl] at g; exact g.elim
    | _ => exact g.elim
  · have e : dIxZ dx dy s = dIxA dx dy s := by
      cases dx <;> first | rfl | exact (hz ⟨_, rfl⟩).elim
    rw [e] at g
    exact .inl (ops_ixA r px py g)
theorem dIxZ_tup (xs : List D) (i : D) (s : Store) : dIxZ (.tup xs) i s = dIx (.tup xs) i s := by cases i <;> rfl
theorem dIxZ_locA (l : Nat) (i : D) (s : Store) : dIxZ (.loc l) i s = dIxA (.loc l) i s := by cases i <;> rfl
theorem dIxZ_loc {s : Store} {l : Nat} {xs : List D} (h : s[l]? = some (.lst xs)) (i : Int) : dIxZ (.loc l) (.int i) s = dIx (.loc l) (.int i) s := by
  rw [dIxZ_locA, dIxA_loc h, dIx_loc h]
theorem dIxZ_str {z : Str} (h : z.length ≤ 1000000) (j : Int) (s : Store) : dIxZ (.str z) (.int j) s = (L2.atI z.cps.toList j).map fun c => (.str ⟨#[c]⟩, s) := by
  show (if z.length ≤ 1000000 then _ else none) = _
  rw [if_pos h]
/-! ### [x] * n -/
noncomputable def dRep (x y : D) (s : Store) : Option (D × Store) := match x, y with
  | .loc l, .int k => match s[l]? with
    | some (.lst xs) => if -(2 ^ 63) ≤ k ∧ k < 2 ^ 63 ∧ xs.length * k.toNat ≤ sizeLine then some (.loc s.length, s ++ [.lst (List.replicate k.toNat xs).flatten]) else none
    | _ => none
  | _, _ => none
theorem reps_rep {m : List Addr} {H : Hp} {xs : List D} {vs : List V} (p : Reps K m H xs vs) : ∀ n, Reps K m H (List.replicate n xs).flatten (List.replicate n vs).flatten
  | 0 => .nil
  | n + 1 => by
    rw [List.replicate_succ, List.replicate_succ, List.flatten_cons, List.flatten_cons]
    exact p.append (reps_rep p n)
theorem ops_rep : OpS K rRep dRep := by
  intro mg W σ m H s x y dx dy Q r px py g
  unfold dRep at g
  split at g
  · rename_i l k
    cases py
    cases px with
    | loc hl =>
      split at g
      · rename_i xs q
        split at g
        · rename_i hz
          obtain ⟨vs, h1, h2⟩ := r.list hl q
          refine ⟨_, k, vs, rfl, rfl, h1, hz.1, hz.2.1, by rw [← h2.length]; exact hz.2.2, fun p hp => ?_⟩
          exact g (m ++ [p]) _ _ (le_more r hp) (rel_newlist r hp (reps_rep h2 k.toNat)) (.loc (len_get r))
        · exact g.elim
      · exact g.elim
  · exact g.elim
/-! ### t.index(z), a tuple of texts -/
def strsOf : List D → Option (List Str)
  | [] => some []
  | .str z :: r => (strsOf r).map fun q => z :: q
  | _ => none
theorem strsOf_map (zs : List Str) : strsOf (zs.map D.str) = some zs := by
  induction zs with
  | nil => rfl
  | cons z zs ih => simp [strsOf, ih]
theorem strs_reps {m : List Addr} {H : Hp} : ∀ {ds : List D} {vs : List V} {zs : List Str}, Reps K m H ds vs → strsOf ds = some zs → vs = zs.map V.str
  | [], _, _, .nil, e => by cases e; rfl
  | d :: ds, _, zs, .cons h r, e => by
    cases d with
    | str z =>
      cases h
      simp only [strsOf] at e
      cases q : strsOf ds with
      | none => rw [q] at e; cases e
      | some w =>
        rw [q] at e
        cases e
        rw [List.map_cons, strs_reps r q]
    | _ => cases e
def rTix (K : PySem.W.Frag) : V → List V → Hp → VK → Prop := fun x xs H Q => ∃ p, ∃ ys : List Str, ∃ z j, x = .ref p ∧ xs = [.str z] ∧ SqT K H p (ys.map V.str) ∧ ys[j]? = some z ∧ (∀ m, m < j → ys[m]? ≠ some z) ∧ Q (.int (j : Nat)) H
theorem mt_tix {X : Cx} : MtR X "tuple.index" (rTix X.K) := mt_tup_index
def dTix (x : D) (ys : List D) (s : Store) : Option (D × Store) := match x, ys with
  | .tup xs, [.str z] => (strsOf xs).bind fun zs => (zs.findIdx? fun w => decide (w = z)).map fun j => (.int (j : Nat), s)
  | _, _ => none
theorem mts_tix : MtS K (rTix K) dTix := by
  intro mg W σ m H s x d xs ds Q r p ps g
  unfold dTix at g
  split at g
  · rename_i ys z
    obtain ⟨w, rfl, h⟩ := reps1 ps
    cases h
    obtain ⟨a, vs, rfl, h1, h2⟩ := p.sqT
    cases e : strsOf ys with
    | none => rw [e] at g; exact g.elim
    | some zs =>
      rw [e, Option.bind_some] at g
      cases q : zs.findIdx? fun w => decide (w = z) with
      | none => rw [q] at g; exact g.elim
      | some j =>
        rw [q] at g
        obtain ⟨hj, q1, q2⟩ := List.findIdx?_eq_some_iff_getElem.mp q
        have ev := strs_reps h2 e
        subst ev
        have hz : zs[j] = z := of_decide_eq_true q1
        refine ⟨a, zs, z, j, rfl, rfl, h1, by rw [List.getElem?_eq_getElem hj, hz], fun i hi w => ?_, g.now r (.int _)⟩
        have hi' : i < zs.length := by omega
        rw [List.getElem?_eq_getElem hi'] at w
        have := q2 i hi
        simp only [decide_eq_true_eq] at this
        exact this (Option.some.inj w)
  · exact g.elim
end
/-! ### list(d), d a dict -/
def keyD : Key → D
  | .inl i => .int i
  | .inr z => .str z
def rListA (K : PySem.W.Frag) : List V → Hp → VK → Prop := fun xs H Q => (∃ p ys, xs = [.ref p] ∧ (SqL K H p ys ∨ SqT K H p ys) ∧ ∀ l, H l = none → Q (.ref l) (upd H l (.lst ys))) ∨
  (∃ d kvs, xs = [V.ref d] ∧ Rd H d (.dT kvs) ∧ ∀ p bs, H p = none → IsKeys H kvs bs → Q (.ref p) (upd H p (.lst (bs.map V.ref)))) ∨
  ∃ (a : Addr) (kvs : List (Key × V)), xs = [.ref a] ∧ Rd H a (.dK kvs) ∧ ∀ p, H p = none → Q (.ref p) (upd H p (.lst (kvs.map fun kv => kV kv.1)))
theorem call_listA {X : Cx} (hc : X.calm = true) : CallR X (.type "list") (rListA X.K) := call_list_of.or ((call_list_dT hc).or (call_listD hc))
def dListA (ds : List D) (s : Store) : Option (D × Store) := match ds with
  | [x] => match dicOf s x with
    | some (_, ks) => some (.loc s.length, s ++ [.lst (ks.map fun kv => keyD kv.1)])
    | none => match dctOf s x with
      | some (_, ks) => some (.loc s.length, s ++ [.lst (ks.map fun kv => .tup (kv.1.map keyD))])
      | none => dList [x] s
  | _ => none
section
variable {K : PySem.W.Frag} {m : List Addr} {H : Hp}
theorem keyD_rep (k : Key) : Rep K m H (keyD k) (kV k) := by
  cases k with
  | inl i => exact .int i
  | inr z => exact .str z
theorem keysD_rep : ∀ ks : List Key, Reps K m H (ks.map keyD) (ks.map kV)
  | [] => .nil
  | k :: ks => .cons (keyD_rep k) (keysD_rep ks)
theorem reps_keysK : ∀ {ks : List (Key × D)} {vs : List (Key × V)}, RepK K m H ks vs → Reps K m H (ks.map fun kv => keyD kv.1) (vs.map fun kv => kV kv.1)
  | _, _, .nil => .nil
  | _, _, .cons (k := k) _ r => .cons (keyD_rep k) (reps_keysK r)
theorem reps_keysT : ∀ {ks : List (List Key × D)} {vs : List (List Key × V)} {bs : List Addr}, RepK K m H ks vs → IsKeys H vs bs → Reps K m H (ks.map fun kv => .tup (kv.1.map keyD)) (bs.map V.ref)
  | _, _, _, .nil, q => by cases q; exact .nil
  | _, _, _, .cons (k := k) _ r, q => by
    cases q with
    | cons h t => exact .cons (.tup h (keysD_rep k)) (reps_keysT r t)
theorem fns_listA : FnS K (rListA K) dListA := by
  intro mg W σ m H s xs ds Q r p g
  unfold dListA at g
  split at g
  · rename_i x
    obtain ⟨v, rfl, h⟩ := reps1 p
    cases e : dicOf s x with
    | some o =>
      obtain ⟨l, ks⟩ := o
      rw [e] at g
      obtain ⟨a, vs, _, rfl, _, h1, h2⟩ := dicOf_at r h e
      refine .inr (.inr ⟨a, vs, rfl, .inl h1, fun q hq => ?_⟩)
      exact g (m ++ [q]) _ _ (le_more r hq) (rel_newlist r hq (reps_keysK h2)) (.loc (len_get r))
    | none =>
      rw [e] at g
      simp only at g
      cases e2 : dctOf s x with
      | some o =>
        obtain ⟨l, ks⟩ := o
        rw [e2] at g
        obtain ⟨a, vs, _, rfl, _, h1, h2⟩ := dctOf_at r h e2
        refine .inr (.inl ⟨a, vs, rfl, .inl h1, fun q bs hq hk => ?_⟩)
        exact g (m ++ [q]) _ _ (le_more r hq) (rel_newlist r hq (reps_keysT h2 hk)) (.loc (len_get r))
      | none =>
        rw [e2] at g
        exact .inl (fns_list r p g)
  · exact g.elim
end
/-! ### a, b = e, e a list -/
/-- a list taken apart -/
def sAsgL (n : Nat) (r : List D → Sl → Option Sl) (e : ME D) : MS := fun env s => (e env s).then env fun d s => match lstOf s d with
  | some xs => if xs.length = n then (match r xs env with | some env' => .nx env' s | none => .no) else .no
  | none => .no
section
variable {X : Cx} {W : WX} {pos : Pos} {tpos : Pos} {es : List Expr} {e : Expr} {fe : ME D}
theorem cs_asgL {k n : Nat} {r : List D → Sl → Option Sl} {vs : List Nat} (hc : X.calm = true) (he : PE X e (Te X.K X.mg W fe)) (h : PGs X es (GTs X.K vs r)) (hn : (assignEach es X.env).length = n := by rfl) (hst : (assignEach es X.env).findIdx? (·.1) = none := by rfl)
    (hs : swapsWithSole [.Tuple es k tpos] e pos.line X.env = pure false := by rfl) (hw : swappedStores [.Tuple es k tpos] e X.env = pure none := by rfl)
    (h1 : (assignEach [.Tuple es k tpos] X.env).map (·.2) = [assign (.Tuple es k tpos) X.env] := by rfl) : PS X (.Assign [.Tuple es k tpos] e pos) (Ts X.K X.mg W (sAsgL n r fe)) := PS.imp (ps_asg he (pg_lst (n := n) hc h hn hst) hs hw h1) fun Dn σ H h =>
  Ts.ofE (k := fun env d s => match lstOf s d with
  | some xs => if xs.length = n then (match r xs env with | some env' => RS.nx env' s | none => .no) else .no
  | none => .no) h fun m1 H1 env d v s1 r1 E1 p1 g1 => by
    cases q : lstOf s1 d with
    | none => simp only [q] at g1; exact g1.elim
    | some xs =>
      simp only [q] at g1
      by_cases hl : xs.length = n
      · simp only [hl, if_true] at g1
        cases q2 : r xs env with
        | none => simp only [q2] at g1; exact g1.elim
        | some env' =>
          simp only [q2] at g1
          obtain ⟨a, ws, rfl, hq, rr⟩ := lstOf_sq r1 p1 q
          exact ⟨a, ws, rfl, hq, by rw [← rr.length]; exact hl, m1, env, s1, xs, env', r1, E1, rr, q2, fun σ' E' _ _ => g1 m1 σ' H1 .refl r1 E'⟩
      · simp only [hl, if_false] at g1
        exact g1.elim
end
end Mi
namespace Mi
open PySem PySem.Spec PyProof.Rows L2
/-! ### picked places -/
def permL {α : Type} (is : List Nat) (xs : List α) : List α := is.filterMap (xs[·]?)
theorem vals_perm {xs : List V} {us : List Value} (r : Vals xs us) : ∀ is : List Nat, Vals (permL is xs) (permL is us)
  | [] => .nil
  | i :: is => by
    unfold permL
    rw [List.filterMap_cons, List.filterMap_cons]
    cases q : xs[i]? with
    | none => rw [r.none_of q]; exact vals_perm r is
    | some x =>
      obtain ⟨u, e, h⟩ := r.get q
      rw [e]
      exact .cons h (vals_perm r is)
section
variable {K : PySem.W.Frag} {m : List Addr} {H : Hp}
theorem reps_perm {xs : List D} {vs : List V} (r : Reps K m H xs vs) : ∀ is : List Nat, Reps K m H (permL is xs) (permL is vs)
  | [] => .nil
  | i :: is => by
    unfold permL
    rw [List.filterMap_cons, List.filterMap_cons]
    cases q : xs[i]? with
    | none =>
      have : vs[i]? = none := by
        have h := List.getElem?_eq_none_iff.mp q
        rw [r.length] at h
        exact List.getElem?_eq_none_iff.mpr h
      rw [this]; exact reps_perm r is
    | some x =>
      obtain ⟨u, e, h⟩ := r.get q
      rw [e]
      exact .cons h (reps_perm r is)
theorem mem_perm {α : Type} {is : List Nat} {xs : List α} {x : α} (h : x ∈ permL is xs) : x ∈ xs := by
  obtain ⟨i, _, e⟩ := List.mem_filterMap.mp h
  exact List.mem_of_getElem? e
theorem perm_length {α : Type} (is : List Nat) (xs : List α) : (permL is xs).length ≤ is.length := List.length_filterMap_le ..
end
/-! ### x[a:b:c], a list -/
def stepIs (lo hi st : Option Int) (n : Nat) : List Nat := sliceRange (sliceBounds lo hi st n).1 (sliceBounds lo hi st n).2.1 (sliceBounds lo hi st n).2.2
def tStep (K : PySem.W.Frag) (te : TE) (tl tu ts : TO) : TE := fun σ H Q => te σ H fun x H1 => tl σ H1 fun l H2 => tu σ H2 fun u H3 => ts σ H3 fun st H4 =>
  ∃ a xs, x = .ref a ∧ SqL K H4 a xs ∧ st ≠ some 0 ∧ (permL (stepIs l u st xs.length) xs).length ≤ sizeLine ∧ ∀ p, H4 p = none → Q (.ref p) (upd H4 p (.lst (permL (stepIs l u st xs.length) xs)))
theorem pe_step {X : Cx} {e : Expr} {te : TE} {tl tu ts : TO} {lo hi : Option Expr} {st : Expr} {p3 pos : Pos} (he : PE X e te) (hl : PO X lo tl) (hu : PO X hi tu) (hs : PO X (some st) ts) : PE X (.Subscript e (.Slice lo hi (some st) p3) pos) (tStep X.K te tl tu ts) := by
  refine ⟨fun pins s σ H Q I h => Subscript_ (thn (he.run pins s σ H _ I h) fun v s1 ⟨x, H1, I1, r1, q1⟩ => ?_)⟩
  refine wpAny_Slice (thn (hl.run pins s1 σ H1 _ I1 q1) fun vl s2 ⟨l, H2, I2, pl, q2⟩ => thn (hu.run pins s2 σ H2 _ I2 q2) fun vu s3 ⟨u, H3, I3, pu, q3⟩ => thn (hs.run pins s3 σ H3 _ I3 q3) fun vs s4 ⟨o, H4, I4, ps, q4⟩ => ?_)
  obtain ⟨a, xs, ex, hx, h0, hz, q⟩ := q4
  subst ex
  cases r1
  have I5 : Inv X pins σ H4 { s4 with heap := s4.heap.push { cls := .type "slice", data := .fields #[vl, vu, vs] } } := I4.kept (t' := s4.toks) fun b ob q => Heap.get?_push_of_some _ q
  show wpAny (model X.prog X.w) X.A (subscriptTail e (.Slice lo hi (some st) p3) (.ref a) (.ref s4.heap.objs.size)) (EP X pins σ Q) X.xe { s4 with heap := s4.heap.push { cls := .type "slice", data := .fields #[vl, vu, vs] } }
  obtain ⟨its, r, ht, hz2⟩ := I5.list hx
  have hlen := r.length
  refine tail_any (ops := [.ref a, .ref s4.heap.objs.size]) ht.isList.typeIs (PySem.slot_list_getitem.lookup) ?_ (by with_unfolding_all rfl)
  refine wpAny_getItem_list_slice ht.isList (Heap.IsSliceOf.new _ vl vu vs) pl pu ps h0 ?_ (by rw [List.size_toArray]; omega)
  have ep : slicePick its.toArray l u o = (permL (stepIs l u o xs.length) its).toArray := by
    unfold slicePick permL stepIs
    rw [List.size_toArray, ← hlen]
    simp
  rw [ep]
  refine ⟨.ref _, _, I5.laid (t' := s4.toks) (o := .lst (permL (stepIs l u o xs.length) xs)) (fun b ob q => Heap.get?_push_of_some _ q) (Nat.le_refl _) ?_, rfl, q _ (I5.hok.fresh (Nat.le_refl _))⟩
  exact ⟨hz, _, 0, vals_perm r _, Heap.get?_push_size _ rfl⟩
noncomputable def dStep (x : D) (lo hi st : Option Int) (s : Store) : Option (D × Store) := (lstOf s x).bind fun xs =>
  if st ≠ some 0 ∧ (permL (stepIs lo hi st xs.length) xs).length ≤ sizeLine then some (.loc s.length, s ++ [.lst (permL (stepIs lo hi st xs.length) xs)]) else none
noncomputable def eStep (a : ME D) (lo hi st : ME (Option Int)) : ME D := fun env s => (a env s).bind fun x s => (lo env s).bind fun l s => (hi env s).bind fun u s => (st env s).bind fun t s => R.of (dStep x l u t s)
section
variable {X : Cx} {W : WX} {pos p2 : Pos} {a c : Expr} {fa : ME D} {ol oh os : ME (Option Int)} {lo hi : Option Expr}
theorem ce_step (ha : PE X a (Te X.K X.mg W fa)) (hl : PO X lo (To X.K X.mg W ol)) (hu : PO X hi (To X.K X.mg W oh)) (hs : PO X (some c) (To X.K X.mg W os)) :
    PE X (.Subscript a (.Slice lo hi (some c) p2) pos) (Te X.K X.mg W (eStep fa ol oh os)) :=
  PE.imp (pe_step ha hl hu hs) fun σ H Q h => Tm.bind (k := fun env x s => (ol env s).bind fun l s => (oh env s).bind fun u s => (os env s).bind fun t s => R.of (dStep x l u t s)) h fun m1 H1 env x v s1 r1 E1 p1 g1 =>
    ⟨m1, env, s1, r1, E1, G.bind g1 fun m2 H2 l l' s2 l2 r2 p2 g2 => ⟨m2, env, s2, r2, E1.mono l2, G.bind g2 fun m3 H3 u u' s3 l3 r3 p3 g3 => ⟨m3, env, s3, r3, (E1.mono l2).mono l3, G.bind g3 fun m4 H4 t t' s4 l4 r4 p4 g4 => by
      cases (show l = l' from p2); cases (show u = u' from p3); cases (show t = t' from p4)
      have p := ((p1.mono l2).mono l3).mono l4
      unfold dStep at g4
      cases e : lstOf s4 x with
      | none => rw [e] at g4; exact g4.elim
      | some xs =>
        rw [e, Option.bind_some] at g4
        obtain ⟨b, vs, rfl, hq, rr⟩ := lstOf_sq r4 p e
        by_cases hz : t ≠ some 0 ∧ (permL (stepIs l u t xs.length) xs).length ≤ sizeLine
        · rw [if_pos hz] at g4
          have el : vs.length = xs.length := rr.length.symm
          have rp := reps_perm rr (stepIs l u t xs.length)
          refine ⟨b, vs, rfl, hq, hz.1, by rw [el, ← rp.length]; exact hz.2, fun q hq' => ?_⟩
          rw [el]
          exact g4 (m4 ++ [q]) _ _ (le_more r4 hq') (rel_newlist r4 hq' rp) (.loc (len_get r4))
        · rw [if_neg hz] at g4
          exact g4.elim⟩⟩⟩
end
/-! ### dict(zip(a, b)), two lists -/
def tDictZip (K : PySem.W.Frag) (ta : TA) : TE := fun σ H Q => ta σ H fun vs H1 => ∃ (a b : Addr) (ks : List Key) (xs : List V), vs = [.ref a, .ref b] ∧ SqL K H1 a (ks.map kV) ∧ SqL K H1 b xs ∧ ks.length = xs.length ∧ ∀ p, H1 p = none → Q (.ref p) (upd H1 p (.dK (mergeK [] (ks.zip xs))))
theorem kv_zip {P : Program} {w : World} : ∀ {ks : List Key} {xs : List V} {us ws : List Value}, Vals (ks.map kV) us → Vals xs ws → ks.length = xs.length →
    ∃ prs : List (Key × Value), KV (ks.zip xs) prs ∧ prs.length = ks.length ∧ ∀ (i : Nat) (k v : Value), us[i]? = some k → ws[i]? = some v → ∃ q, prs[i]? = some (q, v) ∧ (mixKind P w).is q k = true
  | [], _, us, ws, r, r2, e => by
    cases r
    exact ⟨[], .nil, rfl, fun i k v h => by simp at h⟩
  | k :: ks, [], _, _, _, _, e => by cases e
  | k :: ks, x :: xs, us, ws, r, r2, e => by
    rw [List.map_cons] at r
    cases r with
    | cons h t =>
      cases r2 with
      | cons h2 t2 =>
        rename_i u us' w' ws'
        obtain ⟨prs, q1, q2, q3⟩ := kv_zip (P := P) (w := w) t t2 (by simpa using e)
        refine ⟨(k, w') :: prs, .cons ⟨rfl, h2⟩ q1, by simp [q2], fun i k' v h1 h3 => ?_⟩
        cases i with
        | zero =>
          simp at h1 h3
          subst h1; subst h3
          exact ⟨k, rfl, kV_is (P := P) (w := w) h⟩
        | succ i => exact q3 i k' v (by simpa using h1) (by simpa using h3)
theorem pe_dictZip {X : Cx} {e e2 : Expr} {ta : TA} {p p2 pos q : Pos} (hg : Gl X "dict") (hm : X.mg "dict" = none) (hg2 : Gl X "zip") (hm2 : X.mg "zip" = none) (ha : PA X [e, e2] ta) (hc : X.calm = true := by rfl)
    (na : starEach [Expr.Call (.Name "zip" p2) [e, e2] [] q] X.env = (false, eval (Expr.Call (.Name "zip" p2) [e, e2] [] q) X.env) :: starEach [] X.env := by rfl)
    (hs : starEach [e, e2] X.env = (false, eval e X.env) :: starEach [e2] X.env := by rfl) (hpl : (backTo q (starEach [e2] X.env)).any (·.1) = false := by rfl) :
    PE X (.Call (.Name "dict" p) [.Call (.Name "zip" p2) [e, e2] [] q] [] pos) (tDictZip X.K ta) := by
  refine ⟨fun pins s σ H Q I h => ?_⟩
  refine Call_ (ld_blt I hg hm PyProof.Rows.boot_dict ?_)
  refine PyProof.Rows.callWith_type1 (PyProof.Rows.args_cons ?_ na) na rfl
  refine Call_ (ld_blt I hg2 hm2 PyProof.Rows.boot_zip (PyProof.Rows.callWith_type1 (thn (ha.run q pins s σ H _ I h) fun us s1 ⟨vs, H1, I1, r1, q1⟩ => ?_) hs hpl))
  obtain ⟨a, b, ks, xs, ex, hqx, hqy, hlen, q1⟩ := q1
  subst ex
  cases r1 with
  | cons r rr =>
    cases rr with
    | cons r' rr =>
      cases rr
      cases r
      cases r'
      obtain ⟨its, rv, p1, hz1⟩ := I1.list hqx
      obtain ⟨its2, rv2, p2', _⟩ := I1.list hqy
      refine call_zip_2 p1.isList p2'.isList fun h' hz hTI hTO h1 h2 hsz hk => ?_
      refine PyProof.Rows.args_nil ?_
      have I2 : Inv X pins σ H1 { s1 with heap := h' } := I1.kept (t' := s1.toks) hk
      obtain ⟨prs, d1, d2, d3⟩ := kv_zip (P := X.prog) (w := X.w) rv rv2 hlen
      have l1 : its.length = ks.length := by rw [← rv.length, List.length_map]
      have l2 : its2.length = ks.length := by rw [← rv2.length, hlen]
      have D := PySem.W.ktu_apart s1.heap.objs.size a b p1.lt p2'.lt
      refine PySem.call_dict_pairs (s := { s1 with heap := h' }) (knd := mixKind X.prog X.w) (kvs := prs) (PySem.PairArg.zip (s1.heap.objs.size + 4) (s1.heap.objs.size + 2) (s1.heap.objs.size + 3) s1.heap.objs.size (s1.heap.objs.size + 1) a b D its.toArray its2.toArray) (I2.ok.hd hc)
        ⟨hz, hTI, ⟨_, _, hTO⟩, h1, h2, p1.isList.at fun o e => hk _ _ e, p2'.isList.at fun o e => hk _ _ e⟩ ⟨?_, ?_⟩ ?_ ?_
      · simp [l1, l2, d2]
      · intro i key v ⟨e1, e2⟩
        exact d3 i key v (by simpa using e1) (by simpa using e2)
      · simp only [List.size_toArray, l1, l2, Nat.min_self]
        rw [← List.length_map (as := ks) (f := kV)]; exact hz1
      · intro h'' tk hd' hk2
        have k2 : ∀ b o, s1.heap.get? b = some o → h''.get? b = some o := fun b o e => by
          refine hk2 b o (fun z => ?_) (hk b o e)
          have lt := Heap.lt_size e
          simp only [List.mem_cons, List.not_mem_nil, or_false] at z
          rcases z with z | z | z | z
          · exact Nat.not_lt.mpr (Nat.le_add_right _ _) (z ▸ lt)
          · exact Nat.not_lt.mpr (Nat.le_add_right _ _) (z ▸ lt)
          · exact Nat.lt_irrefl _ (z ▸ lt)
          · exact Nat.not_lt.mpr (Nat.le_add_right _ _) (z ▸ lt)
        have hb : (h'.objs.size == sysModules) = false := beq_eq_false_iff_ne.mpr (Nat.ne_of_gt I2.big)
        have hle : (mergeK [] (ks.zip xs)).length ≤ sizeLine := by
          refine Nat.le_trans (length_mergeK _ []) ?_
          rw [List.length_nil, Nat.zero_add, List.length_zip, ← hlen, Nat.min_self, ← List.length_map (as := ks) (f := kV)]
          exact hz1
        have sz : s1.heap.objs.size ≤ h'.objs.size := by omega
        exact ⟨.ref h'.objs.size, upd H1 h'.objs.size (.dK (mergeK [] (ks.zip xs))), I1.laid (t' := tk) k2 sz (show ObjOk X.prog X.w _ _ _ (.dK (mergeK [] (ks.zip xs))) from ⟨hle, hb, merged [] prs, KV.merge d1 .nil, hd'⟩), rfl, q1 _ (I1.hok.fresh sz)⟩
def keysZ : List D → Option (List Key)
  | [] => some []
  | d :: ds => (keyOf d).bind fun k => (keysZ ds).map fun ks => k :: ks
def mergeD (acc : List (Key × D)) (more : List (Key × D)) : List (Key × D) := more.foldl (fun acc kv => putD acc kv.1 kv.2) acc
def dDictZip (ds : List D) (s : Store) : Option (D × Store) := match ds with
  | [x, y] => (lstOf s x).bind fun xs => (lstOf s y).bind fun ys => (keysZ xs).bind fun ks => if ks.length = ys.length then some (.loc s.length, s ++ [.dic (mergeD [] (ks.zip ys))]) else none
  | _ => none
section
variable {K : PySem.W.Frag} {m : List Addr} {H : Hp}
theorem keysZ_rep : ∀ {ds : List D} {vs : List V} {ks : List Key}, Reps K m H ds vs → keysZ ds = some ks → vs = ks.map kV
  | [], _, _, .nil, e => by cases e; rfl
  | d :: ds, _, ks, .cons h t, e => by
    unfold keysZ at e
    cases q : keyOf d with
    | none => rw [q] at e; cases e
    | some k =>
      rw [q, Option.bind_some] at e
      cases q2 : keysZ ds with
      | none => rw [q2] at e; cases e
      | some ks2 =>
        rw [q2] at e
        cases e
        rw [keyOf_rep h q, keysZ_rep t q2, List.map_cons]
theorem repk_zip : ∀ {ks : List Key} {ys : List D} {vs : List V}, Reps K m H ys vs → RepK K m H (ks.zip ys) (ks.zip vs)
  | [], _, _, _ => .nil
  | k :: ks, _, _, .nil => by rw [List.zip_nil_right, List.zip_nil_right]; exact .nil
  | k :: ks, _, _, .cons h t => by rw [List.zip_cons_cons, List.zip_cons_cons]; exact .cons h (repk_zip t)
theorem repk_merge {more : List (Key × D)} {moreV : List (Key × V)} (h : RepK K m H more moreV) : ∀ {acc : List (Key × D)} {accV : List (Key × V)}, RepK K m H acc accV → RepK K m H (mergeD acc more) (mergeK accV moreV) := by
  induction h with
  | nil => exact fun r => r
  | @cons k x v xs vs h t ih =>
    intro acc accV r
    exact ih (repk_put (k := k) r h)
end
section
variable {X : Cx} {W : WX} {pos p p2 q : Pos} {e e2 : Expr} {fs : ME (List D)}
theorem ce_dictZip (hc : X.calm = true) (hg : Gl X "dict") (hm : X.mg "dict" = none) (hg2 : Gl X "zip") (hm2 : X.mg "zip" = none) (ha : PA X [e, e2] (Ta X.K X.mg W fs))
    (na : starEach [Expr.Call (.Name "zip" p2) [e, e2] [] q] X.env = (false, eval (Expr.Call (.Name "zip" p2) [e, e2] [] q) X.env) :: starEach [] X.env := by rfl)
    (hs : starEach [e, e2] X.env = (false, eval e X.env) :: starEach [e2] X.env := by rfl) (hpl : (backTo q (starEach [e2] X.env)).any (·.1) = false := by rfl) :
    PE X (.Call (.Name "dict" p) [.Call (.Name "zip" p2) [e, e2] [] q] [] pos) (Te X.K X.mg W (eFn dDictZip fs)) :=
  PE.imp (pe_dictZip hg hm hg2 hm2 ha hc na hs hpl) fun σ H Q h => Tm.bind (k := fun env xs s => R.of (dDictZip xs s)) h fun m1 H1 env ds vs s1 r1 E1 p1 g1 => by
    unfold dDictZip at g1
    split at g1
    · rename_i x y
      obtain ⟨v, w, rfl, px, py⟩ := reps2 p1
      cases q1 : lstOf s1 x with
      | none => rw [q1] at g1; exact g1.elim
      | some xs =>
        cases q2 : lstOf s1 y with
        | none => rw [q1, Option.bind_some, q2] at g1; exact g1.elim
        | some ys =>
          cases q3 : keysZ xs with
          | none => rw [q1, Option.bind_some, q2, Option.bind_some, q3] at g1; exact g1.elim
          | some ks =>
            rw [q1, Option.bind_some, q2, Option.bind_some, q3, Option.bind_some] at g1
            by_cases hl : ks.length = ys.length
            · rw [if_pos hl] at g1
              obtain ⟨a, vx, rfl, h1, rx⟩ := lstOf_sq r1 px q1
              obtain ⟨b, vy, rfl, h2, ry⟩ := lstOf_sq r1 py q2
              have ev := keysZ_rep rx q3
              subst ev
              refine ⟨a, b, ks, vy, rfl, h1, h2, by rw [hl, ry.length], fun q hq => ?_⟩
              have rk : RepK X.K m1 H1 (mergeD [] (ks.zip ys)) (mergeK [] (ks.zip vy)) := repk_merge (repk_zip ry) .nil
              exact g1 (m1 ++ [q]) _ _ (le_more r1 hq) (r1.new hq ⟨_, upd_same, rk.mono (le_more r1 hq)⟩) (.loc (len_get r1))
            · rw [if_neg hl] at g1
              exact g1.elim
    · exact g1.elim
end
/-! ### f(k = e, ..) of keywords alone -/
def KBi (K : PySem.W.Frag) (fd : FuncData) (ps ks : List Str) (is : List Nat) : Prop := ∀ (s : Shared) (ws : List Value), K.In s.heap → ws.length = ks.length → BindsTo s fd ⟨[], ks.zip ws⟩ (ps.zip (permL is ws))
theorem kbi {K : PySem.W.Frag} {x qual : Str} {st : Stmt} {f : Addr} {fd : FuncData} {ps ks : List Str} {is : List Nat} (F : Fun K x qual st f fd)
    (h : ∀ (kV doc pm : Value) (an : Option Addr) (cdv ct : Value) (ws : List Value), ws.length = ks.length → bindArgs (PySem.W.fnOf x qual (defArgs st) (defBody st) (defScope st) .none kV doc pm an cdv ct) ⟨[], ks.zip ws⟩ = pure (ps.zip (permL is ws))) : KBi K fd ps ks is := by
  obtain ⟨oc, od, kV, doc, pm, an, cdv, ct, osl, rfl, lk, hcd⟩ := F.ex
  exact fun s ws _ hl => .of_eq (h kV doc pm an cdv ct ws hl)
def tCallKw (n : Nat) (is : List Nat) (sp : Sp) (E : L2.St → XK) (t : TA) : TE := fun σ H Q => t σ H fun zs H1 => zs.length = n ∧ sp (permL is zs) H1 Q (E σ)
section
variable {X : Cx} {CX : CXT} {k : Nat} {f : Addr} {fd : FuncData} {ps ks : List Str} {sp : Sp} {E : L2.St → XK} {x : Str} {p pos : Pos} {kws : List Keyword} {t : TA} {is : List Nat}
theorem run_fnKw {pins : List (Addr × Obj)} {σ : L2.St} {H : Hp} {s : Shared} {Q : VK} {ws : List Value} {zs : List V} (F : FnOk X.prog X.w X.K X.mg X.base CX k f fd ps sp) (hr : Room k X.A) (hb : KBi X.K fd ps ks is) (hx : PassesAt CX X σ (E σ))
    (I : Inv X pins σ H s) (r : Vals zs ws) (hl : zs.length = ks.length) (h : sp (permL is zs) H Q (E σ)) : wpAny (model X.prog X.w) X.A (call (.ref f) [] (ks.zip ws)) (EP X pins σ Q) X.xe s := by
  refine wpAny_call (codeAny_mono (F.run X.A X.stack s H ⟨[], ks.zip ws⟩ (permL is ws) (permL is zs) Q (E σ) hr I.env0 (hb s ws I.kIn (by rw [← r.length]; exact hl)) (vals_perm r is) h) fun r s' hq => ?_)
  cases r with
  | error e => exact hx pins H s e s' I hq
  | ok fl =>
    cases fl with
    | ret u => exact I.after hq
    | next => exact False.elim hq
    | brk => exact False.elim hq
    | cont => exact False.elim hq
theorem pe_callKw (F : FnOk X.prog X.w X.K X.mg X.base CX k f fd ps sp) (hr : Room k X.A) (hg : Gl X x) (hm : X.mg x = some (.ref f)) (hk : PySem.W.keepIn X.K (.ref f) = true) (hb : KBi X.K fd ps ks is) (hx : ∀ σ, PassesAt CX X σ (E σ))
    (hkw : PK X kws t) (hall : (backToKw pos (keywordEach kws X.env)).all (·.1.isSome) = true := by rfl) (hks : (backToKw pos (keywordEach kws X.env)).filterMap (·.1) = ks := by rfl)
    (hdb : (x == ("__debug__" : Str)) = false := by decide)
    (hpl : ((backTo pos (starEach [] X.env)).any (·.1) || (backToKw pos (keywordEach kws X.env)).any (·.1.isNone)) = false := by rfl) :
    PE X (.Call (.Name x p) [] kws pos) (tCallKw ks.length is sp E t) := by
  refine ⟨fun pins s σ H Q I h => ?_⟩
  refine wpAny_Call_Name_kw (ld_glob I hg hm ?_ hdb)
  refine PySem.W.callWith_KW0 (h₀ := X.base) I.ok.mod.kin hk hall (thn (hkw.run pos pins s σ H _ I h) fun ws s2 ⟨zs, H2, I2, rz, hl, q2⟩ => ⟨I2.kIn, ?_⟩) hpl
  rw [hks]
  exact run_fnKw F hr hb (hx σ) I2 rz hl q2
end
theorem PK.imp {X : Cx} {kws : List Keyword} {t t' : TA} (h : PK X kws t) (q : ∀ σ H Q, t' σ H Q → t σ H Q) : PK X kws t' := ⟨fun pos pins s σ H Q I h' => h.run pos pins s σ H Q I (q σ H Q h')⟩
section
variable {X : Cx} {W : WX} {pos kpos : Pos} {e : Expr} {fa : ME D} {fs : ME (List D)} {nm : Option Str} {kws : List Keyword}
theorem ck_nil : PK X [] (Ta X.K X.mg W aNil) := PK.imp pk_nil fun σ H Q ⟨m, env, s, r, E, g⟩ => g m H [] .refl r .nil
theorem ck_cons (ha : PE X e (Te X.K X.mg W fa)) (hr : PK X kws (Ta X.K X.mg W fs)) : PK X (⟨nm, e, kpos⟩ :: kws) (Ta X.K X.mg W (aCons fa fs)) :=
  PK.imp (pk_cons ha hr) fun σ H Q h => Tm.bind (k := fun env x s => (fs env s).bind fun xs s => R.ok (x :: xs) s) h fun m1 H1 env x v s1 r1 E1 p1 g1 =>
    ⟨m1, env, s1, r1, E1, G.bind g1 fun m2 H2 xs vs s2 l2 r2 p2 g2 => g2 m2 H2 _ .refl r2 (.cons (p1.mono l2) p2)⟩
noncomputable def eCallKw (is : List Nat) (g : List D → Store → R D) (a : ME (List D)) : ME D := fun env s => (a env s).bind fun xs s => g (permL is xs) s
theorem ce_callKw {k n : Nat} {f : Addr} {fd : FuncData} {ps ks : List Str} {x : Str} {p : Pos} {is : List Nat} {g : List D → Store → R D} (F : FnOk X.prog X.w X.K X.mg X.base (L2.CX X.prog X.w) k f fd ps (spM X.K X.mg n g)) (hr : Room k X.A) (tk : Takes X W) (hg : Gl X x) (hm : X.mg x = some (.ref f)) (hk : PySem.W.keepIn X.K (.ref f) = true) (hb : KBi X.K fd ps ks is)
    (hn : ∀ xs s env, ∀ s', fs env s = .ok xs s' → xs.length = ks.length) (hp : ∀ vs : List V, vs.length = ks.length → (permL is vs).length = n) (hkw : PK X kws (Ta X.K X.mg W fs)) (hdb : (x == ("__debug__" : Str)) = false := by decide)
    (hall : (backToKw pos (keywordEach kws X.env)).all (·.1.isSome) = true := by rfl) (hks : (backToKw pos (keywordEach kws X.env)).filterMap (·.1) = ks := by rfl)
    (hpl : ((backTo pos (starEach [] X.env)).any (·.1) || (backToKw pos (keywordEach kws X.env)).any (·.1.isNone)) = false := by rfl) :
    PE X (.Call (.Name x p) [] kws pos) (Te X.K X.mg W (eCallKw is g fs)) :=
  PE.imp (pe_callKw (E := WE W) F hr hg hm hk hb (fun σ => passAt tk σ) hkw hall hks hdb hpl) fun σ H Q h => by
    obtain ⟨m, env, s, r, E, g0⟩ := h
    refine ⟨m, env, s, r, E, ?_⟩
    unfold eCallKw at g0
    cases hf : fs env s with
    | ok xs s1 =>
      rw [hf] at g0
      intro m1 H1 vs l1 r1 p1
      have hl : vs.length = ks.length := by rw [← p1.length]; exact hn xs s env s1 hf
      refine ⟨hl, hp vs hl, m1, s1, permL is xs, r1, reps_perm p1 is, ?_⟩
      have g1 : G X.K X.mg (Rep X.K) W σ m H Q (g (permL is xs) s1) := g0
      have g2 := g1.mono l1
      cases hgx : g (permL is xs) s1 with
      | ok a s2 => rw [hgx] at g2; exact g2
      | ex x2 s2 => rw [hgx] at g2; exact g2
      | no => rw [hgx] at g2; exact g2
    | ex x s1 => rw [hf] at g0; exact g0
    | no => rw [hf] at g0; exact g0.elim
end
/-! ### z * k, a text -/
def repS (z : Str) (k : Int) : Str := ⟨(List.replicate k.toNat z.cps.toList).flatten.toArray⟩
theorem foldl_repS (its : List Nat) : ∀ (k : Nat) (acc : List Nat), List.foldl (fun x1 x2 => x1 ++ x2) acc.toArray (List.replicate k its.toArray) = (acc ++ (List.replicate k its).flatten).toArray
  | 0, acc => by simp
  | k + 1, acc => by
    rw [List.replicate_succ, List.foldl_cons, List.append_toArray, foldl_repS its k (acc ++ its), List.replicate_succ, List.flatten_cons, List.append_assoc]
theorem repS_length (z : Str) (k : Int) : (repS z k).length = k.toNat * z.length := by
  show (List.replicate k.toNat z.cps.toList).flatten.toArray.size = k.toNat * z.cps.size
  simp
def rMulS : R2 := fun x y H Q => ∃ (z : Str) (k : Int), x = .str z ∧ y = .int k ∧ 0 ≤ k ∧ k ≤ 1000000 ∧ z.length * k.toNat ≤ 1000000 ∧ Q (.str (repS z k)) H
theorem op_mulS {X : Cx} : OpR X (binaryOp .Mult) rMulS := by
  intro pins s σ H x y v u Q I rx ry h
  obtain ⟨z, k, rfl, rfl, h0, h1, hz, q⟩ := h
  obtain ⟨t, rfl⟩ := rx
  obtain ⟨t2, rfl⟩ := ry
  have hl : z.length * k.toNat ≤ sizeLine := le_line hz
  have tl : Builtin.Str.tooLong (z.length * k.toNat) = false := by
    unfold Builtin.Str.tooLong
    exact decide_eq_false (Nat.not_lt.mpr hl)
  refine PySem.P.mul_str ?_ (fun hn hk => ?_) (fun _ _ => tl) ?_
  · rw [decide_eq_false (by omega), decide_eq_false (by omega)]; rfl
  · have hk2 : (0 : Int) < k := by omega
    have e : ((2 : Int) ^ 63 - 1) / k ≥ z.length := by
      refine (Int.le_ediv_iff_mul_le hk2).mpr ?_
      have : (z.length : Int) * k ≤ 1000000 := by
        have e2 : ((z.length * k.toNat : Nat) : Int) = (z.length : Int) * k := by
          rw [Int.natCast_mul, Int.toNat_of_nonneg h0]
        rw [← e2]; omega
      omega
    omega
  · split
    · rename_i hn
      have : k = 0 := by omega
      subst this
      exact ⟨by decide, .str (repS z 0), H, I.tok _, ⟨_, rfl⟩, q⟩
    · rename_i hn
      split
      · rename_i hk
        refine ⟨.str (repS z k), H, I, ⟨t, ?_⟩, q⟩
        have : k = 1 ∨ z.length = 0 := by simpa using hk
        have e : repS z k = z := by
          rcases this with rfl | h
          · simp [repS]
          · obtain ⟨c⟩ := z
            have : c = #[] := by simpa [Str.length] using h
            subst this
            simp [repS]
        rw [e]
      · have e : (⟨(List.replicate k.toNat z.cps).foldl (· ++ ·) #[]⟩ : Str) = repS z k := by
          have := foldl_repS z.cps.toList k.toNat []
          unfold repS
          congr 1
        rw [e]
        refine ⟨?_, .str (repS z k), H, I.tok _, ⟨_, rfl⟩, q⟩
        rw [repS_length, Nat.mul_comm]
        exact hl
noncomputable def dMulS (x y : D) (s : Store) : Option (D × Store) := match x, y with
  | .str z, .int k => if 0 ≤ k ∧ k ≤ 1000000 ∧ z.length * k.toNat ≤ 1000000 then some (.str (repS z k), s) else none
  | _, _ => none
theorem ops_mulS {K : PySem.W.Frag} : OpS K rMulS dMulS := by
  intro mg W σ m H s x y dx dy Q r px py g
  unfold dMulS at g
  split at g
  · rename_i z k
    cases px; cases py
    split at g
    · rename_i hz
      exact ⟨z, k, rfl, rfl, hz.1, hz.2.1, hz.2.2, g.now r (.str _)⟩
    · exact g.elim
  · exact g.elim
theorem dMulS_str {z : Str} {k : Int} (h0 : 0 ≤ k) (h1 : k ≤ 1000000) (hz : z.length * k.toNat ≤ 1000000) (s : Store) : dMulS (.str z) (.int k) s = some (.str (repS z k), s) := if_pos ⟨h0, h1, hz⟩
end Mi
namespace Mi
open PySem PySem.Spec PyProof.Rows L2
/-! ### try: body except x as n: suite except ..: all that the body raises is x's -/
def wAsR (K : PySem.W.Frag) (c : Value) (i : Nat) (ts : Addr → Value → Option Addr → TS) (D : Ends) : WX := fun cls d σ H => PySem.W.exmOne K cls c = some true ∧
  ∀ a, H a = none → ts a cls d { nx := fun σ' H' => D.nx (σ'.set i none) H', rt := D.rt, bk := fun σ' H' => D.bk (σ'.set i none) H', ct := fun σ' H' => D.ct (σ'.set i none) H' } (σ.set i (some (.ref a))) H
section
variable {X : Cx} {x n : Str} {c : Value} {i : Nat} {body suite : List Stmt} {b₀ : Stmt} {rest : List ExceptHandler} {np pos pos' : Pos} {tb : WX → TS} {ts : Addr → Value → Option Addr → TS}
theorem ps_asR (stk : X.stack = X.env :: X.outer) (frm : X.env.frame = some X.env.locals) (nod : X.N.Nodup) (slot : X.N[i]? = some n) (loc : X.env.kindOf n = some .local) (nam : Names X x c)
    (run : ∀ (W : WX) (q : List (Addr × Obj)) (z : Value → Shared → Prop), Takes (X.tr q z) W → PassesOwn (model X.prog X.w) X.A X.env z → PSs (X.tr q z) body (tb W))
    (sui : ∀ (a : Addr) (oe : Obj) (cls : Value) (d : Option Addr) (q : List (Addr × Obj)), Zc cls d oe → (∃ vs, oe.data = .fields vs) → PSs (X.suite a ((a, oe) :: q)) (b₀ :: suite) (ts a cls d)) :
    PS X (.Try body (.ExceptHandler (some (.Name x np)) (some n) (b₀ :: suite) pos' :: rest) [] [] pos) (fun D σ H => tb (wAsR X.K c i ts D) D σ H) := by
  constructor
  intro pins st τ G Dn J0 told
  have okk := J0.ok
  have fr2 : X.A.frames = some (X.env :: X.outer) := by rw [okk.frames, stk]
  have isl : Loc X.env.scope n := .inl loc
  refine wpAny_Try_except (wpAny_mono ((run (wAsR X.K c i ts Dn) (X.pn ++ pins) (fun e s₁ => wpAny (model X.prog X.w) X.A (noteFrame e X.env) (fun _ s₂ => wpAny (model X.prog X.w) X.A (setFlight e none) (fun _ s₃ =>
    wpAny (model X.prog X.w) X.A (handleBy e X.env (.ExceptHandler (some (.Name x np)) (some n) (b₀ :: suite) pos' :: rest)) (SP X pins Dn) X.xe s₃) X.xe s₂) X.xe s₁) (fun u s' caught => ?_) PassesOwn.looking).run [] st τ G Dn (J0.toTry _) told) (fun f s1 ended => ?_) (fun e s1 z => z))
  · obtain ⟨a, B, sI, pins', τ', G', cls, d, rfl, K', nb, up, sky, na, os, ag, hb1, yes⟩ := caught
    have K1 : Inv X pins τ' G' sI := K'.ofTry okk
    have sky2 : Sky B (X.env :: X.outer) a (Zc cls d) X.env.locals s'.heap := by rw [← stk]; exact sky
    show wpAny (model X.prog X.w) X.A (noteFrame (.ref a) X.env) _ _ _
    refine Sky.land Zc.steady fr2 frm sky2 fun h3 fl3 up3 => ?_
    have K3 : Inv X pins τ' G' { s' with heap := h3 } := K1.landed nb fl3.1 (up.trans up3) os ag
    obtain ⟨oe3, vs3, he3, hz3, hd3⟩ := fl3.there
    have away : a ∉ frs (X.env :: X.outer) := by
      intro hm
      obtain ⟨_, o', e', hnf⟩ := fl3.2.2.1.mem hm
      rw [he3] at e'
      cases e'
      exact hnf _ hd3
    have nL : a ≠ X.env.locals := fun z => away (List.mem_filterMap.mpr ⟨X.env, List.mem_cons_self, by rw [frm, z]⟩)
    have nF : a ∉ X.fs := by
      intro hm
      obtain ⟨e, he, q⟩ := List.mem_filterMap.mp hm
      exact away (List.mem_filterMap.mpr ⟨e, List.mem_cons_of_mem _ he, q⟩)
    have S3 := K3.suite he3 hd3 na nL nF
    refine wpAny_handleBy_cons (codeAny_handlers_test ?_) (by intro q; cases q)
    have lookT : PySem.W.Looks (model X.prog X.w) h3 (typeOf (.ref a)) cls := fun A Q E s k q => wpAny_typeOf_ref (k _ _ he3) (by rw [hz3.1]; exact q)
    have lookM := PySem.W.exm_one (M := model X.prog X.w) K3.kIn lookT hb1
    have asks : ∀ {Q E : Value → Shared → Prop}, Q c { s' with heap := h3 } → wpAny (model X.prog X.w) (X.A.mark (some (.ref a))) (eval (.Name x np) X.env) Q E { s' with heap := h3 } := by
      intro Q E q
      obtain ⟨hg, hdbg, hm | ⟨hm, hv, hnn⟩⟩ := nam
      · exact ld_glob (X := X.suite a ((a, oe3) :: (X.pn ++ pins))) S3 hg hm q hdbg
      · exact ld_blt (X := X.suite a ((a, oe3) :: (X.pn ++ pins))) S3 hg hm hv q hnn hdbg
    refine asks (lookM.here ?_)
    refine codeAny_handlers_suite_as (HandSPX.lands_againZ fl3 fun h4 fl4 up4 => ?_)
    have K4 : Inv X pins τ' G' { s' with heap := h4 } := K1.landed nb fl4.1 ((up.trans up3).trans up4) os ag
    obtain ⟨oe4, vs4, he4, hz4, hd4⟩ := fl4.there
    have S4 := K4.suite he4 hd4 na nL nF
    refine store_ok (X := X.suite a ((a, oe4) :: (X.pn ++ pins))) (v := .ref a) S4 nod slot isl rfl (fun s5 S5 => ?_) (.inr loc)
    refine wpAny_mono ((sui a oe4 cls d (X.pn ++ pins) hz4 ⟨_, hd4⟩).run [] s5 _ G' _ S5 (yes a na)) (fun f s6 ended => ?_) (fun _ _ z => False.elim z)
    have quit : ∀ {τ6 : L2.St} {G6 : Hp} {Q : Shared → Prop}, Inv (X.suite a ((a, oe4) :: (X.pn ++ pins))) [] τ6 G6 s6 → (∀ s7, Inv X pins (τ6.set i none) G6 s7 → Q s7) →
        wpAny (model X.prog X.w) X.A (do bindName X.env n .none; unbindBehindTheSuite X.env n pos') (fun _ s7 => Q s7) X.xe s6 := fun {τ6 G6 Q} S6 hq => gone_ok (S6.unsuite okk) nod slot loc hq
    cases f with
    | next => obtain ⟨τ6, G6, S6, q6⟩ := ended; exact quit S6 fun s7 J7 => ⟨_, _, J7, q6⟩
    | brk => obtain ⟨τ6, G6, S6, q6⟩ := ended; exact quit S6 fun s7 J7 => ⟨_, _, J7, q6⟩
    | cont => obtain ⟨τ6, G6, S6, q6⟩ := ended; exact quit S6 fun s7 J7 => ⟨_, _, J7, q6⟩
    | ret u => obtain ⟨v6, τ6, G6, S6, r6, q6⟩ := ended; exact quit S6 fun s7 J7 => ⟨_, _, _, J7, r6, q6⟩
  · cases f with
    | next => obtain ⟨τ', G', J', q⟩ := ended; exact wpAny_execs_nil ⟨τ', G', J'.ofTry okk, q⟩
    | brk => obtain ⟨τ', G', J', q⟩ := ended; exact ⟨τ', G', J'.ofTry okk, q⟩
    | cont => obtain ⟨τ', G', J', q⟩ := ended; exact ⟨τ', G', J'.ofTry okk, q⟩
    | ret u => obtain ⟨v, τ', G', J', r, q⟩ := ended; exact ⟨v, τ', G', J'.ofTry okk, r, q⟩
end
section
variable {X : Cx} {W : WX} {x n : Str} {c : Value} {i : Nat} {body suite : List Stmt} {b₀ : Stmt} {rest : List ExceptHandler} {np pos pos' : Pos} {fb : MS} {fs : Nat × Nat → MS} {cs : List Str}
theorem cs_tryAsR (hs : X.stack = X.env :: X.outer) (hf : X.env.frame = some X.env.locals) (hN : X.N.Nodup) (hi : X.N[i]? = some n) (hln : X.env.kindOf n = some .local) (hc : Names X x c)
    (hcs : ∀ k ∈ cs, ∀ cls, X.mg k = some cls → PySem.W.exmOne X.K cls c = some true)
    (hb : ∀ (W : WX) (pn : List (Addr × Obj)) (xe : Value → Shared → Prop), Takes (X.tr pn xe) W → PSs (X.tr pn xe) body (Ts X.K X.mg W fb))
    (hsu : ∀ (a : Addr) (oe : Obj) (cls : Value) (d : Option Addr) (pn : List (Addr × Obj)) (g : Nat × Nat) (k : Str), Zc cls d oe → (∃ vs, oe.data = .fields vs) → g.1 = a → d = some g.2 → k ∈ cs → X.mg k = some cls →
      PSs (X.suite a ((a, oe) :: pn)) (b₀ :: suite) (Ts X.K X.mg (fun _ _ _ _ => False) (fs g))) :
    PS X (.Try body (.ExceptHandler (some (.Name x np)) (some n) (b₀ :: suite) pos' :: rest) [] [] pos) (Ts X.K X.mg W (sTryAs i cs fb fs)) :=
  PS.imp (ps_asR (i := i) (tb := fun W => Ts X.K X.mg W fb) (ts := fun a cls d => fun Dn σ H => ∃ (g : Nat × Nat) (k : Str), g.1 = a ∧ d = some g.2 ∧ k ∈ cs ∧ X.mg k = some cls ∧ Ts X.K X.mg (fun _ _ _ _ => False) (fs g) Dn σ H) hs hf hN hi hln hc
    (fun W pn xe tk _ => hb W pn xe tk) (fun a oe cls d pn hz hf => ⟨fun pins s σ H Dn I ⟨g, k, h1, h2, h3, h4, h⟩ => (hsu a oe cls d pn g k hz hf h1 h2 h3 h4).run pins s σ H Dn I h⟩)) fun Dn σ H ⟨m, env, s, r, E, q⟩ => by
    refine ⟨m, env, s, r, E, ?_⟩
    unfold sTryAs at q
    cases e : fb env s with
    | ex ex env2 s2 =>
      rw [e] at q
      simp only at q
      split at q
      · rename_i hh
        obtain ⟨h1, h2, h3⟩ := hh
        intro m' σ' H' cv dd l r' E' xr
        obtain ⟨gk, hx⟩ := xr
        rcases hx with ⟨z, _⟩ | ⟨da, vfs, ed, hd, nd, rf⟩
        · exact (h2 z).elim
        · refine ⟨hcs _ h1 _ gk, fun a ha => ⟨(a, da), ex.cls, rfl, ed, h1, gk, m', _, s2, r', relE_set E' (.exv hd nd rf : Rep X.K m' H' (.exv a da ex.cls ex.fs) (.ref a)) i, ?_⟩⟩
          rw [← h3 (a, da)] at q
          exact gs_clr (GS.mono l q)
      · exact q.elim
    | nx env2 s2 => rw [e] at q; exact q
    | rt d s2 => rw [e] at q; exact q
    | bk env2 s2 => rw [e] at q; exact q
    | ct env2 s2 => rw [e] at q; exact q
    | no => rw [e] at q; exact q.elim
end
/-! ### a module's constant -/
section
variable {X : Cx} {W : WX} {pos : Pos} {x : Str}
theorem ce_globI {n : Int} (hg : Gl X x) (h : ∃ t, X.mg x = some (.int n t)) (hdb : (x == ("__debug__" : Str)) = false := by decide) : PE X (.Name x pos) (Te X.K X.mg W (eC (.int n))) := by
  obtain ⟨t, h⟩ := h
  exact PE.imp (pe_glob (v := .int n) hg h ⟨t, rfl⟩ hdb) fun σ H Q ⟨m, env, s, r, E, g⟩ => g.now r (.int n)
theorem ce_globS {z : Str} (hg : Gl X x) (h : ∃ t, X.mg x = some (.str z t)) (hdb : (x == ("__debug__" : Str)) = false := by decide) : PE X (.Name x pos) (Te X.K X.mg W (eC (.str z))) := by
  obtain ⟨t, h⟩ := h
  exact PE.imp (pe_glob (v := .str z) hg h ⟨t, rfl⟩ hdb) fun σ H Q ⟨m, env, s, r, E, g⟩ => g.now r (.str z)
end
/-! ### f() -/
section
variable {X : Cx} {CX : CXT} {k : Nat} {f : Addr} {fd : FuncData} {sp : Sp} {E : L2.St → XK} {x : Str} {p pos : Pos}
theorem pe_callS0 (F : FnOk X.prog X.w X.K X.mg X.base CX k f fd [] sp) (hr : Room k X.A) (hg : Gl X x) (hm : X.mg x = some (.ref f)) (hk : PySem.W.keepIn X.K (.ref f) = true) (hb : Binds X.K fd [] []) (hx : ∀ σ, PassesAt CX X σ (E σ))
    (hdb : (x == ("__debug__" : Str)) = false := by decide) : PE X (.Call (.Name x p) [] [] pos) (fun σ H Q => sp [] H Q (E σ)) := by
  refine ⟨fun pins s σ H Q I q => wpAny_Call_Name_kw (ld_glob I hg hm ?_ hdb)⟩
  exact PySem.W.callWith_K0 I.kIn hk (run_fnS (us := []) F hr hb (hx σ) I .nil q)
theorem ce_call0 {W : WX} {g : List D → Store → R D} (F : FnOk X.prog X.w X.K X.mg X.base (L2.CX X.prog X.w) k f fd [] (spM X.K X.mg 0 g)) (hr : Room k X.A) (tk : Takes X W) (hg : Gl X x) (hm : X.mg x = some (.ref f)) (hk : PySem.W.keepIn X.K (.ref f) = true) (hb : Binds X.K fd [] [])
    (hdb : (x == ("__debug__" : Str)) = false := by decide) : PE X (.Call (.Name x p) [] [] pos) (Te X.K X.mg W (eCall g aNil)) :=
  PE.imp (pe_callS0 (E := WE W) F hr hg hm hk hb (fun σ => passAt tk σ) hdb) fun σ H Q ⟨m, env, s, r, E, g0⟩ => by
    have g1 : G X.K X.mg (Rep X.K) W σ m H Q (g [] s) := g0
    refine ⟨rfl, m, s, [], r, .nil, ?_⟩
    cases e : g [] s with
    | ok a s2 => rw [e] at g1; exact g1
    | ex x2 s2 => rw [e] at g1; exact g1
    | no => rw [e] at g1; exact g1
end
end Mi
namespace PySem.W
open PySem PySem.Spec PyProof.Rows
section
variable {prog : Program} {w : World} {A : Around} {E : Value → Shared → Prop} {s : Shared} {K : Frag} {x D : Addr} {ox : Obj} {od : Option Obj}
theorem mi_data {C : Addr} {nm : Str} {a g : Value} (q1 : (clsIn K C).isSome = true) (q2 : findIn K (.ref C) nm = some (some a)) (q3 : specialIn K a "__get__" = some (some g)) (q4 : takesIn K a = some true) : findObj K C od nm = some (.bind g a) := by
  cases e : clsIn K C with
  | none => rw [e] at q1; cases q1
  | some cd =>
    unfold findObj
    rw [e, Option.bind_some, q2, Option.bind_some]
    simp [q3, q4]
theorem mi_hasCls (q : hasDictIn K D = true) : (clsIn K D).isSome = true := by
  obtain ⟨cd, e, _⟩ := any_some q
  rw [e]
  rfl
theorem mi_excClass {Q : Option Value → Shared → Prop} (ga : findIn K (.ref D) "__getattribute__" = some (some (.builtin "BaseException.__getattribute__"))) (gg : findIn K (.ref D) "__getattr__" = some none) (sb : subIn K (.ref D) (.type "BaseException") = some true)
    (hd : hasDictIn K D = true) (fc : findIn K (.ref D) "__class__" = some (some (.builtin "object.__class__"))) (sg : specialIn K (.builtin "object.__class__") "__get__" = some (some (.builtin "getset_descriptor.__get__")))
    (tk : takesIn K (.builtin "object.__class__") = some true) (mo : mroIn K D (.type "object") = some true) (inn : K.In s.heap) (inst : InstAt s.heap x ox D od) (done : Q (some (.ref D)) { s with toks := s.toks + 1 }) :
    wpAny (model prog w) A (getAttr? (.ref x) "__class__") Q E s := by
  have found : findObj K D od "__class__" = some (.bind (.builtin "getset_descriptor.__get__") (.builtin "object.__class__")) := mi_data (mi_hasCls hd) fc sg tk
  obtain ⟨hp, gn, dr, t, os⟩ := s
  have lT := inst.type (M := model prog w)
  have lA := looks_findIn (M := model prog w) inn ga
  have lG := looks_findIn (M := model prog w) inn gg
  have lF := looks_find (M := model prog w) inn inst found
  have isE : Looks (model prog w) hp (isInstance (.ref x) (.type "BaseException")) true := lT.andThen (looks_subIn inn sb)
  have neq : (Value.builtin "BaseException.__getattribute__" == Value.builtin "object.__getattribute__") = false := by decide +kernel
  unfold getAttr? getAttrBy? getAttrBy
  refine wpAny_bind (wpAny_mkText (wpAny_bind (wpAny_attempt (wpAny_holding (wpAny_bind (lT.at (wpAny_bind (lA.at ?_))))))))
  show wpAny _ _ (if (onTheHeap (Value.ref D) && Value.builtin "BaseException.__getattribute__" == Value.builtin "object.__getattribute__") = true then _ else _) _ _ _
  rw [if_neg (by rw [neq, Bool.and_false]; exact Bool.false_ne_true)]
  unfold getAttrByItsOwn hookBefore
  refine wpAny_bind ?_
  rw [if_pos (show onTheHeap (Value.ref D) = true by rfl)]
  refine lG.at (wpAny_bind (wpAny_attempt (wpAny_holding ?_)))
  unfold callGetattribute
  rw [if_neg (show ¬ (false && onTheHeap (Value.builtin "BaseException.__getattribute__")) = true from Bool.false_ne_true)]
  unfold boundAndCalled
  rw [PySem.F.excAttr_ValueError.ga.bind (.ref x)]
  refine wpAny_bind (wpAny_pure (?_ : wpAny _ _ (call (.builtin "BaseException.__getattribute__") [.ref x, .str "__class__" t]) _ _ _))
  refine wpAny_call (codeAny_call_builtin PySem.F.excAttr_ValueError.ga.plain PySem.F.entry_bexc_ga (@check_slot (model prog w) _ _ ⟨hp, gn, dr, t + 1, os⟩ "BaseException.__getattribute__" "BaseException" "__getattribute__" (.ref x) [.str "__class__" t] [] _
    (by decide +kernel) (by decide +kernel) isE (PySem.F.args_bexc_ga (.ref x) (.str "__class__" t)) ?_))
  unfold Builtin.«object.__getattribute__»
  refine wpAny_bind (wpAny_of_eq (a := ((Value.ref x : Value), [Value.str "__class__" t])) (by first | rfl | (simp only [slotArgs]; rfl)) (wpAny_bind (wpAny_pure (wpAny_bind (lT.at (wpAny_bind (lF.at ?_)))))))
  show wpAny _ _ (holding [Value.builtin "object.__class__"] (call (.builtin "getset_descriptor.__get__") [.builtin "object.__class__", .ref x, .ref D]) >>= ret) _ _ _
  refine wpAny_bind (wpAny_holding (wpAny_call (class_get (s := ⟨hp, gn, dr, t + 1, os⟩) (ox := ox) (od := od) inn inst mo (wpAny_pure ?_))))
  show wpAny _ _ (handedOut (.ref D)) _ _ _
  rw [handedOut_of (v := .ref D) rfl]
  first
    | exact wpAny_pure (wpAny_pure done)
    | exact wpAny_pure done
    | exact wpAny_pure (wpAny_bind (wpAny_pure (wpAny_pure done)))
theorem mi_kitExc (ga : findIn K (.ref D) "__getattribute__" = some (some (.builtin "BaseException.__getattribute__"))) (gg : findIn K (.ref D) "__getattr__" = some none) (sb : subIn K (.ref D) (.type "BaseException") = some true)
    (hd : hasDictIn K D = true) (fc : findIn K (.ref D) "__class__" = some (some (.builtin "object.__class__"))) (sg : specialIn K (.builtin "object.__class__") "__get__" = some (some (.builtin "getset_descriptor.__get__")))
    (tk : takesIn K (.builtin "object.__class__") = some true) (mo : mroIn K D (.type "object") = some true) : KitX K (.ref x) (.ref D) (fun h => InstAt h x ox D od) where
  ty := fun _ _ _ q => q.type
  it := fun _ _ inn _ => by
    have q := mi_hasCls hd
    unfold clsIn at q
    split at q
    · rename_i c1 d1 e1 f1 there
      intro A1 Q1 E1 s1 k1 q1
      unfold isType loadHead
      exact wpAny_bind (wpAny_loadPart (k1 _ _ (inn _ _ there)) (wpAny_pure q1))
    · cases q
  ne := fun h tp dd its n sl inn htp => by
    have q := mi_hasCls hd
    refine Bool.eq_false_iff.mpr fun z => ?_
    obtain rfl : D = tp := Value.ref.inj (beq_iff_eq.mp z)
    unfold clsIn at q
    split at q
    · rename_i c1 d1 e1 f1 there
      have := (inn _ _ there).symm.trans htp
      cases this
    · cases q
  ca := fun inn q done => mi_excClass ga gg sb hd fc sg tk mo inn q done
end
end PySem.W
namespace Mi
open PySem PySem.Spec PyProof.Rows L2
/-! ### isinstance(n, C), isinstance(n, (C, ..)) of the exception that a suite holds -/
def eIsE (g : Nat × Nat) (i : Nat) (c : Str) (b : Bool) : ME D := fun env s => match env[i]? with
  | some (some (.exv a dd cl fs)) => if a = g.1 ∧ dd = g.2 ∧ cl = c then .ok (.bl b) s else .no
  | _ => .no
section
variable {X : Cx} {W : WX} {a : Addr} {oe : Obj} {cls : Value} {d : Option Addr} {pn : List (Addr × Obj)} {pos p p2 p3 : Pos} {n c1 : Str} {i : Nat} {g : Nat × Nat}
theorem inst_of {C : Addr} {pins : List (Addr × Obj)} {σ : L2.St} {H : Hp} {s : Shared} {dd : Addr} {fs : List (Str × V)} (hz : Zc (.ref C) d oe) (hf : ∃ vs, oe.data = .fields vs) (ed : d = some dd) (I : Inv (X.suite a ((a, oe) :: pn)) pins σ H s) (hd : H dd = some (.xd fs)) : ∃ od, PySem.W.InstAt s.heap a oe C (some od) := by
  subst ed
  obtain ⟨ha, _⟩ := I.pin (a, oe) (List.mem_append_left _ List.mem_cons_self)
  obtain ⟨vs, hv⟩ := hf
  obtain ⟨mA, hns, hr⟩ := (I.hok dd _ hd : ObjOk X.prog X.w H s.heap dd (.xd fs))
  obtain ⟨od, ho, _⟩ := lookIn_ns hns
  exact ⟨od, ha, hz.1, by unfold PySem.W.notCls; rw [hv] <;> rfl, by rw [hz.2]; exact ho⟩
theorem held_at {m : List Addr} {H : Hp} {env : Sl} {σ : L2.St} {s : Store} {c : Str} {b : Bool} {Q : VK} (E : RelE X.K m H env σ) (q : G X.K X.mg (Rep X.K) W σ m H Q (eIsE g i c b env s)) (r : Rel X.K m H s) :
    ∃ fs, σ[i]? = some (some (.ref g.1)) ∧ H g.2 = some (.xd fs) ∧ Q (.bl b) H := by
  unfold eIsE at q
  cases e1 : env[i]? with
  | none => rw [e1] at q; exact q.elim
  | some o =>
    cases o with
    | none => rw [e1] at q; exact q.elim
    | some x =>
      rw [e1] at q
      cases x with
      | exv a' dd cl fs =>
        simp only at q
        split at q
        · rename_i hh
          obtain ⟨h1, h2, h3⟩ := hh
          obtain ⟨v, hv, pr⟩ := E.2 i _ e1
          cases pr with
          | exv h n' rf => exact ⟨_, by rw [← h1]; exact hv, by rw [← h2]; exact h, G.now q r (.bl b)⟩
        · exact q.elim
      | _ => exact q.elim
theorem ce_isE1 {c : Str} {C D : Addr} {b : Bool} (ec : cls = .ref D) (T : ExcC X.K D) (hz : Zc cls d oe) (hf : ∃ vs, oe.data = .fields vs) (g1 : g.1 = a) (g2 : d = some g.2)
    (hg : Gl X "isinstance") (hm : X.mg "isinstance" = none) (hgC : Gl X c1) (mC : X.mg c1 = some (.ref C)) (kit : PySem.W.kitOne X.K (.ref D) (.ref C) = some b) (he : PE (X.suite a ((a, oe) :: pn)) (.Name n p) (tVar i)) (hdb : (c1 == ("__debug__" : Str)) = false := by decide)
    (hs1 : starEach [.Name n p, .Name c1 p2] X.env = (false, eval (.Name n p) X.env) :: starEach [.Name c1 p2] X.env := by rfl) (hs2 : starEach [.Name c1 p2] X.env = (false, eval (.Name c1 p2) X.env) :: starEach [] X.env := by rfl)
    (hpl : (backTo pos (starEach [.Name c1 p2] X.env)).any (·.1) = false := by rfl) :
    PE (X.suite a ((a, oe) :: pn)) (.Call (.Name "isinstance" p3) [.Name n p, .Name c1 p2] [] pos) (Te X.K X.mg W (eIsE g i c b)) := by
  subst ec
  refine ⟨fun pins s σ H Q I ⟨m, env, st, r, E, q⟩ => ?_⟩
  obtain ⟨fs, hσ, hd, hq⟩ := held_at E q r
  refine wpAny_Call_Name_kw (ld_blt (X := X.suite a ((a, oe) :: pn)) I hg hm PyProof.Rows.boot_isinstance ?_ (by decide) (by decide))
  refine PyProof.Rows.callWith_builtin1 (M := model X.prog X.w) (env := X.env) ?_ hs1 hpl
  rw [hs1]
  show wpAny _ _ (spliced ((false, eval (.Name n p) X.env) :: backTo pos (starEach [.Name c1 p2] X.env))) _ _ s
  refine Calls.spliced_cons (thn (he.run pins s σ H (fun x H1 => x = .ref g.1 ∧ H1 = H) I ⟨.ref g.1, hσ, rfl, rfl⟩) fun u s1 ⟨x, H1, I1, r1, ex, eH⟩ => ?_)
  subst ex eH
  obtain rfl : u = Value.ref g.1 := r1
  rw [hs2]
  show wpAny _ _ (spliced ((false, eval (.Name c1 p2) X.env) :: backTo pos (starEach [] X.env))) _ _ s1
  refine Calls.spliced_cons (ld_glob (X := X.suite a ((a, oe) :: pn)) I1 hgC mC (Calls.spliced_nil ?_) hdb)
  obtain ⟨od, inst⟩ := inst_of hz hf g2 I1 hd
  rw [← g1] at inst
  exact PySem.W.kia_one (PySem.W.mi_kitExc T.hg T.hk T.hs T.hd T.ha T.hn T.ht T.hm) I1.kIn inst kit (fun z => nomatch z) fun tk => ⟨.bl b, H1, I1.tok tk, rfl, hq⟩
theorem ce_isEm {k : Nat} {tpos : Pos} {e0 : Expr} {es : List Expr} {Cs : List Addr} {c : Str} {D : Addr} {b : Bool} (ec : cls = .ref D) (T : ExcC X.K D) (hz : Zc cls d oe) (hf : ∃ vs, oe.data = .fields vs) (g1 : g.1 = a) (g2 : d = some g.2)
    (hg : Gl X "isinstance") (hm : X.mg "isinstance" = none) (hes : PA (X.suite a ((a, oe) :: pn)) (e0 :: es) (fun σ H Q => Q (Cs.map V.ref) H)) (hl : Cs.length ≤ 1000) (kit : PySem.W.kitAny X.K (.ref D) (Cs.map Value.ref) = some b) (he : PE (X.suite a ((a, oe) :: pn)) (.Name n p) (tVar i))
    (hs1 : starEach [.Name n p, .Tuple (e0 :: es) k tpos] X.env = (false, eval (.Name n p) X.env) :: starEach [.Tuple (e0 :: es) k tpos] X.env := by rfl) (hs2 : starEach [.Tuple (e0 :: es) k tpos] X.env = (false, eval (.Tuple (e0 :: es) k tpos) X.env) :: starEach [] X.env := by rfl)
    (hpl : (backTo pos (starEach [.Tuple (e0 :: es) k tpos] X.env)).any (·.1) = false := by rfl) :
    PE (X.suite a ((a, oe) :: pn)) (.Call (.Name "isinstance" p3) [.Name n p, .Tuple (e0 :: es) k tpos] [] pos) (Te X.K X.mg W (eIsE g i c b)) := by
  subst ec
  refine ⟨fun pins s σ H Q I ⟨m, env, st, r, E, q⟩ => ?_⟩
  obtain ⟨fs, hσ, hd, hq⟩ := held_at E q r
  refine wpAny_Call_Name_kw (ld_blt (X := X.suite a ((a, oe) :: pn)) I hg hm PyProof.Rows.boot_isinstance ?_ (by decide) (by decide))
  refine PyProof.Rows.callWith_builtin1 (M := model X.prog X.w) (env := X.env) ?_ hs1 hpl
  rw [hs1]
  show wpAny _ _ (spliced ((false, eval (.Name n p) X.env) :: backTo pos (starEach [.Tuple (e0 :: es) k tpos] X.env))) _ _ s
  refine Calls.spliced_cons (thn (he.run pins s σ H (fun x H1 => x = .ref g.1 ∧ H1 = H) I ⟨.ref g.1, hσ, rfl, rfl⟩) fun u s1 ⟨x, H1, I1, r1, ex, eH⟩ => ?_)
  subst ex eH
  obtain rfl : u = Value.ref g.1 := r1
  rw [hs2]
  show wpAny _ _ (spliced ((false, eval (.Tuple (e0 :: es) k tpos) X.env) :: backTo pos (starEach [] X.env))) _ _ s1
  refine Calls.spliced_cons (wpAny_Tuple_spliced (thn (hes.run tpos pins s1 σ H1 (fun ys H' => ys = Cs.map V.ref ∧ H' = H1) I1 ⟨rfl, rfl⟩) fun us s2 ⟨ys, H2, I2, r2, ey, eH⟩ => ?_))
  subst ey eH
  have eu := refs_at r2
  subst eu
  refine ⟨by rw [List.length_map]; exact le_line (Nat.le_trans hl (by decide)), Calls.spliced_nil ?_⟩
  have I3 := I2.kept (h' := s2.heap.push { cls := .type "tuple", data := .seq (Cs.map Value.ref).toArray }) (t' := s2.toks) fun b ob q => Heap.get?_push_of_some _ q
  obtain ⟨od, inst⟩ := inst_of hz hf g2 I3 hd
  rw [← g1] at inst
  exact PySem.W.kia_tup (its := Cs.map Value.ref) (PySem.W.mi_kitExc T.hg T.hk T.hs T.hd T.ha T.hn T.ht T.hm) I3.kIn inst (Heap.get?_push_size _ rfl) kit (fun z => nomatch z) fun tk => ⟨.bl b, H2, I3.tok tk, rfl, hq⟩
end
end Mi
namespace Mi
open PySem PySem.Spec PyProof.Rows L2
/-! ### z.m(a), z a text -/
def eM1 (g : D → List D → Store → Option (D × Store)) (o a : ME D) : ME D := fun env s => (o env s).bind fun x s => match x with
  | .str z => (a env s).bind fun y s => R.of (g (.str z) [y] s)
  | _ => .no
section
variable {X : Cx} {W : WX} {apos pos : Pos} {o e : Expr} {fo fe : ME D}
theorem ce_m1 {id : String} {name : Str} {r : V → List V → Hp → VK → Prop} {g : D → List D → Store → Option (D × Store)} (slot : Slot "str" name id) (ty : typeOf (.builtin id) = pure (.type "method_descriptor")) (rule : MtR X id r) (hsd : MtS X.K r g) (ho : PE X o (Te X.K X.mg W fo)) (he : PE X e (Te X.K X.mg W fe))
    (hs : starEach [e] X.env = [(false, eval e X.env)] := by rfl) (hbase : attributeBase o name X.env (eval o X.env) = eval o X.env := by rfl) (hline : (apos.endLine == pos.line) = true := by rfl) :
    PE X (.Call (.Attribute o name apos) [e] [] pos) (Te X.K X.mg W (eM1 g fo fe)) :=
  PE.imp (pe_m1 slot ty rule ho he hs hbase hline) fun σ H Q h => Tm.bind (k := fun env (x : D) s => match x with
  | .str z => (fe env s).bind fun y s => R.of (g (.str z) [y] s)
  | _ => .no) h fun m1 H1 env x v s1 r1 E1 p1 g1 => by
    cases x with
    | str z =>
      cases p1
      exact ⟨⟨z, rfl⟩, m1, env, s1, r1, E1, G.bind g1 fun m2 H2 y vy s2 l2 r2 p2 g2 => hsd r2 (.str z) (.cons p2 .nil) g2⟩
    | _ => exact g1.elim
end
section
variable {K : PySem.W.Frag}
def dSplit (x : D) (ys : List D) (s : Store) : Option (D × Store) := match x, ys with
  | .str a, [.str b] => if b.length ≠ 0 ∧ a.length ≤ 1000000 then some (.loc s.length, s ++ [.lst ((Txt.split a b).map D.str)]) else none
  | _, _ => none
theorem reps_strs {m : List Addr} {H : Hp} : ∀ zs : List Str, Reps K m H (zs.map D.str) (zs.map V.str)
  | [] => .nil
  | z :: zs => .cons (.str z) (reps_strs zs)
theorem mts_split : MtS K (fun x xs H Q => ∃ a b, x = V.str a ∧ xs = [V.str b] ∧ (b.length == 0) = false ∧ a.length + 2 ≤ sizeLine ∧ rNewStrs (Txt.split a b) H Q) dSplit := by
  intro mg W σ m H s x d xs ds Q r p ps g
  unfold dSplit at g
  split at g
  · rename_i a b
    obtain ⟨w, rfl, h⟩ := reps1 ps
    cases h
    cases p
    split at g
    · rename_i hz
      refine ⟨a, b, rfl, rfl, by simpa using hz.1, by rw [sizeLine_eq]; omega, fun q hq => ?_⟩
      exact g (m ++ [q]) _ _ (le_more r hq) (rel_newlist r hq (reps_strs _)) (.loc (len_get r))
    · exact g.elim
  · exact g.elim
def dStarts (x : D) (ys : List D) (s : Store) : Option (D × Store) := match x, ys with
  | .str a, [.str b] => some (.bl (Txt.startswith a b), s)
  | _, _ => none
theorem mts_starts : MtS K (fun x xs H Q => ∃ a b, x = V.str a ∧ xs = [V.str b] ∧ Q (.bl (Txt.startswith a b)) H) dStarts := by
  intro mg W σ m H s x d xs ds Q r p ps g
  unfold dStarts at g
  split at g
  · rename_i a b
    obtain ⟨w, rfl, h⟩ := reps1 ps
    cases h
    cases p
    exact ⟨a, b, rfl, rfl, g.now r (.bl _)⟩
  · exact g.elim
noncomputable def dJoin (x : D) (ys : List D) (s : Store) : Option (D × Store) := match x, ys with
  | .str a, [y] => (seqOf s y).bind fun xs => (strsOf xs).bind fun zs => if (zs.map (·.length)).sum + zs.length * a.length ≤ 1000000 then some (.str (Txt.join a zs), s) else none
  | _, _ => none
theorem mts_join : MtS K (fun x xs H Q => ∃ a p, ∃ ys : List Str, x = V.str a ∧ xs = [V.ref p] ∧ (SqL K H p (ys.map V.str) ∨ SqT K H p (ys.map V.str)) ∧ (ys.map (·.length)).sum + ys.length * a.length ≤ 16777216 ∧ Q (.str (Txt.join a ys)) H) dJoin := by
  intro mg W σ m H s x d xs ds Q r p ps g
  unfold dJoin at g
  split at g
  · rename_i a y
    obtain ⟨w, rfl, h⟩ := reps1 ps
    cases p
    cases e : seqOf s y with
    | none => rw [e] at g; exact g.elim
    | some zs =>
      rw [e, Option.bind_some] at g
      cases q : strsOf zs with
      | none => rw [q] at g; exact g.elim
      | some ss =>
        rw [q, Option.bind_some] at g
        split at g
        · rename_i hz
          obtain ⟨b, vs, rfl, h1, h2⟩ := seqOf_sq r h e
          have ev := strs_reps h2 q
          subst ev
          exact ⟨a, b, ss, rfl, rfl, h1, by omega, g.now r (.str _)⟩
        · exact g.elim
  · exact g.elim
/-! ### z[a:b], a text besides -/
noncomputable def dSlZ (x : D) (lo hi : Option Int) (s : Store) : Option (D × Store) := match x with
  | .str z => if z.length ≤ 1000000 then some (.str (cutS z lo hi), s) else none
  | x => dSl x lo hi s
theorem sl_Z {X : Cx} : SlR X (fun x lo hi H Q => rSlLT X.K x lo hi H Q ∨ rSlS x lo hi H Q) := sl_LT.or sl_str
theorem sls_Z : SlS K (fun x lo hi H Q => rSlLT K x lo hi H Q ∨ rSlS x lo hi H Q) dSlZ := by
  intro mg W σ m H s x d lo hi Q r p g
  by_cases hz : ∃ z, d = .str z
  · obtain ⟨z, rfl⟩ := hz
    cases p
    by_cases hl : z.length ≤ 1000000
    · have e : dSlZ (.str z) lo hi s = some (.str (cutS z lo hi), s) := if_pos hl
      rw [e] at g
      exact .inr ⟨z, rfl, le_line hl, G.now g r (.str _)⟩
    · have e : dSlZ (.str z) lo hi s = none := if_neg hl
      rw [e] at g
      exact g.elim
  · have e : dSlZ d lo hi s = dSl d lo hi s := by
      cases d <;> first | rfl | exact (hz ⟨_, rfl⟩).elim
    rw [e] at g
    exact .inl (sls_LT r p g)
@[simp] theorem dSlZ_tup (xs : List D) (lo hi : Option Int) (s : Store) : dSlZ (.tup xs) lo hi s = dSl (.tup xs) lo hi s := rfl
@[simp] theorem dSlZ_fl (xs : List D) (lo hi : Option Int) (s : Store) : dSlZ (.fl xs) lo hi s = dSl (.fl xs) lo hi s := rfl
@[simp] theorem dSlZ_loc (l : Nat) (lo hi : Option Int) (s : Store) : dSlZ (.loc l) lo hi s = dSl (.loc l) lo hi s := rfl
theorem dSlZ_str {z : Str} (h : z.length ≤ 1000000) (lo hi : Option Int) (s : Store) : dSlZ (.str z) lo hi s = some (.str (cutS z lo hi), s) := if_pos h
/-! ### int(z), a text besides -/
noncomputable def dIntZ : List D → Store → Option (D × Store)
  | [.str a], s => if a.length ≤ 640 then (PySem.intText? a).map fun n => (.int n, s) else none
  | ds, s => dInt ds s
def rIntS : List V → Hp → VK → Prop := fun xs H Q => ∃ a n, xs = [V.str a] ∧ PySem.intText? a = some n ∧ a.length ≤ 640 ∧ Q (.int n) H
theorem call_intZ {X : Cx} : CallR X (.type "int") (fun xs H Q => ((∃ i, xs = [V.int i] ∧ Q (.int i) H) ∨ ∃ k, xs = [V.bl k] ∧ Q (.int (if k then 1 else 0)) H) ∨ rIntS xs H Q) := call_int1.or call_int_str
theorem fns_intZ : FnS K (fun xs H Q => ((∃ i, xs = [V.int i] ∧ Q (.int i) H) ∨ ∃ k, xs = [V.bl k] ∧ Q (.int (if k then 1 else 0)) H) ∨ rIntS xs H Q) dIntZ := by
  intro mg W σ m H s xs ds Q r p g
  by_cases hz : ∃ z, ds = [.str z]
  · obtain ⟨z, rfl⟩ := hz
    obtain ⟨w, rfl, h⟩ := reps1 p
    cases h
    simp only [dIntZ] at g
    split at g
    · rename_i hl
      cases e : PySem.intText? z with
      | none => rw [e] at g; exact g.elim
      | some n =>
        rw [e] at g
        exact .inr ⟨z, n, rfl, e, hl, G.now g r (.int n)⟩
    · exact g.elim
  · have e : dIntZ ds s = dInt ds s := by
      unfold dIntZ
      split
      · exact (hz ⟨_, rfl⟩).elim
      · rfl
    rw [e] at g
    exact .inl (fns_int r p g)
@[simp] theorem dIntZ_int (i : Int) (s : Store) : dIntZ [.int i] s = some (.int i, s) := rfl
@[simp] theorem dIntZ_bl (i : Bool) (s : Store) : dIntZ [.bl i] s = some (.int (if i then 1 else 0), s) := rfl
theorem dIntZ_str {z : Str} (h : z.length ≤ 640) {n : Int} (e : PySem.intText? z = some n) (s : Store) : dIntZ [.str z] s = some (.int n, s) := by
  simp only [dIntZ, if_pos h, e]
  rfl
end
/-! ### f'..' -/
noncomputable def eFmt (a : ME D) : ME D := fun env s => (a env s).bind fun x s => match x with
  | .str z => if z.length ≤ 1000000 then .ok (.str z) s else .no
  | .int i => if i.natAbs.log2 < 1920 then .ok (.str (toString i)) s else .no
  | _ => .no
noncomputable def eJs : List (ME D) → Str → Sl → Store → R Str
  | [], acc, _, s => .ok acc s
  | f :: fs, acc, env, s => (f env s).bind fun x s => match x with
    | .str y => if (acc ++ y).length ≤ 1000000 then eJs fs (acc ++ y) env s else .no
    | _ => .no
noncomputable def eFs (fs : List (ME D)) : ME D := fun env s => (eJs fs Str.empty env s).bind fun z s => .ok (.str z) s
section
variable {X : Cx} {W : WX} {pos : Pos} {e : Expr} {fa : ME D}
theorem ce_fmt (he : PE X e (Te X.K X.mg W fa)) : PE X (.FormattedValue e (-1) none pos) (Te X.K X.mg W (eFmt fa)) :=
  PE.imp (pe_fmt he) fun σ H Q h => Tm.bind (k := fun _ (x : D) s => match x with
  | .str z => if z.length ≤ 1000000 then R.ok (D.str z) s else .no
  | .int i => if i.natAbs.log2 < 1920 then .ok (.str (toString i)) s else .no
  | _ => .no) h fun m1 H1 env x v s1 r1 E1 p1 g1 => by
    cases x with
    | str z =>
      cases p1
      simp only at g1
      split at g1
      · rename_i hz; exact .inl ⟨z, rfl, le_line hz, g1.now r1 (.str _)⟩
      · exact g1.elim
    | int i =>
      cases p1
      simp only at g1
      split at g1
      · rename_i hz; exact .inr ⟨i, rfl, hz, g1.now r1 (.str _)⟩
      · exact g1.elim
    | _ => exact g1.elim
inductive PJs (X : Cx) (W : WX) : List Expr → List (ME D) → Prop where
  | nil : PJs X W [] []
  | cons {e : Expr} {f : ME D} {es : List Expr} {fs : List (ME D)} (h : PE X e (Te X.K X.mg W f)) (r : PJs X W es fs) : PJs X W (e :: es) (f :: fs)
theorem PJs.pj {es : List Expr} {fs : List (ME D)} (h : PJs X W es fs) : PJ X es (fs.map fun f => Te X.K X.mg W f) := by
  induction h with
  | nil => exact .nil
  | cons h _ ih => exact .cons h ih
theorem js_run (mg : Str → Option Value) : ∀ (fs : List (ME D)) (acc : Str) (σ : L2.St) (H : Hp) (Q : Str → Hp → Prop), Tm X.K X.mg (fun _ _ (a b : Str) => a = b) W (fun env s => eJs fs acc env s) σ H Q → tJs (fs.map fun f => Te X.K X.mg W f) acc σ H Q
  | [], acc, σ, H, Q, ⟨m, env, s, r, E, g⟩ => g m H acc .refl r rfl
  | f :: fs, acc, σ, H, Q, h => Tm.bind (k := fun env (x : D) s => match x with
    | .str y => if (acc ++ y).length ≤ 1000000 then eJs fs (acc ++ y) env s else .no
    | _ => .no) h fun m1 H1 env x v s1 r1 E1 p1 g1 => by
      cases x with
      | str y =>
        cases p1
        simp only at g1
        split at g1
        · rename_i hz
          exact ⟨y, rfl, le_line hz, js_run mg fs (acc ++ y) σ H1 Q ⟨m1, env, s1, r1, E1, g1⟩⟩
        · exact g1.elim
      | _ => exact g1.elim
theorem ce_fs {v1 v2 : Expr} {rest : List Expr} {fs : List (ME D)} (h : PJs X W (v1 :: v2 :: rest) fs) : PE X (.JoinedStr (v1 :: v2 :: rest) pos) (Te X.K X.mg W (eFs fs)) :=
  PE.imp (pe_joined h.pj) fun σ H Q h => js_run X.mg fs Str.empty σ H _ (Tm.bind (k := fun _ (z : Str) s => R.ok (D.str z) s) h fun m1 H1 env a b s1 r1 E1 p1 g1 => by
    cases (show a = b from p1)
    exact g1.now r1 (.str _))
@[simp] theorem eFmt_eq (a : ME D) (env : Sl) (s : Store) : eFmt a env s = (a env s).bind fun x s => match x with
  | .str z => if z.length ≤ 1000000 then .ok (.str z) s else .no
  | .int i => if i.natAbs.log2 < 1920 then .ok (.str (toString i)) s else .no
  | _ => .no := rfl
@[simp] theorem eJs_nil (acc : Str) (env : Sl) (s : Store) : eJs [] acc env s = .ok acc s := rfl
@[simp] theorem eJs_cons (f : ME D) (fs : List (ME D)) (acc : Str) (env : Sl) (s : Store) : eJs (f :: fs) acc env s = (f env s).bind fun x s => match x with
  | .str y => if (acc ++ y).length ≤ 1000000 then eJs fs (acc ++ y) env s else .no
  | _ => .no := rfl
@[simp] theorem eFs_eq (fs : List (ME D)) (env : Sl) (s : Store) : eFs fs env s = (eJs fs Str.empty env s).bind fun z s => .ok (.str z) s := rfl
end
@[simp] theorem eM1_eq (g : D → List D → Store → Option (D × Store)) (o a : ME D) (env : Sl) (s : Store) : eM1 g o a env s = (o env s).bind fun x s => match x with
  | .str z => (a env s).bind fun y s => R.of (g (.str z) [y] s)
  | _ => .no := rfl
theorem dSplit_str {a b : Str} (h : b.length ≠ 0) (hz : a.length ≤ 1000000) (s : Store) : dSplit (.str a) [.str b] s = some (.loc s.length, s ++ [.lst ((Txt.split a b).map D.str)]) := if_pos ⟨h, hz⟩
@[simp] theorem dStarts_str (a b : Str) (s : Store) : dStarts (.str a) [.str b] s = some (.bl (Txt.startswith a b), s) := rfl
theorem hcl1 {mg : Str → Option Value} {c k : Str} {C : Addr} {cls : Value} (g : mg c = some (.ref C)) (h3 : k ∈ [c]) (h4 : mg k = some cls) : cls = .ref C := by
  rw [List.mem_singleton.mp h3, g] at h4
  cases h4
  rfl
end Mi
namespace Law
open PySem PySem.Spec PyProof.Rows L2 Mi
/-! ### the text -/
def topS (i : Nat) : Stmt := PySem.Challenge.pw_beforeinall_k04_years_in_texts.main.body.getD i (.Pass ⟨0, 0, 0, 0⟩)
abbrev s_words_of : Stmt := topS 12
abbrev s_written_integer : Stmt := topS 13
abbrev s_year_text : Stmt := topS 14
abbrev s_year_from : Stmt := topS 15
abbrev s_read_year : Stmt := topS 16
abbrev s_d_law_pool : Stmt := topS 18
abbrev s_d_law_draw : Stmt := topS 19
abbrev s_d_law_often_end : Stmt := topS 20
abbrev s_d_law_is_integer : Stmt := topS 21
abbrev s_d_law_signs : Stmt := topS 22
abbrev s_d_law_year : Stmt := topS 23
abbrev s_d_law_words_of : Stmt := topS 24
abbrev s_d_law_spaces : Stmt := topS 25
abbrev s_d_law_line : Stmt := topS 26
abbrev s_d_law_due : Stmt := topS 27
abbrev s_d_law_ask : Stmt := topS 28
abbrev s_d_law_right : Stmt := topS 29
abbrev s_d_law_set_in : Stmt := topS 30
abbrev s_d_law_wrong_number : Stmt := topS 31
abbrev s_d_law_wrong_sign : Stmt := topS 32
abbrev s_d_law_beyond : Stmt := topS 33
abbrev s_d_law_wrong_lines : Stmt := topS 34
abbrev s_law : Stmt := topS 35
theorem sc_words_of : FnScope ["line", "word"] ["line"] (defScope s_words_of) := ⟨rfl, rfl, rfl, by decide +kernel, rfl, by decide +kernel, by decide +kernel⟩
theorem sc_written_integer : FnScope ["word", "figures", "sign"] ["word"] (defScope s_written_integer) := ⟨rfl, rfl, rfl, by decide +kernel, rfl, by decide +kernel, by decide +kernel⟩
theorem sc_year_text : FnScope ["year"] ["year"] (defScope s_year_text) := ⟨rfl, rfl, rfl, by decide +kernel, rfl, by decide +kernel, by decide +kernel⟩
theorem sc_year_from : FnScope ["words", "many", "year"] ["words"] (defScope s_year_from) := ⟨rfl, rfl, rfl, by decide +kernel, rfl, by decide +kernel, by decide +kernel⟩
theorem sc_read_year : FnScope ["text", "words", "year", "word"] ["text"] (defScope s_read_year) := ⟨rfl, rfl, rfl, by decide +kernel, rfl, by decide +kernel, by decide +kernel⟩
theorem sc_d_law_pool : FnScope ["script", "mixed", "great", "cell", "plain"] ["script"] (defScope s_d_law_pool) := ⟨rfl, rfl, rfl, by decide +kernel, rfl, by decide +kernel, by decide +kernel⟩
theorem sc_d_law_draw : FnScope ["pool", "many", "cell"] ["pool", "many"] (defScope s_d_law_draw) := ⟨rfl, rfl, rfl, by decide +kernel, rfl, by decide +kernel, by decide +kernel⟩
theorem sc_d_law_often_end : FnScope ["pool", "many", "habit"] ["pool", "many"] (defScope s_d_law_often_end) := ⟨rfl, rfl, rfl, by decide +kernel, rfl, by decide +kernel, by decide +kernel⟩
theorem sc_d_law_is_integer : FnScope ["told"] ["told"] (defScope s_d_law_is_integer) := ⟨rfl, rfl, rfl, by decide +kernel, rfl, by decide +kernel, by decide +kernel⟩
theorem sc_d_law_signs : FnScope ["signs"] [] (defScope s_d_law_signs) := ⟨rfl, rfl, rfl, by decide +kernel, rfl, by decide +kernel, by decide +kernel⟩
theorem sc_d_law_year : FnScope ["pool", "turn", "near"] ["pool"] (defScope s_d_law_year) := ⟨rfl, rfl, rfl, by decide +kernel, rfl, by decide +kernel, by decide +kernel⟩
theorem sc_d_law_words_of : FnScope ["year"] ["year"] (defScope s_d_law_words_of) := ⟨rfl, rfl, rfl, by decide +kernel, rfl, by decide +kernel, by decide +kernel⟩
theorem sc_d_law_spaces : FnScope ["pool", "least"] ["pool", "least"] (defScope s_d_law_spaces) := ⟨rfl, rfl, rfl, by decide +kernel, rfl, by decide +kernel, by decide +kernel⟩
theorem sc_d_law_line : FnScope ["pool", "words", "line", "place"] ["pool", "words"] (defScope s_d_law_line) := ⟨rfl, rfl, rfl, by decide +kernel, rfl, by decide +kernel, by decide +kernel⟩
theorem sc_d_law_due : FnScope ["text", "words", "number", "sign", "year", "word"] ["text"] (defScope s_d_law_due) := ⟨rfl, rfl, rfl, by decide +kernel, rfl, by decide +kernel, by decide +kernel⟩
theorem sc_d_law_ask : FnScope ["text", "told", "e"] ["text"] (defScope s_d_law_ask) := ⟨rfl, rfl, rfl, by decide +kernel, rfl, by decide +kernel, by decide +kernel⟩
theorem sc_d_law_right : FnScope ["text", "told", "due"] ["text"] (defScope s_d_law_right) := ⟨rfl, rfl, rfl, by decide +kernel, rfl, by decide +kernel, by decide +kernel⟩
theorem sc_d_law_set_in : FnScope ["pool", "word", "signs", "sign", "place"] ["pool", "word"] (defScope s_d_law_set_in) := ⟨rfl, rfl, rfl, by decide +kernel, rfl, by decide +kernel, by decide +kernel⟩
theorem sc_d_law_wrong_number : FnScope ["pool", "number", "wrong", "word", "sign"] ["pool", "number"] (defScope s_d_law_wrong_number) := ⟨rfl, rfl, rfl, by decide +kernel, rfl, by decide +kernel, by decide +kernel⟩
theorem sc_d_law_wrong_sign : FnScope ["pool", "sign", "wrong"] ["pool", "sign"] (defScope s_d_law_wrong_sign) := ⟨rfl, rfl, rfl, by decide +kernel, rfl, by decide +kernel, by decide +kernel⟩
theorem sc_d_law_beyond : FnScope ["pool", "far"] ["pool"] (defScope s_d_law_beyond) := ⟨rfl, rfl, rfl, by decide +kernel, rfl, by decide +kernel, by decide +kernel⟩
theorem sc_d_law_wrong_lines : FnScope ["pool", "words", "number", "sign", "beyond", "wrong", "several", "lines", "row", "line"] ["pool", "words"] (defScope s_d_law_wrong_lines) := ⟨rfl, rfl, rfl, by decide +kernel, rfl, by decide +kernel, by decide +kernel⟩
theorem sc_law : FnScope ["script", "pool", "first", "refused", "lap", "year", "words", "told", "text", "wide"] ["script"] (defScope s_law) := ⟨rfl, rfl, rfl, by decide +kernel, rfl, by decide +kernel, by decide +kernel⟩
abbrev s_BadText : Stmt := (clsBody (topS 10)).getD 0 (.Pass ⟨0, 0, 0, 0⟩)
theorem sc_BadText : FnScope ["self", "line", "word"] ["self", "line", "word"] (defScope s_BadText) := ⟨rfl, rfl, rfl, by decide +kernel, rfl, by decide +kernel, by decide +kernel⟩
/-! ### what the top has left -/
structure Fx (K : PySem.W.Frag) (mg : Str → Option Value) where
  a_words_of : Addr
  d_words_of : FuncData
  F_words_of : Fun K "words_of" "words_of" s_words_of a_words_of d_words_of
  g_words_of : mg "words_of" = some (.ref a_words_of)
  a_written_integer : Addr
  d_written_integer : FuncData
  F_written_integer : Fun K "written_integer" "written_integer" s_written_integer a_written_integer d_written_integer
  g_written_integer : mg "written_integer" = some (.ref a_written_integer)
  a_year_text : Addr
  d_year_text : FuncData
  F_year_text : Fun K "year_text" "year_text" s_year_text a_year_text d_year_text
  g_year_text : mg "year_text" = some (.ref a_year_text)
  a_year_from : Addr
  d_year_from : FuncData
  F_year_from : Fun K "year_from" "year_from" s_year_from a_year_from d_year_from
  g_year_from : mg "year_from" = some (.ref a_year_from)
  a_read_year : Addr
  d_read_year : FuncData
  F_read_year : Fun K "read_year" "read_year" s_read_year a_read_year d_read_year
  g_read_year : mg "read_year" = some (.ref a_read_year)
  a_d_law_pool : Addr
  d_d_law_pool : FuncData
  F_d_law_pool : Fun K "_law_pool" "_law_pool" s_d_law_pool a_d_law_pool d_d_law_pool
  g_d_law_pool : mg "_law_pool" = some (.ref a_d_law_pool)
  a_d_law_draw : Addr
  d_d_law_draw : FuncData
  F_d_law_draw : Fun K "_law_draw" "_law_draw" s_d_law_draw a_d_law_draw d_d_law_draw
  g_d_law_draw : mg "_law_draw" = some (.ref a_d_law_draw)
  a_d_law_often_end : Addr
  d_d_law_often_end : FuncData
  F_d_law_often_end : Fun K "_law_often_end" "_law_often_end" s_d_law_often_end a_d_law_often_end d_d_law_often_end
  g_d_law_often_end : mg "_law_often_end" = some (.ref a_d_law_often_end)
  a_d_law_is_integer : Addr
  d_d_law_is_integer : FuncData
  F_d_law_is_integer : Fun K "_law_is_integer" "_law_is_integer" s_d_law_is_integer a_d_law_is_integer d_d_law_is_integer
  g_d_law_is_integer : mg "_law_is_integer" = some (.ref a_d_law_is_integer)
  a_d_law_signs : Addr
  d_d_law_signs : FuncData
  F_d_law_signs : Fun K "_law_signs" "_law_signs" s_d_law_signs a_d_law_signs d_d_law_signs
  g_d_law_signs : mg "_law_signs" = some (.ref a_d_law_signs)
  a_d_law_year : Addr
  d_d_law_year : FuncData
  F_d_law_year : Fun K "_law_year" "_law_year" s_d_law_year a_d_law_year d_d_law_year
  g_d_law_year : mg "_law_year" = some (.ref a_d_law_year)
  a_d_law_words_of : Addr
  d_d_law_words_of : FuncData
  F_d_law_words_of : Fun K "_law_words_of" "_law_words_of" s_d_law_words_of a_d_law_words_of d_d_law_words_of
  g_d_law_words_of : mg "_law_words_of" = some (.ref a_d_law_words_of)
  a_d_law_spaces : Addr
  d_d_law_spaces : FuncData
  F_d_law_spaces : Fun K "_law_spaces" "_law_spaces" s_d_law_spaces a_d_law_spaces d_d_law_spaces
  g_d_law_spaces : mg "_law_spaces" = some (.ref a_d_law_spaces)
  a_d_law_line : Addr
  d_d_law_line : FuncData
  F_d_law_line : Fun K "_law_line" "_law_line" s_d_law_line a_d_law_line d_d_law_line
  g_d_law_line : mg "_law_line" = some (.ref a_d_law_line)
  a_d_law_due : Addr
  d_d_law_due : FuncData
  F_d_law_due : Fun K "_law_due" "_law_due" s_d_law_due a_d_law_due d_d_law_due
  g_d_law_due : mg "_law_due" = some (.ref a_d_law_due)
  a_d_law_ask : Addr
  d_d_law_ask : FuncData
  F_d_law_ask : Fun K "_law_ask" "_law_ask" s_d_law_ask a_d_law_ask d_d_law_ask
  g_d_law_ask : mg "_law_ask" = some (.ref a_d_law_ask)
  a_d_law_right : Addr
  d_d_law_right : FuncData
  F_d_law_right : Fun K "_law_right" "_law_right" s_d_law_right a_d_law_right d_d_law_right
  g_d_law_right : mg "_law_right" = some (.ref a_d_law_right)
  a_d_law_set_in : Addr
  d_d_law_set_in : FuncData
  F_d_law_set_in : Fun K "_law_set_in" "_law_set_in" s_d_law_set_in a_d_law_set_in d_d_law_set_in
  g_d_law_set_in : mg "_law_set_in" = some (.ref a_d_law_set_in)
  a_d_law_wrong_number : Addr
  d_d_law_wrong_number : FuncData
  F_d_law_wrong_number : Fun K "_law_wrong_number" "_law_wrong_number" s_d_law_wrong_number a_d_law_wrong_number d_d_law_wrong_number
  g_d_law_wrong_number : mg "_law_wrong_number" = some (.ref a_d_law_wrong_number)
  a_d_law_wrong_sign : Addr
  d_d_law_wrong_sign : FuncData
  F_d_law_wrong_sign : Fun K "_law_wrong_sign" "_law_wrong_sign" s_d_law_wrong_sign a_d_law_wrong_sign d_d_law_wrong_sign
  g_d_law_wrong_sign : mg "_law_wrong_sign" = some (.ref a_d_law_wrong_sign)
  a_d_law_beyond : Addr
  d_d_law_beyond : FuncData
  F_d_law_beyond : Fun K "_law_beyond" "_law_beyond" s_d_law_beyond a_d_law_beyond d_d_law_beyond
  g_d_law_beyond : mg "_law_beyond" = some (.ref a_d_law_beyond)
  a_d_law_wrong_lines : Addr
  d_d_law_wrong_lines : FuncData
  F_d_law_wrong_lines : Fun K "_law_wrong_lines" "_law_wrong_lines" s_d_law_wrong_lines a_d_law_wrong_lines d_d_law_wrong_lines
  g_d_law_wrong_lines : mg "_law_wrong_lines" = some (.ref a_d_law_wrong_lines)
  a_law : Addr
  d_law : FuncData
  F_law : Fun K "law" "law" s_law a_law d_law
  g_law : mg "law" = some (.ref a_law)
  c_BadText : Addr
  i_BadText : Addr
  d_BadText : FuncData
  gc_BadText : mg "BadText" = some (.ref c_BadText)
  T_BadText : OexC K c_BadText
  iC_BadText : PySem.W.findIn K (.ref c_BadText) "__init__" = some (some (.ref i_BadText))
  tI_BadText : PySem.W.typeIn K (.ref i_BadText) = some (.type "function")
  F_BadText : Fun K "__init__" "BadText.__init__" s_BadText i_BadText d_BadText
  xf_BadText : XfC K c_BadText
  te_BadText : PySem.W.exmOne K (.ref c_BadText) (.ref c_BadText) = some true
  no_BadText_line : PySem.W.findIn K (.ref c_BadText) "line" = some none
  no_BadText_word : PySem.W.findIn K (.ref c_BadText) "word" = some none
  c_TextError : Addr
  gc_TextError : mg "TextError" = some (.ref c_TextError)
  c_DataError : Addr
  gc_DataError : mg "DataError" = some (.ref c_DataError)
  c_CallError : Addr
  gc_CallError : mg "CallError" = some (.ref c_CallError)
  c_DeskError : Addr
  gc_DeskError : mg "DeskError" = some (.ref c_DeskError)
  EC_BadText : ExcC K c_BadText
  ki_0 : PySem.W.kitOne K (.ref c_BadText) (.ref c_TextError) = some true
  ki_1 : PySem.W.kitAny K (.ref c_BadText) ([c_DataError, c_CallError, c_DeskError].map Value.ref) = some false
  k_FIGURES : ∃ t, mg "FIGURES" = some (.str "0123456789" t)
  k_WRITTEN_MOST : ∃ t, mg "WRITTEN_MOST" = some (.int (9) t)
  k_YEAR_LEAST : ∃ t, mg "YEAR_LEAST" = some (.int (-9999) t)
  k_YEAR_MOST : ∃ t, mg "YEAR_MOST" = some (.int (9999) t)
  b_bool : mg "bool" = none
  b_int : mg "int" = none
  b_isinstance : mg "isinstance" = none
  b_len : mg "len" = none
  b_range : mg "range" = none
  b_str : mg "str" = none
variable {P : Program} {w : World} {K : PySem.W.Frag} {mg : Str → Option Value} {base : Heap}
theorem bd_words_of (X : Fx K mg) : Binds K X.d_words_of ["line"] [] := X.F_words_of.binds (ps := ["line"]) fun _ _ _ _ _ _ us hl => match us, hl with | [_], _ => rfl
theorem bd_written_integer (X : Fx K mg) : Binds K X.d_written_integer ["word"] [] := X.F_written_integer.binds (ps := ["word"]) fun _ _ _ _ _ _ us hl => match us, hl with | [_], _ => rfl
theorem bd_year_text (X : Fx K mg) : Binds K X.d_year_text ["year"] [] := X.F_year_text.binds (ps := ["year"]) fun _ _ _ _ _ _ us hl => match us, hl with | [_], _ => rfl
theorem bd_year_from (X : Fx K mg) : Binds K X.d_year_from ["words"] [] := X.F_year_from.binds (ps := ["words"]) fun _ _ _ _ _ _ us hl => match us, hl with | [_], _ => rfl
theorem bd_read_year (X : Fx K mg) : Binds K X.d_read_year ["text"] [] := X.F_read_year.binds (ps := ["text"]) fun _ _ _ _ _ _ us hl => match us, hl with | [_], _ => rfl
theorem bd_d_law_pool (X : Fx K mg) : Binds K X.d_d_law_pool ["script"] [] := X.F_d_law_pool.binds (ps := ["script"]) fun _ _ _ _ _ _ us hl => match us, hl with | [_], _ => rfl
theorem bd_d_law_draw (X : Fx K mg) : Binds K X.d_d_law_draw ["pool", "many"] [] := X.F_d_law_draw.binds (ps := ["pool", "many"]) fun _ _ _ _ _ _ us hl => match us, hl with | [_, _], _ => rfl
theorem bd_d_law_often_end (X : Fx K mg) : Binds K X.d_d_law_often_end ["pool", "many"] [] := X.F_d_law_often_end.binds (ps := ["pool", "many"]) fun _ _ _ _ _ _ us hl => match us, hl with | [_, _], _ => rfl
theorem bd_d_law_is_integer (X : Fx K mg) : Binds K X.d_d_law_is_integer ["told"] [] := X.F_d_law_is_integer.binds (ps := ["told"]) fun _ _ _ _ _ _ us hl => match us, hl with | [_], _ => rfl
theorem bd_d_law_signs (X : Fx K mg) : Binds K X.d_d_law_signs [] [] := X.F_d_law_signs.binds (ps := []) fun _ _ _ _ _ _ us hl => match us, hl with | [], _ => rfl
theorem bd_d_law_year (X : Fx K mg) : Binds K X.d_d_law_year ["pool"] [] := X.F_d_law_year.binds (ps := ["pool"]) fun _ _ _ _ _ _ us hl => match us, hl with | [_], _ => rfl
theorem bd_d_law_words_of (X : Fx K mg) : Binds K X.d_d_law_words_of ["year"] [] := X.F_d_law_words_of.binds (ps := ["year"]) fun _ _ _ _ _ _ us hl => match us, hl with | [_], _ => rfl
theorem bd_d_law_spaces (X : Fx K mg) : Binds K X.d_d_law_spaces ["pool", "least"] [] := X.F_d_law_spaces.binds (ps := ["pool", "least"]) fun _ _ _ _ _ _ us hl => match us, hl with | [_, _], _ => rfl
theorem bd_d_law_line (X : Fx K mg) : Binds K X.d_d_law_line ["pool", "words"] [] := X.F_d_law_line.binds (ps := ["pool", "words"]) fun _ _ _ _ _ _ us hl => match us, hl with | [_, _], _ => rfl
theorem bd_d_law_due (X : Fx K mg) : Binds K X.d_d_law_due ["text"] [] := X.F_d_law_due.binds (ps := ["text"]) fun _ _ _ _ _ _ us hl => match us, hl with | [_], _ => rfl
theorem bd_d_law_ask (X : Fx K mg) : Binds K X.d_d_law_ask ["text"] [] := X.F_d_law_ask.binds (ps := ["text"]) fun _ _ _ _ _ _ us hl => match us, hl with | [_], _ => rfl
theorem bd_d_law_right (X : Fx K mg) : Binds K X.d_d_law_right ["text"] [] := X.F_d_law_right.binds (ps := ["text"]) fun _ _ _ _ _ _ us hl => match us, hl with | [_], _ => rfl
theorem bd_d_law_set_in (X : Fx K mg) : Binds K X.d_d_law_set_in ["pool", "word"] [] := X.F_d_law_set_in.binds (ps := ["pool", "word"]) fun _ _ _ _ _ _ us hl => match us, hl with | [_, _], _ => rfl
theorem bd_d_law_wrong_number (X : Fx K mg) : Binds K X.d_d_law_wrong_number ["pool", "number"] [] := X.F_d_law_wrong_number.binds (ps := ["pool", "number"]) fun _ _ _ _ _ _ us hl => match us, hl with | [_, _], _ => rfl
theorem bd_d_law_wrong_sign (X : Fx K mg) : Binds K X.d_d_law_wrong_sign ["pool", "sign"] [] := X.F_d_law_wrong_sign.binds (ps := ["pool", "sign"]) fun _ _ _ _ _ _ us hl => match us, hl with | [_, _], _ => rfl
theorem bd_d_law_beyond (X : Fx K mg) : Binds K X.d_d_law_beyond ["pool"] [] := X.F_d_law_beyond.binds (ps := ["pool"]) fun _ _ _ _ _ _ us hl => match us, hl with | [_], _ => rfl
theorem bd_d_law_wrong_lines (X : Fx K mg) : Binds K X.d_d_law_wrong_lines ["pool", "words"] [] := X.F_d_law_wrong_lines.binds (ps := ["pool", "words"]) fun _ _ _ _ _ _ us hl => match us, hl with | [_, _], _ => rfl
theorem bd_law (X : Fx K mg) : Binds K X.d_law ["script"] [] := X.F_law.binds (ps := ["script"]) fun _ _ _ _ _ _ us hl => match us, hl with | [_], _ => rfl
theorem bi_BadText (X : Fx K mg) : Binds K X.d_BadText ["self", "line", "word"] [] := X.F_BadText.binds (ps := ["self", "line", "word"]) fun _ _ _ _ _ _ us hl => match us, hl with | [_, _, _], _ => rfl
theorem oi_BadText (X : Fx K mg) : FnOk P w K mg base (L2.CX P w) 1 X.i_BadText X.d_BadText ["self", "line", "word"] (spI2 X.c_BadText "line" "word") := okI2 X.F_BadText sc_BadText rfl rfl X.T_BadText X.no_BadText_line X.no_BadText_word fun cdv A outer s H E => pss_cons (ps_ost (pv 0) (pv 1)) (pss_one (ps_ost (pv 0) (pv 2)))
/-! ### mirrors and derivations -/
noncomputable def lt_words_of_1 : ME Bool := tV (e2 dNe (eV 1) (eC (.str "")))
noncomputable def le_words_of_2 : ME D := eV 1
noncomputable def b_words_of : MS := sRet (eLc (iSeq (eM1 dSplit (eV 0) (eC (.str " ")))) [1] (gN 1) (lt_words_of_1) (le_words_of_2))
noncomputable def m_words_of : List D → Store → R D := fnM 2 1 b_words_of
theorem ok_words_of (X : Fx K mg) : FnOk P w K mg base (L2.CX P w) 1 X.a_words_of X.d_words_of ["line"] (spM K mg 1 m_words_of) :=
  okM (k := 0) X.F_words_of sc_words_of rfl fun cdv A outer s H E hr tk =>
    (css_one (cs_ret (ce_lc (own := [("word", 1)]) rfl sc_words_of.nd (ci_seq (ce_m1 PySem.F.slot_str_split PySem.F.type_str_split mt_split mts_split (ce_v 0) (ce_str))) (blkOk_by (N := ["line", "word"]) (sc := defScope s_words_of) (by decide +kernel)) (fun _ _ _ _ _ => cg_name (i := 1) sc_words_of.nd rfl (by first | exact Or.inl rfl | exact Or.inr rfl)) (fun _ _ _ _ _ => cts_one (ct_cmp (opA_ne hr.units) ops_ne (ce_v 1) (ce_str) (nomark _))) (fun _ _ _ _ _ => ce_v 1))) :
      PSs _ _ (Ts _ _ _ b_words_of))
noncomputable def bl_written_integer_1 : MS := sIf (tV (e2 dNotIn (eV 2) (eC (.str "0123456789")))) (sRet (eC .non)) (sNil)
noncomputable def b_written_integer : MS := sSeq (sSet 1 (eV 0))
  (sSeq (sIf (tTru (eM1 dStarts (eV 0) (eC (.str "-")))) (sSet 1 (eSl dSlZ (eV 0) (oSome (eC (.int 1))) (oNone))) (sNil))
  (sSeq (sIf (tOr (tV (e2 dEq (eV 1) (eC (.str "")))) (tV (e2 dGt (eFn dLen (aCons (eV 0) (aNil))) (eC (.int 9))))) (sRet (eC .non)) (sNil))
  (sSeq (sFor (iSeq (eV 1)) (gN 2) (bl_written_integer_1))
  (sSeq (sIf (tAnd (tV (e2 dEq (e2 dIxZ (eV 1) (eC (.int 0))) (eC (.str "0")))) (tV (e2 dNe (eV 0) (eC (.str "0"))))) (sRet (eC .non)) (sNil))
  (sRet (eFn dIntZ (aCons (eV 0) (aNil))))))))
noncomputable def m_written_integer : List D → Store → R D := fnM 3 1 b_written_integer
theorem ok_written_integer (X : Fx K mg) : FnOk P w K mg base (L2.CX P w) 1 X.a_written_integer X.d_written_integer ["word"] (spM K mg 1 m_written_integer) :=
  okM (k := 0) X.F_written_integer sc_written_integer rfl fun cdv A outer s H E hr tk =>
    (css_cons (cs_set (j := 1) sc_written_integer.nd rfl (Or.inl rfl) (ce_v 0))
    (css_cons (cs_if (ct_tru (ce_m1 PySem.F.slot_str_startswith PySem.F.type_str_startswith mt_startswith mts_starts (ce_v 0) (ce_str))) (css_one (cs_set (j := 1) sc_written_integer.nd rfl (Or.inl rfl) (ce_sl sl_Z sls_Z (ce_v 0) (co_some (ce_int)) (co_none)))) (css_nil))
    (css_cons (cs_if (PW.pt (cw_or (ct_cmp (opA_eq hr.units) ops_eq (ce_v 1) (ce_str) (nomark _)) (cw_or1 (ct_cmp opA_gt ops_gt (ce_callB call_len fns_len (by rfl) X.b_len (by decide +kernel) (ca_cons (ce_v 0) (ca_nil))) (ce_globI (by rfl) X.k_WRITTEN_MOST) (nomark _))))) (css_one (cs_ret (ce_non))) (css_nil))
    (css_cons (cs_for (passes_of rfl) rfl (ci_seq (ce_v 1)) (cg_name (i := 2) sc_written_integer.nd rfl (by first | exact Or.inl rfl | exact Or.inr rfl)) (css_one (cs_if (ct_cmp (opA_notin (un65 hr)) ops_notin (ce_v 2) (ce_globS (by rfl) X.k_FIGURES) (by with_unfolding_all rfl)) (css_one (cs_ret (ce_non))) (css_nil))))
    (css_cons (cs_if (PW.pt (cw_and (ct_cmp (opA_eq hr.units) ops_eq (ce_ix (ix_Z hr.units) ops_ixZ (ce_v 1) (ce_int) (fun _ _ => rfl)) (ce_str) (nomark _)) (cw_and1 (ct_cmp (opA_ne hr.units) ops_ne (ce_v 0) (ce_str) (nomark _))))) (css_one (cs_ret (ce_non))) (css_nil))
    (css_one (cs_ret (ce_callTy call_intZ fns_intZ (by rfl) X.b_int (by decide +kernel) (ca_cons (ce_v 0) (ca_nil))))))))) :
      PSs _ _ (Ts _ _ _ b_written_integer))
noncomputable def b_year_text : MS := sSeq (sIf (tV (e2 dGt (eV 0) (eC (.int 0)))) (sRet (eFs [eFmt (eV 0), eC (.str " AD")])) (sNil))
  (sRet (eFs [eFmt (e2 dSub (eC (.int 1)) (eV 0)), eC (.str " BC")]))
noncomputable def m_year_text : List D → Store → R D := fnM 1 1 b_year_text
theorem ok_year_text (X : Fx K mg) : FnOk P w K mg base (L2.CX P w) 1 X.a_year_text X.d_year_text ["year"] (spM K mg 1 m_year_text) :=
  okM (k := 0) X.F_year_text sc_year_text rfl fun cdv A outer s H E hr tk =>
    (css_cons (cs_if (ct_cmp opA_gt ops_gt (ce_v 0) (ce_int) (nomark _)) (css_one (cs_ret (ce_fs (.cons (ce_fmt (ce_v 0)) (.cons (ce_str) (PJs.nil)))))) (css_nil))
    (css_one (cs_ret (ce_fs (.cons (ce_fmt (ce_op op_sub ops_sub (ce_int) (ce_v 0))) (.cons (ce_str) (PJs.nil)))))) :
      PSs _ _ (Ts _ _ _ b_year_text))
noncomputable def bl_d_law_pool_1 : MS := sSeq (sSet 4 (eFn dIntZ (aCons (eV 3) (aNil))))
  (sSeq (sIf (tV (e2 dLt (eV 4) (eC (.int 0)))) (sSet 4 (e2 dSub (eC (.int 5)) (e2 dMul (eC (.int 2)) (eV 4)))) (sNil))
  (sSeq (sSet 1 (e2 dMod (eFn dIntZ (aCons (e2 dAdd (e2 dAdd (e2 dMul (eV 1) (eC (.int 33331))) (e2 dMul (e2 dMod (eV 4) (eC (.int 1000081))) (eC (.int 19)))) (eC (.int 7))) (aNil))) (eC (.int 2147483563))))
  (sIf (tV (e2 dGe (eV 4) (e2 dPow (eC (.int 10)) (eC (.int 18))))) (sExpr (eMt "list" dAppend (eV 2) (aCons (eV 4) (aNil)))) (sNil))))
noncomputable def b_d_law_pool : MS := sSeq (sSet 1 (eC (.int 61001)))
  (sSeq (sSet 2 (eLst (aNil)))
  (sSeq (sFor (iSeq (eSl dSlZ (eV 0) (oNone) (oSome (eC (.int 63))))) (gN 3) (bl_d_law_pool_1))
  (sRet (e2 dAdd (eLst (aCons (eV 1) (aNil))) (eV 2)))))
noncomputable def m_d_law_pool : List D → Store → R D := fnM 5 1 b_d_law_pool
theorem ok_d_law_pool (X : Fx K mg) : FnOk P w K mg base (L2.CX P w) 1 X.a_d_law_pool X.d_d_law_pool ["script"] (spM K mg 1 m_d_law_pool) :=
  okM (k := 0) X.F_d_law_pool sc_d_law_pool rfl fun cdv A outer s H E hr tk =>
    (css_cons (cs_set (j := 1) sc_d_law_pool.nd rfl (Or.inl rfl) (ce_int))
    (css_cons (cs_set (j := 2) sc_d_law_pool.nd rfl (Or.inl rfl) (ce_lst (ca_nil)))
    (css_cons (cs_for (passes_of rfl) rfl (ci_seq (ce_sl sl_Z sls_Z (ce_v 0) (co_none) (co_some (ce_int)))) (cg_name (i := 3) sc_d_law_pool.nd rfl (by first | exact Or.inl rfl | exact Or.inr rfl)) (css_cons (cs_set (j := 4) sc_d_law_pool.nd rfl (Or.inl rfl) (ce_callTy call_intZ fns_intZ (by rfl) X.b_int (by decide +kernel) (ca_cons (ce_v 3) (ca_nil))))
    (css_cons (cs_if (ct_cmp opA_lt ops_lt (ce_v 4) (ce_int) (nomark _)) (css_one (cs_set (j := 4) sc_d_law_pool.nd rfl (Or.inl rfl) (ce_op op_sub ops_sub (ce_int) (ce_op op_mul ops_mul (ce_int) (ce_v 4))))) (css_nil))
    (css_cons (cs_set (j := 1) sc_d_law_pool.nd rfl (Or.inl rfl) (ce_op op_mod ops_mod (ce_callTy call_intZ fns_intZ (by rfl) X.b_int (by decide +kernel) (ca_cons (ce_op op_addA ops_add (ce_op op_addA ops_add (ce_op op_mul ops_mul (ce_v 1) (ce_int)) (ce_op op_mul ops_mul (ce_op op_mod ops_mod (ce_v 4) (ce_int)) (ce_int))) (ce_int)) (ca_nil))) (ce_int)))
    (css_one (cs_if (ct_cmp opA_ge ops_ge (ce_v 4) (ce_op op_pow ops_pow (ce_int) (ce_int)) (nomark _)) (css_one (cs_expr (ce_bm PySem.F.plainAttrs_list PySem.F.slot_list_append PySem.F.type_list_append mt_append mts_append (ce_v 2) (ca_cons (ce_v 4) (ca_nil))))) (css_nil)))))))
    (css_one (cs_ret (ce_op op_addA ops_add (ce_lst (ca_cons (ce_v 1) (ca_nil))) (ce_v 2)))))) :
      PSs _ _ (Ts _ _ _ b_d_law_pool))
noncomputable def b_d_law_draw : MS := sSeq (sIf (tV (e2 dGt (eFn dLen (aCons (eV 0) (aNil))) (eC (.int 1)))) (sSeq (sSet 2 (eMt0 "list" dPop (eV 0)))
  (sSeq (sIf (tV (e2 dGe (eV 2) (eV 1))) (sExpr (eMt "list" dAppend (eV 0) (aCons (e2 dDiv (eV 2) (eV 1)) (aNil)))) (sNil))
  (sRet (e2 dMod (eFn dIntZ (aCons (eV 2) (aNil))) (eV 1))))) (sNil))
  (sSeq (sPut pList (eV 0) (eC (.int 0)) (e2 dMod (eFn dIntZ (aCons (e2 dAdd (e2 dMul (e2 dIxZ (eV 0) (eC (.int 0))) (eC (.int 40014))) (eC (.int 3571))) (aNil))) (eC (.int 2147483563))))
  (sRet (e2 dMod (e2 dMod (eFn dIntZ (aCons (e2 dAdd (e2 dMul (e2 dDiv (e2 dIxZ (eV 0) (eC (.int 0))) (eC (.int 64))) (eC (.int 10061))) (e2 dIxZ (eV 0) (eC (.int 0)))) (aNil))) (eC (.int 1000000033))) (eV 1))))
noncomputable def m_d_law_draw : List D → Store → R D := fnM 3 2 b_d_law_draw
theorem ok_d_law_draw (X : Fx K mg) : FnOk P w K mg base (L2.CX P w) 1 X.a_d_law_draw X.d_d_law_draw ["pool", "many"] (spM K mg 2 m_d_law_draw) :=
  okM (k := 0) X.F_d_law_draw sc_d_law_draw rfl fun cdv A outer s H E hr tk =>
    (css_cons (cs_if (ct_cmp opA_gt ops_gt (ce_callB call_len fns_len (by rfl) X.b_len (by decide +kernel) (ca_cons (ce_v 0) (ca_nil))) (ce_int) (nomark _)) (css_cons (cs_set (j := 2) sc_d_law_draw.nd rfl (Or.inl rfl) (ce_bm0 PySem.F.plainAttrs_list PySem.F.slot_list_pop PySem.F.type_list_pop mt_pop mts_pop (ce_v 0)))
    (css_cons (cs_if (ct_cmp opA_ge ops_ge (ce_v 2) (ce_v 1) (nomark _)) (css_one (cs_expr (ce_bm PySem.F.plainAttrs_list PySem.F.slot_list_append PySem.F.type_list_append mt_append mts_append (ce_v 0) (ca_cons (ce_op op_fdiv ops_div (ce_v 2) (ce_v 1)) (ca_nil))))) (css_nil))
    (css_one (cs_ret (ce_op op_mod ops_mod (ce_callTy call_intZ fns_intZ (by rfl) X.b_int (by decide +kernel) (ca_cons (ce_v 2) (ca_nil))) (ce_v 1)))))) (css_nil))
    (css_cons (cs_put (ce_op op_mod ops_mod (ce_callTy call_intZ fns_intZ (by rfl) X.b_int (by decide +kernel) (ca_cons (ce_op op_addA ops_add (ce_op op_mul ops_mul (ce_ix (ix_Z hr.units) ops_ixZ (ce_v 0) (ce_int) (fun _ _ => rfl)) (ce_int)) (ce_int)) (ca_nil))) (ce_int)) (ce_v 0) (ce_int) set_list puts_list)
    (css_one (cs_ret (ce_op op_mod ops_mod (ce_op op_mod ops_mod (ce_callTy call_intZ fns_intZ (by rfl) X.b_int (by decide +kernel) (ca_cons (ce_op op_addA ops_add (ce_op op_mul ops_mul (ce_op op_fdiv ops_div (ce_ix (ix_Z hr.units) ops_ixZ (ce_v 0) (ce_int) (fun _ _ => rfl)) (ce_int)) (ce_int)) (ce_ix (ix_Z hr.units) ops_ixZ (ce_v 0) (ce_int) (fun _ _ => rfl))) (ca_nil))) (ce_int)) (ce_v 1))))) :
      PSs _ _ (Ts _ _ _ b_d_law_draw))
noncomputable def b_d_law_is_integer : MS := sRet (eAnd (e1 (dIsi "int") (eV 0)) (eNot (e1 (dIsi "bool") (eV 0))))
noncomputable def m_d_law_is_integer : List D → Store → R D := fnM 1 1 b_d_law_is_integer
theorem ok_d_law_is_integer (X : Fx K mg) : FnOk P w K mg base (L2.CX P w) 1 X.a_d_law_is_integer X.d_d_law_is_integer ["told"] (spM K mg 1 m_d_law_is_integer) :=
  okM (k := 0) X.F_d_law_is_integer sc_d_law_is_integer rfl fun cdv A outer s H E hr tk =>
    (css_one (cs_ret (ce_and (ce_isi (T := "int") (by rfl) X.b_isinstance (by rfl) X.b_int (by decide +kernel) (ce_v 0)) (ce_one (ce_not (ce_isi (T := "bool") (by rfl) X.b_isinstance (by rfl) X.b_bool (by decide +kernel) (ce_v 0)))))) :
      PSs _ _ (Ts _ _ _ b_d_law_is_integer))
noncomputable def b_d_law_signs : MS := sSeq (sSet 0 (eC (.str "!\"#$&'()*+,-./0123456789:;<=>?@ABCDEFGHIJKLMNOPQRSTUVWXYZ[\\]^_`")))
  (sRet (e2 dAdd (eV 0) (eC (.str "abcdefghijklmnopqrstuvwxyz{|}~"))))
noncomputable def m_d_law_signs : List D → Store → R D := fnM 1 0 b_d_law_signs
theorem ok_d_law_signs (X : Fx K mg) : FnOk P w K mg base (L2.CX P w) 1 X.a_d_law_signs X.d_d_law_signs [] (spM K mg 0 m_d_law_signs) :=
  okM (k := 0) X.F_d_law_signs sc_d_law_signs rfl fun cdv A outer s H E hr tk =>
    (css_cons (cs_set (j := 0) sc_d_law_signs.nd rfl (Or.inl rfl) (ce_str))
    (css_one (cs_ret (ce_op op_addA ops_add (ce_v 0) (ce_str)))) :
      PSs _ _ (Ts _ _ _ b_d_law_signs))
noncomputable def b_d_law_words_of : MS := sSeq (sIf (tV (e2 dGe (eV 0) (eC (.int 1)))) (sRet (eLst (aCons (eFn dStr (aCons (eV 0) (aNil))) (aCons (eC (.str "AD")) (aNil))))) (sNil))
  (sRet (eLst (aCons (eFn dStr (aCons (e2 dSub (eC (.int 1)) (eV 0)) (aNil))) (aCons (eC (.str "BC")) (aNil)))))
noncomputable def m_d_law_words_of : List D → Store → R D := fnM 1 1 b_d_law_words_of
theorem ok_d_law_words_of (X : Fx K mg) : FnOk P w K mg base (L2.CX P w) 1 X.a_d_law_words_of X.d_d_law_words_of ["year"] (spM K mg 1 m_d_law_words_of) :=
  okM (k := 0) X.F_d_law_words_of sc_d_law_words_of rfl fun cdv A outer s H E hr tk =>
    (css_cons (cs_if (ct_cmp opA_ge ops_ge (ce_v 0) (ce_int) (nomark _)) (css_one (cs_ret (ce_lst (ca_cons (ce_callTy call_strA fns_str (by rfl) X.b_str (by decide +kernel) (ca_cons (ce_v 0) (ca_nil))) (ca_cons (ce_str) (ca_nil)))))) (css_nil))
    (css_one (cs_ret (ce_lst (ca_cons (ce_callTy call_strA fns_str (by rfl) X.b_str (by decide +kernel) (ca_cons (ce_op op_sub ops_sub (ce_int) (ce_v 0)) (ca_nil))) (ca_cons (ce_str) (ca_nil)))))) :
      PSs _ _ (Ts _ _ _ b_d_law_words_of))
noncomputable def bl_d_law_due_1 : MS := sIf (tV (e2 dNotIn (eV 3) (eC (.str "0123456789")))) (sRet (eLst (aCons (eC (.int 1)) (aCons (eC (.str "number")) (aNil))))) (sNil)
noncomputable def lt_d_law_due_2 : ME Bool := tV (e2 dNe (eV 5) (eC (.str "")))
noncomputable def le_d_law_due_3 : ME D := eV 5
noncomputable def b_d_law_due : MS := sSeq (sSet 1 (eLc (iSeq (eM1 dSplit (eV 0) (eC (.str " ")))) [5] (gN 5) (lt_d_law_due_2) (le_d_law_due_3)))
  (sSeq (sIf (tV (e2 dNe (eFn dLen (aCons (eV 1) (aNil))) (eC (.int 2)))) (sRet (eLst (aCons (eC (.int 1)) (aCons (eC (.str "words")) (aNil))))) (sNil))
  (sSeq (sSet 2 (e2 dIxZ (eV 1) (eC (.int 0))))
  (sSeq (sIf (tOr (tV (e2 dGt (eFn dLen (aCons (eV 2) (aNil))) (eC (.int 9)))) (tV (e2 dEq (e2 dIxZ (eV 2) (eC (.int 0))) (eC (.str "0"))))) (sRet (eLst (aCons (eC (.int 1)) (aCons (eC (.str "number")) (aNil))))) (sNil))
  (sSeq (sFor (iSeq (eV 2)) (gN 3) (bl_d_law_due_1))
  (sSeq (sIf (tAnd (tV (e2 dNe (e2 dIxZ (eV 1) (eC (.int 1))) (eC (.str "AD")))) (tV (e2 dNe (e2 dIxZ (eV 1) (eC (.int 1))) (eC (.str "BC"))))) (sRet (eLst (aCons (eC (.int 1)) (aCons (eC (.str "sign")) (aNil))))) (sNil))
  (sSeq (sSet 4 (eFn dIntZ (aCons (eV 2) (aNil))))
  (sSeq (sIf (tV (e2 dEq (e2 dIxZ (eV 1) (eC (.int 1))) (eC (.str "BC")))) (sSet 4 (e2 dSub (eC (.int 1)) (eV 4))) (sNil))
  (sSeq (sIf (tOr (tV (e2 dLt (eV 4) (e1 dNeg (eC (.int 9999))))) (tV (e2 dGt (eV 4) (eC (.int 9999))))) (sRet (eLst (aCons (eC (.int 1)) (aCons (eC (.str "limit")) (aNil))))) (sNil))
  (sRet (eLst (aCons (eC (.int 0)) (aCons (eV 4) (aNil)))))))))))))
noncomputable def m_d_law_due : List D → Store → R D := fnM 6 1 b_d_law_due
theorem ok_d_law_due (X : Fx K mg) : FnOk P w K mg base (L2.CX P w) 1 X.a_d_law_due X.d_d_law_due ["text"] (spM K mg 1 m_d_law_due) :=
  okM (k := 0) X.F_d_law_due sc_d_law_due rfl fun cdv A outer s H E hr tk =>
    (css_cons (cs_setLc (i := 1) (own := [("word", 5)]) rfl sc_d_law_due.nd rfl rfl (sw_true rfl rfl rfl (by decide +kernel)) (ci_seq (ce_m1 PySem.F.slot_str_split PySem.F.type_str_split mt_split mts_split (ce_v 0) (ce_str))) (blkOk_by (N := ["text", "words", "number", "sign", "year", "word"]) (sc := defScope s_d_law_due) (by decide +kernel)) (fun _ _ _ _ _ => cg_name (i := 5) sc_d_law_due.nd rfl (by first | exact Or.inl rfl | exact Or.inr rfl)) (fun _ _ _ _ _ => cts_one (ct_cmp (opA_ne hr.units) ops_ne (ce_v 5) (ce_str) (nomark _))) (fun _ _ _ _ _ => ce_v 5))
    (css_cons (cs_if (ct_cmp (opA_ne hr.units) ops_ne (ce_callB call_len fns_len (by rfl) X.b_len (by decide +kernel) (ca_cons (ce_v 1) (ca_nil))) (ce_int) (nomark _)) (css_one (cs_ret (ce_lst (ca_cons (ce_int) (ca_cons (ce_str) (ca_nil)))))) (css_nil))
    (css_cons (cs_set (j := 2) sc_d_law_due.nd rfl (Or.inl rfl) (ce_ix (ix_Z hr.units) ops_ixZ (ce_v 1) (ce_int) (fun _ _ => rfl)))
    (css_cons (cs_if (PW.pt (cw_or (ct_cmp opA_gt ops_gt (ce_callB call_len fns_len (by rfl) X.b_len (by decide +kernel) (ca_cons (ce_v 2) (ca_nil))) (ce_int) (nomark _)) (cw_or1 (ct_cmp (opA_eq hr.units) ops_eq (ce_ix (ix_Z hr.units) ops_ixZ (ce_v 2) (ce_int) (fun _ _ => rfl)) (ce_str) (nomark _))))) (css_one (cs_ret (ce_lst (ca_cons (ce_int) (ca_cons (ce_str) (ca_nil)))))) (css_nil))
    (css_cons (cs_for (passes_of rfl) rfl (ci_seq (ce_v 2)) (cg_name (i := 3) sc_d_law_due.nd rfl (by first | exact Or.inl rfl | exact Or.inr rfl)) (css_one (cs_if (ct_cmp (opA_notin (un65 hr)) ops_notin (ce_v 3) (ce_str) (by with_unfolding_all rfl)) (css_one (cs_ret (ce_lst (ca_cons (ce_int) (ca_cons (ce_str) (ca_nil)))))) (css_nil))))
    (css_cons (cs_if (PW.pt (cw_and (ct_cmp (opA_ne hr.units) ops_ne (ce_ix (ix_Z hr.units) ops_ixZ (ce_v 1) (ce_int) (fun _ _ => rfl)) (ce_str) (nomark _)) (cw_and1 (ct_cmp (opA_ne hr.units) ops_ne (ce_ix (ix_Z hr.units) ops_ixZ (ce_v 1) (ce_int) (fun _ _ => rfl)) (ce_str) (nomark _))))) (css_one (cs_ret (ce_lst (ca_cons (ce_int) (ca_cons (ce_str) (ca_nil)))))) (css_nil))
    (css_cons (cs_set (j := 4) sc_d_law_due.nd rfl (Or.inl rfl) (ce_callTy call_intZ fns_intZ (by rfl) X.b_int (by decide +kernel) (ca_cons (ce_v 2) (ca_nil))))
    (css_cons (cs_if (ct_cmp (opA_eq hr.units) ops_eq (ce_ix (ix_Z hr.units) ops_ixZ (ce_v 1) (ce_int) (fun _ _ => rfl)) (ce_str) (nomark _)) (css_one (cs_set (j := 4) sc_d_law_due.nd rfl (Or.inl rfl) (ce_op op_sub ops_sub (ce_int) (ce_v 4)))) (css_nil))
    (css_cons (cs_if (PW.pt (cw_or (ct_cmp opA_lt ops_lt (ce_v 4) (ce_un un_neg uns_neg (ce_int)) (nomark _)) (cw_or1 (ct_cmp opA_gt ops_gt (ce_v 4) (ce_int) (nomark _))))) (css_one (cs_ret (ce_lst (ca_cons (ce_int) (ca_cons (ce_str) (ca_nil)))))) (css_nil))
    (css_one (cs_ret (ce_lst (ca_cons (ce_int) (ca_cons (ce_v 4) (ca_nil)))))))))))))) :
      PSs _ _ (Ts _ _ _ b_d_law_due))
noncomputable def b_year_from : MS := sSeq (sSet 1 (eCall m_written_integer (aCons (e2 dIxZ (eV 0) (eC (.int 0))) (aNil))))
  (sSeq (sIf (tOr (tV (e2 dIs (eV 1) (eC .non))) (tV (e2 dLt (eV 1) (eC (.int 1))))) (sRet (eTup (aCons (eC .non) (aCons (eC (.str "number")) (aNil))))) (sNil))
  (sSeq (sIf (tAnd (tV (e2 dNe (e2 dIxZ (eV 0) (eC (.int 1))) (eC (.str "AD")))) (tV (e2 dNe (e2 dIxZ (eV 0) (eC (.int 1))) (eC (.str "BC"))))) (sRet (eTup (aCons (eC .non) (aCons (eC (.str "sign")) (aNil))))) (sNil))
  (sSeq (sSet 2 (eV 1))
  (sSeq (sIf (tV (e2 dEq (e2 dIxZ (eV 0) (eC (.int 1))) (eC (.str "BC")))) (sSet 2 (e2 dSub (eC (.int 1)) (eV 1))) (sNil))
  (sSeq (sIf (tOr (tV (e2 dLt (eV 2) (eC (.int (-9999))))) (tV (e2 dGt (eV 2) (eC (.int 9999))))) (sRet (eTup (aCons (eC .non) (aCons (eC (.str "limit")) (aNil))))) (sNil))
  (sRet (eTup (aCons (eV 2) (aCons (eC .non) (aNil))))))))))
noncomputable def m_year_from : List D → Store → R D := fnM 3 1 b_year_from
theorem ok_year_from (X : Fx K mg) : FnOk P w K mg base (L2.CX P w) 2 X.a_year_from X.d_year_from ["words"] (spM K mg 1 m_year_from) :=
  okM (k := 1) X.F_year_from sc_year_from rfl fun cdv A outer s H E hr tk =>
    (css_cons (cs_set (j := 1) sc_year_from.nd rfl (Or.inl rfl) (ce_call (n := 1) (ok_written_integer X) (hr.mono (by decide)) tk (by rfl) X.g_written_integer X.F_written_integer.kp (bd_written_integer X) (an_cons an_nil) (ca_cons (ce_ix (ix_Z hr.units) ops_ixZ (ce_v 0) (ce_int) (fun _ _ => rfl)) (ca_nil))))
    (css_cons (cs_if (PW.pt (cw_or (ct_cmp opA_is ops_is (ce_v 1) (ce_non) (nomark _)) (cw_or1 (ct_cmp opA_lt ops_lt (ce_v 1) (ce_int) (nomark _))))) (css_one (cs_ret (ce_tup (ca_cons (ce_non) (ca_cons (ce_str) (ca_nil)))))) (css_nil))
    (css_cons (cs_if (PW.pt (cw_and (ct_cmp (opA_ne hr.units) ops_ne (ce_ix (ix_Z hr.units) ops_ixZ (ce_v 0) (ce_int) (fun _ _ => rfl)) (ce_str) (nomark _)) (cw_and1 (ct_cmp (opA_ne hr.units) ops_ne (ce_ix (ix_Z hr.units) ops_ixZ (ce_v 0) (ce_int) (fun _ _ => rfl)) (ce_str) (nomark _))))) (css_one (cs_ret (ce_tup (ca_cons (ce_non) (ca_cons (ce_str) (ca_nil)))))) (css_nil))
    (css_cons (cs_set (j := 2) sc_year_from.nd rfl (Or.inl rfl) (ce_v 1))
    (css_cons (cs_if (ct_cmp (opA_eq hr.units) ops_eq (ce_ix (ix_Z hr.units) ops_ixZ (ce_v 0) (ce_int) (fun _ _ => rfl)) (ce_str) (nomark _)) (css_one (cs_set (j := 2) sc_year_from.nd rfl (Or.inl rfl) (ce_op op_sub ops_sub (ce_int) (ce_v 1)))) (css_nil))
    (css_cons (cs_if (PW.pt (cw_or (ct_cmp opA_lt ops_lt (ce_v 2) (ce_globI (by rfl) X.k_YEAR_LEAST) (nomark _)) (cw_or1 (ct_cmp opA_gt ops_gt (ce_v 2) (ce_globI (by rfl) X.k_YEAR_MOST) (nomark _))))) (css_one (cs_ret (ce_tup (ca_cons (ce_non) (ca_cons (ce_str) (ca_nil)))))) (css_nil))
    (css_one (cs_ret (ce_tup (ca_cons (ce_v 2) (ca_cons (ce_non) (ca_nil))))))))))) :
      PSs _ _ (Ts _ _ _ b_year_from))
noncomputable def b_d_law_often_end : MS := sSeq (sSet 2 (eCall m_d_law_draw (aCons (eV 0) (aCons (eC (.int 5)) (aNil)))))
  (sSeq (sIf (tV (e2 dEq (eV 2) (eC (.int 0)))) (sRet (eC (.int 0))) (sNil))
  (sSeq (sIf (tV (e2 dEq (eV 2) (eC (.int 1)))) (sRet (e2 dSub (eV 1) (eC (.int 1)))) (sNil))
  (sRet (eCall m_d_law_draw (aCons (eV 0) (aCons (eV 1) (aNil)))))))
noncomputable def m_d_law_often_end : List D → Store → R D := fnM 3 2 b_d_law_often_end
theorem ok_d_law_often_end (X : Fx K mg) : FnOk P w K mg base (L2.CX P w) 2 X.a_d_law_often_end X.d_d_law_often_end ["pool", "many"] (spM K mg 2 m_d_law_often_end) :=
  okM (k := 1) X.F_d_law_often_end sc_d_law_often_end rfl fun cdv A outer s H E hr tk =>
    (css_cons (cs_set (j := 2) sc_d_law_often_end.nd rfl (Or.inl rfl) (ce_call (n := 2) (ok_d_law_draw X) (hr.mono (by decide)) tk (by rfl) X.g_d_law_draw X.F_d_law_draw.kp (bd_d_law_draw X) (an_cons (an_cons an_nil)) (ca_cons (ce_v 0) (ca_cons (ce_int) (ca_nil)))))
    (css_cons (cs_if (ct_cmp (opA_eq hr.units) ops_eq (ce_v 2) (ce_int) (nomark _)) (css_one (cs_ret (ce_int))) (css_nil))
    (css_cons (cs_if (ct_cmp (opA_eq hr.units) ops_eq (ce_v 2) (ce_int) (nomark _)) (css_one (cs_ret (ce_op op_sub ops_sub (ce_v 1) (ce_int)))) (css_nil))
    (css_one (cs_ret (ce_call (n := 2) (ok_d_law_draw X) (hr.mono (by decide)) tk (by rfl) X.g_d_law_draw X.F_d_law_draw.kp (bd_d_law_draw X) (an_cons (an_cons an_nil)) (ca_cons (ce_v 0) (ca_cons (ce_v 1) (ca_nil)))))))) :
      PSs _ _ (Ts _ _ _ b_d_law_often_end))
noncomputable def b_d_law_year : MS := sSeq (sSet 1 (eCall m_d_law_draw (aCons (eV 0) (aCons (eC (.int 5)) (aNil)))))
  (sSeq (sIf (tV (e2 dEq (eV 1) (eC (.int 0)))) (sRet (e2 dIxZ (eLst (aCons (e1 dNeg (eC (.int 9999))) (aCons (eC (.int 9999)) (aCons (e1 dNeg (eC (.int 9998))) (aCons (eC (.int 9998)) (aCons (e1 dNeg (eC (.int 9990))) (aCons (eC (.int 9990)) (aNil)))))))) (eCall m_d_law_draw (aCons (eV 0) (aCons (eC (.int 6)) (aNil)))))) (sNil))
  (sSeq (sIf (tV (e2 dEq (eV 1) (eC (.int 1)))) (sRet (e2 dSub (eCall m_d_law_draw (aCons (eV 0) (aCons (eC (.int 7)) (aNil)))) (eC (.int 3)))) (sNil))
  (sSeq (sIf (tV (e2 dEq (eV 1) (eC (.int 2)))) (sSeq (sSet 2 (e2 dSub (e2 dAdd (e2 dIxZ (eLst (aCons (eC (.int 9)) (aCons (eC (.int 99)) (aCons (eC (.int 999)) (aCons (eC (.int 10)) (aCons (eC (.int 100)) (aCons (eC (.int 1000)) (aNil)))))))) (eCall m_d_law_draw (aCons (eV 0) (aCons (eC (.int 6)) (aNil))))) (eCall m_d_law_draw (aCons (eV 0) (aCons (eC (.int 3)) (aNil))))) (eC (.int 1))))
  (sRet (e2 dMul (eV 2) (e2 dSub (eC (.int 1)) (e2 dMul (eC (.int 2)) (eCall m_d_law_draw (aCons (eV 0) (aCons (eC (.int 2)) (aNil))))))))) (sNil))
  (sRet (e2 dSub (eCall m_d_law_draw (aCons (eV 0) (aCons (eC (.int 19999)) (aNil)))) (eC (.int 9999)))))))
noncomputable def m_d_law_year : List D → Store → R D := fnM 3 1 b_d_law_year
theorem ok_d_law_year (X : Fx K mg) : FnOk P w K mg base (L2.CX P w) 2 X.a_d_law_year X.d_d_law_year ["pool"] (spM K mg 1 m_d_law_year) :=
  okM (k := 1) X.F_d_law_year sc_d_law_year rfl fun cdv A outer s H E hr tk =>
    (css_cons (cs_set (j := 1) sc_d_law_year.nd rfl (Or.inl rfl) (ce_call (n := 2) (ok_d_law_draw X) (hr.mono (by decide)) tk (by rfl) X.g_d_law_draw X.F_d_law_draw.kp (bd_d_law_draw X) (an_cons (an_cons an_nil)) (ca_cons (ce_v 0) (ca_cons (ce_int) (ca_nil)))))
    (css_cons (cs_if (ct_cmp (opA_eq hr.units) ops_eq (ce_v 1) (ce_int) (nomark _)) (css_one (cs_ret (ce_ix (ix_Z hr.units) ops_ixZ (ce_lst (ca_cons (ce_un un_neg uns_neg (ce_int)) (ca_cons (ce_int) (ca_cons (ce_un un_neg uns_neg (ce_int)) (ca_cons (ce_int) (ca_cons (ce_un un_neg uns_neg (ce_int)) (ca_cons (ce_int) (ca_nil)))))))) (ce_call (n := 2) (ok_d_law_draw X) (hr.mono (by decide)) tk (by rfl) X.g_d_law_draw X.F_d_law_draw.kp (bd_d_law_draw X) (an_cons (an_cons an_nil)) (ca_cons (ce_v 0) (ca_cons (ce_int) (ca_nil)))) (fun _ _ => rfl)))) (css_nil))
    (css_cons (cs_if (ct_cmp (opA_eq hr.units) ops_eq (ce_v 1) (ce_int) (nomark _)) (css_one (cs_ret (ce_op op_sub ops_sub (ce_call (n := 2) (ok_d_law_draw X) (hr.mono (by decide)) tk (by rfl) X.g_d_law_draw X.F_d_law_draw.kp (bd_d_law_draw X) (an_cons (an_cons an_nil)) (ca_cons (ce_v 0) (ca_cons (ce_int) (ca_nil)))) (ce_int)))) (css_nil))
    (css_cons (cs_if (ct_cmp (opA_eq hr.units) ops_eq (ce_v 1) (ce_int) (nomark _)) (css_cons (cs_set (j := 2) sc_d_law_year.nd rfl (Or.inl rfl) (ce_op op_sub ops_sub (ce_op op_addA ops_add (ce_ix (ix_Z hr.units) ops_ixZ (ce_lst (ca_cons (ce_int) (ca_cons (ce_int) (ca_cons (ce_int) (ca_cons (ce_int) (ca_cons (ce_int) (ca_cons (ce_int) (ca_nil)))))))) (ce_call (n := 2) (ok_d_law_draw X) (hr.mono (by decide)) tk (by rfl) X.g_d_law_draw X.F_d_law_draw.kp (bd_d_law_draw X) (an_cons (an_cons an_nil)) (ca_cons (ce_v 0) (ca_cons (ce_int) (ca_nil)))) (fun _ _ => rfl)) (ce_call (n := 2) (ok_d_law_draw X) (hr.mono (by decide)) tk (by rfl) X.g_d_law_draw X.F_d_law_draw.kp (bd_d_law_draw X) (an_cons (an_cons an_nil)) (ca_cons (ce_v 0) (ca_cons (ce_int) (ca_nil))))) (ce_int)))
    (css_one (cs_ret (ce_op op_mul ops_mul (ce_v 2) (ce_op op_sub ops_sub (ce_int) (ce_op op_mul ops_mul (ce_int) (ce_call (n := 2) (ok_d_law_draw X) (hr.mono (by decide)) tk (by rfl) X.g_d_law_draw X.F_d_law_draw.kp (bd_d_law_draw X) (an_cons (an_cons an_nil)) (ca_cons (ce_v 0) (ca_cons (ce_int) (ca_nil)))))))))) (css_nil))
    (css_one (cs_ret (ce_op op_sub ops_sub (ce_call (n := 2) (ok_d_law_draw X) (hr.mono (by decide)) tk (by rfl) X.g_d_law_draw X.F_d_law_draw.kp (bd_d_law_draw X) (an_cons (an_cons an_nil)) (ca_cons (ce_v 0) (ca_cons (ce_int) (ca_nil)))) (ce_int))))))) :
      PSs _ _ (Ts _ _ _ b_d_law_year))
noncomputable def b_d_law_spaces : MS := sRet (e2 dMulS (eC (.str " ")) (e2 dAdd (eV 1) (e2 dIxZ (eLst (aCons (eC (.int 0)) (aCons (eC (.int 0)) (aCons (eC (.int 1)) (aCons (eC (.int 2)) (aCons (eC (.int 7)) (aNil))))))) (eCall m_d_law_draw (aCons (eV 0) (aCons (eC (.int 5)) (aNil)))))))
noncomputable def m_d_law_spaces : List D → Store → R D := fnM 2 2 b_d_law_spaces
theorem ok_d_law_spaces (X : Fx K mg) : FnOk P w K mg base (L2.CX P w) 2 X.a_d_law_spaces X.d_d_law_spaces ["pool", "least"] (spM K mg 2 m_d_law_spaces) :=
  okM (k := 1) X.F_d_law_spaces sc_d_law_spaces rfl fun cdv A outer s H E hr tk =>
    (css_one (cs_ret (ce_op op_mulS ops_mulS (ce_str) (ce_op op_addA ops_add (ce_v 1) (ce_ix (ix_Z hr.units) ops_ixZ (ce_lst (ca_cons (ce_int) (ca_cons (ce_int) (ca_cons (ce_int) (ca_cons (ce_int) (ca_cons (ce_int) (ca_nil))))))) (ce_call (n := 2) (ok_d_law_draw X) (hr.mono (by decide)) tk (by rfl) X.g_d_law_draw X.F_d_law_draw.kp (bd_d_law_draw X) (an_cons (an_cons an_nil)) (ca_cons (ce_v 0) (ca_cons (ce_int) (ca_nil)))) (fun _ _ => rfl))))) :
      PSs _ _ (Ts _ _ _ b_d_law_spaces))
noncomputable def b_read_year : MS := sSeq (sSet 1 (eCall m_words_of (aCons (eV 0) (aNil))))
  (sSeq (sIf (tV (e2 dNe (eFn dLen (aCons (eV 1) (aNil))) (eC (.int 2)))) (sRaise "BadText" ["line", "word"] (aCons (eC (.int 1)) (aCons (eC (.str "words")) (aNil)))) (sNil))
  (sSeq (sAsg (gT 2 (gsC (gN 2) (gsC (gN 3) (gsN)))) (eCall m_year_from (aCons (eV 1) (aNil))))
  (sSeq (sIf (tV (e2 dIsNot (eV 3) (eC .non))) (sRaise "BadText" ["line", "word"] (aCons (eC (.int 1)) (aCons (eV 3) (aNil)))) (sNil))
  (sRet (eV 2)))))
noncomputable def m_read_year : List D → Store → R D := fnM 4 1 b_read_year
theorem ok_read_year (X : Fx K mg) : FnOk P w K mg base (L2.CX P w) 3 X.a_read_year X.d_read_year ["text"] (spM K mg 1 m_read_year) :=
  okM (k := 2) X.F_read_year sc_read_year rfl fun cdv A outer s H E hr tk =>
    (css_cons (cs_set (j := 1) sc_read_year.nd rfl (Or.inl rfl) (ce_call (n := 1) (ok_words_of X) (hr.mono (by decide)) tk (by rfl) X.g_words_of X.F_words_of.kp (bd_words_of X) (an_cons an_nil) (ca_cons (ce_v 0) (ca_nil))))
    (css_cons (cs_if (ct_cmp (opA_ne hr.units) ops_ne (ce_callB call_len fns_len (by rfl) X.b_len (by decide +kernel) (ca_cons (ce_v 1) (ca_nil))) (ce_int) (nomark _)) (css_one (cs_raise2 rfl tk X.gc_BadText X.T_BadText X.iC_BadText X.tI_BadText (oi_BadText X) (hr.mono (by decide)) (bi_BadText X) (by rfl) (ca_cons (ce_int) (ca_cons (ce_str) (ca_nil))))) (css_nil))
    (css_cons (cs_asg (ce_call (n := 1) (ok_year_from X) (hr.mono (by decide)) tk (by rfl) X.g_year_from X.F_year_from.kp (bd_year_from X) (an_cons an_nil) (ca_cons (ce_v 1) (ca_nil))) (cg_tup (n := 2) rfl (cgs_cons (us := [2, 3]) (cg_name (i := 2) sc_read_year.nd rfl (by first | exact Or.inl rfl | exact Or.inr rfl)) (cgs_cons (us := [3]) (cg_name (i := 3) sc_read_year.nd rfl (by first | exact Or.inl rfl | exact Or.inr rfl)) (cgs_nil (vs := []))))))
    (css_cons (cs_if (ct_cmp opA_isnot ops_isnot (ce_v 3) (ce_non) (nomark _)) (css_one (cs_raise2 rfl tk X.gc_BadText X.T_BadText X.iC_BadText X.tI_BadText (oi_BadText X) (hr.mono (by decide)) (bi_BadText X) (by rfl) (ca_cons (ce_int) (ca_cons (ce_v 3) (ca_nil))))) (css_nil))
    (css_one (cs_ret (ce_v 2)))))) :
      PSs _ _ (Ts _ _ _ b_read_year))
noncomputable def bl_d_law_line_1 : MS := sSeq (sIf (tV (e2 dGt (eV 3) (eC (.int 0)))) (sSet 2 (e2 dAdd (eV 2) (eCall m_d_law_spaces (aCons (eV 0) (aCons (eC (.int 1)) (aNil)))))) (sNil))
  (sSet 2 (e2 dAdd (eV 2) (e2 dIxZ (eV 1) (eV 3))))
noncomputable def b_d_law_line : MS := sSeq (sSet 2 (eCall m_d_law_spaces (aCons (eV 0) (aCons (eC (.int 0)) (aNil)))))
  (sSeq (sFor (iRange1 (aCons (eFn dLen (aCons (eV 1) (aNil))) (aNil))) (gN 3) (bl_d_law_line_1))
  (sRet (e2 dAdd (eV 2) (eCall m_d_law_spaces (aCons (eV 0) (aCons (eC (.int 0)) (aNil)))))))
noncomputable def m_d_law_line : List D → Store → R D := fnM 4 2 b_d_law_line
theorem ok_d_law_line (X : Fx K mg) : FnOk P w K mg base (L2.CX P w) 3 X.a_d_law_line X.d_d_law_line ["pool", "words"] (spM K mg 2 m_d_law_line) :=
  okM (k := 2) X.F_d_law_line sc_d_law_line rfl fun cdv A outer s H E hr tk =>
    (css_cons (cs_set (j := 2) sc_d_law_line.nd rfl (Or.inl rfl) (ce_call (n := 2) (ok_d_law_spaces X) (hr.mono (by decide)) tk (by rfl) X.g_d_law_spaces X.F_d_law_spaces.kp (bd_d_law_spaces X) (an_cons (an_cons an_nil)) (ca_cons (ce_v 0) (ca_cons (ce_int) (ca_nil)))))
    (css_cons (cs_for (passes_of rfl) rfl (ci_range1 (by rfl) X.b_range (ca_cons (ce_callB call_len fns_len (by rfl) X.b_len (by decide +kernel) (ca_cons (ce_v 1) (ca_nil))) (ca_nil))) (cg_name (i := 3) sc_d_law_line.nd rfl (by first | exact Or.inl rfl | exact Or.inr rfl)) (css_cons (cs_if (ct_cmp opA_gt ops_gt (ce_v 3) (ce_int) (nomark _)) (css_one (cs_set (j := 2) sc_d_law_line.nd rfl (Or.inl rfl) (ce_op op_addA ops_add (ce_v 2) (ce_call (n := 2) (ok_d_law_spaces X) (hr.mono (by decide)) tk (by rfl) X.g_d_law_spaces X.F_d_law_spaces.kp (bd_d_law_spaces X) (an_cons (an_cons an_nil)) (ca_cons (ce_v 0) (ca_cons (ce_int) (ca_nil))))))) (css_nil))
    (css_one (cs_set (j := 2) sc_d_law_line.nd rfl (Or.inl rfl) (ce_op op_addA ops_add (ce_v 2) (ce_ix (ix_Z hr.units) ops_ixZ (ce_v 1) (ce_v 3) (fun _ _ => rfl)))))))
    (css_one (cs_ret (ce_op op_addA ops_add (ce_v 2) (ce_call (n := 2) (ok_d_law_spaces X) (hr.mono (by decide)) tk (by rfl) X.g_d_law_spaces X.F_d_law_spaces.kp (bd_d_law_spaces X) (an_cons (an_cons an_nil)) (ca_cons (ce_v 0) (ca_cons (ce_int) (ca_nil)))))))) :
      PSs _ _ (Ts _ _ _ b_d_law_line))
noncomputable def b_d_law_set_in : MS := sSeq (sSet 2 (eCall m_d_law_signs aNil))
  (sSeq (sIf (tV (e2 dEq (eCall m_d_law_draw (aCons (eV 0) (aCons (eC (.int 2)) (aNil)))) (eC (.int 0)))) (sSet 2 (eC (.str "0-+_.,'/:ADBCadbce"))) (sNil))
  (sSeq (sSet 3 (e2 dIxZ (eV 2) (eCall m_d_law_draw (aCons (eV 0) (aCons (eFn dLen (aCons (eV 2) (aNil))) (aNil))))))
  (sSeq (sSet 4 (eCall m_d_law_often_end (aCons (eV 0) (aCons (e2 dAdd (eFn dLen (aCons (eV 1) (aNil))) (eC (.int 1))) (aNil)))))
  (sSeq (sIf (tAnd (tV (e2 dEq (eCall m_d_law_draw (aCons (eV 0) (aCons (eC (.int 2)) (aNil)))) (eC (.int 0)))) (tV (e2 dLt (eV 4) (eFn dLen (aCons (eV 1) (aNil)))))) (sRet (e2 dAdd (e2 dAdd (eSl dSlZ (eV 1) (oNone) (oSome (eV 4))) (eV 3)) (eSl dSlZ (eV 1) (oSome (e2 dAdd (eV 4) (eC (.int 1)))) (oNone)))) (sNil))
  (sRet (e2 dAdd (e2 dAdd (eSl dSlZ (eV 1) (oNone) (oSome (eV 4))) (eV 3)) (eSl dSlZ (eV 1) (oSome (eV 4)) (oNone))))))))
noncomputable def m_d_law_set_in : List D → Store → R D := fnM 5 2 b_d_law_set_in
theorem ok_d_law_set_in (X : Fx K mg) : FnOk P w K mg base (L2.CX P w) 3 X.a_d_law_set_in X.d_d_law_set_in ["pool", "word"] (spM K mg 2 m_d_law_set_in) :=
  okM (k := 2) X.F_d_law_set_in sc_d_law_set_in rfl fun cdv A outer s H E hr tk =>
    (css_cons (cs_set (j := 2) sc_d_law_set_in.nd rfl (Or.inl rfl) (ce_call0 (ok_d_law_signs X) (hr.mono (by decide)) tk (by rfl) X.g_d_law_signs X.F_d_law_signs.kp (bd_d_law_signs X)))
    (css_cons (cs_if (ct_cmp (opA_eq hr.units) ops_eq (ce_call (n := 2) (ok_d_law_draw X) (hr.mono (by decide)) tk (by rfl) X.g_d_law_draw X.F_d_law_draw.kp (bd_d_law_draw X) (an_cons (an_cons an_nil)) (ca_cons (ce_v 0) (ca_cons (ce_int) (ca_nil)))) (ce_int) (nomark _)) (css_one (cs_set (j := 2) sc_d_law_set_in.nd rfl (Or.inl rfl) (ce_str))) (css_nil))
    (css_cons (cs_set (j := 3) sc_d_law_set_in.nd rfl (Or.inl rfl) (ce_ix (ix_Z hr.units) ops_ixZ (ce_v 2) (ce_call (n := 2) (ok_d_law_draw X) (hr.mono (by decide)) tk (by rfl) X.g_d_law_draw X.F_d_law_draw.kp (bd_d_law_draw X) (an_cons (an_cons an_nil)) (ca_cons (ce_v 0) (ca_cons (ce_callB call_len fns_len (by rfl) X.b_len (by decide +kernel) (ca_cons (ce_v 2) (ca_nil))) (ca_nil)))) (fun _ _ => rfl)))
    (css_cons (cs_set (j := 4) sc_d_law_set_in.nd rfl (Or.inl rfl) (ce_call (n := 2) (ok_d_law_often_end X) (hr.mono (by decide)) tk (by rfl) X.g_d_law_often_end X.F_d_law_often_end.kp (bd_d_law_often_end X) (an_cons (an_cons an_nil)) (ca_cons (ce_v 0) (ca_cons (ce_op op_addA ops_add (ce_callB call_len fns_len (by rfl) X.b_len (by decide +kernel) (ca_cons (ce_v 1) (ca_nil))) (ce_int)) (ca_nil)))))
    (css_cons (cs_if (PW.pt (cw_and (ct_cmp (opA_eq hr.units) ops_eq (ce_call (n := 2) (ok_d_law_draw X) (hr.mono (by decide)) tk (by rfl) X.g_d_law_draw X.F_d_law_draw.kp (bd_d_law_draw X) (an_cons (an_cons an_nil)) (ca_cons (ce_v 0) (ca_cons (ce_int) (ca_nil)))) (ce_int) (nomark _)) (cw_and1 (ct_cmp opA_lt ops_lt (ce_v 4) (ce_callB call_len fns_len (by rfl) X.b_len (by decide +kernel) (ca_cons (ce_v 1) (ca_nil))) (nomark _))))) (css_one (cs_ret (ce_op op_addA ops_add (ce_op op_addA ops_add (ce_sl sl_Z sls_Z (ce_v 1) (co_none) (co_some (ce_v 4))) (ce_v 3)) (ce_sl sl_Z sls_Z (ce_v 1) (co_some (ce_op op_addA ops_add (ce_v 4) (ce_int))) (co_none))))) (css_nil))
    (css_one (cs_ret (ce_op op_addA ops_add (ce_op op_addA ops_add (ce_sl sl_Z sls_Z (ce_v 1) (co_none) (co_some (ce_v 4))) (ce_v 3)) (ce_sl sl_Z sls_Z (ce_v 1) (co_some (ce_v 4)) (co_none))))))))) :
      PSs _ _ (Ts _ _ _ b_d_law_set_in))
noncomputable def b_d_law_beyond : MS := sSeq (sSet 1 (eCall m_d_law_often_end (aCons (eV 0) (aCons (e2 dIxZ (eLst (aCons (eC (.int 60)) (aCons (eC (.int 60)) (aCons (eC (.int 999990000)) (aNil))))) (eCall m_d_law_draw (aCons (eV 0) (aCons (eC (.int 3)) (aNil))))) (aNil)))))
  (sRet (e2 dIxZ (eLst (aCons (eLst (aCons (eFn dStr (aCons (e2 dAdd (eC (.int 10000)) (eV 1)) (aNil))) (aCons (eC (.str "AD")) (aNil)))) (aCons (eLst (aCons (eFn dStr (aCons (e2 dAdd (eC (.int 10001)) (eV 1)) (aNil))) (aCons (eC (.str "BC")) (aNil)))) (aNil)))) (eCall m_d_law_draw (aCons (eV 0) (aCons (eC (.int 2)) (aNil))))))
noncomputable def m_d_law_beyond : List D → Store → R D := fnM 2 1 b_d_law_beyond
theorem ok_d_law_beyond (X : Fx K mg) : FnOk P w K mg base (L2.CX P w) 3 X.a_d_law_beyond X.d_d_law_beyond ["pool"] (spM K mg 1 m_d_law_beyond) :=
  okM (k := 2) X.F_d_law_beyond sc_d_law_beyond rfl fun cdv A outer s H E hr tk =>
    (css_cons (cs_set (j := 1) sc_d_law_beyond.nd rfl (Or.inl rfl) (ce_call (n := 2) (ok_d_law_often_end X) (hr.mono (by decide)) tk (by rfl) X.g_d_law_often_end X.F_d_law_often_end.kp (bd_d_law_often_end X) (an_cons (an_cons an_nil)) (ca_cons (ce_v 0) (ca_cons (ce_ix (ix_Z hr.units) ops_ixZ (ce_lst (ca_cons (ce_int) (ca_cons (ce_int) (ca_cons (ce_int) (ca_nil))))) (ce_call (n := 2) (ok_d_law_draw X) (hr.mono (by decide)) tk (by rfl) X.g_d_law_draw X.F_d_law_draw.kp (bd_d_law_draw X) (an_cons (an_cons an_nil)) (ca_cons (ce_v 0) (ca_cons (ce_int) (ca_nil)))) (fun _ _ => rfl)) (ca_nil)))))
    (css_one (cs_ret (ce_ix (ix_Z hr.units) ops_ixZ (ce_lst (ca_cons (ce_lst (ca_cons (ce_callTy call_strA fns_str (by rfl) X.b_str (by decide +kernel) (ca_cons (ce_op op_addA ops_add (ce_int) (ce_v 1)) (ca_nil))) (ca_cons (ce_str) (ca_nil)))) (ca_cons (ce_lst (ca_cons (ce_callTy call_strA fns_str (by rfl) X.b_str (by decide +kernel) (ca_cons (ce_op op_addA ops_add (ce_int) (ce_v 1)) (ca_nil))) (ca_cons (ce_str) (ca_nil)))) (ca_nil)))) (ce_call (n := 2) (ok_d_law_draw X) (hr.mono (by decide)) tk (by rfl) X.g_d_law_draw X.F_d_law_draw.kp (bd_d_law_draw X) (an_cons (an_cons an_nil)) (ca_cons (ce_v 0) (ca_cons (ce_int) (ca_nil)))) (fun _ _ => rfl)))) :
      PSs _ _ (Ts _ _ _ b_d_law_beyond))
noncomputable def b_d_law_ask : MS := sSeq (sTryAs 2 ["BadText"] (sSet 1 (eCall m_read_year (aCons (eV 0) (aNil)))) (fun g => sSeq (sIf (tOr (tNot (tTru (eIsE g 2 "BadText" true))) (tTru (eIsE g 2 "BadText" false))) (sRet (eLst (aCons (eC (.int 2)) (aNil)))) (sNil))
  (sRet (eLst (aCons (eC (.int 1)) (aCons (eFld g 2 "word") (aCons (eFld g 2 "line") (aNil))))))))
  (sRet (eLst (aCons (eC (.int 0)) (aCons (eV 1) (aNil)))))
noncomputable def m_d_law_ask : List D → Store → R D := fnM 3 1 b_d_law_ask
theorem ok_d_law_ask (X : Fx K mg) : FnOk P w K mg base (L2.CX P w) 4 X.a_d_law_ask X.d_d_law_ask ["text"] (spM K mg 1 m_d_law_ask) :=
  okM (k := 3) X.F_d_law_ask sc_d_law_ask rfl fun cdv A outer s H E hr tk =>
    (css_cons (cs_tryAsR (i := 2) (cs := ["BadText"]) rfl rfl sc_d_law_ask.nd rfl rfl ⟨by rfl, by decide, .inl X.gc_BadText⟩  (hcs1 X.gc_BadText X.te_BadText) (fun W pn xe tk => css_one (cs_set (j := 1) sc_d_law_ask.nd rfl (Or.inl rfl) (ce_call (n := 1) (ok_read_year X) (hr.mono (by decide)) tk (by rfl) X.g_read_year X.F_read_year.kp (bd_read_year X) (an_cons an_nil) (ca_cons (ce_v 0) (ca_nil))))) (fun a oe cls d pn g k hz hf h1 h2 h3 h4 => css_cons (cs_if (PW.pt (cw_or (ct_not (ct_tru (ce_isE1 (hcl1 X.gc_BadText h3 h4) X.EC_BadText hz hf h1 h2 (by rfl) X.b_isinstance (by rfl) X.gc_TextError X.ki_0 (pv 2)))) (cw_or1 (ct_tru (ce_isEm (Cs := [X.c_DataError, X.c_CallError, X.c_DeskError]) (hcl1 X.gc_BadText h3 h4) X.EC_BadText hz hf h1 h2 (by rfl) X.b_isinstance (pa_cons (pe_glob (v := .ref X.c_DataError) (by rfl) X.gc_DataError rfl) (pa_cons (pe_glob (v := .ref X.c_CallError) (by rfl) X.gc_CallError rfl) (pa_cons (pe_glob (v := .ref X.c_DeskError) (by rfl) X.gc_DeskError rfl) (pa_nil)))) (by simp) X.ki_1 (pv 2)))))) (css_one (cs_ret (ce_lst (ca_cons (ce_int) (ca_nil))))) (css_nil))
    (css_one (cs_ret (ce_lst (ca_cons (ce_int) (ca_cons (ce_fld (hxf1 X.gc_BadText X.xf_BadText X.no_BadText_word h3 h4) hz hf h1 h2 (pv 2)) (ca_cons (ce_fld (hxf1 X.gc_BadText X.xf_BadText X.no_BadText_line h3 h4) hz hf h1 h2 (pv 2)) (ca_nil)))))))))
    (css_one (cs_ret (ce_lst (ca_cons (ce_int) (ca_cons (ce_v 1) (ca_nil)))))) :
      PSs _ _ (Ts _ _ _ b_d_law_ask))
noncomputable def lt_d_law_wrong_number_1 : ME Bool := tV (e2 dNotIn (eV 4) (eC (.str "0123456789")))
noncomputable def le_d_law_wrong_number_2 : ME D := eV 4
noncomputable def b_d_law_wrong_number : MS := sSeq (sSet 2 (eLst (aCons (eC (.str "0")) (aCons (e2 dAdd (eC (.str "-")) (eV 1)) (aCons (e2 dAdd (eC (.str "0")) (eV 1)) (aCons (e2 dAdd (eC (.str "+")) (eV 1)) (aCons (eC (.str "-0")) (aCons (eC (.str "00")) (aCons (eC (.str "1234567890")) (aCons (e2 dAdd (eC (.str "1")) (e2 dMulS (eC (.str "0")) (eC (.int 9)))) (aCons (eC (.str "1_0")) (aCons (eC (.str "1.0")) (aNil)))))))))))))
  (sSeq (sSet 2 (e2 dAdd (eV 2) (eLst (aCons (eC (.str "one")) (aCons (eC (.str "AD")) (aNil))))))
  (sSeq (sIf (tV (e2 dEq (eCall m_d_law_draw (aCons (eV 0) (aCons (eC (.int 2)) (aNil)))) (eC (.int 0)))) (sSeq (sSet 3 (eCall m_d_law_set_in (aCons (eV 0) (aCons (eV 1) (aNil)))))
  (sSeq (sIf (tAnd (tV (e2 dGt (eFn dLen (aCons (eV 3) (aNil))) (eC (.int 4)))) (tV (e2 dEq (eFn dLen (aCons (eLc (iSeq (eV 3)) [4] (gN 4) (lt_d_law_wrong_number_1) (le_d_law_wrong_number_2)) (aNil))) (eC (.int 0))))) (sSet 3 (e2 dAdd (eC (.str "+")) (eV 3))) (sNil))
  (sRet (eV 3)))) (sNil))
  (sRet (e2 dIxZ (eV 2) (eCall m_d_law_draw (aCons (eV 0) (aCons (eFn dLen (aCons (eV 2) (aNil))) (aNil))))))))
noncomputable def m_d_law_wrong_number : List D → Store → R D := fnM 5 2 b_d_law_wrong_number
theorem ok_d_law_wrong_number (X : Fx K mg) : FnOk P w K mg base (L2.CX P w) 4 X.a_d_law_wrong_number X.d_d_law_wrong_number ["pool", "number"] (spM K mg 2 m_d_law_wrong_number) :=
  okM (k := 3) X.F_d_law_wrong_number sc_d_law_wrong_number rfl fun cdv A outer s H E hr tk =>
    (css_cons (cs_set (j := 2) sc_d_law_wrong_number.nd rfl (Or.inl rfl) (ce_lst (ca_cons (ce_str) (ca_cons (ce_op op_addA ops_add (ce_str) (ce_v 1)) (ca_cons (ce_op op_addA ops_add (ce_str) (ce_v 1)) (ca_cons (ce_op op_addA ops_add (ce_str) (ce_v 1)) (ca_cons (ce_str) (ca_cons (ce_str) (ca_cons (ce_str) (ca_cons (ce_op op_addA ops_add (ce_str) (ce_op op_mulS ops_mulS (ce_str) (ce_int))) (ca_cons (ce_str) (ca_cons (ce_str) (ca_nil)))))))))))))
    (css_cons (cs_set (j := 2) sc_d_law_wrong_number.nd rfl (Or.inl rfl) (ce_op op_addA ops_add (ce_v 2) (ce_lst (ca_cons (ce_str) (ca_cons (ce_str) (ca_nil))))))
    (css_cons (cs_if (ct_cmp (opA_eq hr.units) ops_eq (ce_call (n := 2) (ok_d_law_draw X) (hr.mono (by decide)) tk (by rfl) X.g_d_law_draw X.F_d_law_draw.kp (bd_d_law_draw X) (an_cons (an_cons an_nil)) (ca_cons (ce_v 0) (ca_cons (ce_int) (ca_nil)))) (ce_int) (nomark _)) (css_cons (cs_set (j := 3) sc_d_law_wrong_number.nd rfl (Or.inl rfl) (ce_call (n := 2) (ok_d_law_set_in X) (hr.mono (by decide)) tk (by rfl) X.g_d_law_set_in X.F_d_law_set_in.kp (bd_d_law_set_in X) (an_cons (an_cons an_nil)) (ca_cons (ce_v 0) (ca_cons (ce_v 1) (ca_nil)))))
    (css_cons (cs_if (PW.pt (cw_and (ct_cmp opA_gt ops_gt (ce_callB call_len fns_len (by rfl) X.b_len (by decide +kernel) (ca_cons (ce_v 3) (ca_nil))) (ce_int) (nomark _)) (cw_and1 (ct_cmp (opA_eq hr.units) ops_eq (ce_callB call_len fns_len (by rfl) X.b_len (by decide +kernel) (ca_cons (ce_lc (own := [("sign", 4)]) rfl sc_d_law_wrong_number.nd (ci_seq (ce_v 3)) (blkOk_by (N := ["pool", "number", "wrong", "word", "sign"]) (sc := defScope s_d_law_wrong_number) (by decide +kernel)) (fun _ _ _ _ _ => cg_name (i := 4) sc_d_law_wrong_number.nd rfl (by first | exact Or.inl rfl | exact Or.inr rfl)) (fun _ _ _ _ _ => cts_one (ct_cmp (opA_notin (un65 hr)) ops_notin (ce_v 4) (ce_str) (by with_unfolding_all rfl))) (fun _ _ _ _ _ => ce_v 4)) (ca_nil))) (ce_int) (nomark _))))) (css_one (cs_set (j := 3) sc_d_law_wrong_number.nd rfl (Or.inl rfl) (ce_op op_addA ops_add (ce_str) (ce_v 3)))) (css_nil))
    (css_one (cs_ret (ce_v 3))))) (css_nil))
    (css_one (cs_ret (ce_ix (ix_Z hr.units) ops_ixZ (ce_v 2) (ce_call (n := 2) (ok_d_law_draw X) (hr.mono (by decide)) tk (by rfl) X.g_d_law_draw X.F_d_law_draw.kp (bd_d_law_draw X) (an_cons (an_cons an_nil)) (ca_cons (ce_v 0) (ca_cons (ce_callB call_len fns_len (by rfl) X.b_len (by decide +kernel) (ca_cons (ce_v 2) (ca_nil))) (ca_nil)))) (fun _ _ => rfl)))))) :
      PSs _ _ (Ts _ _ _ b_d_law_wrong_number))
noncomputable def b_d_law_wrong_sign : MS := sSeq (sSet 2 (eLst (aCons (eC (.str "ad")) (aCons (eC (.str "bc")) (aCons (eC (.str "A")) (aCons (eC (.str "Bc")) (aCons (eC (.str "aD")) (aCons (eC (.str "AD.")) (aCons (eC (.str "BCE")) (aCons (eC (.str "CE")) (aCons (eC (.str "A.D.")) (aCons (eC (.str "DA")) (aCons (eC (.str "BD")) (aCons (eC (.str "AC")) (aCons (eC (.str "12")) (aCons (eC (.str "0")) (aCons (eC (.str "ADBC")) (aCons (eC (.str "to")) (aCons (eC (.str "or")) (aNil))))))))))))))))))))
  (sSeq (sIf (tV (e2 dEq (eCall m_d_law_draw (aCons (eV 0) (aCons (eC (.int 2)) (aNil)))) (eC (.int 0)))) (sRet (eCall m_d_law_set_in (aCons (eV 0) (aCons (eV 1) (aNil))))) (sNil))
  (sRet (e2 dIxZ (eV 2) (eCall m_d_law_draw (aCons (eV 0) (aCons (eFn dLen (aCons (eV 2) (aNil))) (aNil)))))))
noncomputable def m_d_law_wrong_sign : List D → Store → R D := fnM 3 2 b_d_law_wrong_sign
theorem ok_d_law_wrong_sign (X : Fx K mg) : FnOk P w K mg base (L2.CX P w) 4 X.a_d_law_wrong_sign X.d_d_law_wrong_sign ["pool", "sign"] (spM K mg 2 m_d_law_wrong_sign) :=
  okM (k := 3) X.F_d_law_wrong_sign sc_d_law_wrong_sign rfl fun cdv A outer s H E hr tk =>
    (css_cons (cs_set (j := 2) sc_d_law_wrong_sign.nd rfl (Or.inl rfl) (ce_lst (ca_cons (ce_str) (ca_cons (ce_str) (ca_cons (ce_str) (ca_cons (ce_str) (ca_cons (ce_str) (ca_cons (ce_str) (ca_cons (ce_str) (ca_cons (ce_str) (ca_cons (ce_str) (ca_cons (ce_str) (ca_cons (ce_str) (ca_cons (ce_str) (ca_cons (ce_str) (ca_cons (ce_str) (ca_cons (ce_str) (ca_cons (ce_str) (ca_cons (ce_str) (ca_nil))))))))))))))))))))
    (css_cons (cs_if (ct_cmp (opA_eq hr.units) ops_eq (ce_call (n := 2) (ok_d_law_draw X) (hr.mono (by decide)) tk (by rfl) X.g_d_law_draw X.F_d_law_draw.kp (bd_d_law_draw X) (an_cons (an_cons an_nil)) (ca_cons (ce_v 0) (ca_cons (ce_int) (ca_nil)))) (ce_int) (nomark _)) (css_one (cs_ret (ce_call (n := 2) (ok_d_law_set_in X) (hr.mono (by decide)) tk (by rfl) X.g_d_law_set_in X.F_d_law_set_in.kp (bd_d_law_set_in X) (an_cons (an_cons an_nil)) (ca_cons (ce_v 0) (ca_cons (ce_v 1) (ca_nil)))))) (css_nil))
    (css_one (cs_ret (ce_ix (ix_Z hr.units) ops_ixZ (ce_v 2) (ce_call (n := 2) (ok_d_law_draw X) (hr.mono (by decide)) tk (by rfl) X.g_d_law_draw X.F_d_law_draw.kp (bd_d_law_draw X) (an_cons (an_cons an_nil)) (ca_cons (ce_v 0) (ca_cons (ce_callB call_len fns_len (by rfl) X.b_len (by decide +kernel) (ca_cons (ce_v 2) (ca_nil))) (ca_nil)))) (fun _ _ => rfl))))) :
      PSs _ _ (Ts _ _ _ b_d_law_wrong_sign))
noncomputable def b_d_law_right : MS := sSeq (sSet 1 (eCall m_d_law_ask (aCons (eV 0) (aNil))))
  (sSeq (sSet 2 (eCall m_d_law_due (aCons (eV 0) (aNil))))
  (sSeq (sIf (tV (e2 dNe (e2 dIxZ (eV 1) (eC (.int 0))) (e2 dIxZ (eV 2) (eC (.int 0))))) (sRet (eC (.bl false))) (sNil))
  (sSeq (sIf (tV (e2 dEq (e2 dIxZ (eV 2) (eC (.int 0))) (eC (.int 0)))) (sRet (eAnd (eCall m_d_law_is_integer (aCons (e2 dIxZ (eV 1) (eC (.int 1))) (aNil))) (e2 dEq (e2 dIxZ (eV 1) (eC (.int 1))) (e2 dIxZ (eV 2) (eC (.int 1)))))) (sNil))
  (sRet (eAnd (e1 (dIsi "str") (e2 dIxZ (eV 1) (eC (.int 1)))) (eAnd (e2 dEq (e2 dIxZ (eV 1) (eC (.int 1))) (e2 dIxZ (eV 2) (eC (.int 1)))) (eAnd (eCall m_d_law_is_integer (aCons (e2 dIxZ (eV 1) (eC (.int 2))) (aNil))) (e2 dEq (e2 dIxZ (eV 1) (eC (.int 2))) (eC (.int 1))))))))))
noncomputable def m_d_law_right : List D → Store → R D := fnM 3 1 b_d_law_right
theorem ok_d_law_right (X : Fx K mg) : FnOk P w K mg base (L2.CX P w) 5 X.a_d_law_right X.d_d_law_right ["text"] (spM K mg 1 m_d_law_right) :=
  okM (k := 4) X.F_d_law_right sc_d_law_right rfl fun cdv A outer s H E hr tk =>
    (css_cons (cs_set (j := 1) sc_d_law_right.nd rfl (Or.inl rfl) (ce_call (n := 1) (ok_d_law_ask X) (hr.mono (by decide)) tk (by rfl) X.g_d_law_ask X.F_d_law_ask.kp (bd_d_law_ask X) (an_cons an_nil) (ca_cons (ce_v 0) (ca_nil))))
    (css_cons (cs_set (j := 2) sc_d_law_right.nd rfl (Or.inl rfl) (ce_call (n := 1) (ok_d_law_due X) (hr.mono (by decide)) tk (by rfl) X.g_d_law_due X.F_d_law_due.kp (bd_d_law_due X) (an_cons an_nil) (ca_cons (ce_v 0) (ca_nil))))
    (css_cons (cs_if (ct_cmp (opA_ne hr.units) ops_ne (ce_ix (ix_Z hr.units) ops_ixZ (ce_v 1) (ce_int) (fun _ _ => rfl)) (ce_ix (ix_Z hr.units) ops_ixZ (ce_v 2) (ce_int) (fun _ _ => rfl)) (nomark _)) (css_one (cs_ret (ce_bl))) (css_nil))
    (css_cons (cs_if (ct_cmp (opA_eq hr.units) ops_eq (ce_ix (ix_Z hr.units) ops_ixZ (ce_v 2) (ce_int) (fun _ _ => rfl)) (ce_int) (nomark _)) (css_one (cs_ret (ce_and (ce_call (n := 1) (ok_d_law_is_integer X) (hr.mono (by decide)) tk (by rfl) X.g_d_law_is_integer X.F_d_law_is_integer.kp (bd_d_law_is_integer X) (an_cons an_nil) (ca_cons (ce_ix (ix_Z hr.units) ops_ixZ (ce_v 1) (ce_int) (fun _ _ => rfl)) (ca_nil))) (ce_one (ce_cmp (opA_eq hr.units) ops_eq (ce_ix (ix_Z hr.units) ops_ixZ (ce_v 1) (ce_int) (fun _ _ => rfl)) (ce_ix (ix_Z hr.units) ops_ixZ (ce_v 2) (ce_int) (fun _ _ => rfl)) (nomark _)))))) (css_nil))
    (css_one (cs_ret (ce_and (ce_isi (T := "str") (by rfl) X.b_isinstance (by rfl) X.b_str (by decide +kernel) (ce_ix (ix_Z hr.units) ops_ixZ (ce_v 1) (ce_int) (fun _ _ => rfl))) (ce_and (ce_cmp (opA_eq hr.units) ops_eq (ce_ix (ix_Z hr.units) ops_ixZ (ce_v 1) (ce_int) (fun _ _ => rfl)) (ce_ix (ix_Z hr.units) ops_ixZ (ce_v 2) (ce_int) (fun _ _ => rfl)) (nomark _)) (ce_and (ce_call (n := 1) (ok_d_law_is_integer X) (hr.mono (by decide)) tk (by rfl) X.g_d_law_is_integer X.F_d_law_is_integer.kp (bd_d_law_is_integer X) (an_cons an_nil) (ca_cons (ce_ix (ix_Z hr.units) ops_ixZ (ce_v 1) (ce_int) (fun _ _ => rfl)) (ca_nil))) (ce_one (ce_cmp (opA_eq hr.units) ops_eq (ce_ix (ix_Z hr.units) ops_ixZ (ce_v 1) (ce_int) (fun _ _ => rfl)) (ce_int) (nomark _))))))))))) :
      PSs _ _ (Ts _ _ _ b_d_law_right))
noncomputable def le_d_law_wrong_lines_1 : ME D := e2 dAdd (eV 9) (e2 dMulS (eC (.str " ")) (eFn dIntZ (aCons (e2 dEq (eV 9) (eC (.str ""))) (aNil))))
noncomputable def le_d_law_wrong_lines_2 : ME D := eCall m_d_law_line (aCons (eV 0) (aCons (eV 8) (aNil)))
noncomputable def b_d_law_wrong_lines : MS := sSeq (sSet 2 (e2 dIxZ (eV 1) (eC (.int 0))))
  (sSeq (sSet 3 (e2 dIxZ (eV 1) (eC (.int 1))))
  (sSeq (sSet 4 (eCall m_d_law_beyond (aCons (eV 0) (aNil))))
  (sSeq (sSet 5 (eLst (aCons (eV 4) (aCons (eLst (aCons (e2 dIxZ (eV 4) (eC (.int 0))) (aCons (eCall m_d_law_wrong_sign (aCons (eV 0) (aCons (eV 3) (aNil)))) (aNil)))) (aCons (eLst (aCons (eCall m_d_law_wrong_number (aCons (eV 0) (aCons (eV 2) (aNil)))) (aCons (eV 3) (aNil)))) (aNil))))))
  (sSeq (sExpr (eMt "list" dAppend (eV 5) (aCons (eLst (aCons (eV 2) (aCons (eCall m_d_law_wrong_sign (aCons (eV 0) (aCons (eV 3) (aNil)))) (aNil)))) (aNil))))
  (sSeq (sExpr (eMt "list" dAppend (eV 5) (aCons (eLst (aCons (eCall m_d_law_wrong_number (aCons (eV 0) (aCons (eV 2) (aNil)))) (aCons (eCall m_d_law_wrong_sign (aCons (eV 0) (aCons (eV 3) (aNil)))) (aNil)))) (aNil))))
  (sSeq (sSet 6 (eLst (aCons (eLst (aNil)) (aCons (eLst (aCons (eV 2) (aNil))) (aCons (eLst (aCons (eV 3) (aNil))) (aCons (eLst (aCons (e2 dAdd (eV 2) (eV 3)) (aNil))) (aCons (e2 dAdd (eV 1) (eV 1)) (aCons (eLst (aCons (eV 2) (aCons (eV 3) (aCons (eV 3) (aNil))))) (aCons (eLst (aCons (eV 2) (aCons (eV 2) (aCons (eV 3) (aNil))))) (aNil))))))))))
  (sSeq (sSet 6 (e2 dAdd (eV 6) (eLst (aCons (eLst (aCons (eC (.str "0")) (aNil))) (aCons (eLst (aCons (eV 3) (aCons (eV 2) (aCons (eC (.str "x")) (aNil))))) (aCons (eLst (aCons (eV 2) (aCons (eC (.str "AD")) (aCons (eC (.str "BC")) (aNil))))) (aCons (eLst (aCons (eC (.str "AD")) (aCons (eC (.str "BC")) (aCons (eC (.str "0")) (aNil))))) (aNil))))))))
  (sSeq (sExpr (eMt "list" dAppend (eV 6) (aCons (eLst (aCons (eCall m_d_law_wrong_number (aCons (eV 0) (aCons (eV 2) (aNil)))) (aNil))) (aNil))))
  (sSeq (sExpr (eMt "list" dAppend (eV 5) (aCons (e2 dIxZ (eV 6) (eCall m_d_law_draw (aCons (eV 0) (aCons (eFn dLen (aCons (eV 6) (aNil))) (aNil))))) (aNil))))
  (sSeq (sExpr (eMt "list" dAppend (eV 5) (aCons (e2 dIxZ (eLst (aCons (eLst (aCons (eC (.str "0")) (aCons (eC (.str "AD")) (aNil)))) (aCons (eLst (aCons (eC (.str "0")) (aCons (eC (.str "BC")) (aNil)))) (aCons (eLst (aCons (eV 3) (aCons (eV 2) (aNil)))) (aCons (eLst (aCons (eC (.str "10000")) (aCons (eC (.str "AD")) (aNil)))) (aCons (eLst (aCons (eC (.str "10001")) (aCons (eC (.str "BC")) (aNil)))) (aNil))))))) (eCall m_d_law_draw (aCons (eV 0) (aCons (eC (.int 5)) (aNil))))) (aNil))))
  (sSeq (sSet 7 (eLc (iSeq (eV 5)) [8] (gN 8) (tT) (le_d_law_wrong_lines_2)))
  (sRet (eLc (iSeq (eV 7)) [9] (gN 9) (tT) (le_d_law_wrong_lines_1))))))))))))))
noncomputable def m_d_law_wrong_lines : List D → Store → R D := fnM 10 2 b_d_law_wrong_lines
theorem ok_d_law_wrong_lines (X : Fx K mg) : FnOk P w K mg base (L2.CX P w) 5 X.a_d_law_wrong_lines X.d_d_law_wrong_lines ["pool", "words"] (spM K mg 2 m_d_law_wrong_lines) :=
  okM (k := 4) X.F_d_law_wrong_lines sc_d_law_wrong_lines rfl fun cdv A outer s H E hr tk =>
    (css_cons (cs_set (j := 2) sc_d_law_wrong_lines.nd rfl (Or.inl rfl) (ce_ix (ix_Z hr.units) ops_ixZ (ce_v 1) (ce_int) (fun _ _ => rfl)))
    (css_cons (cs_set (j := 3) sc_d_law_wrong_lines.nd rfl (Or.inl rfl) (ce_ix (ix_Z hr.units) ops_ixZ (ce_v 1) (ce_int) (fun _ _ => rfl)))
    (css_cons (cs_set (j := 4) sc_d_law_wrong_lines.nd rfl (Or.inl rfl) (ce_call (n := 1) (ok_d_law_beyond X) (hr.mono (by decide)) tk (by rfl) X.g_d_law_beyond X.F_d_law_beyond.kp (bd_d_law_beyond X) (an_cons an_nil) (ca_cons (ce_v 0) (ca_nil))))
    (css_cons (cs_set (j := 5) sc_d_law_wrong_lines.nd rfl (Or.inl rfl) (ce_lst (ca_cons (ce_v 4) (ca_cons (ce_lst (ca_cons (ce_ix (ix_Z hr.units) ops_ixZ (ce_v 4) (ce_int) (fun _ _ => rfl)) (ca_cons (ce_call (n := 2) (ok_d_law_wrong_sign X) (hr.mono (by decide)) tk (by rfl) X.g_d_law_wrong_sign X.F_d_law_wrong_sign.kp (bd_d_law_wrong_sign X) (an_cons (an_cons an_nil)) (ca_cons (ce_v 0) (ca_cons (ce_v 3) (ca_nil)))) (ca_nil)))) (ca_cons (ce_lst (ca_cons (ce_call (n := 2) (ok_d_law_wrong_number X) (hr.mono (by decide)) tk (by rfl) X.g_d_law_wrong_number X.F_d_law_wrong_number.kp (bd_d_law_wrong_number X) (an_cons (an_cons an_nil)) (ca_cons (ce_v 0) (ca_cons (ce_v 2) (ca_nil)))) (ca_cons (ce_v 3) (ca_nil)))) (ca_nil))))))
    (css_cons (cs_expr (ce_bm PySem.F.plainAttrs_list PySem.F.slot_list_append PySem.F.type_list_append mt_append mts_append (ce_v 5) (ca_cons (ce_lst (ca_cons (ce_v 2) (ca_cons (ce_call (n := 2) (ok_d_law_wrong_sign X) (hr.mono (by decide)) tk (by rfl) X.g_d_law_wrong_sign X.F_d_law_wrong_sign.kp (bd_d_law_wrong_sign X) (an_cons (an_cons an_nil)) (ca_cons (ce_v 0) (ca_cons (ce_v 3) (ca_nil)))) (ca_nil)))) (ca_nil))))
    (css_cons (cs_expr (ce_bm PySem.F.plainAttrs_list PySem.F.slot_list_append PySem.F.type_list_append mt_append mts_append (ce_v 5) (ca_cons (ce_lst (ca_cons (ce_call (n := 2) (ok_d_law_wrong_number X) (hr.mono (by decide)) tk (by rfl) X.g_d_law_wrong_number X.F_d_law_wrong_number.kp (bd_d_law_wrong_number X) (an_cons (an_cons an_nil)) (ca_cons (ce_v 0) (ca_cons (ce_v 2) (ca_nil)))) (ca_cons (ce_call (n := 2) (ok_d_law_wrong_sign X) (hr.mono (by decide)) tk (by rfl) X.g_d_law_wrong_sign X.F_d_law_wrong_sign.kp (bd_d_law_wrong_sign X) (an_cons (an_cons an_nil)) (ca_cons (ce_v 0) (ca_cons (ce_v 3) (ca_nil)))) (ca_nil)))) (ca_nil))))
    (css_cons (cs_set (j := 6) sc_d_law_wrong_lines.nd rfl (Or.inl rfl) (ce_lst (ca_cons (ce_lst (ca_nil)) (ca_cons (ce_lst (ca_cons (ce_v 2) (ca_nil))) (ca_cons (ce_lst (ca_cons (ce_v 3) (ca_nil))) (ca_cons (ce_lst (ca_cons (ce_op op_addA ops_add (ce_v 2) (ce_v 3)) (ca_nil))) (ca_cons (ce_op op_addA ops_add (ce_v 1) (ce_v 1)) (ca_cons (ce_lst (ca_cons (ce_v 2) (ca_cons (ce_v 3) (ca_cons (ce_v 3) (ca_nil))))) (ca_cons (ce_lst (ca_cons (ce_v 2) (ca_cons (ce_v 2) (ca_cons (ce_v 3) (ca_nil))))) (ca_nil))))))))))
    (css_cons (cs_set (j := 6) sc_d_law_wrong_lines.nd rfl (Or.inl rfl) (ce_op op_addA ops_add (ce_v 6) (ce_lst (ca_cons (ce_lst (ca_cons (ce_str) (ca_nil))) (ca_cons (ce_lst (ca_cons (ce_v 3) (ca_cons (ce_v 2) (ca_cons (ce_str) (ca_nil))))) (ca_cons (ce_lst (ca_cons (ce_v 2) (ca_cons (ce_str) (ca_cons (ce_str) (ca_nil))))) (ca_cons (ce_lst (ca_cons (ce_str) (ca_cons (ce_str) (ca_cons (ce_str) (ca_nil))))) (ca_nil))))))))
    (css_cons (cs_expr (ce_bm PySem.F.plainAttrs_list PySem.F.slot_list_append PySem.F.type_list_append mt_append mts_append (ce_v 6) (ca_cons (ce_lst (ca_cons (ce_call (n := 2) (ok_d_law_wrong_number X) (hr.mono (by decide)) tk (by rfl) X.g_d_law_wrong_number X.F_d_law_wrong_number.kp (bd_d_law_wrong_number X) (an_cons (an_cons an_nil)) (ca_cons (ce_v 0) (ca_cons (ce_v 2) (ca_nil)))) (ca_nil))) (ca_nil))))
    (css_cons (cs_expr (ce_bm PySem.F.plainAttrs_list PySem.F.slot_list_append PySem.F.type_list_append mt_append mts_append (ce_v 5) (ca_cons (ce_ix (ix_Z hr.units) ops_ixZ (ce_v 6) (ce_call (n := 2) (ok_d_law_draw X) (hr.mono (by decide)) tk (by rfl) X.g_d_law_draw X.F_d_law_draw.kp (bd_d_law_draw X) (an_cons (an_cons an_nil)) (ca_cons (ce_v 0) (ca_cons (ce_callB call_len fns_len (by rfl) X.b_len (by decide +kernel) (ca_cons (ce_v 6) (ca_nil))) (ca_nil)))) (fun _ _ => rfl)) (ca_nil))))
    (css_cons (cs_expr (ce_bm PySem.F.plainAttrs_list PySem.F.slot_list_append PySem.F.type_list_append mt_append mts_append (ce_v 5) (ca_cons (ce_ix (ix_Z hr.units) ops_ixZ (ce_lst (ca_cons (ce_lst (ca_cons (ce_str) (ca_cons (ce_str) (ca_nil)))) (ca_cons (ce_lst (ca_cons (ce_str) (ca_cons (ce_str) (ca_nil)))) (ca_cons (ce_lst (ca_cons (ce_v 3) (ca_cons (ce_v 2) (ca_nil)))) (ca_cons (ce_lst (ca_cons (ce_str) (ca_cons (ce_str) (ca_nil)))) (ca_cons (ce_lst (ca_cons (ce_str) (ca_cons (ce_str) (ca_nil)))) (ca_nil))))))) (ce_call (n := 2) (ok_d_law_draw X) (hr.mono (by decide)) tk (by rfl) X.g_d_law_draw X.F_d_law_draw.kp (bd_d_law_draw X) (an_cons (an_cons an_nil)) (ca_cons (ce_v 0) (ca_cons (ce_int) (ca_nil)))) (fun _ _ => rfl)) (ca_nil))))
    (css_cons (cs_setLc (i := 7) (own := [("row", 8)]) rfl sc_d_law_wrong_lines.nd rfl rfl (sw_true rfl rfl rfl (by decide +kernel)) (ci_seq (ce_v 5)) (blkOk_by (N := ["pool", "words", "number", "sign", "beyond", "wrong", "several", "lines", "row", "line"]) (sc := defScope s_d_law_wrong_lines) (by decide +kernel)) (fun _ _ _ _ _ => cg_name (i := 8) sc_d_law_wrong_lines.nd rfl (by first | exact Or.inl rfl | exact Or.inr rfl)) (fun _ _ _ _ _ => cts_nil) (fun _ _ _ _ _ => ce_call (n := 2) (ok_d_law_line X) (hr.mono (by decide)) takes0 (by rfl) X.g_d_law_line X.F_d_law_line.kp (bd_d_law_line X) (an_cons (an_cons an_nil)) (ca_cons (ce_v 0) (ca_cons (ce_v 8) (ca_nil)))))
    (css_one (cs_ret (ce_lc (own := [("line", 9)]) rfl sc_d_law_wrong_lines.nd (ci_seq (ce_v 7)) (blkOk_by (N := ["pool", "words", "number", "sign", "beyond", "wrong", "several", "lines", "row", "line"]) (sc := defScope s_d_law_wrong_lines) (by decide +kernel)) (fun _ _ _ _ _ => cg_name (i := 9) sc_d_law_wrong_lines.nd rfl (by first | exact Or.inl rfl | exact Or.inr rfl)) (fun _ _ _ _ _ => cts_nil) (fun _ _ _ _ _ => ce_op op_addA ops_add (ce_v 9) (ce_op op_mulS ops_mulS (ce_str) (ce_callTy call_intZ fns_intZ (by rfl) X.b_int (by decide +kernel) (ca_cons (ce_cmp (opA_eq hr.units) ops_eq (ce_v 9) (ce_str) (nomark _)) (ca_nil))))))))))))))))))) :
      PSs _ _ (Ts _ _ _ b_d_law_wrong_lines))
noncomputable def bl_law_1 : MS := sSeq (sIf (tNot (tTru (eCall m_d_law_right (aCons (eV 8) (aNil))))) (sRet (eC (.bl false))) (sNil))
  (sSet 3 (e2 dAdd (eV 3) (e2 dIxZ (eCall m_d_law_due (aCons (eV 8) (aNil))) (eC (.int 0)))))
noncomputable def bl_law_2 : MS := sIf (tOr (tV (e2 dNe (e2 dIxZ (eCall m_d_law_due (aCons (eV 8) (aNil))) (eC (.int 0))) (eC (.int 0)))) (tOr (tV (e2 dNe (e2 dIxZ (eCall m_d_law_due (aCons (eV 8) (aNil))) (eC (.int 1))) (eV 5))) (tNot (tTru (eCall m_d_law_right (aCons (eV 8) (aNil))))))) (sRet (eC (.bl false))) (sNil)
noncomputable def bl_law_3 : MS := sSeq (sSet 5 (eCall m_d_law_year (aCons (eV 1) (aNil))))
  (sSeq (sSet 6 (eCall m_d_law_words_of (aCons (eV 5) (aNil))))
  (sSeq (sSet 7 (eCall m_year_text (aCons (eV 5) (aNil))))
  (sSeq (sIf (tOr (tNot (tTru (e1 (dIsi "str") (eV 7)))) (tV (e2 dNe (eV 7) (e2 dAdd (e2 dAdd (e2 dIxZ (eV 6) (eC (.int 0))) (eC (.str " "))) (e2 dIxZ (eV 6) (eC (.int 1))))))) (sRet (eC (.bl false))) (sNil))
  (sSeq (sFor (iSeq (eLst (aCons (e2 dAdd (e2 dAdd (e2 dIxZ (eV 6) (eC (.int 0))) (eC (.str " "))) (e2 dIxZ (eV 6) (eC (.int 1)))) (aCons (eCall m_d_law_line (aCons (eV 1) (aCons (eV 6) (aNil)))) (aNil))))) (gN 8) (bl_law_2))
  (sFor (iSeq (eCall m_d_law_wrong_lines (aCons (eV 1) (aCons (eV 6) (aNil))))) (gN 8) (bl_law_1))))))
noncomputable def b_law : MS := sSeq (sSet 1 (eCall m_d_law_pool (aCons (eV 0) (aNil))))
  (sSeq (sSet 2 (eCall m_d_law_line (aCons (eV 1) (aCons (eCall m_d_law_words_of (aCons (eCall m_d_law_year (aCons (eV 1) (aNil))) (aNil))) (aNil)))))
  (sSeq (sSet 3 (eC (.int 0)))
  (sSeq (sFor (iRange1 (aCons (eC (.int 4)) (aNil))) (gN 4) (bl_law_3))
  (sSeq (sIf (tOr (tV (e2 dLt (eV 3) (eC (.int 12)))) (tNot (tTru (eCall m_d_law_right (aCons (eV 2) (aNil)))))) (sRet (eC (.bl false))) (sNil))
  (sSeq (sIf (tV (e2 dEq (eCall m_d_law_draw (aCons (eV 1) (aCons (eC (.int 11)) (aNil)))) (eC (.int 0)))) (sSeq (sSet 6 (eCall m_d_law_words_of (aCons (eCall m_d_law_year (aCons (eV 1) (aNil))) (aNil))))
  (sSeq (sSet 9 (e2 dMulS (eC (.str " ")) (e2 dAdd (eC (.int 100)) (eCall m_d_law_draw (aCons (eV 1) (aCons (eC (.int 2500)) (aNil)))))))
  (sIf (tOr (tNot (tTru (eCall m_d_law_right (aCons (e2 dAdd (e2 dAdd (e2 dAdd (e2 dAdd (eV 9) (e2 dIxZ (eV 6) (eC (.int 0)))) (eV 9)) (e2 dIxZ (eV 6) (eC (.int 1)))) (eV 9)) (aNil))))) (tNot (tTru (eCall m_d_law_right (aCons (e2 dAdd (e2 dAdd (eV 9) (e2 dIxZ (eV 6) (eC (.int 0)))) (eV 9)) (aNil)))))) (sRet (eC (.bl false))) (sNil)))) (sNil))
  (sRet (eAnd (eCall m_d_law_right (aCons (eC (.str "10000 BC")) (aNil))) (eAnd (eCall m_d_law_right (aCons (eC (.str "9999 AD")) (aNil))) (eAnd (eCall m_d_law_right (aCons (eC (.str "1 BC")) (aNil))) (eCall m_d_law_right (aCons (eV 2) (aNil))))))))))))
noncomputable def m_law : List D → Store → R D := fnM 10 1 b_law
theorem ok_law (X : Fx K mg) : FnOk P w K mg base (L2.CX P w) 6 X.a_law X.d_law ["script"] (spM K mg 1 m_law) :=
  okM (k := 5) X.F_law sc_law rfl fun cdv A outer s H E hr tk =>
    (css_cons (cs_set (j := 1) sc_law.nd rfl (Or.inl rfl) (ce_call (n := 1) (ok_d_law_pool X) (hr.mono (by decide)) tk (by rfl) X.g_d_law_pool X.F_d_law_pool.kp (bd_d_law_pool X) (an_cons an_nil) (ca_cons (ce_v 0) (ca_nil))))
    (css_cons (cs_set (j := 2) sc_law.nd rfl (Or.inl rfl) (ce_call (n := 2) (ok_d_law_line X) (hr.mono (by decide)) tk (by rfl) X.g_d_law_line X.F_d_law_line.kp (bd_d_law_line X) (an_cons (an_cons an_nil)) (ca_cons (ce_v 1) (ca_cons (ce_call (n := 1) (ok_d_law_words_of X) (hr.mono (by decide)) tk (by rfl) X.g_d_law_words_of X.F_d_law_words_of.kp (bd_d_law_words_of X) (an_cons an_nil) (ca_cons (ce_call (n := 1) (ok_d_law_year X) (hr.mono (by decide)) tk (by rfl) X.g_d_law_year X.F_d_law_year.kp (bd_d_law_year X) (an_cons an_nil) (ca_cons (ce_v 1) (ca_nil))) (ca_nil))) (ca_nil)))))
    (css_cons (cs_set (j := 3) sc_law.nd rfl (Or.inl rfl) (ce_int))
    (css_cons (cs_for (passes_of rfl) rfl (ci_range1 (by rfl) X.b_range (ca_cons (ce_int) (ca_nil))) (cg_name (i := 4) sc_law.nd rfl (by first | exact Or.inl rfl | exact Or.inr rfl)) (css_cons (cs_set (j := 5) sc_law.nd rfl (Or.inl rfl) (ce_call (n := 1) (ok_d_law_year X) (hr.mono (by decide)) tk (by rfl) X.g_d_law_year X.F_d_law_year.kp (bd_d_law_year X) (an_cons an_nil) (ca_cons (ce_v 1) (ca_nil))))
    (css_cons (cs_set (j := 6) sc_law.nd rfl (Or.inl rfl) (ce_call (n := 1) (ok_d_law_words_of X) (hr.mono (by decide)) tk (by rfl) X.g_d_law_words_of X.F_d_law_words_of.kp (bd_d_law_words_of X) (an_cons an_nil) (ca_cons (ce_v 5) (ca_nil))))
    (css_cons (cs_set (j := 7) sc_law.nd rfl (Or.inl rfl) (ce_call (n := 1) (ok_year_text X) (hr.mono (by decide)) tk (by rfl) X.g_year_text X.F_year_text.kp (bd_year_text X) (an_cons an_nil) (ca_cons (ce_v 5) (ca_nil))))
    (css_cons (cs_if (PW.pt (cw_or (ct_not (ct_tru (ce_isi (T := "str") (by rfl) X.b_isinstance (by rfl) X.b_str (by decide +kernel) (ce_v 7)))) (cw_or1 (ct_cmp (opA_ne hr.units) ops_ne (ce_v 7) (ce_op op_addA ops_add (ce_op op_addA ops_add (ce_ix (ix_Z hr.units) ops_ixZ (ce_v 6) (ce_int) (fun _ _ => rfl)) (ce_str)) (ce_ix (ix_Z hr.units) ops_ixZ (ce_v 6) (ce_int) (fun _ _ => rfl))) (nomark _))))) (css_one (cs_ret (ce_bl))) (css_nil))
    (css_cons (cs_for (passes_of rfl) rfl (ci_seq (ce_lst (ca_cons (ce_op op_addA ops_add (ce_op op_addA ops_add (ce_ix (ix_Z hr.units) ops_ixZ (ce_v 6) (ce_int) (fun _ _ => rfl)) (ce_str)) (ce_ix (ix_Z hr.units) ops_ixZ (ce_v 6) (ce_int) (fun _ _ => rfl))) (ca_cons (ce_call (n := 2) (ok_d_law_line X) (hr.mono (by decide)) tk (by rfl) X.g_d_law_line X.F_d_law_line.kp (bd_d_law_line X) (an_cons (an_cons an_nil)) (ca_cons (ce_v 1) (ca_cons (ce_v 6) (ca_nil)))) (ca_nil))))) (cg_name (i := 8) sc_law.nd rfl (by first | exact Or.inl rfl | exact Or.inr rfl)) (css_one (cs_if (PW.pt (cw_or (ct_cmp (opA_ne hr.units) ops_ne (ce_ix (ix_Z hr.units) ops_ixZ (ce_call (n := 1) (ok_d_law_due X) (hr.mono (by decide)) tk (by rfl) X.g_d_law_due X.F_d_law_due.kp (bd_d_law_due X) (an_cons an_nil) (ca_cons (ce_v 8) (ca_nil))) (ce_int) (fun _ _ => rfl)) (ce_int) (nomark _)) (cw_or (ct_cmp (opA_ne hr.units) ops_ne (ce_ix (ix_Z hr.units) ops_ixZ (ce_call (n := 1) (ok_d_law_due X) (hr.mono (by decide)) tk (by rfl) X.g_d_law_due X.F_d_law_due.kp (bd_d_law_due X) (an_cons an_nil) (ca_cons (ce_v 8) (ca_nil))) (ce_int) (fun _ _ => rfl)) (ce_v 5) (nomark _)) (cw_or1 (ct_not (ct_tru (ce_call (n := 1) (ok_d_law_right X) (hr.mono (by decide)) tk (by rfl) X.g_d_law_right X.F_d_law_right.kp (bd_d_law_right X) (an_cons an_nil) (ca_cons (ce_v 8) (ca_nil))))))))) (css_one (cs_ret (ce_bl))) (css_nil))))
    (css_one (cs_for (passes_of rfl) rfl (ci_seq (ce_call (n := 2) (ok_d_law_wrong_lines X) (hr.mono (by decide)) tk (by rfl) X.g_d_law_wrong_lines X.F_d_law_wrong_lines.kp (bd_d_law_wrong_lines X) (an_cons (an_cons an_nil)) (ca_cons (ce_v 1) (ca_cons (ce_v 6) (ca_nil))))) (cg_name (i := 8) sc_law.nd rfl (by first | exact Or.inl rfl | exact Or.inr rfl)) (css_cons (cs_if (ct_not (ct_tru (ce_call (n := 1) (ok_d_law_right X) (hr.mono (by decide)) tk (by rfl) X.g_d_law_right X.F_d_law_right.kp (bd_d_law_right X) (an_cons an_nil) (ca_cons (ce_v 8) (ca_nil))))) (css_one (cs_ret (ce_bl))) (css_nil))
    (css_one (cs_set (j := 3) sc_law.nd rfl (Or.inl rfl) (ce_op op_addA ops_add (ce_v 3) (ce_ix (ix_Z hr.units) ops_ixZ (ce_call (n := 1) (ok_d_law_due X) (hr.mono (by decide)) tk (by rfl) X.g_d_law_due X.F_d_law_due.kp (bd_d_law_due X) (an_cons an_nil) (ca_cons (ce_v 8) (ca_nil))) (ce_int) (fun _ _ => rfl))))))))))))))
    (css_cons (cs_if (PW.pt (cw_or (ct_cmp opA_lt ops_lt (ce_v 3) (ce_int) (nomark _)) (cw_or1 (ct_not (ct_tru (ce_call (n := 1) (ok_d_law_right X) (hr.mono (by decide)) tk (by rfl) X.g_d_law_right X.F_d_law_right.kp (bd_d_law_right X) (an_cons an_nil) (ca_cons (ce_v 2) (ca_nil)))))))) (css_one (cs_ret (ce_bl))) (css_nil))
    (css_cons (cs_if (ct_cmp (opA_eq hr.units) ops_eq (ce_call (n := 2) (ok_d_law_draw X) (hr.mono (by decide)) tk (by rfl) X.g_d_law_draw X.F_d_law_draw.kp (bd_d_law_draw X) (an_cons (an_cons an_nil)) (ca_cons (ce_v 1) (ca_cons (ce_int) (ca_nil)))) (ce_int) (nomark _)) (css_cons (cs_set (j := 6) sc_law.nd rfl (Or.inl rfl) (ce_call (n := 1) (ok_d_law_words_of X) (hr.mono (by decide)) tk (by rfl) X.g_d_law_words_of X.F_d_law_words_of.kp (bd_d_law_words_of X) (an_cons an_nil) (ca_cons (ce_call (n := 1) (ok_d_law_year X) (hr.mono (by decide)) tk (by rfl) X.g_d_law_year X.F_d_law_year.kp (bd_d_law_year X) (an_cons an_nil) (ca_cons (ce_v 1) (ca_nil))) (ca_nil))))
    (css_cons (cs_set (j := 9) sc_law.nd rfl (Or.inl rfl) (ce_op op_mulS ops_mulS (ce_str) (ce_op op_addA ops_add (ce_int) (ce_call (n := 2) (ok_d_law_draw X) (hr.mono (by decide)) tk (by rfl) X.g_d_law_draw X.F_d_law_draw.kp (bd_d_law_draw X) (an_cons (an_cons an_nil)) (ca_cons (ce_v 1) (ca_cons (ce_int) (ca_nil)))))))
    (css_one (cs_if (PW.pt (cw_or (ct_not (ct_tru (ce_call (n := 1) (ok_d_law_right X) (hr.mono (by decide)) tk (by rfl) X.g_d_law_right X.F_d_law_right.kp (bd_d_law_right X) (an_cons an_nil) (ca_cons (ce_op op_addA ops_add (ce_op op_addA ops_add (ce_op op_addA ops_add (ce_op op_addA ops_add (ce_v 9) (ce_ix (ix_Z hr.units) ops_ixZ (ce_v 6) (ce_int) (fun _ _ => rfl))) (ce_v 9)) (ce_ix (ix_Z hr.units) ops_ixZ (ce_v 6) (ce_int) (fun _ _ => rfl))) (ce_v 9)) (ca_nil))))) (cw_or1 (ct_not (ct_tru (ce_call (n := 1) (ok_d_law_right X) (hr.mono (by decide)) tk (by rfl) X.g_d_law_right X.F_d_law_right.kp (bd_d_law_right X) (an_cons an_nil) (ca_cons (ce_op op_addA ops_add (ce_op op_addA ops_add (ce_v 9) (ce_ix (ix_Z hr.units) ops_ixZ (ce_v 6) (ce_int) (fun _ _ => rfl))) (ce_v 9)) (ca_nil)))))))) (css_one (cs_ret (ce_bl))) (css_nil))))) (css_nil))
    (css_one (cs_ret (ce_and (ce_call (n := 1) (ok_d_law_right X) (hr.mono (by decide)) tk (by rfl) X.g_d_law_right X.F_d_law_right.kp (bd_d_law_right X) (an_cons an_nil) (ca_cons (ce_str) (ca_nil))) (ce_and (ce_call (n := 1) (ok_d_law_right X) (hr.mono (by decide)) tk (by rfl) X.g_d_law_right X.F_d_law_right.kp (bd_d_law_right X) (an_cons an_nil) (ca_cons (ce_str) (ca_nil))) (ce_and (ce_call (n := 1) (ok_d_law_right X) (hr.mono (by decide)) tk (by rfl) X.g_d_law_right X.F_d_law_right.kp (bd_d_law_right X) (an_cons an_nil) (ca_cons (ce_str) (ca_nil))) (ce_one (ce_call (n := 1) (ok_d_law_right X) (hr.mono (by decide)) tk (by rfl) X.g_d_law_right X.F_d_law_right.kp (bd_d_law_right X) (an_cons an_nil) (ca_cons (ce_v 2) (ca_nil)))))))))))))) :
      PSs _ _ (Ts _ _ _ b_law))
end Law
namespace Law
open PySem PySem.Spec PyProof.Rows L2 Mi
/-- the pool: a list of ints, not empty -/
def Pool (p : Nat) (s : Store) : Prop := ∃ x xs, s[p]? = some (.lst (.int x :: xs)) ∧ Ints xs ∧ xs.length ≤ 100
theorem draw_spec {p : Nat} {s : Store} (h : Pool p s) {many : Int} (h0 : 0 < many) (h1 : many < 1073741824) :
    ∃ k s', m_d_law_draw [.loc p, .int many] s = .ok (.int k) s' ∧ 0 ≤ k ∧ k < many ∧ Pool p s' ∧ Kp p s s' := by
  obtain ⟨x, xs, hs, ⟨ns, hx⟩, hl⟩ := h
  cases hn : ns.reverse with
  | nil =>
    have e : ns = [] := by simpa using hn
    subst e
    subst hx
    have hs' : s[p]? = some (.lst [.int x]) := hs
    simp [m_d_law_draw, b_d_law_draw, dLen_loc hs, dIxZ_loc hs', dIx_loc hs', pList_zero hs', dIxZ_loc (get_set hs'), dIx_loc (get_set hs'), h0]
    exact ⟨_, _, ⟨rfl, rfl⟩, Int.emod_nonneg _ (by omega), Int.emod_lt_of_pos _ h0, ⟨_, [], get_set hs', ⟨[], rfl⟩, by simp⟩, Kp.set _ _ _⟩
  | cons y r =>
    have e : ns = r.reverse ++ [y] := by rw [← List.reverse_reverse ns, hn, List.reverse_cons]
    subst e
    obtain ⟨L, hL⟩ : ∃ L, L = D.int x :: r.reverse.map D.int := ⟨_, rfl⟩
    have hs' : s[p]? = some (.lst (L ++ [.int y])) := by rw [hs, hx, hL]; simp
    have hl2 : L.length ≤ 100 := by
      rw [hx] at hl
      rw [hL]
      simp at hl ⊢
      omega
    have h3 : (1 : Int) < L.length + 1 := by
      rw [hL]
      simp
      omega
    have w1 := dPop_loc hs'
    have g1 := get_set (c' := .lst L) hs'
    have w2 := dAppend_loc g1 (by omega)
    have fin : ∀ s', s'[p]? = some (.lst L) → Pool p s' := fun s' h => ⟨x, r.reverse.map D.int, by rw [h, hL], ⟨_, rfl⟩, by rw [hL] at hl2; simp at hl2 ⊢; omega⟩
    by_cases hy : many ≤ y
    · simp [m_d_law_draw, b_d_law_draw, dLen_loc hs', tyOk_list hs', w1, w2, tyOk_list g1, hy, h0, h1, h3]
      refine ⟨_, _, ⟨rfl, rfl⟩, Int.emod_nonneg _ (by omega), Int.emod_lt_of_pos _ h0, ⟨x, r.reverse.map D.int ++ [.int (y / many)], ?_, ⟨r.reverse ++ [y / many], by simp⟩, by rw [hL] at hl2; simp at hl2 ⊢; omega⟩, Kp.set _ _ _⟩
      rw [get_set hs', hL]
      rfl
    · simp [m_d_law_draw, b_d_law_draw, dLen_loc hs', tyOk_list hs', w1, hy, h0, h1, h3]
      exact ⟨_, _, ⟨rfl, rfl⟩, Int.emod_nonneg _ (by omega), Int.emod_lt_of_pos _ h0, fin _ (get_set hs'), Kp.set _ _ _⟩
theorem often_spec {p : Nat} {s : Store} (h : Pool p s) {many : Int} (h0 : 0 < many) (h1 : many < 1073741824) :
    ∃ k s', m_d_law_often_end [.loc p, .int many] s = .ok (.int k) s' ∧ 0 ≤ k ∧ k < many ∧ Pool p s' ∧ Kp p s s' := by
  obtain ⟨k, s1, e1, k0, k1, h', kp⟩ := draw_spec h (many := 5) (by omega) (by omega)
  obtain ⟨k2, s2, e2, k20, k21, h2, kp2⟩ := draw_spec h' h0 h1
  by_cases c0 : k = 0
  · simp [m_d_law_often_end, b_d_law_often_end, e1, c0]
    exact ⟨_, _, ⟨rfl, rfl⟩, by omega, h0, h', kp⟩
  · by_cases c1 : k = 1
    · simp [m_d_law_often_end, b_d_law_often_end, e1, c1]
      exact ⟨_, _, ⟨rfl, rfl⟩, by omega, by omega, h', kp⟩
    · simp [m_d_law_often_end, b_d_law_often_end, e1, c0, c1, e2]
      exact ⟨_, _, ⟨rfl, rfl⟩, k20, k21, h2, kp.trans kp2⟩
def PoolI (ns ms : List Int) (rest : List D) (env : Sl) (s : Store) : Prop := ∃ m o3 o4 gs, env = [some (.fl (ns.map D.int)), some (.int m), some (.loc 0), o3, o4] ∧ s = [.lst gs, .lst (ms.map D.int)] ∧ Ints gs ∧ gs.length + rest.length ≤ 63 ∧ Ints rest
theorem pool_spec (ns : List Int) (hn : ns.length ≤ 63) : ∃ p s, m_d_law_pool [.fl (ns.map D.int)] [] = .ok (.loc p) s ∧ Pool p s := by
  simp [m_d_law_pool, b_d_law_pool, dSl]
  have hc := cut_ints ⟨ns, rfl⟩ none (some 63)
  have hl := cut_len (ns.map D.int) none (some 63)
  generalize Mi.cutD (ns.map D.int) none (some 63) = cs at hc hl
  simp at hl
  obtain ⟨ms, rfl⟩ := hc
  simp at hl
  obtain ⟨env', s', e, m, o3, o4, gs, rfl, rfl, hg1, hg2, _⟩ := forL_thru (gd := fun s2 => s2[1]? = some (Cell.lst (ms.map D.int))) (g := gN 3) (b := bl_d_law_pool_1) (PoolI ns ms)
    (xs := ms.map D.int) (env := [some (.fl (ns.map D.int)), some (.int 61001), some (.loc 0), none, none]) (s := [.lst [], .lst (ms.map D.int)])
    (fun xs env s ⟨m, o3, o4, gs, h1, h2, _⟩ => by subst h2; rfl)
    (fun x xs env s ⟨m, o3, o4, gs, h1, h2, h3, h4, h5⟩ => by
      subst h1 h2
      obtain ⟨ks, hk⟩ := h5
      cases ks with
      | nil => cases hk
      | cons k ks =>
        obtain ⟨rfl, rfl⟩ := List.cons.inj hk
        obtain ⟨gn, rfl⟩ := h3
        simp at h4
        have w := dAppend_loc (s := [.lst (gn.map D.int), .lst (ms.map D.int)]) (l := 0) rfl (by simp; omega)
        have more : ∀ m o3 o4 z, PoolI ns ms (ks.map D.int) [some (.fl (ns.map D.int)), some (.int m), some (.loc 0), o3, o4] [.lst (gn.map D.int ++ [.int z]), .lst (ms.map D.int)] := fun m o3 o4 z =>
          ⟨_, _, _, _, rfl, rfl, ⟨gn ++ [z], by rw [List.map_append]; rfl⟩, by simp; omega, ⟨ks, rfl⟩⟩
        have same : ∀ m o3 o4, PoolI ns ms (ks.map D.int) [some (.fl (ns.map D.int)), some (.int m), some (.loc 0), o3, o4] [.lst (gn.map D.int), .lst (ms.map D.int)] := fun m o3 o4 =>
          ⟨_, _, _, _, rfl, rfl, ⟨gn, rfl⟩, by simp; omega, ⟨ks, rfl⟩⟩
        by_cases c1 : k < 0
        · by_cases c2 : (1000000000000000000 : Int) ≤ 5 - 2 * k <;> simp [bl_d_law_pool_1, c1, c2, tyOk, w, dMul_l, more, same]
        · by_cases c2 : (1000000000000000000 : Int) ≤ k <;> simp [bl_d_law_pool_1, c1, c2, tyOk, w, dMul_l, more, same])
    ⟨_, _, _, _, rfl, rfl, ⟨[], rfl⟩, by simp; omega, ⟨ms, rfl⟩⟩
  rw [e]
  obtain ⟨gn, rfl⟩ := hg1
  simp at hg2
  have w := dAdd_loc (s := [.lst (gn.map D.int), .lst (ms.map D.int), .lst [.int m]]) (l := 2) (k := 0) rfl rfl (by simp; omega)
  simp [w]
  exact ⟨_, _, ⟨rfl, rfl⟩, m, gn.map D.int, rfl, ⟨gn, rfl⟩, by simp; omega⟩
end Law
namespace Law
open PySem Mi
/-! ### words of a line -/
abbrev tl (z : Str) : List Nat := z.cps.toList
theorem tl_ext {x y : Str} (h : tl x = tl y) : x = y := TL.ext_tl h
theorem tl_app (x y : Str) : tl (x ++ y) = tl x ++ tl y := by
  show (x.cps ++ y.cps).toList = _
  simp
theorem tl_len (x : Str) : (tl x).length = x.length := by simp [tl, Str.length]
def cut (acc l : List Nat) : List (List Nat) := TL.spl [32] 0 acc l
theorem cut_nil (acc : List Nat) : cut acc [] = [acc] := TL.spl_nil _ _ _
theorem cut_cons (acc r : List Nat) (c : Nat) : cut acc (c :: r) = if c = 32 then acc :: cut [] r else cut (acc ++ [c]) r := by
  unfold cut
  rw [TL.spl]
  have : TL.pre [32] (c :: r) = decide (c = 32) := by
    unfold TL.pre
    simp [Bool.beq_eq_decide_eq]
  rw [this]
  by_cases h : c = 32 <;> simp [h]
def ne0 (l : List (List Nat)) : List (List Nat) := l.filter fun w => !w.isEmpty
def wla (acc l : List Nat) : List (List Nat) := ne0 (cut acc l)
theorem wla_sp : ∀ (l acc r : List Nat), wla acc (l ++ 32 :: r) = wla acc l ++ wla [] r
  | [], acc, r => by
    unfold wla ne0
    rw [List.nil_append, cut_cons, if_pos rfl, cut_nil, List.filter_cons]
    cases acc <;> simp
  | c :: l, acc, r => by
    have q1 := cut_cons acc (l ++ 32 :: r) c
    have q2 := cut_cons acc l c
    unfold wla
    rw [List.cons_append, q1, q2]
    by_cases h : c = 32
    · rw [if_pos h, if_pos h]
      have ih := wla_sp l [] r
      unfold wla ne0 at ih
      unfold ne0
      rw [List.filter_cons, List.filter_cons, ih]
      cases acc <;> simp
    · rw [if_neg h, if_neg h]
      exact wla_sp l (acc ++ [c]) r
theorem wla_w : ∀ (w acc : List Nat), 32 ∉ w → wla acc w = ne0 [acc ++ w]
  | [], acc, _ => by unfold wla; rw [cut_nil, List.append_nil]
  | c :: w, acc, h => by
    have h1 : c ≠ 32 := fun e => h (by rw [e]; exact List.mem_cons_self)
    unfold wla
    rw [cut_cons, if_neg h1]
    have := wla_w w (acc ++ [c]) (fun z => h (List.mem_cons_of_mem _ z))
    unfold wla at this
    rw [this, List.append_assoc]
    rfl
def W (l : List Nat) : List (List Nat) := wla [] l
theorem W_nil : W [] = [] := by rw [W, wla_w _ _ (by simp)]; rfl
theorem W_word {w : List Nat} (h : 32 ∉ w) : W w = ne0 [w] := by rw [W, wla_w _ _ h]; rfl
theorem W_sp (l r : List Nat) : W (l ++ 32 :: r) = W l ++ W r := wla_sp l [] r
theorem W_spaces (l : List Nat) : ∀ k, W (l ++ List.replicate k 32) = W l
  | 0 => by simp
  | k + 1 => by
    rw [List.replicate_succ', ← List.append_assoc, W_sp, W_nil, List.append_nil, W_spaces l k]
theorem W_next (l : List Nat) (k : Nat) {w : List Nat} (h : 32 ∉ w) : W (l ++ List.replicate (k + 1) 32 ++ w) = W l ++ ne0 [w] := by
  have e : l ++ List.replicate (k + 1) 32 ++ w = (l ++ List.replicate k 32) ++ 32 :: w := by rw [List.replicate_succ']; simp
  rw [e, W_sp, W_spaces, W_word h]
theorem W_first (k : Nat) {w : List Nat} (h : 32 ∉ w) : W (List.replicate k 32 ++ w) = ne0 [w] := by
  cases k with
  | zero => rw [List.replicate_zero, List.nil_append]; exact W_word h
  | succ k =>
    have := W_next [] k h
    rw [List.nil_append, W_nil] at this
    simpa using this
/-- every word is a word -/
theorem cut_mem : ∀ (l acc : List Nat), 32 ∉ acc → ∀ w ∈ cut acc l, 32 ∉ w ∧ w.length ≤ acc.length + l.length
  | [], acc, h, w, hw => by
    rw [cut_nil] at hw
    rw [List.mem_singleton.mp hw]
    exact ⟨h, by simp⟩
  | c :: l, acc, h, w, hw => by
    rw [cut_cons] at hw
    by_cases hc : c = 32
    · rw [if_pos hc] at hw
      rcases List.mem_cons.mp hw with rfl | hw
      · exact ⟨h, by simp⟩
      · have := cut_mem l [] (by simp) w hw
        exact ⟨this.1, by simp at this ⊢; omega⟩
    · rw [if_neg hc] at hw
      have := cut_mem l (acc ++ [c]) (by simp [h]; exact fun e => hc e.symm) w hw
      exact ⟨this.1, by simp at this ⊢; omega⟩
theorem cut_len : ∀ (l acc : List Nat), (cut acc l).length ≤ l.length + 1
  | [], acc => by rw [cut_nil]; simp
  | c :: l, acc => by
    rw [cut_cons]
    by_cases hc : c = 32
    · rw [if_pos hc, List.length_cons]; have := cut_len l []; simp; omega
    · rw [if_neg hc]; have := cut_len l (acc ++ [c]); simp; omega
def words (t : Str) : List Str := (Txt.split t " ").filter fun w => !decide (w = "")
theorem split_cut (t : Str) : (Txt.split t " ").map tl = cut [] (tl t) := by
  have := TL.split_spl t " " (by decide +kernel) (TL.kind_ok (by decide +kernel))
  have e : TL.tl (" " : Str) = [32] := by decide +kernel
  rw [e] at this
  exact this
theorem empty_iff (w : Str) : decide (w = "") = (tl w).isEmpty := by
  by_cases h : w = ""
  · subst h; decide +kernel
  · have : ¬ (tl w).isEmpty = true := fun z => h (tl_ext (by rw [List.isEmpty_iff.mp z]; decide +kernel))
    simp [h, this]
theorem words_W (t : Str) : (words t).map tl = W (tl t) := by
  unfold words W wla ne0
  rw [← split_cut, List.filter_map]
  refine congrArg (List.map tl) (List.filter_congr fun w _ => ?_)
  rw [empty_iff]
  rfl
theorem words_of_W {t : Str} {ws : List Str} (h : W (tl t) = ws.map tl) : words t = ws := by
  have e := (words_W t).trans h
  have inj : ∀ (a b : List Str), a.map tl = b.map tl → a = b := fun a => by
    induction a with
    | nil => intro b h; cases b with | nil => rfl | cons _ _ => cases h
    | cons x a ih =>
      intro b h
      cases b with
      | nil => cases h
      | cons y b =>
        simp only [List.map_cons, List.cons.injEq] at h
        rw [tl_ext h.1, ih b h.2]
  exact inj _ _ e
theorem words_mem {t w : Str} (h : w ∈ words t) : tl w ≠ [] ∧ 32 ∉ tl w ∧ w.length ≤ t.length := by
  have hm : tl w ∈ (words t).map tl := List.mem_map.mpr ⟨w, h, rfl⟩
  rw [words_W] at hm
  obtain ⟨h1, h2⟩ := List.mem_filter.mp hm
  have := cut_mem (tl t) [] (by simp) _ h1
  refine ⟨fun z => ?_, this.1, ?_⟩
  · rw [z] at h2; simp at h2
  · have q := this.2
    have a := tl_len w
    have b := tl_len t
    rw [List.length_nil, Nat.zero_add] at q
    omega
theorem split_len (t : Str) : (Txt.split t " ").length ≤ t.length + 1 := by
  have := cut_len (tl t) []
  rw [← split_cut, List.length_map, tl_len] at this
  exact this
/-! ### the mirrors' words -/
theorem fm_str (p : Str → Bool) (A : List Str) : (A.filterMap fun o => if p o = true then some (D.str o) else none) = (A.filter p).map D.str := by
  induction A with
  | nil => rfl
  | cons a A ih =>
    rw [List.filterMap_cons, List.filter_cons]
    by_cases c : p a = true
    · simp [c, ih]
    · simp [c, ih]
def nonE (w : Str) : Bool := !decide (w = "")
theorem wordsof_spec {t : Str} (h : t.length ≤ 100000) (s : Store) : ∃ s', m_words_of [.str t] s = .ok (.loc (s.length + 1)) s' ∧ s'[s.length + 1]? = some (.lst ((words t).map D.str)) ∧ Ext s s' := by
  have e1 := dSplit_str (a := t) (b := " ") (by decide +kernel) (by omega) s
  have g1 := get_new s (.lst ((Txt.split t " ").map D.str))
  have hl := split_len t
  have x1 := Ext.mk s [Cell.lst ((Txt.split t " ").map D.str)]
  obtain ⟨s1, hs1⟩ : ∃ s1, s1 = s ++ [Cell.lst ((Txt.split t " ").map D.str)] := ⟨_, rfl⟩
  have l1 : s1.length = s.length + 1 := by rw [hs1]; simp
  rw [← hs1] at e1 g1 x1
  have e2 := lcL_fm (gd := fun s2 => s2[s.length]? = some (Cell.lst ((Txt.split t " ").map D.str))) (g := gN 1) (t := lt_words_of_1) (e := le_words_of_2) (env := [some (.str t), none]) (s := s1) g1 D.str (fun o => if nonE o = true then some (D.str o) else none) (Txt.split t " ") [] (fun o _ => by
    by_cases c : o = "" <;> simp [lt_words_of_1, le_words_of_2, pick, c, nonE]) (by simp; omega)
  rw [fm_str, List.nil_append] at e2
  have ew : (Txt.split t " ").filter nonE = words t := rfl
  rw [ew] at e2
  refine ⟨s1 ++ [.lst ((words t).map D.str)], ?_, by rw [← l1]; exact get_new _ _, x1.trans (Ext.mk _ _)⟩
  rw [← l1]
  clear l1 hs1
  generalize (Txt.split t " ").map D.str = SP at *
  generalize (words t).map D.str = WS at *
  simp [m_words_of, b_words_of, e1, g1, e2]
end Law
namespace Law
open PySem Mi
/-! ### digits -/
def dg (c : Nat) : Bool := decide (48 ≤ c) && decide (c ≤ 57)
def digs (z : Str) : Bool := (tl z).all dg
theorem figs : tl ("0123456789" : Str) = [48, 49, 50, 51, 52, 53, 54, 55, 56, 57] := by decide +kernel
theorem in_figs (c : Nat) : decide (c ∈ tl ("0123456789" : Str)) = dg c := by
  rw [figs]
  unfold dg
  simp only [List.mem_cons, List.mem_nil_iff, or_false]
  by_cases h : 48 ≤ c ∧ c ≤ 57
  · have : c = 48 ∨ c = 49 ∨ c = 50 ∨ c = 51 ∨ c = 52 ∨ c = 53 ∨ c = 54 ∨ c = 55 ∨ c = 56 ∨ c = 57 := by omega
    simp [this, h.1, h.2]
  · have : ¬ (c = 48 ∨ c = 49 ∨ c = 50 ∨ c = 51 ∨ c = 52 ∨ c = 53 ∨ c = 54 ∨ c = 55 ∨ c = 56 ∨ c = 57) := by omega
    rw [decide_eq_false this]
    symm
    rw [Bool.and_eq_false_iff]
    by_cases h1 : 48 ≤ c
    · right; simp; omega
    · left; simp; omega
theorem notin_figs (c : Nat) (s : Store) : dNotIn (.str ⟨#[c]⟩) (.str "0123456789") s = some (.bl (!dg c), s) := by
  have e : dInB (.str ⟨#[c]⟩) (.str "0123456789") s = some (dg c) := by
    show some (!(Builtin.Str.occurrences ("0123456789" : Str) ⟨#[c]⟩ 0 ("0123456789" : Str).length 1).isEmpty) = _
    rw [PySem.StrLaws.found_one, ← in_figs]
  exact dNotIn_of e
theorem digs_all {l : List Nat} (h : l.all dg = true) : NumText.AllDigits l := fun c hc => by
  have := List.all_eq_true.mp h c hc
  unfold dg at this
  simpa using this
def nval (l : List Nat) : Nat := NumText.digitsVal l
theorem int_digs {z : Str} (h : digs z = true) (h0 : tl z ≠ []) (h1 : z.length ≤ 600) (s : Store) : dIntZ [.str z] s = some (.int (nval (tl z) : Nat), s) :=
  dIntZ_str (by omega) (intText_digits (digs_all h) h0 (by omega)) s
theorem int_neg {z : Str} {cs : List Nat} (e : tl z = 45 :: cs) (h : cs.all dg = true) (h0 : cs ≠ []) (h1 : z.length ≤ 600) (s : Store) : dIntZ [.str z] s = some (.int (-(nval cs : Nat)), s) :=
  dIntZ_str (by omega) (intText_neg e (digs_all h) h0 (by omega)) s
theorem nval_go : ∀ (l : List Nat) (a : Nat), 1 ≤ a → 1 ≤ l.foldl (fun acc c => acc * 10 + (c - 48)) a
  | [], a, h => h
  | c :: l, a, h => nval_go l _ (show 1 ≤ a * 10 + (c - 48) by omega)
theorem nval_pos {c : Nat} {l : List Nat} (h : 49 ≤ c) : 1 ≤ nval (c :: l) := by
  show 1 ≤ (c :: l).foldl (fun acc c => acc * 10 + (c - 48)) 0
  rw [List.foldl_cons]
  exact nval_go l _ (show 1 ≤ 0 * 10 + (c - 48) by omega)
/-! ### what is due -/
inductive Due where
  | bad (w : Str) | good (y : Int)
def due2 (n sg : Str) : Due := if 9 < n.length ∨ (tl n).head? = some 48 then .bad "number" else if digs n = false then .bad "number" else if sg ≠ "AD" ∧ sg ≠ "BC" then .bad "sign" else
  if (if sg = "BC" then 1 - (nval (tl n) : Int) else nval (tl n)) < -9999 ∨ (if sg = "BC" then 1 - (nval (tl n) : Int) else nval (tl n)) > 9999 then .bad "limit" else .good (if sg = "BC" then 1 - (nval (tl n) : Int) else nval (tl n))
def due : List Str → Due
  | [n, sg] => due2 n sg
  | _ => .bad "words"
def dueL : Due → List D
  | .bad w => [.int 1, .str w]
  | .good y => [.int 0, .int y]
theorem forL_two {α : Type} {gd : Store → Prop} {g : D → Sl → Option Sl} {b : MS} (f : α → D) (as : List α) (I : Sl → Prop) (s s2 : Store) (ok : α → Bool) (r : D) (hg : gd s)
    (hs : ∀ a ∈ as, ∀ env, I env → if ok a = true then ∃ env', turn g b (f a) env s = .nx env' s ∧ I env' else turn g b (f a) env s = .rt r s2) {env : Sl} (h : I env) :
    if as.all ok = true then ∃ env', forL gd g b (as.map f) env s = .nx env' s ∧ I env' else forL gd g b (as.map f) env s = .rt r s2 := by
  induction as generalizing env with
  | nil =>
    rw [List.map_nil, forL_nil env s gd hg]
    exact ⟨_, rfl, h⟩
  | cons a as ih =>
    have z := hs a List.mem_cons_self env h
    unfold turn at z
    rw [List.map_cons, forL_cons env s gd hg]
    cases eg : g (f a) env with
    | none =>
      rw [eg] at z
      by_cases c : ok a = true
      · rw [if_pos c] at z; obtain ⟨_, z, _⟩ := z; cases z
      · rw [if_neg c] at z; cases z
    | some env1 =>
      rw [eg] at z
      dsimp only at z ⊢
      by_cases c : ok a = true
      · rw [if_pos c] at z
        obtain ⟨env', z1, z2⟩ := z
        have q := ih (fun a' ha' => hs a' (List.mem_cons_of_mem _ ha')) z2
        rw [z1]
        simpa [c] using q
      · rw [if_neg c] at z
        have c' : ok a = false := by simpa using c
        rw [z]
        simp [c']
theorem zhead {z : Str} {c : Nat} {r : List Nat} (e : tl z = c :: r) (h : z.length ≤ 100000) (s : Store) : dIxZ (.str z) (.int 0) s = some (.str ⟨#[c]⟩, s) := by
  rw [dIxZ_str (by omega)]
  have : L2.atI (tl z) ((0 : Nat) : Int) = some c := L2.atI_nat (by rw [e]; rfl)
  show (L2.atI (tl z) 0).map _ = _
  rw [show (0 : Int) = ((0 : Nat) : Int) from rfl, this]
  rfl
theorem one_zero (c : Nat) : ((⟨#[c]⟩ : Str) = "0") ↔ c = 48 := by
  have e : ("0" : Str) = ⟨#[48]⟩ := by decide +kernel
  rw [e]
  simp
theorem ldue_spec {t : Str} (h : t.length ≤ 100000) (s : Store) : ∃ (l : Nat) (s' : Store), m_d_law_due [.str t] s = .ok (.loc l) s' ∧ s'[l]? = some (.lst (dueL (due (words t)))) ∧ Ext s s' := by
  have e1 := dSplit_str (a := t) (b := " ") (by decide +kernel) (by omega) s
  have g1 := get_new s (.lst ((Txt.split t " ").map D.str))
  have hl := split_len t
  have x1 := Ext.mk s [Cell.lst ((Txt.split t " ").map D.str)]
  obtain ⟨s1, hs1⟩ : ∃ s1, s1 = s ++ [Cell.lst ((Txt.split t " ").map D.str)] := ⟨_, rfl⟩
  rw [← hs1] at e1 g1 x1
  clear hs1
  have e2 := lcL_fm (gd := fun s2 => s2[s.length]? = some (Cell.lst ((Txt.split t " ").map D.str))) (g := gN 5) (t := lt_d_law_due_2) (e := le_d_law_due_3) (env := [some (.str t), none, none, none, none, none]) (s := s1) g1 D.str (fun o => if nonE o = true then some (D.str o) else none) (Txt.split t " ") [] (fun o _ => by
    by_cases c : o = "" <;> simp [lt_d_law_due_2, le_d_law_due_3, pick, c, nonE]) (by simp; omega)
  rw [fm_str, List.nil_append] at e2
  have ew : (Txt.split t " ").filter nonE = words t := rfl
  rw [ew] at e2
  have x2 := x1.trans (Ext.mk s1 [Cell.lst ((words t).map D.str)])
  have g2 := get_new s1 (.lst ((words t).map D.str))
  have wl := dLen_loc g2
  rw [List.length_map] at wl
  have hm := fun w => words_mem (t := t) (w := w)
  generalize (Txt.split t " ").map D.str = SP at *
  generalize words t = ws at *
  obtain ⟨l2, hl2⟩ : ∃ l2, l2 = s1.length := ⟨_, rfl⟩
  by_cases c2 : ws.length = 2
  · obtain ⟨n, sg, rfl⟩ : ∃ n sg, ws = [n, sg] := by
      match ws, c2 with
      | [n, sg], _ => exact ⟨n, sg, rfl⟩
    obtain ⟨n1, n2, n3⟩ := hm n (by simp)
    obtain ⟨c, r, en⟩ : ∃ c r, tl n = c :: r := by
      cases q : tl n with
      | nil => exact absurd q n1
      | cons c r => exact ⟨c, r, rfl⟩
    obtain ⟨s2, hs2⟩ : ∃ s2, s2 = s1 ++ [Cell.lst ([n, sg].map D.str)] := ⟨_, rfl⟩
    rw [← hs2] at g2 wl x2
    rw [← hl2] at g2 wl
    have i0 : dIxZ (.loc l2) (.int 0) s2 = some (.str n, s2) := by rw [dIxZ_loc g2, dIx_loc g2]; simp
    have i1 : dIxZ (.loc l2) (.int 1) s2 = some (.str sg, s2) := by rw [dIxZ_loc g2, dIx_loc g2]; simp
    have zh := zhead en (by omega) s2
    have ln : dLen [.str n] s2 = some (.int n.length, s2) := by
      have : n.length ≤ 16777216 := by omega
      simp [dLen, this]
    have wl' : dLen [.loc l2] s2 = some (.int 2, s2) := wl
    have fin : ∀ d : List D, ∃ l s', (Mi.R.ok (D.loc s2.length) (s2 ++ [Cell.lst d]) : Mi.R D) = .ok (.loc l) s' ∧ s'[l]? = some (.lst d) ∧ Ext s s' := fun d => ⟨_, _, rfl, get_new _ _, x2.trans (Ext.mk _ _)⟩
    have c48 := one_zero c
    have hd : (tl n).head? = some c := by rw [en]; rfl
    show ∃ (l : Nat) (s' : Store), _ ∧ s'[l]? = some (.lst (dueL (due2 n sg))) ∧ _
    by_cases c3 : 9 < n.length
    · have ed : due2 n sg = .bad "number" := by unfold due2; rw [if_pos (.inl c3)]
      rw [ed]
      obtain ⟨l, s', q1, q2, q3⟩ := fin (dueL (.bad "number"))
      refine ⟨l, s', ?_, q2, q3⟩
      rw [← q1]
      have c3' : (9 : Int) < n.length := by omega
      simp only [List.map_cons, List.map_nil] at hs2 e2
      simp [m_d_law_due, b_d_law_due, e1, g1, e2, ← hs2, ← hl2, wl', i0, ln, c3, c3', dueL]
    have c3' : ¬ (9 : Int) < n.length := by omega
    by_cases c4 : c = 48
    · have ed : due2 n sg = .bad "number" := by unfold due2; rw [if_pos (.inr (by rw [hd, c4]))]
      rw [ed]
      obtain ⟨l, s', q1, q2, q3⟩ := fin (dueL (.bad "number"))
      refine ⟨l, s', ?_, q2, q3⟩
      rw [← q1]
      simp only [List.map_cons, List.map_nil] at hs2 e2
      simp [m_d_law_due, b_d_law_due, e1, g1, e2, ← hs2, ← hl2, wl', i0, ln, c3', zh, c48, c4, (one_zero 48).mpr rfl, dueL]
    have cc : ¬ (9 < n.length ∨ (tl n).head? = some 48) := by
      rintro (z | z)
      · exact c3 z
      · rw [hd] at z; exact c4 (Option.some.inj z)
    have lp := forL_two (gd := always) (g := gN 3) (b := bl_d_law_due_1) (fun c => D.str ⟨#[c]⟩) (tl n) (fun env => ∃ o3, env = [some (.str t), some (.loc l2), some (.str n), o3, none, none]) s2 (s2 ++ [Cell.lst (dueL (.bad "number"))]) dg (.loc s2.length) trivial (fun a _ env ⟨o3, he⟩ => by
      subst he
      have := notin_figs a s2
      by_cases ca : dg a = true
      · rw [if_pos ca]
        exact ⟨[some (.str t), some (.loc l2), some (.str n), some (.str ⟨#[a]⟩), none, none], by simp [turn, bl_d_law_due_1, this, ca], _, rfl⟩
      · rw [if_neg ca]
        have ca' : dg a = false := by simpa using ca
        simp [turn, bl_d_law_due_1, this, ca', dueL]) (env := [some (.str t), some (.loc l2), some (.str n), none, none, none]) ⟨none, rfl⟩
    by_cases c5 : digs n = true
    · have c5' : (tl n).all dg = true := c5
      rw [if_pos c5'] at lp
      obtain ⟨env', e5, o3, rfl⟩ := lp
      have e6 := int_digs c5 n1 (by omega) s2
      obtain ⟨k, hk⟩ : ∃ k, k = nval (tl n) := ⟨_, rfl⟩
      rw [← hk] at e6
      simp only [List.map_cons, List.map_nil] at hs2 e2
      by_cases s1' : sg = "AD"
      · subst s1'
        have ne : ¬ (("AD" : Str) = "BC") := by decide +kernel
        have ed : due2 n "AD" = if (k : Int) > 9999 then .bad "limit" else .good k := by
          unfold due2
          rw [if_neg cc, if_neg (by rw [c5]; simp), if_neg (fun z => z.1 rfl), if_neg ne, ← hk]
          by_cases ck : (k : Int) > 9999
          · rw [if_pos (.inr ck), if_pos ck]
          · rw [if_neg (by omega), if_neg ck]
        rw [ed]
        by_cases ck : (k : Int) > 9999
        · rw [if_pos ck]
          obtain ⟨l, s', q1, q2, q3⟩ := fin (dueL (.bad "limit"))
          refine ⟨l, s', ?_, q2, q3⟩
          rw [← q1]
          have ck2 : ¬ (k : Int) < -9999 := by omega
          simp [m_d_law_due, b_d_law_due, e1, g1, e2, ← hs2, ← hl2, wl', i0, i1, ln, c3', zh, c48, c4, e5, ne, e6, ck, ck2, dueL]
        · rw [if_neg ck]
          obtain ⟨l, s', q1, q2, q3⟩ := fin (dueL (.good k))
          refine ⟨l, s', ?_, q2, q3⟩
          rw [← q1]
          have ck2 : ¬ (k : Int) < -9999 := by omega
          simp [m_d_law_due, b_d_law_due, e1, g1, e2, ← hs2, ← hl2, wl', i0, i1, ln, c3', zh, c48, c4, e5, ne, e6, ck, ck2, dueL]
      · by_cases s2' : sg = "BC"
        · subst s2'
          have ne : ¬ (("BC" : Str) = "AD") := by decide +kernel
          have ed : due2 n "BC" = if (1 - (k : Int)) < -9999 then .bad "limit" else .good (1 - k) := by
            unfold due2
            rw [if_neg cc, if_neg (by rw [c5]; simp), if_neg (fun z => z.2 rfl), if_pos rfl, ← hk]
            by_cases ck : (1 - (k : Int)) < -9999
            · rw [if_pos (.inl ck), if_pos ck]
            · rw [if_neg (by omega), if_neg ck]
          rw [ed]
          have ck2 : ¬ (9999 : Int) < 1 - k := by omega
          by_cases ck : (1 - (k : Int)) < -9999
          · rw [if_pos ck]
            obtain ⟨l, s', q1, q2, q3⟩ := fin (dueL (.bad "limit"))
            refine ⟨l, s', ?_, q2, q3⟩
            rw [← q1]
            simp [m_d_law_due, b_d_law_due, e1, g1, e2, ← hs2, ← hl2, wl', i0, i1, ln, c3', zh, c48, c4, e5, ne, e6, ck, ck2, dueL]
          · rw [if_neg ck]
            obtain ⟨l, s', q1, q2, q3⟩ := fin (dueL (.good (1 - k)))
            refine ⟨l, s', ?_, q2, q3⟩
            rw [← q1]
            simp [m_d_law_due, b_d_law_due, e1, g1, e2, ← hs2, ← hl2, wl', i0, i1, ln, c3', zh, c48, c4, e5, ne, e6, ck, ck2, dueL]
        · have ed : due2 n sg = .bad "sign" := by
            unfold due2
            rw [if_neg cc, if_neg (by rw [c5]; simp), if_pos ⟨s1', s2'⟩]
          rw [ed]
          obtain ⟨l, s', q1, q2, q3⟩ := fin (dueL (.bad "sign"))
          refine ⟨l, s', ?_, q2, q3⟩
          rw [← q1]
          simp [m_d_law_due, b_d_law_due, e1, g1, e2, ← hs2, ← hl2, wl', i0, i1, ln, c3', zh, c48, c4, e5, s1', s2', dueL]
    · have c5' : ¬ (tl n).all dg = true := c5
      rw [if_neg c5'] at lp
      have ed : due2 n sg = .bad "number" := by unfold due2; rw [if_neg cc, if_pos (by simpa using c5)]
      rw [ed]
      refine ⟨s2.length, s2 ++ [Cell.lst (dueL (.bad "number"))], ?_, get_new _ _, x2.trans (Ext.mk _ _)⟩
      simp only [List.map_cons, List.map_nil] at hs2 e2
      simp [m_d_law_due, b_d_law_due, e1, g1, e2, ← hs2, ← hl2, wl', i0, ln, c3', zh, c48, c4, lp]
  · have ed : due ws = .bad "words" := by
      match ws, c2 with
      | [], _ => rfl
      | [_], _ => rfl
      | _ :: _ :: _ :: _, _ => rfl
      | [_, _], c2 => exact absurd rfl c2
    have c2' : ¬ ((ws.length : Nat) : Int) = 2 := by omega
    rw [ed]
    refine ⟨_, _, ?_, get_new (s1 ++ [Cell.lst (ws.map D.str)]) (.lst (dueL (.bad "words"))), x2.trans (Ext.mk _ _)⟩
    generalize ws.map D.str = W2 at *
    generalize ws.length = wn at *
    simp [m_d_law_due, b_d_law_due, e1, g1, e2, wl, c2, c2', dueL]
end Law
namespace Law
open PySem Mi L2
/-! ### the program's own reading -/
theorem of_tl {z : Str} {l : List Nat} (h : tl z = l) : z = ⟨l.toArray⟩ := tl_ext (by rw [h])
theorem starts_minus {z : Str} {c : Nat} {r : List Nat} (e : tl z = c :: r) : Txt.startswith z "-" = decide (c = 45) := by
  have hz := of_tl e
  have hm : ("-" : Str) = ⟨#[45]⟩ := by decide +kernel
  rw [hm, hz]
  unfold Txt.startswith Builtin.Str.subAt
  by_cases h : c = 45
  · subst h; simp [Str.length]
  · simp [Str.length, h]
theorem cut1 {z : Str} {c : Nat} {r : List Nat} (e : tl z = c :: r) : tl (cutS z (some 1) none) = r := by
  have hl : z.length = r.length + 1 := by rw [← tl_len, e]; rfl
  unfold cutS
  show ((tl z).drop (HT.sIx z.length 0 (some ((1 : Nat) : Int)))).take (HT.sIx z.length z.length none - HT.sIx z.length 0 (some ((1 : Nat) : Int))) = r
  rw [HT.sIx_nat, HT.sIx_none, e, hl]
  simp
def wi (z : Str) : Option Int := match tl z with
  | [] => none
  | c :: r => if c = 45 then (if r = [] ∨ 9 < z.length then none else if r.all dg = false then none else if r.head? = some 48 then none else some (-(nval r : Int)))
    else if 9 < z.length then none else if (c :: r).all dg = false then none else if c = 48 ∧ z ≠ "0" then none else some (nval (c :: r))
def wiD : Option Int → D
  | none => .non
  | some i => .int i
theorem wi_spec {z : Str} {c : Nat} {r : List Nat} (e : tl z = c :: r) (h : z.length ≤ 100000) (s : Store) : m_written_integer [.str z] s = .ok (wiD (wi z)) s := by
  have st := starts_minus e
  have ws : ∀ s, dStarts (.str z) [.str "-"] s = some (.bl (Txt.startswith z "-"), s) := fun s => rfl
  have ln : dLen [.str z] s = some (.int z.length, s) := by
    have : z.length ≤ 16777216 := by omega
    simp [dLen, this]
  have hz : z ≠ "" := fun q => by
    have t0 : tl ("" : Str) = [] := by decide +kernel
    rw [q, t0] at e
    cases e
  have loop : ∀ (fz : Str), tl fz ≠ [] → ∀ o2, if (tl fz).all dg = true then ∃ o3, forL always (gN 2) bl_written_integer_1 ((tl fz).map fun c => D.str ⟨#[c]⟩) [some (.str z), some (.str fz), o2] s = .nx [some (.str z), some (.str fz), o3] s else forL always (gN 2) bl_written_integer_1 ((tl fz).map fun c => D.str ⟨#[c]⟩) [some (.str z), some (.str fz), o2] s = .rt .non s := fun fz _ o2 => by
    have q := forL_two (gd := always) (g := gN 2) (b := bl_written_integer_1) (fun c => D.str ⟨#[c]⟩) (tl fz) (fun env => ∃ o2, env = [some (.str z), some (.str fz), o2]) s s dg .non trivial (fun a _ env ⟨o2, he⟩ => by
      subst he
      have := notin_figs a s
      by_cases ca : dg a = true
      · rw [if_pos ca]
        exact ⟨[some (.str z), some (.str fz), some (.str ⟨#[a]⟩)], by simp [turn, bl_written_integer_1, this, ca], _, rfl⟩
      · rw [if_neg ca]
        have ca' : dg a = false := by simpa using ca
        simp [turn, bl_written_integer_1, this, ca']) (env := [some (.str z), some (.str fz), o2]) ⟨o2, rfl⟩
    by_cases cc : (tl fz).all dg = true
    · rw [if_pos cc] at q ⊢
      obtain ⟨env', e1, o2', rfl⟩ := q
      exact ⟨o2', e1⟩
    · rw [if_neg cc] at q ⊢
      exact q
  by_cases c45 : c = 45
  · have sb : Txt.startswith z "-" = true := by rw [st]; simp [c45]
    rw [sb] at ws
    obtain ⟨fz, hfz⟩ : ∃ fz, fz = cutS z (some 1) none := ⟨_, rfl⟩
    have wc : ∀ s, dSlZ (.str z) (some 1) none s = some (.str fz, s) := fun s => by rw [dSlZ_str (by omega), hfz]
    have tf : tl fz = r := by rw [hfz]; exact cut1 e
    have ew : wi z = if r = [] ∨ 9 < z.length then none else if r.all dg = false then none else if r.head? = some 48 then none else some (-(nval r : Int)) := by
      unfold wi; rw [e]; simp only [if_pos c45]
    by_cases c1 : r = []
    · have f0 : fz = "" := tl_ext (by rw [tf, c1]; decide +kernel)
      rw [ew, if_pos (.inl c1)]
      simp [m_written_integer, b_written_integer, sb, wc, f0, wiD]
    have fne : fz ≠ "" := fun q => c1 (by rw [← tf, q]; decide +kernel)
    by_cases c2 : 9 < z.length
    · have c2' : (9 : Int) < z.length := by omega
      rw [ew, if_pos (.inr c2)]
      simp [m_written_integer, b_written_integer, sb, wc, fne, ln, c2', wiD]
    have c2' : ¬ (9 : Int) < z.length := by omega
    rw [ew, if_neg (fun q => q.elim c1 c2)]
    have lp := loop fz (by rw [tf]; exact c1) none
    rw [tf] at lp
    have hseq : fz.cps.toList = r := tf
    by_cases c3 : r.all dg = true
    · rw [if_pos c3] at lp
      obtain ⟨o2, lp⟩ := lp
      rw [if_neg (by simp [c3])]
      obtain ⟨c', r', er⟩ : ∃ c' r', r = c' :: r' := by
        cases r with
        | nil => exact absurd rfl c1
        | cons a b => exact ⟨a, b, rfl⟩
      have zh := zhead (tf.trans er) (by have := tl_len fz; have := tl_len z; rw [tf] at *; rw [e] at *; simp at *; omega) s
      have zne : z ≠ "0" := fun q => by
        have t0 : tl ("0" : Str) = [48] := by decide +kernel
        rw [q, t0] at e
        simp at e
        omega
      have hh : r.head? = some c' := by rw [er]; rfl
      rw [hh]
      by_cases c4 : c' = 48
      · rw [if_pos (by rw [c4])]
        subst c4
        simp [m_written_integer, b_written_integer, sb, wc, fne, ln, c2', hseq, lp, zh, (one_zero 48).mpr rfl, zne, wiD]
      · rw [if_neg (fun q => c4 (Option.some.inj q))]
        have oz := one_zero c'
        have ei := int_neg (by rw [e, c45]) c3 c1 (by omega) s
        simp [m_written_integer, b_written_integer, sb, wc, fne, ln, c2', hseq, lp, zh, oz, c4, ei, wiD]
    · rw [if_neg c3] at lp
      have c3' : r.all dg = false := by simpa using c3
      rw [if_pos c3']
      simp [m_written_integer, b_written_integer, sb, wc, fne, ln, c2', hseq, lp, wiD]
  · have sb : Txt.startswith z "-" = false := by rw [st]; simp [c45]
    rw [sb] at ws
    have ew : wi z = if 9 < z.length then none else if (c :: r).all dg = false then none else if c = 48 ∧ z ≠ "0" then none else (some ((nval (c :: r) : Nat) : Int) : Option Int) := by
      unfold wi; rw [e]; simp only [if_neg c45]
    by_cases c2 : 9 < z.length
    · have c2' : (9 : Int) < z.length := by omega
      rw [ew, if_pos c2]
      simp [m_written_integer, b_written_integer, sb, hz, ln, c2', wiD]
    have c2' : ¬ (9 : Int) < z.length := by omega
    rw [ew, if_neg c2]
    have lp := loop z (by rw [e]; simp) none
    have hseq : z.cps.toList = c :: r := e
    rw [e] at lp
    obtain ⟨cs, hcs⟩ : ∃ cs, cs = c :: r := ⟨_, rfl⟩
    rw [← hcs] at lp hseq ⊢
    by_cases c3 : cs.all dg = true
    · rw [if_pos c3] at lp
      obtain ⟨o2, lp⟩ := lp
      rw [if_neg (by simp [c3])]
      have zh := zhead e (by omega) s
      have ei := int_digs (z := z) (by unfold digs; rw [e, ← hcs]; exact c3) (by rw [e]; simp) (by omega) s
      rw [show tl z = cs from e.trans hcs.symm] at ei
      by_cases c4 : c = 48
      · have o0 : ({ cps := #[c] } : Str) = "0" := (one_zero c).mpr c4
        by_cases c5 : z = "0"
        · rw [if_neg (fun q => q.2 c5)]
          have ei2 := ei
          rw [c5] at ei2
          simp [m_written_integer, b_written_integer, sb, hz, ln, c2', hseq, lp, zh, o0, ei, wiD]
          rw [c5]
          simp [ei2]
        · rw [if_pos ⟨c4, c5⟩]
          simp [m_written_integer, b_written_integer, sb, hz, ln, c2', hseq, lp, zh, o0, c5, wiD]
      · rw [if_neg (fun q => c4 q.1)]
        have oz := one_zero c
        simp [m_written_integer, b_written_integer, sb, hz, ln, c2', hseq, lp, zh, oz, c4, ei, wiD]
    · rw [if_neg c3] at lp
      have c3' : cs.all dg = false := by simpa using c3
      rw [if_pos c3']
      simp [m_written_integer, b_written_integer, sb, hz, ln, c2', hseq, lp, wiD]
end Law
namespace Law
open PySem Mi
def yOf (sg : Str) (k : Int) : Int := if sg = "BC" then 1 - k else k
def due3 (sg : Str) (k : Int) : Due := if sg ≠ "AD" ∧ sg ≠ "BC" then .bad "sign" else if yOf sg k < -9999 ∨ yOf sg k > 9999 then .bad "limit" else .good (yOf sg k)
theorem wi_due {n : Str} {c : Nat} {r : List Nat} (e : tl n = c :: r) (sg : Str) : (due2 n sg = .bad "number" ∧ (wi n = none ∨ ∃ i, wi n = some i ∧ i < 1)) ∨ ∃ k, 1 ≤ k ∧ wi n = some k ∧ due2 n sg = due3 sg k := by
  have hd : (tl n).head? = some c := by rw [e]; rfl
  by_cases c45 : c = 45
  · left
    have dF : digs n = false := by unfold digs; rw [e, c45]; rfl
    refine ⟨?_, ?_⟩
    · unfold due2
      by_cases q : 9 < n.length ∨ (tl n).head? = some 48
      · rw [if_pos q]
      · rw [if_neg q, if_pos dF]
    · have ew : wi n = if r = [] ∨ 9 < n.length then none else if r.all dg = false then none else if r.head? = some 48 then none else some (-(nval r : Int)) := by
        unfold wi; rw [e]; simp only [if_pos c45]
      rw [ew]
      split
      · exact .inl rfl
      · split
        · exact .inl rfl
        · split
          · exact .inl rfl
          · exact .inr ⟨_, rfl, by omega⟩
  · have ew : wi n = if 9 < n.length then none else if (c :: r).all dg = false then none else if c = 48 ∧ n ≠ "0" then none else (some ((nval (c :: r) : Nat) : Int) : Option Int) := by
      unfold wi; rw [e]; simp only [if_neg c45]
    rw [ew]
    by_cases c9 : 9 < n.length
    · left
      exact ⟨by unfold due2; rw [if_pos (.inl c9)], .inl (by rw [if_pos c9])⟩
    rw [if_neg c9]
    by_cases cd : (c :: r).all dg = true
    · rw [if_neg (by rw [cd]; simp)]
      have dT : digs n = true := by unfold digs; rw [e]; exact cd
      by_cases c48 : c = 48
      · left
        refine ⟨by unfold due2; rw [if_pos (.inr (by rw [hd, c48]))], ?_⟩
        by_cases c0 : n = "0"
        · rw [if_neg (fun q => q.2 c0)]
          refine .inr ⟨_, rfl, ?_⟩
          have t0 : tl ("0" : Str) = [48] := by decide +kernel
          rw [c0, t0] at e
          rw [← e]
          decide
        · rw [if_pos ⟨c48, c0⟩]
          exact .inl rfl
      · right
        rw [if_neg (fun q => c48 q.1)]
        have h49 : 49 ≤ c := by
          have := digs_all cd c List.mem_cons_self
          omega
        have := nval_pos (l := r) h49
        refine ⟨_, by omega, rfl, ?_⟩
        unfold due2 due3 yOf
        rw [if_neg (fun q => q.elim c9 (fun q => c48 (Option.some.inj (hd.symm.trans q)))), if_neg (by rw [dT]; simp), e]
    · left
      have cd' : (c :: r).all dg = false := by simpa using cd
      rw [if_pos cd']
      refine ⟨?_, .inl rfl⟩
      unfold due2
      by_cases q : 9 < n.length ∨ (tl n).head? = some 48
      · rw [if_pos q]
      · rw [if_neg q, if_pos (by unfold digs; rw [e]; exact cd')]
def yfD : Due → D
  | .bad w => .tup [.non, .str w]
  | .good y => .tup [.int y, .non]
theorem ad_bc : ¬ (("AD" : Str) = "BC") := by decide +kernel
theorem bc_ad : ¬ (("BC" : Str) = "AD") := by decide +kernel
theorem yfrom_spec {n sg : Str} {c : Nat} {r : List Nat} (e : tl n = c :: r) (h : n.length ≤ 100000) {l : Nat} {s : Store} (g : s[l]? = some (.lst [.str n, .str sg])) : m_year_from [.loc l] s = .ok (yfD (due2 n sg)) s := by
  have i0 : dIxZ (.loc l) (.int 0) s = some (.str n, s) := by rw [dIxZ_loc g, dIx_loc g]; simp
  have i1 : dIxZ (.loc l) (.int 1) s = some (.str sg, s) := by rw [dIxZ_loc g, dIx_loc g]; simp
  have w := wi_spec e h s
  rcases wi_due e sg with ⟨ed, hw⟩ | ⟨k, k1, hw, ed⟩
  · rw [ed]
    rcases hw with hw | ⟨i, hw, hi⟩
    · rw [hw] at w
      simp only [wiD] at w
      simp [m_year_from, b_year_from, i0, w, yfD]
    · rw [hw] at w
      simp only [wiD] at w
      simp [m_year_from, b_year_from, i0, w, hi, yfD]
  · rw [hw] at w
    simp only [wiD] at w
    have k1' : ¬ k < 1 := by omega
    rw [ed]
    unfold due3
    by_cases sA : sg = "AD"
    · subst sA
      rw [if_neg (fun z => z.1 rfl)]
      have ey : yOf "AD" k = k := if_neg ad_bc
      rw [ey]
      have c1 : ¬ k < -9999 := by omega
      by_cases c2 : 9999 < k
      · rw [if_pos (.inr c2)]
        simp [m_year_from, b_year_from, i0, i1, w, k1', ad_bc, c1, c2, yfD]
      · rw [if_neg (by omega)]
        simp [m_year_from, b_year_from, i0, i1, w, k1', ad_bc, c1, c2, yfD]
    · by_cases sB : sg = "BC"
      · subst sB
        rw [if_neg (fun z => z.2 rfl)]
        have ey : yOf "BC" k = 1 - k := if_pos rfl
        rw [ey]
        have c2 : ¬ 9999 < 1 - k := by omega
        by_cases c1 : 1 - k < -9999
        · rw [if_pos (.inl c1)]
          simp [m_year_from, b_year_from, i0, i1, w, k1', bc_ad, c1, c2, yfD]
        · rw [if_neg (by omega)]
          simp [m_year_from, b_year_from, i0, i1, w, k1', bc_ad, c1, c2, yfD]
      · rw [if_pos ⟨sA, sB⟩]
        simp [m_year_from, b_year_from, i0, i1, w, k1', sA, sB, yfD]
def badEx (w : Str) : Ex := ⟨"BadText", [("word", .str w), ("line", .int 1)]⟩
theorem ryear_spec {t : Str} (h : t.length ≤ 100000) (s : Store) : ∃ s', Ext s s' ∧ (match due (words t) with
    | .bad w => m_read_year [.str t] s = .ex (badEx w) s'
    | .good y => m_read_year [.str t] s = .ok (.int y) s') := by
  obtain ⟨s1, e1, g1, x1⟩ := wordsof_spec h s
  refine ⟨s1, x1, ?_⟩
  have hm := fun w => words_mem (t := t) (w := w)
  have wl := dLen_loc g1
  rw [List.length_map] at wl
  generalize words t = ws at *
  by_cases c2 : ws.length = 2
  · obtain ⟨n, sg, rfl⟩ : ∃ n sg, ws = [n, sg] := by
      match ws, c2 with
      | [n, sg], _ => exact ⟨n, sg, rfl⟩
    obtain ⟨n1, n2, n3⟩ := hm n (by simp)
    obtain ⟨c, r, en⟩ : ∃ c r, tl n = c :: r := by
      cases q : tl n with
      | nil => exact absurd q n1
      | cons c r => exact ⟨c, r, rfl⟩
    have w := yfrom_spec en (by omega) g1
    have wl' : dLen [.loc (s.length + 1)] s1 = some (.int 2, s1) := wl
    show (match due2 n sg with
      | .bad w => m_read_year [.str t] s = .ex (badEx w) s1
      | .good y => m_read_year [.str t] s = .ok (.int y) s1)
    cases q : due2 n sg with
    | bad z =>
      rw [q] at w
      simp only [yfD] at w
      simp [m_read_year, b_read_year, e1, wl', w, sRaise, badEx]
    | good y =>
      rw [q] at w
      simp only [yfD] at w
      simp [m_read_year, b_read_year, e1, wl', w]
  · have ed : due ws = .bad "words" := by
      match ws, c2 with
      | [], _ => rfl
      | [_], _ => rfl
      | _ :: _ :: _ :: _, _ => rfl
      | [_, _], c2 => exact absurd rfl c2
    have c2' : ¬ ((ws.length : Nat) : Int) = 2 := by omega
    rw [ed]
    show m_read_year [.str t] s = .ex (badEx "words") s1
    simp [m_read_year, b_read_year, e1, wl, c2, c2', sRaise, badEx]
def askL : Due → List D
  | .bad w => [.int 1, .str w, .int 1]
  | .good y => [.int 0, .int y]
theorem ask_spec {t : Str} (h : t.length ≤ 100000) (s : Store) : ∃ (l : Nat) (s' : Store), m_d_law_ask [.str t] s = .ok (.loc l) s' ∧ s'[l]? = some (.lst (askL (due (words t)))) ∧ Ext s s' := by
  obtain ⟨s1, x1, q⟩ := ryear_spec h s
  cases e : due (words t) with
  | good y =>
    rw [e] at q
    refine ⟨s1.length, s1 ++ [.lst (askL (.good y))], ?_, get_new _ _, x1.trans (Ext.mk _ _)⟩
    simp only at q
    simp [m_d_law_ask, b_d_law_ask, sTryAs, q, askL]
  | bad w =>
    rw [e] at q
    refine ⟨s1.length, s1 ++ [.lst (askL (.bad w))], ?_, get_new _ _, x1.trans (Ext.mk _ _)⟩
    simp only [badEx] at q
    have w1 : ∀ g : Nat × Nat, (sSeq (sIf (tOr (tNot (tTru (eIsE g 2 "BadText" true))) (tTru (eIsE g 2 "BadText" false))) (sRet (eLst (aCons (eC (.int 2)) (aNil)))) (sNil)) (sRet (eLst (aCons (eC (.int 1)) (aCons (eFld g 2 "word") (aCons (eFld g 2 "line") (aNil))))))) [some (.str t), none, some (.exv g.1 g.2 "BadText" [("word", .str w), ("line", .int 1)])] s1 = .rt (.loc s1.length) (s1 ++ [.lst (askL (.bad w))]) := fun g => by
      have l1 : List.lookup ("word" : Str) [(("word" : Str), D.str w), ("line", .int 1)] = some (.str w) := by
        rw [List.lookup_cons_self]
      have nl : (("line" : Str) == "word") = false := by decide +kernel
      have l2 : List.lookup ("line" : Str) [(("word" : Str), D.str w), ("line", .int 1)] = some (.int 1) := by
        rw [List.lookup_cons, nl]
        simp [List.lookup_cons_self]
      simp [eIsE, eFld, l1, l2, askL]
    have tr : sTryAs 2 ["BadText"] (sSet 1 (eCall m_read_year (aCons (eV 0) (aNil)))) (fun g => sSeq (sIf (tOr (tNot (tTru (eIsE g 2 "BadText" true))) (tTru (eIsE g 2 "BadText" false))) (sRet (eLst (aCons (eC (.int 2)) (aNil)))) (sNil)) (sRet (eLst (aCons (eC (.int 1)) (aCons (eFld g 2 "word") (aCons (eFld g 2 "line") (aNil))))))) [some (.str t), none, none] s = .rt (.loc s1.length) (s1 ++ [.lst (askL (.bad w))]) := by
      refine tryAs_ex (e := ⟨"BadText", [("word", .str w), ("line", .int 1)]⟩) (env2 := [some (.str t), none, none]) (s2 := s1) (by simp [q]) (by simp) (by simp) fun g => ?_
      simp only [List.set_cons_succ, List.set_cons_zero, w1]
      rfl
    unfold m_d_law_ask b_d_law_ask
    rw [fnM_eq]
    show (match RS.bind (sTryAs 2 ["BadText"] (sSet 1 (eCall m_read_year (aCons (eV 0) (aNil)))) (fun g => sSeq (sIf (tOr (tNot (tTru (eIsE g 2 "BadText" true))) (tTru (eIsE g 2 "BadText" false))) (sRet (eLst (aCons (eC (.int 2)) (aNil)))) (sNil)) (sRet (eLst (aCons (eC (.int 1)) (aCons (eFld g 2 "word") (aCons (eFld g 2 "line") (aNil))))))) [some (.str t), none, none] s) _ with | .rt d s => Mi.R.ok d s | .nx _ s => .ok .non s | .ex e _ s => .ex e s | _ => .no) = _
    rw [tr]
    rfl
/-- it says True of any text -/
theorem right_spec {t : Str} (h : t.length ≤ 100000) (s : Store) : ∃ s', m_d_law_right [.str t] s = .ok (.bl true) s' ∧ Ext s s' := by
  obtain ⟨l, s1, e1, g1, x1⟩ := ask_spec h s
  obtain ⟨k, s2, e2, g2, x2⟩ := ldue_spec h s1
  have g1' := x2.get g1
  refine ⟨s2, ?_, x1.trans x2⟩
  have isI : ∀ i s, m_d_law_is_integer [.int i] s = .ok (.bl true) s := fun i s => by simp [m_d_law_is_integer, b_d_law_is_integer, dIsi]
  cases q : due (words t) with
  | good y =>
    rw [q] at g1' g2
    simp only [askL, dueL] at g1' g2
    have a0 : dIxZ (.loc l) (.int 0) s2 = some (.int 0, s2) := by rw [dIxZ_loc g1', dIx_loc g1']; simp
    have a1 : dIxZ (.loc l) (.int 1) s2 = some (.int y, s2) := by rw [dIxZ_loc g1', dIx_loc g1']; simp
    have b0 : dIxZ (.loc k) (.int 0) s2 = some (.int 0, s2) := by rw [dIxZ_loc g2, dIx_loc g2]; simp
    have b1 : dIxZ (.loc k) (.int 1) s2 = some (.int y, s2) := by rw [dIxZ_loc g2, dIx_loc g2]; simp
    simp [m_d_law_right, b_d_law_right, e1, e2, a0, a1, b0, b1, isI]
  | bad w =>
    rw [q] at g1' g2
    simp only [askL, dueL] at g1' g2
    have a0 : dIxZ (.loc l) (.int 0) s2 = some (.int 1, s2) := by rw [dIxZ_loc g1', dIx_loc g1']; simp
    have a1 : dIxZ (.loc l) (.int 1) s2 = some (.str w, s2) := by rw [dIxZ_loc g1', dIx_loc g1']; simp
    have a2 : dIxZ (.loc l) (.int 2) s2 = some (.int 1, s2) := by rw [dIxZ_loc g1', dIx_loc g1']; simp
    have b0 : dIxZ (.loc k) (.int 0) s2 = some (.int 1, s2) := by rw [dIxZ_loc g2, dIx_loc g2]; simp
    have b1 : dIxZ (.loc k) (.int 1) s2 = some (.str w, s2) := by rw [dIxZ_loc g2, dIx_loc g2]; simp
    simp [m_d_law_right, b_d_law_right, e1, e2, a0, a1, a2, b0, b1, isI, dIsi]
end Law
namespace Law
open PySem Mi
/-! ### draws -/
theorem Pool.app {p : Nat} {s : Store} (h : Pool p s) (r : Store) : Pool p (s ++ r) := by
  obtain ⟨x, xs, h1, h2⟩ := h
  exact ⟨x, xs, by rw [List.getElem?_append_left (lt_of_get h1)]; exact h1, h2⟩
theorem Pool.lt {p : Nat} {s : Store} (h : Pool p s) : p < s.length := let ⟨_, _, h1, _⟩ := h; lt_of_get h1
theorem Pool.set {p l : Nat} {s : Store} (h : Pool p s) (n : l ≠ p) (x : Cell) : Pool p (s.set l x) := by
  obtain ⟨y, xs, h1, h2⟩ := h
  exact ⟨y, xs, by rw [List.getElem?_set_ne n]; exact h1, h2⟩
theorem Kp.get {p : Nat} {s s' : Store} (a : Kp p s s') {l : Nat} {x : Cell} (h : s[l]? = some x) (n : l ≠ p) : s'[l]? = some x := by
  rw [a.2 l (lt_of_get h) n]
  exact h
theorem Kp.ext {p : Nat} {s s' : Store} (x : Ext s s') : Kp p s s' := by
  obtain ⟨r, rfl⟩ := x
  exact Kp.app _ _ _
theorem Pool.ext {p : Nat} {s s' : Store} (h : Pool p s) (x : Ext s s') : Pool p s' := by
  obtain ⟨r, rfl⟩ := x
  exact h.app r
theorem Kp.setNew {p l : Nat} {s s' : Store} (k : Kp p s s') (h : s.length ≤ l) (x : Cell) : Kp p s (s'.set l x) :=
  ⟨by rw [List.length_set]; exact k.1, fun i hi a => by rw [List.getElem?_set_ne (by omega)]; exact k.2 i hi a⟩
theorem zmem {s : Store} {l : Nat} {xs : List D} (h : s[l]? = some (.lst xs)) {i : Int} (h0 : 0 ≤ i) (h1 : i < xs.length) : ∃ a, a ∈ xs ∧ dIxZ (.loc l) (.int i) s = some (a, s) := by
  obtain ⟨a, ha, e⟩ := ixL_mem h h0 h1
  exact ⟨a, ha, by rw [dIxZ_loc h]; exact e⟩
/-- a list laid new, an item of it drawn -/
theorem drawn {p : Nat} {s : Store} (hp : Pool p s) {L : List D} {n : Nat} (hn : L.length = n) (h0 : 0 < n) (h1 : n ≤ 100) : ∃ (j : Int) (s1 : Store) (d : D), m_d_law_draw [.loc p, .int n] (s ++ [.lst L]) = .ok (.int j) s1 ∧ d ∈ L ∧ dIxZ (.loc s.length) (.int j) s1 = some (d, s1) ∧ Pool p s1 ∧ Kp p s s1 := by
  obtain ⟨j, s1, e1, j0, j1, p1, k1⟩ := draw_spec (hp.app [.lst L]) (many := n) (by omega) (by omega)
  have g := Kp.get k1 (get_new s (.lst L)) (Nat.ne_of_gt hp.lt)
  obtain ⟨d, hd, wd⟩ := zmem g (i := j) j0 (by omega)
  exact ⟨j, s1, d, e1, hd, wd, p1, (Kp.app p s _).trans k1⟩
theorem lyear_spec {p : Nat} {s : Store} (h : Pool p s) : ∃ (y : Int) (s' : Store), m_d_law_year [.loc p] s = .ok (.int y) s' ∧ -9999 ≤ y ∧ y ≤ 9999 ∧ Pool p s' ∧ Kp p s s' := by
  obtain ⟨t, s1, r1, t0, t1, p1, k1⟩ := draw_spec h (many := 5) (by omega) (by omega)
  by_cases c0 : t = 0
  · obtain ⟨j, s2, d, r2, hd, wd, p2, k2⟩ := drawn p1 (L := [.int (-9999), .int 9999, .int (-9998), .int 9998, .int (-9990), .int 9990]) (n := 6) rfl (by omega) (by omega)
    obtain ⟨y, rfl, hy⟩ : ∃ y : Int, d = .int y ∧ -9999 ≤ y ∧ y ≤ 9999 := by
      simp only [List.mem_cons, List.mem_nil_iff, or_false] at hd
      rcases hd with rfl | rfl | rfl | rfl | rfl | rfl <;> exact ⟨_, rfl, by omega, by omega⟩
    simp at r2
    exact ⟨y, s2, by simp [m_d_law_year, b_d_law_year, r1, c0, r2, wd], hy.1, hy.2, p2, k1.trans k2⟩
  by_cases c1 : t = 1
  · obtain ⟨j, s2, r2, j0, j1, p2, k2⟩ := draw_spec p1 (many := 7) (by omega) (by omega)
    exact ⟨j - 3, s2, by simp [m_d_law_year, b_d_law_year, r1, c1, r2], by omega, by omega, p2, k1.trans k2⟩
  by_cases c2 : t = 2
  · obtain ⟨j, s2, d, r2, hd, wd, p2, k2⟩ := drawn p1 (L := [.int 9, .int 99, .int 999, .int 10, .int 100, .int 1000]) (n := 6) rfl (by omega) (by omega)
    obtain ⟨v, rfl, hv⟩ : ∃ v : Int, d = .int v ∧ 9 ≤ v ∧ v ≤ 1000 := by
      simp only [List.mem_cons, List.mem_nil_iff, or_false] at hd
      rcases hd with rfl | rfl | rfl | rfl | rfl | rfl <;> exact ⟨_, rfl, by omega, by omega⟩
    obtain ⟨a, s3, r3, a0, a1, p3, k3⟩ := draw_spec p2 (many := 3) (by omega) (by omega)
    obtain ⟨b, s4, r4, b0, b1, p4, k4⟩ := draw_spec p3 (many := 2) (by omega) (by omega)
    simp at r2
    have wm : ∀ s, dMul (.int (v + a - 1)) (.int (1 - 2 * b)) s = some (.int ((v + a - 1) * (1 - 2 * b)), s) := fun s => dMul_r _ _ s ⟨by omega, by omega⟩
    have w2 : ∀ s, dMul (.int 2) (.int b) s = some (.int (2 * b), s) := fun s => dMul_r _ _ s ⟨by omega, by omega⟩
    refine ⟨(v + a - 1) * (1 - 2 * b), s4, by simp [m_d_law_year, b_d_law_year, r1, c2, r2, wd, r3, r4, wm, w2], ?_, ?_, p4, ((k1.trans k2).trans k3).trans k4⟩
    · rcases (by omega : b = 0 ∨ b = 1) with rfl | rfl <;> omega
    · rcases (by omega : b = 0 ∨ b = 1) with rfl | rfl <;> omega
  · obtain ⟨j, s2, r2, j0, j1, p2, k2⟩ := draw_spec p1 (many := 19999) (by omega) (by omega)
    exact ⟨j - 9999, s2, by simp [m_d_law_year, b_d_law_year, r1, c0, c1, c2, r2], by omega, by omega, p2, k1.trans k2⟩
/-! ### numerals -/
def num (k : Nat) : Str := toString (k : Int)
theorem tl_numeral (k : Nat) : tl (num k) = TL.numL k := TL.tl_num k
theorem str_num {k : Nat} (h : k < 2000000000) (s : Store) : dStr [.int (k : Int)] s = some (.str (num k), s) := by
  have g : ((k : Int)).natAbs.log2 < 1920 := by
    rw [Int.natAbs_natCast]
    by_cases k0 : k = 0
    · subst k0; decide
    · have : k.log2 < 31 := (Nat.log2_lt k0).mpr (by omega)
      omega
  simp only [dStr]
  rw [if_pos g]
  rfl
/-! ### the words of a year -/
def NoSp (z : Str) : Prop := 32 ∉ tl z
def WOk (z : Str) : Prop := NoSp z ∧ z.length ≤ 40
theorem wok_lit {z : Str} (h : (!(tl z).contains 32 && decide (z.length ≤ 40)) = true) : WOk z := by
  rw [Bool.and_eq_true] at h
  refine ⟨fun q => ?_, by simpa using h.2⟩
  have : (tl z).contains 32 = true := by simpa using q
  rw [this] at h
  simp at h
theorem num_len {k : Nat} (h : k < 2000000000) : (num k).length ≤ 10 := by
  rw [← tl_len, tl_numeral]
  exact TL.numL_len (by omega) (by omega)
theorem num_ok {k : Nat} (h : k < 2000000000) : WOk (num k) := ⟨by
  unfold NoSp
  rw [tl_numeral]
  exact TL.numL_free (.inl (by omega)), by have := num_len h; omega⟩
theorem num_digs (k : Nat) : digs (num k) = true := by
  unfold digs
  rw [tl_numeral]
  refine List.all_eq_true.mpr fun c hc => ?_
  have := TL.numL_digits k c hc
  simp [dg, this.1, this.2]
theorem num_val (k : Nat) : nval (tl (num k)) = k := by rw [tl_numeral]; exact TL.numL_val k
theorem num_ne (k : Nat) : tl (num k) ≠ [] := by rw [tl_numeral]; exact TL.numL_ne k
theorem num_head {k : Nat} (h : 1 ≤ k) : (tl (num k)).head? ≠ some 48 := by
  rw [tl_numeral]
  induction k using Nat.strongRecOn with
  | ind k ih =>
    by_cases hk : k < 10
    · rw [TL.numL_lt hk]
      simp
      omega
    · rw [TL.numL_step (by omega)]
      have q := ih (k / 10) (by omega) (by omega)
      have ne := TL.numL_ne (k / 10)
      cases e : TL.numL (k / 10) with
      | nil => exact absurd e ne
      | cons a r => rw [e] at q; simpa using q
def yn (y : Int) : Nat := if 1 ≤ y then y.toNat else (1 - y).toNat
def ys (y : Int) : Str := if 1 ≤ y then "AD" else "BC"
theorem yn_pos {y : Int} (h0 : -9999 ≤ y) (h1 : y ≤ 9999) : 1 ≤ yn y ∧ yn y ≤ 10000 := by unfold yn; split <;> omega
theorem ys_ok (y : Int) : WOk (ys y) ∧ tl (ys y) ≠ [] := by
  unfold ys
  split <;> exact ⟨wok_lit (by decide +kernel), by decide +kernel⟩
theorem wordsof_year {y : Int} (h0 : -9999 ≤ y) (h1 : y ≤ 9999) (s : Store) : m_d_law_words_of [.int y] s = .ok (.loc s.length) (s ++ [.lst ([num (yn y), ys y].map D.str)]) := by
  have hy := yn_pos h0 h1
  have w := str_num (k := yn y) (by omega) s
  by_cases c : 1 ≤ y
  · have e : ((yn y : Nat) : Int) = y := by unfold yn; rw [if_pos c]; omega
    have e2 : ys y = "AD" := if_pos c
    rw [e] at w
    simp [m_d_law_words_of, b_d_law_words_of, c, w, e2]
  · have e : ((yn y : Nat) : Int) = 1 - y := by unfold yn; rw [if_neg c]; omega
    have e2 : ys y = "BC" := if_neg c
    rw [e] at w
    simp [m_d_law_words_of, b_d_law_words_of, c, w, e2]
theorem due_year {y : Int} (h0 : -9999 ≤ y) (h1 : y ≤ 9999) : due [num (yn y), ys y] = .good y := by
  have hy := yn_pos h0 h1
  have hl : (num (yn y)).length ≤ 5 := by
    rw [← tl_len, tl_numeral]
    exact TL.numL_len (by omega) (by omega)
  show due2 (num (yn y)) (ys y) = .good y
  have hh := num_head hy.1
  unfold due2
  rw [if_neg (fun q => q.elim (by omega) hh), if_neg (by rw [num_digs]; simp), num_val]
  unfold ys
  by_cases c : 1 ≤ y
  · have e : ((yn y : Nat) : Int) = y := by unfold yn; rw [if_pos c]; omega
    rw [if_pos c, if_neg (fun z => z.1 rfl), if_neg ad_bc, e, if_neg (by omega)]
  · have e : ((yn y : Nat) : Int) = 1 - y := by unfold yn; rw [if_neg c]; omega
    rw [if_neg c, if_neg (fun z => z.2 rfl), if_pos rfl, e, show 1 - (1 - y) = y by omega, if_neg (by omega)]
theorem ytext_spec {y : Int} (h0 : -9999 ≤ y) (h1 : y ≤ 9999) (s : Store) : m_year_text [.int y] s = .ok (.str (num (yn y) ++ " " ++ ys y)) s := by
  have hy := yn_pos h0 h1
  have nl := num_len (k := yn y) (by omega)
  have w := str_num (k := yn y) (by omega) s
  have em : ∀ z : Str, Str.empty ++ z = z := fun z => tl_ext (by rw [tl_app]; rfl)
  have as : ∀ a b c : Str, a ++ b ++ c = a ++ (b ++ c) := fun a b c => tl_ext (by rw [tl_app, tl_app, tl_app, tl_app, List.append_assoc])
  have ld : ∀ i : Int, i = (yn y : Nat) → i.natAbs.log2 < 1920 := fun i hi => by
    subst hi
    rw [Int.natAbs_natCast]
    by_cases k0 : yn y = 0
    · omega
    · have : (yn y).log2 < 31 := (Nat.log2_lt k0).mpr (by omega)
      omega
  have lz : ∀ z : Str, (num (yn y) ++ z).length = (num (yn y)).length + z.length := fun z => PySem.Str.length_append _ _
  by_cases c : 1 ≤ y
  · have e : ((yn y : Nat) : Int) = y := by unfold yn; rw [if_pos c]; omega
    have e2 : ys y = "AD" := if_pos c
    have l3 : (" AD" : Str).length = 3 := by decide +kernel
    have e3 : (" AD" : Str) = " " ++ "AD" := by decide +kernel
    have en : Str.ofString (Int.repr y) = num (yn y) := by unfold num; rw [e]; rfl
    have c' : 0 < y := by omega
    have l4 := lz " AD"
    simp only [m_year_text, b_year_text]
    rw [fnM_eq, e2, as, ← e3]
    generalize num (yn y) = z at *
    have z1 : z.length ≤ 1000000 := by omega
    have z2 : (z ++ " AD").length ≤ 1000000 := by omega
    simp [c', ld y e.symm, en, em, z1, z2]
  · have e : ((yn y : Nat) : Int) = 1 - y := by unfold yn; rw [if_neg c]; omega
    have e2 : ys y = "BC" := if_neg c
    have l3 : (" BC" : Str).length = 3 := by decide +kernel
    have e3 : (" BC" : Str) = " " ++ "BC" := by decide +kernel
    have en : Str.ofString (Int.repr (1 - y)) = num (yn y) := by unfold num; rw [e]; rfl
    have c' : ¬ 0 < y := by omega
    have l4 := lz " BC"
    simp only [m_year_text, b_year_text]
    rw [fnM_eq, e2, as, ← e3]
    generalize num (yn y) = z at *
    have z1 : z.length ≤ 1000000 := by omega
    have z2 : (z ++ " BC").length ≤ 1000000 := by omega
    simp [c', ld (1 - y) e.symm, en, em, z1, z2]
end Law
namespace Law
open PySem Mi
def sp (k : Nat) : Str := repS " " (k : Nat)
theorem tl_sp (k : Nat) : tl (sp k) = List.replicate k 32 := by
  have e : tl (" " : Str) = [32] := by decide +kernel
  show ((List.replicate ((k : Nat) : Int).toNat (tl (" " : Str))).flatten.toArray).toList = _
  rw [e, Int.toNat_natCast]
  induction k with
  | zero => rfl
  | succ k ih =>
    rw [List.replicate_succ, List.flatten_cons, List.replicate_succ]
    simpa using ih
theorem sp_len (k : Nat) : (sp k).length = k := by rw [← tl_len, tl_sp, List.length_replicate]
theorem mul_sp {k : Nat} (h : k ≤ 100000) (s : Store) : dMulS (.str " ") (.int (k : Nat)) s = some (.str (sp k), s) :=
  dMulS_str (by omega) (by omega) (by
    have : (" " : Str).length = 1 := by decide +kernel
    rw [this]
    omega) s
theorem spaces_spec {p : Nat} {s : Store} (h : Pool p s) {least : Nat} (hl : least ≤ 10) : ∃ (k : Nat) (s' : Store), m_d_law_spaces [.loc p, .int (least : Nat)] s = .ok (.str (sp (least + k))) s' ∧ k ≤ 7 ∧ Pool p s' ∧ Kp p s s' := by
  obtain ⟨j, s2, d, r2, hd, wd, p2, k2⟩ := drawn h (L := [.int 0, .int 0, .int 1, .int 2, .int 7]) (n := 5) rfl (by omega) (by omega)
  obtain ⟨v, rfl, hv⟩ : ∃ v : Nat, d = .int (v : Nat) ∧ v ≤ 7 := by
    simp only [List.mem_cons, List.mem_nil_iff, or_false] at hd
    rcases hd with rfl | rfl | rfl | rfl | rfl
    · exact ⟨0, rfl, by omega⟩
    · exact ⟨0, rfl, by omega⟩
    · exact ⟨1, rfl, by omega⟩
    · exact ⟨2, rfl, by omega⟩
    · exact ⟨7, rfl, by omega⟩
  simp at r2
  have w := mul_sp (k := least + v) (by omega) s2
  rw [show ((least + v : Nat) : Int) = (least : Int) + (v : Int) by omega] at w
  exact ⟨v, s2, by simp [m_d_law_spaces, b_d_law_spaces, r2, wd, w], hv, p2, k2⟩
theorem ne0_app (a b : List (List Nat)) : ne0 (a ++ b) = ne0 a ++ ne0 b := List.filter_append ..
theorem slen (a b : Str) : (a ++ b).length = a.length + b.length := PySem.Str.length_append _ _
theorem sadd {a b : Str} (ha : a.length ≤ 100000) (hb : b.length ≤ 100000) (s : Store) : dAdd (.str a) (.str b) s = some (.str (a ++ b), s) := dAdd_s (by omega) s
theorem line_spec {p lw : Nat} {s : Store} (h : Pool p s) {ws : List Str} (g : s[lw]? = some (.lst (ws.map D.str))) (n : lw ≠ p) (hok : ∀ w ∈ ws, WOk w) (hl : ws.length ≤ 10) :
    ∃ (z : Str) (s' : Store), m_d_law_line [.loc p, .loc lw] s = .ok (.str z) s' ∧ W (tl z) = ne0 (ws.map tl) ∧ z.length ≤ 1000 ∧ Pool p s' ∧ Kp p s s' := by
  obtain ⟨k0, s1, r1, hk0, p1, k1⟩ := spaces_spec h (least := 0) (by omega)
  have er := rangeOf_int s1 (ws.length : Int) (by omega) (by omega)
  rw [Int.toNat_natCast] at er
  obtain ⟨env', s2, e, z, o3, rfl, p2, k2, hW, hz, _⟩ := forL_atT (gd := always) (g := gN 3) (b := bl_d_law_line_1) (rng ws.length)
    (fun i env s' => ∃ (z : Str) (o3 : Option D), env = [some (.loc p), some (.loc lw), some (.str z), o3] ∧ Pool p s' ∧ Kp p s s' ∧ W (tl z) = ne0 ((ws.take i).map tl) ∧ z.length ≤ 10 + 50 * i ∧ (i = 0 → ∃ k, tl z = List.replicate k 32)) (fun _ _ _ _ => trivial)
    (env := [some (.loc p), some (.loc lw), some (.str (sp (0 + k0))), none]) (s := s1) (fun i x env s2 hx ⟨z, o3, he, p2, k2, hW, hz, h0⟩ => by
      subst he
      obtain ⟨hi, rfl⟩ := rng_get hx
      have hw : ws[i]? = some ws[i] := by simp [hi]
      have hwm : ws[i] ∈ ws := List.getElem_mem hi
      generalize ws[i] = w at *
      obtain ⟨w1, w2⟩ := hok w hwm
      have tk : ws.take (i + 1) = ws.take i ++ [w] := by rw [List.take_succ, hw]; rfl
      have look : ∀ s', Kp p s s' → dIxZ (.loc lw) (.int (i : Nat)) s' = some (.str w, s') := fun s' k' => by
        have g' := Kp.get k' g n
        rw [dIxZ_loc g', dIx_loc g', L2.atI_nat (v := D.str w) (by simp [hw])]
        rfl
      by_cases c0 : i = 0
      · subst c0
        obtain ⟨k, hk⟩ := h0 rfl
        have a := sadd (a := z) (b := w) (by omega) (by omega) s2
        have hW2 : W (tl (z ++ w)) = ne0 ((ws.take 1).map tl) := by
          rw [tl_app, hk, W_first k w1, tk]
          simp
        have l0 := look s2 k2
        have l3 := slen z w
        simp [bl_d_law_line_1] at *
        simp [l0, a]
        exact ⟨p2, k2, hW2, by omega⟩
      · obtain ⟨k, s3, r3, hk, p3, k3⟩ := spaces_spec p2 (least := 1) (by omega)
        have i0 : 0 < i := by omega
        have a1 := sadd (a := z) (b := sp (1 + k)) (by omega) (by rw [sp_len]; omega) s3
        have l1 := slen z (sp (1 + k))
        rw [sp_len] at l1
        have a2 := sadd (a := z ++ sp (1 + k)) (b := w) (by omega) (by omega) s3
        have l2 := slen (z ++ sp (1 + k)) w
        have l3 := look s3 (k2.trans k3)
        have hW2 : W (tl (z ++ sp (1 + k) ++ w)) = ne0 ((ws.take (i + 1)).map tl) := by
          rw [tl_app, tl_app, tl_sp, show 1 + k = k + 1 by omega, W_next _ k w1, hW, tk, List.map_append, ne0_app]
          rfl
        have fin : Pool p s3 ∧ Kp p s s3 ∧ W (tl (z ++ sp (1 + k) ++ w)) = ne0 ((ws.take (i + 1)).map tl) ∧ (z ++ sp (1 + k) ++ w).length ≤ 10 + 50 * (i + 1) := ⟨p3, k2.trans k3, hW2, by omega⟩
        generalize z ++ sp (1 + k) ++ w = zz at *
        generalize z ++ sp (1 + k) = zy at *
        generalize sp (1 + k) = sk at *
        have r3' : m_d_law_spaces [.loc p, .int 1] s2 = .ok (.str sk) s3 := r3
        simp [turn, bl_d_law_line_1, i0, r3', a1, a2, l3]
        simpa using fin) ⟨_, none, rfl, p1, k1, by rw [tl_sp, ← List.nil_append (List.replicate _ _), W_spaces, W_nil]; rfl, by rw [sp_len]; omega, fun _ => ⟨_, tl_sp _⟩⟩
  rw [rng_len] at hW hz
  rw [List.take_of_length_le (Nat.le_refl _)] at hW
  obtain ⟨k, s3, r3, hk, p3, k3⟩ := spaces_spec p2 (least := 0) (by omega)
  have a1 := sadd (a := z) (b := sp (0 + k)) (by omega) (by rw [sp_len]; omega) s3
  have l1 := slen z (sp (0 + k))
  rw [sp_len] at l1
  refine ⟨z ++ sp (0 + k), s3, ?_, by rw [tl_app, tl_sp, W_spaces, hW], by omega, p3, k2.trans k3⟩
  have wl := dLen_loc (Kp.get k1 g n)
  rw [List.length_map] at wl
  generalize z ++ sp (0 + k) = zz at *
  generalize sp (0 + k) = sk at *
  generalize sp (0 + k0) = sk0 at *
  have r1' : m_d_law_spaces [.loc p, .int 0] s = .ok (.str sk0) s1 := r1
  have r3' : m_d_law_spaces [.loc p, .int 0] s2 = .ok (.str sk) s3 := r3
  simp [m_d_law_line, b_d_law_line, r1', wl, er, e, r3', a1]
end Law
namespace Law
open PySem Mi L2
theorem cut_sub {z : Str} {lo hi : Option Int} {c : Nat} (h : c ∈ tl (cutS z lo hi)) : c ∈ tl z := List.mem_of_mem_drop (List.mem_of_mem_take (by simpa [cutS, tl] using h))
theorem cut_le (z : Str) (lo hi : Option Int) : (cutS z lo hi).length ≤ z.length := by
  rw [← tl_len, ← tl_len]
  unfold cutS
  simp only [tl]
  rw [List.length_take, List.length_drop]
  omega
def sgB : Str := "!\"#$&'()*+,-./0123456789:;<=>?@ABCDEFGHIJKLMNOPQRSTUVWXYZ[\\]^_`"
def sgA : Str := sgB ++ "abcdefghijklmnopqrstuvwxyz{|}~"
def sgC : Str := "0-+_.,'/:ADBCadbce"
theorem sgA_ok : 32 ∉ tl sgA ∧ 0 < sgA.length ∧ sgA.length ≤ 1000 := by
  refine ⟨?_, by decide +kernel, by decide +kernel⟩
  decide +kernel
theorem sgC_ok : 32 ∉ tl sgC ∧ 0 < sgC.length ∧ sgC.length ≤ 1000 := by
  refine ⟨?_, by decide +kernel, by decide +kernel⟩
  decide +kernel
theorem signs_spec (s : Store) : m_d_law_signs [] s = .ok (.str sgA) s := by
  have a := sadd (a := sgB) (b := "abcdefghijklmnopqrstuvwxyz{|}~") (by decide +kernel) (by decide +kernel) s
  have e : (sgB ++ "abcdefghijklmnopqrstuvwxyz{|}~" : Str) = sgA := rfl
  have e0 : ("!\"#$&'()*+,-./0123456789:;<=>?@ABCDEFGHIJKLMNOPQRSTUVWXYZ[\\]^_`" : Str) = sgB := rfl
  rw [e] at a
  unfold m_d_law_signs b_d_law_signs
  rw [e0]
  generalize sgB = b at *
  generalize sgA = z at *
  simp [a]
theorem sign_at {z : Str} (h : z.length ≤ 1000) {j : Int} (j0 : 0 ≤ j) (j1 : j < z.length) (s : Store) : ∃ c, c ∈ tl z ∧ dIxZ (.str z) (.int j) s = some (.str ⟨#[c]⟩, s) := by
  obtain ⟨n, rfl⟩ := Int.eq_ofNat_of_zero_le j0
  have hn : n < (tl z).length := by rw [tl_len]; omega
  refine ⟨(tl z)[n], List.getElem_mem _, ?_⟩
  rw [dIxZ_str (by omega)]
  have : L2.atI (tl z) ((n : Nat) : Int) = some (tl z)[n] := L2.atI_nat (by simp [hn])
  show (L2.atI (tl z) ((n : Nat) : Int)).map _ = _
  rw [this]
  rfl
theorem setin_spec {p : Nat} {s : Store} (h : Pool p s) {w : Str} (w1 : NoSp w) (w2 : w.length ≤ 30) : ∃ (z : Str) (s' : Store), m_d_law_set_in [.loc p, .str w] s = .ok (.str z) s' ∧ NoSp z ∧ z.length ≤ w.length + 1 ∧ Pool p s' ∧ Kp p s s' := by
  obtain ⟨a, s1, r1, a0, a1, p1, k1⟩ := draw_spec h (many := 2) (by omega) (by omega)
  have sg := signs_spec s
  have main : ∀ sgn : Str, 32 ∉ tl sgn → 0 < sgn.length → sgn.length ≤ 1000 → ∃ (j pl b : Int) (c : Nat) (s2 s3 s4 : Store), dLen [.str sgn] s1 = some (.int sgn.length, s1) ∧ m_d_law_draw [.loc p, .int sgn.length] s1 = .ok (.int j) s2 ∧ c ∈ tl sgn ∧ dIxZ (.str sgn) (.int j) s2 = some (.str ⟨#[c]⟩, s2) ∧
      (∀ s, dLen [.str w] s = some (.int w.length, s)) ∧ m_d_law_often_end [.loc p, .int (w.length + 1)] s2 = .ok (.int pl) s3 ∧ 0 ≤ pl ∧ pl ≤ w.length ∧ m_d_law_draw [.loc p, .int 2] s3 = .ok (.int b) s4 ∧ Pool p s4 ∧ Kp p s s4 := fun sgn q1 q2 q3 => by
    obtain ⟨j, s2, r2, j0, j1, p2, k2⟩ := draw_spec p1 (many := sgn.length) (by omega) (by omega)
    obtain ⟨c, hc, wc⟩ := sign_at q3 j0 j1 s2
    obtain ⟨pl, s3, r3, l0, l1, p3, k3⟩ := often_spec p2 (many := (w.length : Int) + 1) (by omega) (by omega)
    obtain ⟨b, s4, r4, b0, b1, p4, k4⟩ := draw_spec p3 (many := 2) (by omega) (by omega)
    refine ⟨j, pl, b, c, s2, s3, s4, ?_, r2, hc, wc, fun s => ?_, r3, l0, by omega, r4, p4, ((k1.trans k2).trans k3).trans k4⟩
    · have : sgn.length ≤ 16777216 := by omega
      simp [dLen, this]
    · have : w.length ≤ 16777216 := by omega
      simp [dLen, this]
  have fin : ∀ (c : Nat) (lo : Option Int) (pl : Int), 0 ≤ pl → pl ≤ w.length → c ≠ 32 → (∃ k, lo = some k ∧ pl ≤ k) → ∀ s : Store, dSlZ (.str w) none (some pl) s = some (.str (cutS w none (some pl)), s) ∧ dAdd (.str (cutS w none (some pl))) (.str ⟨#[c]⟩) s = some (.str (cutS w none (some pl) ++ ⟨#[c]⟩), s) ∧ dSlZ (.str w) lo none s = some (.str (cutS w lo none), s) ∧
      dAdd (.str (cutS w none (some pl) ++ ⟨#[c]⟩)) (.str (cutS w lo none)) s = some (.str (cutS w none (some pl) ++ ⟨#[c]⟩ ++ cutS w lo none), s) ∧ NoSp (cutS w none (some pl) ++ ⟨#[c]⟩ ++ cutS w lo none) ∧ (cutS w none (some pl) ++ ⟨#[c]⟩ ++ cutS w lo none).length ≤ w.length + 1 := fun c lo pl l0 l1 hc ⟨k, hlo, hk⟩ s => by
    have q1 := cut_le w none (some pl)
    have q2 := cut_le w lo none
    have q3 : (⟨#[c]⟩ : Str).length = 1 := rfl
    have q4 := slen (cutS w none (some pl)) ⟨#[c]⟩
    have q5 := slen (cutS w none (some pl) ++ ⟨#[c]⟩) (cutS w lo none)
    have q6 : (cutS w none (some pl)).length + (cutS w lo none).length ≤ w.length := by
      obtain ⟨pn, rfl⟩ := Int.eq_ofNat_of_zero_le l0
      obtain ⟨kn, rfl⟩ := Int.eq_ofNat_of_zero_le (by omega : 0 ≤ k)
      subst hlo
      rw [← tl_len, ← tl_len]
      unfold cutS
      simp only [tl]
      rw [List.length_take, List.length_drop, List.length_take, List.length_drop, HT.sIx_none, HT.sIx_none, HT.sIx_nat, HT.sIx_nat]
      have : w.cps.toList.length = w.length := tl_len w
      omega
    refine ⟨dSlZ_str (by omega) _ _ s, sadd (by omega) (by omega) s, dSlZ_str (by omega) _ _ s, sadd (by omega) (by omega) s, ?_, by omega⟩
    intro z
    rw [tl_app, tl_app, List.mem_append, List.mem_append] at z
    rcases z with (z | z) | z
    · exact w1 (cut_sub z)
    · have : (32 : Nat) = c := by simpa [tl] using z
      exact hc this.symm
    · exact w1 (cut_sub z)
  have go : ∀ sgn : Str, 32 ∉ tl sgn → 0 < sgn.length → sgn.length ≤ 1000 → (a = 0 ∧ sgn = sgC ∨ ¬ a = 0 ∧ sgn = sgA) → ∃ (z : Str) (s' : Store), m_d_law_set_in [.loc p, .str w] s = .ok (.str z) s' ∧ NoSp z ∧ z.length ≤ w.length + 1 ∧ Pool p s' ∧ Kp p s s' := fun sgn q1 q2 q3 hs => by
    obtain ⟨j, pl, b, c, s2, s3, s4, e1, e2, hc, e3, e4, e5, l0, l1, e6, p4, k4⟩ := main sgn q1 q2 q3
    have hc32 : c ≠ 32 := fun z => q1 (z ▸ hc)
    have e0 : ("0-+_.,'/:ADBCadbce" : Str) = sgC := rfl
    by_cases cb : b = 0 ∧ pl < w.length
    · obtain ⟨f1, f2, f3, f4, f5, f6⟩ := fin c (some (pl + 1)) pl l0 l1 hc32 ⟨_, rfl, by omega⟩ s4
      refine ⟨_, s4, ?_, f5, f6, p4, k4⟩
      unfold m_d_law_set_in b_d_law_set_in
      rw [e0]
      rcases hs with ⟨h0, rfl⟩ | ⟨h0, rfl⟩
      · generalize sgA = AA at *
        generalize sgC = CC at *
        simp [sg, r1, h0, e1, e2, e3, e4, e5, e6, cb.1, cb.2, f1, f2, f3, f4]
      · generalize sgA = AA at *
        generalize sgC = CC at *
        simp [sg, r1, h0, e1, e2, e3, e4, e5, e6, cb.1, cb.2, f1, f2, f3, f4]
    · obtain ⟨f1, f2, f3, f4, f5, f6⟩ := fin c (some pl) pl l0 l1 hc32 ⟨_, rfl, by omega⟩ s4
      refine ⟨_, s4, ?_, f5, f6, p4, k4⟩
      unfold m_d_law_set_in b_d_law_set_in
      rw [e0]
      have cases_ : ¬ b = 0 ∨ (b = 0 ∧ ¬ pl < w.length) := by
        by_cases b0 : b = 0
        · exact .inr ⟨b0, fun z => cb ⟨b0, z⟩⟩
        · exact .inl b0
      rcases hs with ⟨h0, rfl⟩ | ⟨h0, rfl⟩
      · generalize sgA = AA at *
        generalize sgC = CC at *
        rcases cases_ with b0 | ⟨b0, b1⟩
        · simp [sg, r1, h0, e1, e2, e3, e4, e5, e6, b0, f1, f2, f3, f4]
        · simp [sg, r1, h0, e1, e2, e3, e4, e5, e6, b0, b1, f1, f2, f3, f4]
      · generalize sgA = AA at *
        generalize sgC = CC at *
        rcases cases_ with b0 | ⟨b0, b1⟩
        · simp [sg, r1, h0, e1, e2, e3, e4, e5, e6, b0, f1, f2, f3, f4]
        · simp [sg, r1, h0, e1, e2, e3, e4, e5, e6, b0, b1, f1, f2, f3, f4]
  by_cases h0 : a = 0
  · exact go sgC sgC_ok.1 sgC_ok.2.1 sgC_ok.2.2 (.inl ⟨h0, rfl⟩)
  · exact go sgA sgA_ok.1 sgA_ok.2.1 sgA_ok.2.2 (.inr ⟨h0, rfl⟩)
end Law
namespace Law
open PySem Mi
def wrS : List Str := ["ad", "bc", "A", "Bc", "aD", "AD.", "BCE", "CE", "A.D.", "DA", "BD", "AC", "12", "0", "ADBC", "to", "or"]
theorem wrS_ok : ∀ z ∈ wrS, WOk z := fun z hz => wok_lit (by
  have : wrS.all (fun z => !(tl z).contains 32 && decide (z.length ≤ 40)) = true := by decide +kernel
  exact List.all_eq_true.mp this z hz)
theorem setin_wok {p : Nat} {s : Store} (h : Pool p s) {w : Str} (w1 : NoSp w) (w2 : w.length ≤ 30) : ∃ (z : Str) (s' : Store), m_d_law_set_in [.loc p, .str w] s = .ok (.str z) s' ∧ NoSp z ∧ z.length ≤ 31 ∧ Pool p s' ∧ Kp p s s' := by
  obtain ⟨z, s', e, a, b, q⟩ := setin_spec h w1 w2
  exact ⟨z, s', e, a, by omega, q⟩
theorem wsign_spec {p : Nat} {s : Store} (h : Pool p s) {w : Str} (w1 : NoSp w) (w2 : w.length ≤ 30) : ∃ (z : Str) (s' : Store), m_d_law_wrong_sign [.loc p, .str w] s = .ok (.str z) s' ∧ WOk z ∧ Pool p s' ∧ Kp p s s' := by
  have g1 := get_new s (.lst (wrS.map D.str))
  have p1 := h.app [Cell.lst (wrS.map D.str)]
  have k1 := Kp.app p s [Cell.lst (wrS.map D.str)]
  have ns := Nat.ne_of_gt h.lt
  obtain ⟨s1, hs1⟩ : ∃ s1, s1 = s ++ [Cell.lst (wrS.map D.str)] := ⟨_, rfl⟩
  rw [← hs1] at g1 p1 k1
  have el : wrS.map D.str = [.str "ad", .str "bc", .str "A", .str "Bc", .str "aD", .str "AD.", .str "BCE", .str "CE", .str "A.D.", .str "DA", .str "BD", .str "AC", .str "12", .str "0", .str "ADBC", .str "to", .str "or"] := rfl
  rw [el] at hs1
  obtain ⟨a, s2, r2, a0, a1, p2, k2⟩ := draw_spec p1 (many := 2) (by omega) (by omega)
  by_cases c0 : a = 0
  · obtain ⟨z, s3, r3, z1, z2, p3, k3⟩ := setin_wok p2 w1 w2
    exact ⟨z, s3, by simp [m_d_law_wrong_sign, b_d_law_wrong_sign, ← hs1, r2, c0, r3], ⟨z1, by omega⟩, p3, (k1.trans k2).trans k3⟩
  · have g2 := Kp.get k2 g1 ns
    have wl := dLen_loc g2
    rw [List.length_map] at wl
    have wl' : dLen [.loc s.length] s2 = some (.int 17, s2) := wl
    obtain ⟨j, s3, r3, j0, j1, p3, k3⟩ := draw_spec p2 (many := 17) (by omega) (by omega)
    obtain ⟨d, hd, wd⟩ := zmem (Kp.get k3 g2 ns) j0 (by rw [List.length_map]; exact j1)
    obtain ⟨z, hz, rfl⟩ := List.mem_map.mp hd
    exact ⟨z, s3, by simp [m_d_law_wrong_sign, b_d_law_wrong_sign, ← hs1, r2, c0, wl', r3, wd], wrS_ok z hz, p3, (k1.trans k2).trans k3⟩
theorem nosp_app {a b : Str} (h1 : NoSp a) (h2 : NoSp b) : NoSp (a ++ b) := fun z => by
  rw [tl_app, List.mem_append] at z
  exact z.elim h1 h2
theorem fm_chars (q : Nat → Bool) (A : List Nat) : (A.filterMap fun c => if q c = true then some (D.str ⟨#[c]⟩) else none) = (A.filter q).map fun c => D.str ⟨#[c]⟩ := by
  induction A with
  | nil => rfl
  | cons a A ih =>
    rw [List.filterMap_cons, List.filter_cons]
    by_cases c : q a = true
    · simp [c, ih]
    · simp [c, ih]
def wrN (n : Str) : List Str := ["0", "-" ++ n, "0" ++ n, "+" ++ n, "-0", "00", "1234567890", "1" ++ repS "0" 9, "1_0", "1.0"]
def wrN2 (n : Str) : List Str := wrN n ++ ([("one" : Str), "AD"] : List Str)
theorem wrN_ok {n : Str} (h : NoSp n) (hl : n.length ≤ 20) : ∀ z ∈ wrN2 n, WOk z := fun z hz => by
  have lit : ∀ q : Str, (!(tl q).contains 32 && decide (q.length ≤ 40)) = true → WOk q := fun q => wok_lit
  have pre : ∀ q : Str, (!(tl q).contains 32 && decide (q.length = 1)) = true → WOk (q ++ n) := fun q hq => by
    rw [Bool.and_eq_true] at hq
    have l1 : q.length = 1 := by simpa using hq.2
    refine ⟨nosp_app (fun z => ?_) h, by rw [slen]; omega⟩
    have : (tl q).contains 32 = true := by simpa using z
    rw [this] at hq
    simp at hq
  simp only [wrN2, wrN, List.cons_append, List.nil_append, List.mem_cons, List.mem_nil_iff, or_false] at hz
  rcases hz with rfl | rfl | rfl | rfl | rfl | rfl | rfl | rfl | rfl | rfl | rfl | rfl
  · exact lit _ (by decide +kernel)
  · exact pre _ (by decide +kernel)
  · exact pre _ (by decide +kernel)
  · exact pre _ (by decide +kernel)
  · exact lit _ (by decide +kernel)
  · exact lit _ (by decide +kernel)
  · exact lit _ (by decide +kernel)
  · exact lit _ (by decide +kernel)
  · exact lit _ (by decide +kernel)
  · exact lit _ (by decide +kernel)
  · exact lit _ (by decide +kernel)
  · exact lit _ (by decide +kernel)
theorem wnum_spec {p : Nat} {s : Store} (h : Pool p s) {n : Str} (w1 : NoSp n) (w2 : n.length ≤ 20) : ∃ (z : Str) (s' : Store), m_d_law_wrong_number [.loc p, .str n] s = .ok (.str z) s' ∧ WOk z ∧ Pool p s' ∧ Kp p s s' := by
  have d0 : dMulS (.str "0") (.int 9) s = some (.str (repS "0" 9), s) := dMulS_str (by omega) (by omega) (by decide +kernel) s
  have b1 := sadd (a := "-") (b := n) (by decide +kernel) (by omega) s
  have b2 := sadd (a := "0") (b := n) (by decide +kernel) (by omega) s
  have b3 := sadd (a := "+") (b := n) (by decide +kernel) (by omega) s
  have b4 := sadd (a := "1") (b := repS "0" 9) (by decide +kernel) (by decide +kernel) s
  have g1 := get_new s (.lst ((wrN n).map D.str))
  obtain ⟨s1, hs1⟩ : ∃ s1, s1 = s ++ [Cell.lst ((wrN n).map D.str)] := ⟨_, rfl⟩
  have g2 := get_new s1 (.lst ((["one", "AD"] : List Str).map D.str))
  obtain ⟨s2, hs2⟩ : ∃ s2, s2 = s1 ++ [Cell.lst ((["one", "AD"] : List Str).map D.str)] := ⟨_, rfl⟩
  have x1 : Ext s s1 := by rw [hs1]; exact Ext.mk _ _
  have x2 : Ext s1 s2 := by rw [hs2]; exact Ext.mk _ _
  rw [← hs1] at g1
  rw [← hs2] at g2
  have wa := dAdd_loc (x2.get g1) g2 (by simp [wrN])
  rw [← List.map_append] at wa
  have ew : wrN n ++ ([("one" : Str), "AD"] : List Str) = wrN2 n := rfl
  rw [ew] at wa
  have g3 := get_new s2 (.lst ((wrN2 n).map D.str))
  have x3 := Ext.mk s2 [Cell.lst ((wrN2 n).map D.str)]
  obtain ⟨s3, hs3⟩ : ∃ s3, s3 = s2 ++ [Cell.lst ((wrN2 n).map D.str)] := ⟨_, rfl⟩
  rw [← hs3] at g3 x3 wa
  have x03 := (x1.trans x2).trans x3
  have p3 := Pool.ext h x03
  have k3 := Kp.ext (p := p) x03
  have ns : s2.length ≠ p := Nat.ne_of_gt (Pool.ext h (x1.trans x2)).lt
  obtain ⟨a, s4, r4, a0, a1, p4, k4⟩ := draw_spec p3 (many := 2) (by omega) (by omega)
  have eL : (wrN n).map D.str = [.str "0", .str ("-" ++ n), .str ("0" ++ n), .str ("+" ++ n), .str "-0", .str "00", .str "1234567890", .str ("1" ++ repS "0" 9), .str "1_0", .str "1.0"] := rfl
  have eL2 : (["one", "AD"] : List Str).map D.str = [.str "one", .str "AD"] := rfl
  rw [eL] at hs1
  rw [eL2] at hs2
  have l13 : s1.length = s.length + 1 := by rw [hs1]; simp
  have fst : ∃ z : D, True := ⟨.non, trivial⟩
  generalize hz1 : ("-" ++ n : Str) = z1 at *
  generalize hz2 : ("0" ++ n : Str) = z2 at *
  generalize hz3 : ("+" ++ n : Str) = z3 at *
  generalize hz4 : ("1" ++ repS "0" 9 : Str) = z4 at *
  generalize hz5 : repS "0" 9 = z5 at *
  by_cases c0 : a = 0
  · obtain ⟨w, s5, r5, q1, q2, p5, k5⟩ := setin_wok p4 w1 (by omega)
    have ln : dLen [.str w] s5 = some (.int w.length, s5) := by
      have : w.length ≤ 16777216 := by omega
      simp [dLen, this]
    have k05 := (k3.trans k4).trans k5
    by_cases c4 : 4 < w.length
    · have c4' : (4 : Int) < w.length := by omega
      have e6 := lcL_fm (gd := always) (g := gN 4) (t := lt_d_law_wrong_number_1) (e := le_d_law_wrong_number_2) (env := [some (.loc p), some (.str n), some (.loc s2.length), some (.str w), none]) (s := s5) trivial (fun c => D.str ⟨#[c]⟩) (fun c => if (!dg c) = true then some (D.str ⟨#[c]⟩) else none) (tl w) [] (fun c _ => by
        have := notin_figs c s5
        by_cases cc : dg c = true <;> simp [lt_d_law_wrong_number_1, le_d_law_wrong_number_2, pick, this, cc]) (by have := tl_len w; simp at this ⊢; omega)
      rw [fm_chars fun c => !dg c, List.nil_append] at e6
      have x6 := Ext.mk s5 [Cell.lst (((tl w).filter fun c => !dg c).map fun c => D.str ⟨#[c]⟩)]
      have wl := dLen_loc (get_new s5 (.lst (((tl w).filter fun c => !dg c).map fun c => D.str ⟨#[c]⟩)))
      rw [List.length_map] at wl
      have p6 := Pool.ext p5 x6
      have k6 := k05.trans (Kp.ext x6)
      have hseq : w.cps.toList = tl w := rfl
      by_cases c5 : ((tl w).filter fun c => !dg c).length = 0
      · rw [c5] at wl
        have ad := sadd (a := "+") (b := w) (by decide +kernel) (by omega) (s5 ++ [.lst (((tl w).filter fun c => !dg c).map fun c => D.str ⟨#[c]⟩)])
        have lp : ("+" : Str).length = 1 := by decide +kernel
        refine ⟨"+" ++ w, s5 ++ [.lst (((tl w).filter fun c => !dg c).map fun c => D.str ⟨#[c]⟩)], ?_, ⟨nosp_app (wok_lit (z := "+") (by decide +kernel)).1 q1, by rw [slen]; omega⟩, p6, k6⟩
        generalize (((tl w).filter fun c => !dg c).map fun c => D.str ⟨#[c]⟩) = FL at *
        have wl' : dLen [.loc s5.length] (s5 ++ [.lst FL]) = some (.int 0, s5 ++ [.lst FL]) := wl
        simp [m_d_law_wrong_number, b_d_law_wrong_number, b1, b2, b3, b4, d0, ← hs1, ← hs2, wa, r4, c0, r5, ln, c4', e6, wl', ad]
      · refine ⟨w, s5 ++ [.lst (((tl w).filter fun c => !dg c).map fun c => D.str ⟨#[c]⟩)], ?_, ⟨q1, by omega⟩, p6, k6⟩
        have c5' : ¬ ((((tl w).filter fun c => !dg c).length : Nat) : Int) = 0 := by omega
        generalize ((tl w).filter fun c => !dg c).length = fn at *
        generalize (((tl w).filter fun c => !dg c).map fun c => D.str ⟨#[c]⟩) = FL at *
        simp [m_d_law_wrong_number, b_d_law_wrong_number, b1, b2, b3, b4, d0, ← hs1, ← hs2, wa, r4, c0, r5, ln, c4', e6, wl, c5, c5']
    · have c4' : ¬ (4 : Int) < w.length := by omega
      exact ⟨w, s5, by simp [m_d_law_wrong_number, b_d_law_wrong_number, b1, b2, b3, b4, d0, ← hs1, ← hs2, wa, r4, c0, r5, ln, c4'], ⟨q1, by omega⟩, p5, k05⟩
  · have g4 := Kp.get k4 g3 ns
    have wl := dLen_loc g4
    rw [List.length_map] at wl
    have wl' : dLen [.loc s2.length] s4 = some (.int 12, s4) := wl
    obtain ⟨j, s5, r5, j0, j1, p5, k5⟩ := draw_spec p4 (many := 12) (by omega) (by omega)
    obtain ⟨d, hd, wd⟩ := zmem (Kp.get k5 g4 ns) j0 (by rw [List.length_map]; exact j1)
    obtain ⟨z, hz, rfl⟩ := List.mem_map.mp hd
    exact ⟨z, s5, by simp [m_d_law_wrong_number, b_d_law_wrong_number, b1, b2, b3, b4, d0, ← hs1, ← hs2, wa, r4, c0, wl', r5, wd], wrN_ok w1 w2 z hz, p5, (k3.trans k4).trans k5⟩
/-- a year beyond the bounds -/
def Far (n sg : Str) : Prop := ∃ k : Nat, n = num k ∧ ((sg = "AD" ∧ 10000 ≤ k ∧ k ≤ 1000000000) ∨ (sg = "BC" ∧ 10001 ≤ k ∧ k ≤ 1000000000))
theorem beyond_spec {p : Nat} {s : Store} (h : Pool p s) : ∃ (l : Nat) (n sg : Str) (s' : Store), m_d_law_beyond [.loc p] s = .ok (.loc l) s' ∧ s'[l]? = some (.lst [.str n, .str sg]) ∧ Far n sg ∧ s.length ≤ l ∧ Pool p s' ∧ Kp p s s' := by
  obtain ⟨j, s1, d, r1, hd, wd, p1, k1⟩ := drawn h (L := [.int 60, .int 60, .int 999990000]) (n := 3) rfl (by omega) (by omega)
  obtain ⟨v, rfl, hv⟩ : ∃ v : Int, d = .int v ∧ 0 < v ∧ v ≤ 999990000 := by
    simp only [List.mem_cons, List.mem_nil_iff, or_false] at hd
    rcases hd with rfl | rfl | rfl <;> exact ⟨_, rfl, by omega, by omega⟩
  obtain ⟨far, s2, r2, f0, f1, p2, k2⟩ := often_spec p1 (many := v) hv.1 (by omega)
  obtain ⟨f, rfl⟩ := Int.eq_ofNat_of_zero_le f0
  have n1 := str_num (k := 10000 + f) (by omega) s2
  have n2 := fun s => str_num (k := 10001 + f) (by omega) s
  rw [show ((10000 + f : Nat) : Int) = 10000 + (f : Int) by omega] at n1
  simp only [show ((10001 + f : Nat) : Int) = 10001 + (f : Int) by omega] at n2
  obtain ⟨s3, hs3⟩ : ∃ s3, s3 = s2 ++ [Cell.lst [.str (num (10000 + f)), .str "AD"], .lst [.str (num (10001 + f)), .str "BC"]] := ⟨_, rfl⟩
  have x3 : Ext s2 s3 := by rw [hs3]; exact Ext.mk _ _
  have ga : s3[s2.length]? = some (.lst [.str (num (10000 + f)), .str "AD"]) := by rw [hs3]; simp
  have gb : s3[s2.length + 1]? = some (.lst [.str (num (10001 + f)), .str "BC"]) := by rw [hs3]; simp
  have p3 := Pool.ext p2 x3
  have l3 : s3.length = s2.length + 2 := by rw [hs3]; simp
  obtain ⟨b, s4, d, r4, hd, wd4, p4, k4⟩ := drawn p3 (L := [.loc s2.length, .loc (s2.length + 1)]) (n := 2) rfl (by omega) (by omega)
  have k02 := k1.trans k2
  have k04 := (k02.trans (Kp.ext x3)).trans k4
  have hle := k02.1
  have lt2 := p2.lt
  have e4 : ∀ d', d' = d → m_d_law_beyond [.loc p] s = .ok d' s4 := fun d' hd' => by
    subst hd'
    have r1' : m_d_law_draw [.loc p, .int 3] (s ++ [.lst [.int 60, .int 60, .int 999990000]]) = .ok (.int j) s1 := r1
    have r4' : m_d_law_draw [.loc p, .int 2] (s2 ++ [Cell.lst [.str (num (10000 + f)), .str "AD"], .lst [.str (num (10001 + f)), .str "BC"], .lst [.loc s2.length, .loc (s2.length + 1)]]) = .ok (.int b) s4 := by
      rw [hs3] at r4
      simpa using r4
    rw [l3] at wd4
    simp [m_d_law_beyond, b_d_law_beyond, r1', wd, r2, n1, n2, r4', wd4]
  simp only [List.mem_cons, List.mem_nil_iff, or_false] at hd
  rcases hd with rfl | rfl
  · exact ⟨s2.length, _, _, s4, e4 _ rfl, Kp.get k4 ga (by omega), ⟨10000 + f, rfl, .inl ⟨rfl, by omega, by omega⟩⟩, hle, p4, k04⟩
  · exact ⟨s2.length + 1, _, _, s4, e4 _ rfl, Kp.get k4 gb (by omega), ⟨10001 + f, rfl, .inr ⟨rfl, by omega, by omega⟩⟩, by omega, p4, k04⟩
end Law
namespace Law
open PySem Mi
def isBad (z : Str) : Prop := ∃ w, due (words z) = .bad w
def isBadW (ws : List Str) : Prop := ∀ z, W (tl z) = ne0 (ws.map tl) → isBad z
theorem due_len {ws : List Str} (h : ws.length ≠ 2) : ∃ w, due ws = .bad w := by
  match ws, h with
  | [], _ => exact ⟨_, rfl⟩
  | [_], _ => exact ⟨_, rfl⟩
  | _ :: _ :: _ :: _, _ => exact ⟨_, rfl⟩
  | [_, _], h => exact absurd rfl h
theorem bad_len {ws : List Str} (h : (ne0 (ws.map tl)).length ≠ 2) : isBadW ws := fun z hz => due_len (by
  have := congrArg List.length (words_W z)
  rw [List.length_map, hz] at this
  omega)
theorem ne0_all {l : List (List Nat)} (h : ∀ w ∈ l, w ≠ []) : ne0 l = l := List.filter_eq_self.mpr fun w hw => by
  have := h w hw
  simpa using this
theorem bad_two {a b : Str} (ha : tl a ≠ []) (hb : tl b ≠ []) (h : ∃ w, due2 a b = .bad w) : isBadW [a, b] := fun z hz => by
  have e : words z = [a, b] := words_of_W (by
    rw [hz]
    refine ne0_all fun w hw => ?_
    simp only [List.map_cons, List.map_nil, List.mem_cons, List.mem_nil_iff, or_false] at hw
    rcases hw with rfl | rfl
    · exact ha
    · exact hb)
  obtain ⟨w, hw⟩ := h
  exact ⟨w, by rw [e]; exact hw⟩
theorem ad_ok : WOk "AD" ∧ tl ("AD" : Str) ≠ [] := ⟨wok_lit (by decide +kernel), by decide +kernel⟩
theorem bc_ok : WOk "BC" ∧ tl ("BC" : Str) ≠ [] := ⟨wok_lit (by decide +kernel), by decide +kernel⟩
theorem far_bad {n sg : Str} (h : Far n sg) : (∃ w, due2 n sg = .bad w) ∧ WOk n ∧ WOk sg ∧ tl n ≠ [] ∧ tl sg ≠ [] := by
  obtain ⟨k, rfl, hk⟩ := h
  have kk : k < 2000000000 ∧ 10000 ≤ k := by rcases hk with h | h <;> omega
  refine ⟨?_, num_ok kk.1, ?_, num_ne k, ?_⟩
  · unfold due2
    by_cases q : 9 < (num k).length ∨ (tl (num k)).head? = some 48
    · exact ⟨_, if_pos q⟩
    · rw [if_neg q, if_neg (by rw [num_digs]; simp), num_val]
      rcases hk with ⟨rfl, h⟩ | ⟨rfl, h⟩
      · rw [if_neg (fun z => z.1 rfl), if_neg ad_bc, if_pos (.inr (by omega))]
        exact ⟨_, rfl⟩
      · rw [if_neg (fun z => z.2 rfl), if_pos rfl, if_pos (.inl (by omega))]
        exact ⟨_, rfl⟩
  · rcases hk with ⟨rfl, _⟩ | ⟨rfl, _⟩
    · exact ad_ok.1
    · exact bc_ok.1
  · rcases hk with ⟨rfl, _⟩ | ⟨rfl, _⟩
    · exact ad_ok.2
    · exact bc_ok.2
theorem zero_bad (sg : Str) : ∃ w, due2 "0" sg = .bad w := ⟨_, by unfold due2; rw [if_pos (.inr (by decide +kernel))]⟩
theorem sign_bad {a b : Str} (h : digs a = false) : ∃ w, due2 a b = .bad w := by
  unfold due2
  by_cases q : 9 < a.length ∨ (tl a).head? = some 48
  · exact ⟨_, if_pos q⟩
  · exact ⟨_, by rw [if_neg q, if_pos h]⟩
/-- a row of words at a cell -/
structure RowW (p : Nat) (s : Store) (d : D) (ws : List Str) : Prop where
  at_ : ∃ l, d = .loc l ∧ s[l]? = some (.lst (ws.map D.str)) ∧ l ≠ p
  ok : ∀ w ∈ ws, WOk w
  len : ws.length ≤ 10
theorem RowW.kp {p : Nat} {s s' : Store} {d : D} {ws : List Str} (r : RowW p s d ws) (k : Kp p s s') : RowW p s' d ws :=
  ⟨let ⟨l, h1, h2, h3⟩ := r.at_; ⟨l, h1, Kp.get k h2 h3, h3⟩, r.ok, r.len⟩
theorem RowW.ext {p : Nat} {s s' : Store} {d : D} {ws : List Str} (r : RowW p s d ws) (x : Ext s s') : RowW p s' d ws := r.kp (Kp.ext x)
theorem RowW.set {p q a : Nat} {s : Store} {d : D} {ws : List Str} {t : List D} (r : RowW p s d ws) (h : s[q]? = some (.lst (.loc a :: t))) (c : Cell) : RowW p (s.set q c) d ws := by
  obtain ⟨l, h1, h2, h3⟩ := r.at_
  refine ⟨⟨l, h1, ?_, h3⟩, r.ok, r.len⟩
  have ne : q ≠ l := fun z => by
    subst z
    rw [h] at h2
    have := Option.some.inj h2
    cases ws with
    | nil => cases this
    | cons w ws => cases this
  rw [List.getElem?_set_ne ne]
  exact h2
theorem RowW.new {p : Nat} {s : Store} {ws : List Str} (hp : p < s.length) (ok : ∀ w ∈ ws, WOk w) (len : ws.length ≤ 10) : RowW p (s ++ [.lst (ws.map D.str)]) (.loc s.length) ws := ⟨⟨_, rfl, get_new _ _, Nat.ne_of_gt hp⟩, ok, len⟩
theorem ok2 {a b : Str} (ha : WOk a) (hb : WOk b) : ∀ w ∈ [a, b], WOk w := fun w hw => by
  simp only [List.mem_cons, List.mem_nil_iff, or_false] at hw
  rcases hw with rfl | rfl
  · exact ha
  · exact hb
/-! ### the lines of a list of rows -/
theorem lines_spec {p lq : Nat} {s : Store} (h : Pool p s) {ds : List D} {rows : List (List Str)} (g : s[lq]? = some (.lst ds)) (hq : lq ≠ p) (hl : ds.length = rows.length) (hl2 : ds.length ≤ 100) (hr : ∀ (i : Nat) (d : D) (ws : List Str), ds[i]? = some d → rows[i]? = some ws → RowW p s d ws) (a1 a2 a3 a4 a5 a6 a7 a9 : Option D) :
    ∃ (zs : List Str) (s' : Store), lcL (fun s2 => s2[lq]? = some (Cell.lst ds)) (gN 8) tT le_d_law_wrong_lines_2 [some (.loc p), a1, a2, a3, a4, a5, a6, a7, none, a9] ds [] s = .ok (zs.map D.str) s' ∧ zs.length = ds.length ∧ (∀ (i : Nat) (z : Str) (ws : List Str), zs[i]? = some z → rows[i]? = some ws → W (tl z) = ne0 (ws.map tl)) ∧ (∀ z ∈ zs, z.length ≤ 1000) ∧ Pool p s' ∧ Kp p s s' := by
  obtain ⟨acc, s', e, zs, rfl, hzl, hz, hzz, p', k'⟩ := lcL_at (gd := fun s2 => s2[lq]? = some (Cell.lst ds)) (g := gN 8) (t := tT) (e := le_d_law_wrong_lines_2) (env := [some (.loc p), a1, a2, a3, a4, a5, a6, a7, none, a9]) ds
    (fun k acc s' => ∃ zs : List Str, acc = zs.map D.str ∧ zs.length = k ∧ (∀ (i : Nat) (z : Str) (ws : List Str), zs[i]? = some z → rows[i]? = some ws → W (tl z) = ne0 (ws.map tl)) ∧ (∀ z ∈ zs, z.length ≤ 1000) ∧ Pool p s' ∧ Kp p s s') (fun _ _ _ ⟨_, _, _, _, _, _, k⟩ => Kp.get k g hq) (fun k d acc s1 hk ⟨zs, ha, hzl, hz, hzz, p1, k1⟩ => by
      subst ha
      have hk' := (List.getElem?_eq_some_iff.mp hk).1
      obtain ⟨ws, hws⟩ : ∃ ws, rows[k]? = some ws := ⟨rows[k]'(by omega), by simp⟩
      have rw1 := (hr k d ws hk hws).kp k1
      obtain ⟨l, rfl, gl, nl⟩ := rw1.at_
      obtain ⟨z, s2, e2, hW, hlen, p2, k2⟩ := line_spec p1 gl nl rw1.ok rw1.len
      simp [le_d_law_wrong_lines_2, pick, e2]
      refine ⟨by omega, zs ++ [z], by simp, by simp [hzl], fun i y ws' hy hws' => ?_, fun y hy => ?_, p2, k1.trans k2⟩
      · by_cases c : i < zs.length
        · rw [List.getElem?_append_left c] at hy
          exact hz i y ws' hy hws'
        · have ci : i = zs.length := by
            have := (List.getElem?_eq_some_iff.mp hy).1
            simp at this
            omega
          subst ci
          rw [hzl, hws] at hws'
          cases hws'
          simp at hy
          rw [← hy]
          exact hW
      · rcases List.mem_append.mp hy with hy | hy
        · exact hzz y hy
        · rw [List.mem_singleton.mp hy]; exact hlen) (acc := []) (s := s) ⟨[], rfl, rfl, by simp, by simp, h, Kp.refl p s⟩
  exact ⟨zs, s', e, hzl, hz, hzz, p', k'⟩
def padS (z : Str) : Str := z ++ sp (if z = "" then 1 else 0)
theorem pad_spec {l : Nat} {zs : List Str} {s : Store} (g : s[l]? = some (.lst (zs.map D.str))) (hz : ∀ z ∈ zs, z.length ≤ 1000) (hl : zs.length ≤ 100) (a0 a1 a2 a3 a4 a5 a6 a7 a8 : Option D) :
    lcL (fun s2 => s2[l]? = some (Cell.lst (zs.map D.str))) (gN 9) tT le_d_law_wrong_lines_1 [a0, a1, a2, a3, a4, a5, a6, a7, a8, none] (zs.map D.str) [] s = .ok ((zs.map padS).map D.str) s := by
  have e := lcL_map (gd := fun s2 => s2[l]? = some (Cell.lst (zs.map D.str))) (g := gN 9) (t := tT) (e := le_d_law_wrong_lines_1) (env := [a0, a1, a2, a3, a4, a5, a6, a7, a8, none]) (s := s) g D.str (fun z => D.str (padS z)) zs (fun z hz' => by
    have := hz z hz'
    unfold padS
    by_cases c : z = ""
    · have m := mul_sp (k := 1) (by omega) s
      have a := sadd (a := z) (b := sp 1) (by omega) (by rw [sp_len]; omega) s
      have m' : dMulS (.str " ") (.int 1) s = some (.str (sp 1), s) := m
      rw [if_pos c]
      generalize sp 1 = q at *
      subst c
      simp [le_d_law_wrong_lines_1, pick, m', a]
    · have m := mul_sp (k := 0) (by omega) s
      have a := sadd (a := z) (b := sp 0) (by omega) (by rw [sp_len]; omega) s
      have m' : dMulS (.str " ") (.int 0) s = some (.str (sp 0), s) := m
      rw [if_neg c]
      generalize sp 0 = q at *
      simp [le_d_law_wrong_lines_1, pick, c, m', a]) (by omega)
  rw [e, List.map_map]
  rfl
theorem pad_W (z : Str) : W (tl (padS z)) = W (tl z) := by unfold padS; rw [tl_app, tl_sp, W_spaces]
theorem pad_len {z : Str} (h : z.length ≤ 1000) : (padS z).length ≤ 1001 := by
  unfold padS
  rw [slen, sp_len]
  split <;> omega
end Law
namespace Law
open PySem Mi
/-- a list of rows -/
structure Rws (p q : Nat) (s : Store) (ds : List D) (rows : List (List Str)) : Prop where
  g : s[q]? = some (.lst ds)
  hd : ∃ a t, ds = .loc a :: t
  ne : q ≠ p
  len : ds.length = rows.length
  all : ∀ (i : Nat) (d : D) (ws : List Str), ds[i]? = some d → rows[i]? = some ws → RowW p s d ws
section
variable {p q : Nat} {s s' : Store} {ds : List D} {rows : List (List Str)}
theorem Rws.kp (r : Rws p q s ds rows) (k : Kp p s s') : Rws p q s' ds rows := ⟨Kp.get k r.g r.ne, r.hd, r.ne, r.len, fun i d ws h1 h2 => (r.all i d ws h1 h2).kp k⟩
theorem Rws.ext (r : Rws p q s ds rows) (x : Ext s s') : Rws p q s' ds rows := r.kp (Kp.ext x)
theorem Rws.ty (r : Rws p q s ds rows) : tyOk "list" s (.loc q) = true := tyOk_list r.g
theorem Rws.push (r : Rws p q s ds rows) {d : D} {ws : List Str} (h : RowW p s d ws) (hz : ds.length ≤ 1000) (hp : Pool p s) : ∃ s', dAppend (.loc q) [d] s = some (.non, s') ∧ Rws p q s' (ds ++ [d]) (rows ++ [ws]) ∧ Pool p s' ∧ s'.length = s.length ∧ ∀ l, l ≠ q → s'[l]? = s[l]? := by
  obtain ⟨a, t, hd⟩ := r.hd
  have g := r.g
  refine ⟨_, dAppend_loc g (by omega) d, ⟨get_set g, ⟨a, t ++ [d], by rw [hd]; rfl⟩, r.ne, by simp [r.len], fun i e ws' h1 h2 => ?_⟩, hp.set r.ne _, by simp, fun l hl => List.getElem?_set_ne (Ne.symm hl)⟩
  have g' : s[q]? = some (.lst (.loc a :: t)) := by rw [← hd]; exact g
  by_cases c : i < ds.length
  · rw [List.getElem?_append_left c] at h1
    rw [List.getElem?_append_left (by rw [← r.len]; exact c)] at h2
    exact (r.all i e ws' h1 h2).set g' _
  · have ci : i = ds.length := by
      have := (List.getElem?_eq_some_iff.mp h1).1
      simp at this
      omega
    subst ci
    rw [List.getElem?_append_right (Nat.le_refl _)] at h1
    rw [r.len, List.getElem?_append_right (Nat.le_refl _)] at h2
    simp at h1 h2
    rw [← h1, ← h2]
    exact h.set g' _
end
inductive RowsR (p : Nat) (s : Store) : List D → List (List Str) → Prop where
  | nil : RowsR p s [] []
  | cons {d : D} {ws : List Str} {ds : List D} {rows : List (List Str)} (h : RowW p s d ws) (t : RowsR p s ds rows) : RowsR p s (d :: ds) (ws :: rows)
theorem row_all {p : Nat} {s : Store} : ∀ {ds : List D} {rows : List (List Str)}, RowsR p s ds rows → ∀ (i : Nat) (d : D) (ws : List Str), ds[i]? = some d → rows[i]? = some ws → RowW p s d ws
  | _, _, .nil, i, d, ws, h, _ => by simp at h
  | _, _, .cons h t, 0, d, ws, h1, h2 => by
    simp at h1 h2
    rw [← h1, ← h2]
    exact h
  | _, _, .cons h t, i + 1, d, ws, h1, h2 => row_all t i d ws (by simpa using h1) (by simpa using h2)
theorem row_at {p l : Nat} {s : Store} {ws : List Str} (h : s[l]? = some (.lst (ws.map D.str))) (n : l ≠ p) (ok : ∀ w ∈ ws, WOk w) (hl : ws.length ≤ 10) : RowW p s (.loc l) ws := ⟨⟨l, rfl, h, n⟩, ok, hl⟩
theorem wok_all {ws : List Str} (h : ws.all (fun z => !(tl z).contains 32 && decide (z.length ≤ 40)) = true) : ∀ w ∈ ws, WOk w := fun w hw => wok_lit (List.all_eq_true.mp h w hw)
theorem ok3 {a b c : Str} (ha : WOk a) (hb : WOk b) (hc : WOk c) : ∀ w ∈ [a, b, c], WOk w := fun w hw => by
  simp only [List.mem_cons, List.mem_nil_iff, or_false] at hw
  rcases hw with rfl | rfl | rfl <;> assumption
theorem ok4 {a b c d : Str} (ha : WOk a) (hb : WOk b) (hc : WOk c) (hd : WOk d) : ∀ w ∈ [a, b, c, d], WOk w := fun w hw => by
  simp only [List.mem_cons, List.mem_nil_iff, or_false] at hw
  rcases hw with rfl | rfl | rfl | rfl <;> assumption
theorem ok1 {a : Str} (ha : WOk a) : ∀ w ∈ [a], WOk w := fun w hw => by
  rw [List.mem_singleton.mp hw]; exact ha
/-! ### several -/
def sev1 (n sg : Str) : List (List Str) := [[], [n], [sg], [n ++ sg], [n, sg] ++ [n, sg], [n, sg, sg], [n, n, sg]]
def sev2 (n sg : Str) : List (List Str) := [["0"], [sg, n, "x"], [n, "AD", "BC"], ["AD", "BC", "0"]]
theorem ne0_le (l : List (List Nat)) : (ne0 l).length ≤ l.length := List.length_filter_le _ _
theorem bad_all {ws : List Str} (h : ∀ w ∈ ws, tl w ≠ []) (hl : ws.length ≠ 2) : isBadW ws := bad_len (by
  rw [ne0_all (by
    intro w hw
    obtain ⟨z, hz, rfl⟩ := List.mem_map.mp hw
    exact h z hz), List.length_map]
  exact hl)
theorem bad_one (ws : List Str) (h : ws.length ≤ 1) : isBadW ws := bad_len (by have := ne0_le (ws.map tl); rw [List.length_map] at this; omega)
theorem cpsne {z : Str} (h : tl z ≠ []) : ¬ z.cps = #[] := fun q => h (by simp [tl, q])
theorem sev_bad {n sg z : Str} (hn : tl n ≠ []) (hs : tl sg ≠ []) : ∀ ws ∈ sev1 n sg ++ sev2 n sg ++ [[z]], isBadW ws := fun ws hw => by
  have t0 : tl ("0" : Str) ≠ [] := by decide +kernel
  have tx : tl ("x" : Str) ≠ [] := by decide +kernel
  have ta := ad_ok.2
  have tb := bc_ok.2
  have hn := cpsne hn
  have hs := cpsne hs
  have t0 := cpsne t0
  have tx := cpsne tx
  have ta := cpsne ta
  have tb := cpsne tb
  simp only [sev1, sev2, List.cons_append, List.nil_append, List.mem_cons, List.mem_nil_iff, or_false] at hw
  rcases hw with rfl | rfl | rfl | rfl | rfl | rfl | rfl | rfl | rfl | rfl | rfl | rfl
  · exact bad_one _ (by simp)
  · exact bad_one _ (by simp)
  · exact bad_one _ (by simp)
  · exact bad_one _ (by simp)
  · exact bad_all (by simp [hn, hs]) (by simp)
  · exact bad_all (by simp [hn, hs]) (by simp)
  · exact bad_all (by simp [hn, hs]) (by simp)
  · exact bad_one _ (by simp)
  · exact bad_all (by simp [hn, hs, tx]) (by simp)
  · exact bad_all (by simp [hn, ta, tb]) (by simp)
  · exact bad_all (by simp [ta, tb, t0]) (by simp)
  · exact bad_one _ (by simp)
theorem sev_spec {p lw : Nat} {s : Store} (hp : Pool p s) {n sg : Str} (gw : s[lw]? = some (.lst [.str n, .str sg])) (hn : WOk n) (hs : WOk sg) (hn2 : n.length ≤ 20) (hs2 : sg.length ≤ 10) (v0 a4 a5 a7 a8 a9 : Option D) (hlw : True) :
    ∃ s', eLst (aCons (eLst (aNil)) (aCons (eLst (aCons (eV 2) (aNil))) (aCons (eLst (aCons (eV 3) (aNil))) (aCons (eLst (aCons (e2 dAdd (eV 2) (eV 3)) (aNil))) (aCons (e2 dAdd (eV 1) (eV 1)) (aCons (eLst (aCons (eV 2) (aCons (eV 3) (aCons (eV 3) (aNil))))) (aCons (eLst (aCons (eV 2) (aCons (eV 2) (aCons (eV 3) (aNil))))) (aNil)))))))) [v0, some (.loc lw), some (.str n), some (.str sg), a4, a5, none, a7, a8, a9] s = .ok (.loc (s.length + 7)) s' ∧
      Ext s s' ∧ Rws p (s.length + 7) s' [.loc s.length, .loc (s.length + 1), .loc (s.length + 2), .loc (s.length + 3), .loc (s.length + 4), .loc (s.length + 5), .loc (s.length + 6)] (sev1 n sg) ∧ s'.length = s.length + 8 := by
  have ad := fun s => sadd (a := n) (b := sg) (by omega) (by omega) s
  have hns := nosp_app hn.1 hs.1
  have lns := slen n sg
  have wns : WOk (n ++ sg) := ⟨hns, by omega⟩
  generalize hz : n ++ sg = ns at *
  obtain ⟨s', hs'⟩ : ∃ s', s' = s ++ [Cell.lst [], .lst [.str n], .lst [.str sg], .lst [.str ns], .lst [.str n, .str sg, .str n, .str sg], .lst [.str n, .str sg, .str sg], .lst [.str n, .str n, .str sg], .lst [.loc s.length, .loc (s.length + 1), .loc (s.length + 2), .loc (s.length + 3), .loc (s.length + 4), .loc (s.length + 5), .loc (s.length + 6)]] := ⟨_, rfl⟩
  have gx : (s ++ [Cell.lst [], .lst [.str n], .lst [.str sg], .lst [.str ns]])[lw]? = some (.lst [.str n, .str sg]) := by
    rw [List.getElem?_append_left (lt_of_get gw)]; exact gw
  have wa := dAdd_loc gx gx (by simp)
  simp only [List.length_append, List.append_assoc, List.cons_append, List.nil_append, List.length_cons, List.length_nil, Nat.zero_add, Nat.reduceAdd] at wa
  refine ⟨s', ?_, by rw [hs']; exact Ext.mk _ _, ?_, by rw [hs']; simp⟩
  · simp [ad, wa]
    exact hs'.symm
  · have lt := hp.lt
    have at_ : ∀ (i : Nat) (c : Cell), [Cell.lst [], .lst [.str n], .lst [.str sg], .lst [.str ns], .lst [.str n, .str sg, .str n, .str sg], .lst [.str n, .str sg, .str sg], .lst [.str n, .str n, .str sg], .lst [.loc s.length, .loc (s.length + 1), .loc (s.length + 2), .loc (s.length + 3), .loc (s.length + 4), .loc (s.length + 5), .loc (s.length + 6)]][i]? = some c → s'[s.length + i]? = some c := fun i c h => by
      rw [hs', List.getElem?_append_right (by omega), Nat.add_sub_cancel_left]
      exact h
    refine ⟨at_ 7 _ rfl, ⟨_, _, rfl⟩, by omega, rfl, row_all ?_⟩
    unfold sev1
    rw [hz]
    refine .cons (row_at (ws := []) (at_ 0 _ rfl) (by omega) (by simp) (by simp)) (.cons (row_at (ws := [n]) (at_ 1 _ rfl) (by omega) (ok1 hn) (by simp)) (.cons (row_at (ws := [sg]) (at_ 2 _ rfl) (by omega) (ok1 hs) (by simp)) (.cons (row_at (ws := [ns]) (at_ 3 _ rfl) (by omega) (ok1 wns) (by simp)) (.cons (row_at (ws := [n, sg] ++ [n, sg]) (at_ 4 _ rfl) (by omega) (ok4 hn hs hn hs) (by simp)) (.cons (row_at (ws := [n, sg, sg]) (at_ 5 _ rfl) (by omega) (ok3 hn hs hs) (by simp)) (.cons (row_at (ws := [n, n, sg]) (at_ 6 _ rfl) (by omega) (ok3 hn hn hs) (by simp)) .nil))))))
theorem sev2_spec {p lv : Nat} {s : Store} (hp : Pool p s) {n sg : Str} {ds : List D} {rows : List (List Str)} (r : Rws p lv s ds rows) (hd : ds.length ≤ 100) (hn : WOk n) (hs : WOk sg) (v0 a1 a4 a5 a7 a8 a9 : Option D) :
    ∃ s', (e2 dAdd (eV 6) (eLst (aCons (eLst (aCons (eC (.str "0")) (aNil))) (aCons (eLst (aCons (eV 3) (aCons (eV 2) (aCons (eC (.str "x")) (aNil))))) (aCons (eLst (aCons (eV 2) (aCons (eC (.str "AD")) (aCons (eC (.str "BC")) (aNil))))) (aCons (eLst (aCons (eC (.str "AD")) (aCons (eC (.str "BC")) (aCons (eC (.str "0")) (aNil))))) (aNil))))))) [v0, a1, some (.str n), some (.str sg), a4, a5, some (.loc lv), a7, a8, a9] s = .ok (.loc (s.length + 5)) s' ∧
      Ext s s' ∧ Rws p (s.length + 5) s' (ds ++ [.loc s.length, .loc (s.length + 1), .loc (s.length + 2), .loc (s.length + 3)]) (rows ++ sev2 n sg) ∧ s'.length = s.length + 6 := by
  obtain ⟨s1, hs1⟩ : ∃ s1, s1 = s ++ [Cell.lst [.str "0"], .lst [.str sg, .str n, .str "x"], .lst [.str n, .str "AD", .str "BC"], .lst [.str "AD", .str "BC", .str "0"], .lst [.loc s.length, .loc (s.length + 1), .loc (s.length + 2), .loc (s.length + 3)]] := ⟨_, rfl⟩
  have x1 : Ext s s1 := by rw [hs1]; exact Ext.mk _ _
  have l1 : s1.length = s.length + 5 := by rw [hs1]; simp
  have gt : s1[s.length + 4]? = some (.lst [.loc s.length, .loc (s.length + 1), .loc (s.length + 2), .loc (s.length + 3)]) := by rw [hs1]; simp
  have wa := dAdd_loc (x1.get r.g) gt (by simp; omega)
  obtain ⟨s', hs'⟩ : ∃ s', s' = s1 ++ [Cell.lst (ds ++ [.loc s.length, .loc (s.length + 1), .loc (s.length + 2), .loc (s.length + 3)])] := ⟨_, rfl⟩
  have x2 : Ext s1 s' := by rw [hs']; exact Ext.mk _ _
  rw [← hs', l1] at wa
  refine ⟨s', ?_, x1.trans x2, ?_, by rw [hs']; simp [l1]⟩
  · rw [hs1] at wa
    simp [wa]
  · have lt := hp.lt
    have at_ : ∀ (i : Nat) (c : Cell), [Cell.lst [.str "0"], .lst [.str sg, .str n, .str "x"], .lst [.str n, .str "AD", .str "BC"], .lst [.str "AD", .str "BC", .str "0"]][i]? = some c → s'[s.length + i]? = some c := fun i c h => by
      have hi : i < 4 := (List.getElem?_eq_some_iff.mp h).1
      refine x2.get ?_
      rw [hs1, List.getElem?_append_right (by omega), Nat.add_sub_cancel_left]
      have : ([Cell.lst [.str "0"], .lst [.str sg, .str n, .str "x"], .lst [.str n, .str "AD", .str "BC"], .lst [.str "AD", .str "BC", .str "0"]] ++ [Cell.lst [.loc s.length, .loc (s.length + 1), .loc (s.length + 2), .loc (s.length + 3)]])[i]? = some c := by rw [List.getElem?_append_left hi]; exact h
      exact this
    obtain ⟨a, t, hd'⟩ := r.hd
    have r' := r.ext (x1.trans x2)
    have f2 : RowsR p s' [.loc s.length, .loc (s.length + 1), .loc (s.length + 2), .loc (s.length + 3)] (sev2 n sg) :=
      .cons (row_at (ws := ["0"]) (at_ 0 _ rfl) (by omega) (wok_all (by decide +kernel)) (by simp)) (.cons (row_at (ws := [sg, n, "x"]) (at_ 1 _ rfl) (by omega) (ok3 hs hn (wok_lit (by decide +kernel))) (by simp)) (.cons (row_at (ws := [n, "AD", "BC"]) (at_ 2 _ rfl) (by omega) (ok3 hn ad_ok.1 bc_ok.1) (by simp)) (.cons (row_at (ws := ["AD", "BC", "0"]) (at_ 3 _ rfl) (by omega) (wok_all (by decide +kernel)) (by simp)) .nil)))
    refine ⟨by rw [hs', ← l1]; exact get_new _ _, ⟨a, _, by rw [hd']; rfl⟩, by omega, by simp [r.len, sev2], fun i d ws h1 h2 => ?_⟩
    by_cases c : i < ds.length
    · rw [List.getElem?_append_left c] at h1
      rw [List.getElem?_append_left (by rw [← r.len]; exact c)] at h2
      exact r'.all i d ws h1 h2
    · rw [List.getElem?_append_right (by omega)] at h1
      rw [List.getElem?_append_right (by rw [← r.len]; omega), ← r.len] at h2
      exact row_all f2 _ d ws h1 h2
end Law
namespace Law
open PySem Mi
def WLp (p : Nat) (s : Store) (r : RS) : Prop := ∃ (l : Nat) (zs : List Str) (s' : Store), r = .rt (.loc l) s' ∧ s'[l]? = some (.lst (zs.map D.str)) ∧ (∃ a b c d e f g, zs = [a, b, c, d, e, f, g] ∧ isBad a ∧ isBad f ∧ isBad g) ∧ (∀ z ∈ zs, z.length ≤ 2000) ∧ l ≠ p ∧ Pool p s' ∧ Kp p s s'
theorem seven {α : Type} {l : List α} (h : l.length = 7) : ∃ a b c d e f g, l = [a, b, c, d, e, f, g] := by
  match l, h with
  | [a, b, c, d, e, f, g], _ => exact ⟨a, b, c, d, e, f, g, rfl⟩
theorem wlines_spec {p lw : Nat} {s : Store} (hp : Pool p s) {n sg : Str} (gw : s[lw]? = some (.lst [.str n, .str sg])) (nw : lw ≠ p) (hn : WOk n) (hs : WOk sg) (hn2 : n.length ≤ 20) (hs2 : sg.length ≤ 10) (tn : tl n ≠ []) (ts : tl sg ≠ []) (hsd : digs sg = false) :
    WLp p s (b_d_law_wrong_lines [some (.loc p), some (.loc lw), none, none, none, none, none, none, none, none] s) := by
  unfold b_d_law_wrong_lines
  have i0 : ∀ {s' : Store}, Kp p s s' → dIxZ (.loc lw) (.int 0) s' = some (.str n, s') := fun k => by
    have g := Kp.get k gw nw
    rw [dIxZ_loc g, dIx_loc g]; simp
  have i1 : ∀ {s' : Store}, Kp p s s' → dIxZ (.loc lw) (.int 1) s' = some (.str sg, s') := fun k => by
    have g := Kp.get k gw nw
    rw [dIxZ_loc g, dIx_loc g]; simp
  have k00 := Kp.refl p s
  refine st_set (P := WLp p s) (d := .str n) (s' := s) (by simp [i0 k00]) ?_
  simp only [List.set_cons_succ, List.set_cons_zero]
  refine st_set (P := WLp p s) (d := .str sg) (s' := s) (by simp [i1 k00]) ?_
  simp only [List.set_cons_succ, List.set_cons_zero]
  obtain ⟨lb, n', sg', s1, e1, gb, far, hlb, p1, k1⟩ := beyond_spec hp
  obtain ⟨fb, fw1, fw2, ft1, ft2⟩ := far_bad far
  have nlb : lb ≠ p := by have := hp.lt; omega
  refine st_set (P := WLp p s) (d := .loc lb) (s' := s1) (by simp [e1]) ?_
  simp only [List.set_cons_succ, List.set_cons_zero]
  have rb : RowW p s1 (.loc lb) [n', sg'] := row_at gb nlb (ok2 fw1 fw2) (by simp)
  have b0 : dIxZ (.loc lb) (.int 0) s1 = some (.str n', s1) := by rw [dIxZ_loc gb, dIx_loc gb]; simp
  obtain ⟨z1, s2, e2, hz1, p2, k2⟩ := wsign_spec p1 hs.1 (by omega)
  have r1 : RowW p (s2 ++ [.lst ([n', z1].map D.str)]) (.loc s2.length) [n', z1] := RowW.new p2.lt (ok2 fw1 hz1) (by simp)
  have x2 := Ext.mk s2 [Cell.lst ([n', z1].map D.str)]
  have p2' := Pool.ext p2 x2
  have k2' := (k1.trans k2).trans (Kp.ext (p := p) x2)
  obtain ⟨z2, s3, e3, hz2, p3, k3⟩ := wnum_spec p2' hn.1 hn2
  have k03 := k2'.trans k3
  have r2 : RowW p (s3 ++ [.lst ([z2, sg].map D.str)]) (.loc s3.length) [z2, sg] := RowW.new p3.lt (ok2 hz2 hs) (by simp)
  have x3 := Ext.mk s3 [Cell.lst ([z2, sg].map D.str)]
  have x4 := Ext.mk (s3 ++ [Cell.lst ([z2, sg].map D.str)]) [Cell.lst [.loc lb, .loc s2.length, .loc s3.length]]
  have l4 : (s3 ++ [Cell.lst ([z2, sg].map D.str)]).length = s3.length + 1 := by simp
  have Q0 : Rws p (s3.length + 1) ((s3 ++ [Cell.lst ([z2, sg].map D.str)]) ++ [Cell.lst [.loc lb, .loc s2.length, .loc s3.length]]) [.loc lb, .loc s2.length, .loc s3.length] [[n', sg'], [n', z1], [z2, sg]] := by
    refine ⟨by rw [← l4]; exact get_new _ _, ⟨_, _, rfl⟩, by have := p3.lt; omega, rfl, row_all (.cons ?_ (.cons ?_ (.cons ?_ .nil)))⟩
    · exact ((rb.kp (k2.trans ((Kp.ext x2).trans k3))).ext x3).ext x4
    · exact ((r1.kp k3).ext x3).ext x4
    · exact r2.ext x4
  have hle3 := k03.1
  obtain ⟨s4, hs4⟩ : ∃ s4, s4 = (s3 ++ [Cell.lst ([z2, sg].map D.str)]) ++ [Cell.lst [.loc lb, .loc s2.length, .loc s3.length]] := ⟨_, rfl⟩
  have p4 : Pool p s4 := by rw [hs4]; exact Pool.ext (Pool.ext p3 x3) x4
  have k04 : Kp p s s4 := by rw [hs4]; exact (k03.trans (Kp.ext x3)).trans (Kp.ext x4)
  rw [← hs4] at Q0
  refine st_set (P := WLp p s) (d := .loc (s3.length + 1)) (s' := s4) (by
    simp only [List.map_cons, List.map_nil] at e3 hs4
    simp [b0, e2, e3]
    rw [hs4]
    simp) ?_
  simp only [List.set_cons_succ, List.set_cons_zero]
  obtain ⟨lq, hlq⟩ : ∃ lq, lq = s3.length + 1 := ⟨_, rfl⟩
  rw [← hlq] at Q0 ⊢
  have hq0 : s.length ≤ lq := by omega
  clear hs4 hlq l4
  -- the fourth row
  obtain ⟨z3, s5, e5, hz3, p5, k5⟩ := wsign_spec p4 hs.1 (by omega)
  have x5 := Ext.mk s5 [Cell.lst ([n, z3].map D.str)]
  have r5 : RowW p (s5 ++ [.lst ([n, z3].map D.str)]) (.loc s5.length) [n, z3] := RowW.new p5.lt (ok2 hn hz3) (by simp)
  have Q5 := (Q0.kp k5).ext x5
  obtain ⟨s6, e6, Q6, p6, l6, f6⟩ := Q5.push r5 (by simp) (Pool.ext p5 x5)
  have k06 : Kp p s s6 := by
    have kk := (k04.trans k5).trans (Kp.ext x5)
    exact ⟨by rw [l6]; exact kk.1, fun l hl a => by rw [f6 l (by omega)]; exact kk.2 l hl a⟩
  refine st_expr (P := WLp p s) (d := .non) (s' := s6) (by
    have ty := Q0.ty
    simp only [List.map_cons, List.map_nil] at e6
    simp [ty, e5, e6]) ?_
  -- the fifth row
  obtain ⟨z4, s7, e7, hz4, p7, k7⟩ := wnum_spec p6 hn.1 hn2
  obtain ⟨z5, s8, e8, hz5, p8, k8⟩ := wsign_spec p7 hs.1 (by omega)
  have x8 := Ext.mk s8 [Cell.lst ([z4, z5].map D.str)]
  have r8 : RowW p (s8 ++ [.lst ([z4, z5].map D.str)]) (.loc s8.length) [z4, z5] := RowW.new p8.lt (ok2 hz4 hz5) (by simp)
  have Q8 := ((Q6.kp k7).kp k8).ext x8
  obtain ⟨s9, e9, Q9, p9, l9, f9⟩ := Q8.push r8 (by simp) (Pool.ext p8 x8)
  have k09 : Kp p s s9 := by
    have kk := ((k06.trans k7).trans k8).trans (Kp.ext x8)
    exact ⟨by rw [l9]; exact kk.1, fun l hl a => by rw [f9 l (by omega)]; exact kk.2 l hl a⟩
  refine st_expr (P := WLp p s) (d := .non) (s' := s9) (by
    have ty := Q6.ty
    simp only [List.map_cons, List.map_nil] at e9
    simp [ty, e7, e8, e9]) ?_
  -- several
  obtain ⟨sa, ea, xa, Sa, la⟩ := sev_spec p9 (Kp.get k09 gw nw) hn hs hn2 hs2 (some (.loc p)) (some (.loc lb)) (some (.loc lq)) none none none trivial
  refine st_set (P := WLp p s) (d := .loc (s9.length + 7)) (s' := sa) ea ?_
  simp only [List.set_cons_succ, List.set_cons_zero]
  have pa := Pool.ext p9 xa
  obtain ⟨sb, eb, xb, Sb, lb'⟩ := sev2_spec pa Sa (by simp) hn hs (some (.loc p)) (some (.loc lw)) (some (.loc lb)) (some (.loc lq)) none none none
  refine st_set (P := WLp p s) (d := .loc (sa.length + 5)) (s' := sb) eb ?_
  simp only [List.set_cons_succ, List.set_cons_zero]
  have pb := Pool.ext pa xb
  have k0b := (k09.trans (Kp.ext xa)).trans (Kp.ext (p := p) xb)
  have Qb := (Q9.ext xa).ext xb
  obtain ⟨lv, hlv⟩ : ∃ lv, lv = sa.length + 5 := ⟨_, rfl⟩
  rw [← hlv] at Sb ⊢
  have hlv0 : s.length ≤ lv := by have := k09.1; omega
  have hqv : lq ≠ lv := by
    have q := lt_of_get Q9.g
    omega
  obtain ⟨z6, sc, ec, hz6, pc, kc⟩ := wnum_spec pb hn.1 hn2
  have xc := Ext.mk sc [Cell.lst ([z6].map D.str)]
  have rc : RowW p (sc ++ [.lst ([z6].map D.str)]) (.loc sc.length) [z6] := RowW.new pc.lt (ok1 hz6) (by simp)
  have Sc := (Sb.kp kc).ext xc
  have Qc := (Qb.kp kc).ext xc
  obtain ⟨sd, ed, Sd, pd, ld, fd⟩ := Sc.push rc (by simp) (Pool.ext pc xc)
  have k0d : Kp p s sd := by
    have kk := (k0b.trans kc).trans (Kp.ext xc)
    exact ⟨by rw [ld]; exact kk.1, fun l hl a => by rw [fd l (by omega)]; exact kk.2 l hl a⟩
  have Qd : Rws p lq sd ([.loc lb, .loc s2.length, .loc s3.length] ++ [.loc s5.length] ++ [.loc s8.length]) ([[n', sg'], [n', z1], [z2, sg]] ++ [[n, z3]] ++ [[z4, z5]]) := by
    obtain ⟨a, t, hd⟩ := Sc.hd
    refine ⟨by rw [fd lq hqv]; exact Qc.g, Qc.hd, Qc.ne, Qc.len, fun i d ws h1 h2 => ?_⟩
    obtain ⟨l, q1, q2, q3⟩ := (Qc.all i d ws h1 h2).at_
    have nel : l ≠ lv := fun z => by
      subst z
      have g := Sc.g
      rw [hd, q2] at g
      have := Option.some.inj g
      cases ws with
      | nil => cases this
      | cons w ws => cases this
    exact ⟨⟨l, q1, by rw [fd l nel]; exact q2, q3⟩, (Qc.all i d ws h1 h2).ok, (Qc.all i d ws h1 h2).len⟩
  refine st_expr (P := WLp p s) (d := .non) (s' := sd) (by
    have ty := Sb.ty
    simp only [List.map_cons, List.map_nil] at ed
    simp [ty, ec, ed]) ?_
  -- one of them
  have wl := dLen_loc Sd.g
  have wl' : dLen [.loc lv] sd = some (.int 12, sd) := wl
  obtain ⟨j, se, ee, j0, j1, pe, ke⟩ := draw_spec pd (many := 12) (by omega) (by omega)
  have Se := Sd.kp ke
  have Qe := Qd.kp ke
  obtain ⟨jn, rfl⟩ := Int.eq_ofNat_of_zero_le j0
  have hlen : (([D.loc s9.length, .loc (s9.length + 1), .loc (s9.length + 2), .loc (s9.length + 3), .loc (s9.length + 4), .loc (s9.length + 5), .loc (s9.length + 6)] ++ [.loc sa.length, .loc (sa.length + 1), .loc (sa.length + 2), .loc (sa.length + 3)] ++ [.loc sc.length] : List D)).length = 12 := rfl
  obtain ⟨d6, hd6⟩ : ∃ d6, (([D.loc s9.length, .loc (s9.length + 1), .loc (s9.length + 2), .loc (s9.length + 3), .loc (s9.length + 4), .loc (s9.length + 5), .loc (s9.length + 6)] ++ [.loc sa.length, .loc (sa.length + 1), .loc (sa.length + 2), .loc (sa.length + 3)] ++ [.loc sc.length] : List D))[jn]? = some d6 := ⟨_, List.getElem?_eq_getElem (by rw [hlen]; omega)⟩
  have hrl : (sev1 n sg ++ sev2 n sg ++ [[z6]]).length = 12 := rfl
  obtain ⟨w6, hw6⟩ : ∃ w6, (sev1 n sg ++ sev2 n sg ++ [[z6]])[jn]? = some w6 := ⟨_, List.getElem?_eq_getElem (by rw [hrl]; omega)⟩
  have r6 := Se.all jn d6 w6 hd6 hw6
  have b6 := sev_bad (z := z6) tn ts w6 (List.mem_of_getElem? hw6)
  have ix6 : dIxZ (.loc lv) (.int (jn : Nat)) se = some (d6, se) := by
    rw [dIxZ_loc Se.g, dIx_loc Se.g, L2.atI_nat hd6]
    rfl
  obtain ⟨sf, ef, Qf, pf, lf, ff⟩ := Qe.push r6 (by simp) pe
  have k0f : Kp p s sf := by
    have kk := k0d.trans ke
    exact ⟨by rw [lf]; exact kk.1, fun l hl a => by rw [ff l (by omega)]; exact kk.2 l hl a⟩
  refine st_expr (P := WLp p s) (d := .non) (s' := sf) (by
    have ty := Qd.ty
    simp [ty, wl', ee, ix6, ef]) ?_
  -- and one more
  obtain ⟨sg2, hsg2⟩ : ∃ sg2, sg2 = sf ++ [Cell.lst [.str "0", .str "AD"], .lst [.str "0", .str "BC"], .lst [.str sg, .str n], .lst [.str "10000", .str "AD"], .lst [.str "10001", .str "BC"]] := ⟨_, rfl⟩
  have xg : Ext sf sg2 := by rw [hsg2]; exact Ext.mk _ _
  have pg := Pool.ext pf xg
  have lg : sg2.length = sf.length + 5 := by rw [hsg2]; simp
  obtain ⟨b, sh, d7, eh, hd7, wd7, ph, kh⟩ := drawn pg (L := [.loc sf.length, .loc (sf.length + 1), .loc (sf.length + 2), .loc (sf.length + 3), .loc (sf.length + 4)]) (n := 5) rfl (by omega) (by omega)
  have lfp := pf.lt
  have t0 : tl ("0" : Str) ≠ [] := by decide +kernel
  have n4 : ("10000" : Str) = num 10000 := by decide +kernel
  have n5 : ("10001" : Str) = num 10001 := by decide +kernel
  have f4 := far_bad (n := "10000") (sg := "AD") ⟨10000, n4, .inl ⟨rfl, by omega, by omega⟩⟩
  have f5 := far_bad (n := "10001") (sg := "BC") ⟨10001, n5, .inr ⟨rfl, by omega, by omega⟩⟩
  have opt : ∃ a c, RowW p sg2 d7 [a, c] ∧ isBadW [a, c] := by
    have at_ : ∀ (i : Nat) (x : Cell), [Cell.lst [.str "0", .str "AD"], .lst [.str "0", .str "BC"], .lst [.str sg, .str n], .lst [.str "10000", .str "AD"], .lst [.str "10001", .str "BC"]][i]? = some x → sg2[sf.length + i]? = some x := fun i x h => by
      rw [hsg2, List.getElem?_append_right (by omega), Nat.add_sub_cancel_left]
      exact h
    simp only [List.mem_cons, List.mem_nil_iff, or_false] at hd7
    rcases hd7 with rfl | rfl | rfl | rfl | rfl
    · exact ⟨"0", "AD", row_at (at_ 0 _ rfl) (by omega) (wok_all (by decide +kernel)) (by simp), bad_two t0 ad_ok.2 (zero_bad _)⟩
    · exact ⟨"0", "BC", row_at (at_ 1 _ rfl) (by omega) (wok_all (by decide +kernel)) (by simp), bad_two t0 bc_ok.2 (zero_bad _)⟩
    · exact ⟨sg, n, row_at (at_ 2 _ rfl) (by omega) (ok2 hs hn) (by simp), bad_two ts tn (sign_bad hsd)⟩
    · exact ⟨"10000", "AD", row_at (at_ 3 _ rfl) (by omega) (ok2 f4.2.1 ad_ok.1) (by simp), bad_two f4.2.2.2.1 f4.2.2.2.2 f4.1⟩
    · exact ⟨"10001", "BC", row_at (at_ 4 _ rfl) (by omega) (ok2 f5.2.1 bc_ok.1) (by simp), bad_two f5.2.2.2.1 f5.2.2.2.2 f5.1⟩
  obtain ⟨oa, oc, r7, b7⟩ := opt
  have Qh := (Qf.ext xg).kp kh
  obtain ⟨si, ei, Qi, pi, li, fi⟩ := Qh.push (r7.kp kh) (by simp) ph
  have k0i : Kp p s si := by
    have kk := (k0f.trans (Kp.ext xg)).trans kh
    exact ⟨by rw [li]; exact kk.1, fun l hl a => by rw [fi l (by omega)]; exact kk.2 l hl a⟩
  refine st_expr (P := WLp p s) (d := .non) (s' := si) (by
    have ty := Qf.ty
    rw [lg] at wd7
    have eh' : m_d_law_draw [.loc p, .int 5] (sf ++ [Cell.lst [.str "0", .str "AD"], .lst [.str "0", .str "BC"], .lst [.str sg, .str n], .lst [.str "10000", .str "AD"], .lst [.str "10001", .str "BC"], .lst [.loc sf.length, .loc (sf.length + 1), .loc (sf.length + 2), .loc (sf.length + 3), .loc (sf.length + 4)]]) = .ok (.int b) sh := by
      rw [hsg2] at eh
      simpa using eh
    simp [ty, eh', wd7, ei]) ?_
  -- the lines
  obtain ⟨zs, sj, ej, hzl, hzW, hzz, pj, kj⟩ := lines_spec pi Qi.g Qi.ne Qi.len (by simp) Qi.all (some (.loc lw)) (some (.str n)) (some (.str sg)) (some (.loc lb)) (some (.loc lq)) (some (.loc lv)) none none
  have xk := Ext.mk sj [Cell.lst (zs.map D.str)]
  have gk := get_new sj (.lst (zs.map D.str))
  have gi := Qi.g
  refine st_set (P := WLp p s) (d := .loc sj.length) (s' := sj ++ [.lst (zs.map D.str)]) (by
    generalize ([D.loc lb, .loc s2.length, .loc s3.length] ++ [.loc s5.length] ++ [.loc s8.length] ++ [d6] ++ [d7] : List D) = DD at *
    simp [gi, ej]) ?_
  simp only [List.set_cons_succ, List.set_cons_zero]
  have hz7 : zs.length = 7 := hzl
  have el := pad_spec gk hzz (by omega) (some (.loc p)) (some (.loc lw)) (some (.str n)) (some (.str sg)) (some (.loc lb)) (some (.loc lq)) (some (.loc lv)) (some (.loc sj.length)) none
  refine st_ret (P := WLp p s) (d := .loc (sj.length + 1)) (s' := sj ++ [.lst (zs.map D.str)] ++ [.lst ((zs.map padS).map D.str)]) (by
    generalize (zs.map padS).map D.str = PP at *
    generalize zs.map D.str = ZZ at *
    simp [gk, el]) ?_
  have pk := Pool.ext (Pool.ext pj xk) (Ext.mk _ [Cell.lst ((zs.map padS).map D.str)])
  have k0k := ((k0i.trans kj).trans (Kp.ext xk)).trans (Kp.ext (p := p) (Ext.mk (sj ++ [.lst (zs.map D.str)]) [Cell.lst ((zs.map padS).map D.str)]))
  have ljp := pj.lt
  refine ⟨sj.length + 1, zs.map padS, _, rfl, ?_, ?_, fun z hz => ?_, by omega, pk, k0k⟩
  · have : (sj ++ [Cell.lst (zs.map D.str)]).length = sj.length + 1 := by simp
    rw [← this]
    exact get_new _ _
  · obtain ⟨a, b, c, d, e, f, g, rfl⟩ := seven hz7
    refine ⟨_, _, _, _, _, _, _, rfl, ?_, ?_, ?_⟩
    · exact bad_two ft1 ft2 fb _ (by rw [pad_W]; exact hzW 0 a _ rfl rfl)
    · exact b6 _ (by rw [pad_W]; exact hzW 5 f _ rfl rfl)
    · exact b7 _ (by rw [pad_W]; exact hzW 6 g _ rfl rfl)
  · obtain ⟨y, hy, rfl⟩ := List.mem_map.mp hz
    have := pad_len (hzz y hy)
    omega
end Law
namespace Law
open PySem Mi
theorem turn2_spec {z : Str} {y : Int} (hd : due (words z) = .good y) (hz : z.length ≤ 100000) (s : Store) (a0 a1 a2 a3 a4 a6 a7 a8 a9 : Option D) : ∃ s', turn (gN 8) bl_law_2 (.str z) [a0, a1, a2, a3, a4, some (.int y), a6, a7, a8, a9] s = .nx [a0, a1, a2, a3, a4, some (.int y), a6, a7, some (.str z), a9] s' ∧ Ext s s' := by
  obtain ⟨l, s1, e1, g1, x1⟩ := ldue_spec hz s
  obtain ⟨k, s2, e2, g2, x2⟩ := ldue_spec hz s1
  obtain ⟨s3, e3, x3⟩ := right_spec hz s2
  rw [hd] at g1 g2
  simp only [dueL] at g1 g2
  have a : dIxZ (.loc l) (.int 0) s1 = some (.int 0, s1) := by rw [dIxZ_loc g1, dIx_loc g1]; simp
  have b : dIxZ (.loc k) (.int 1) s2 = some (.int y, s2) := by rw [dIxZ_loc g2, dIx_loc g2]; simp
  exact ⟨s3, by simp [turn, bl_law_2, e1, a, e2, b, e3], (x1.trans x2).trans x3⟩
def bz (z : Str) : Int := match due (words z) with
  | .bad _ => 1
  | .good _ => 0
theorem turn1_spec {z : Str} (hz : z.length ≤ 100000) (r : Int) (s : Store) (a0 a1 a2 a4 a5 a6 a7 a8 a9 : Option D) : ∃ s', turn (gN 8) bl_law_1 (.str z) [a0, a1, a2, some (.int r), a4, a5, a6, a7, a8, a9] s = .nx [a0, a1, a2, some (.int (r + bz z)), a4, a5, a6, a7, some (.str z), a9] s' ∧ Ext s s' := by
  obtain ⟨s1, e1, x1⟩ := right_spec hz s
  obtain ⟨l, s2, e2, g2, x2⟩ := ldue_spec hz s1
  have a : dIxZ (.loc l) (.int 0) s2 = some (.int (bz z), s2) := by
    rw [dIxZ_loc g2, dIx_loc g2]
    unfold bz
    cases due (words z) <;> simp [dueL]
  exact ⟨s2, by simp [turn, bl_law_1, e1, e2, a], x1.trans x2⟩
theorem sum_loop {l : Nat} {zs : List Str} {s : Store} (g : s[l]? = some (.lst (zs.map D.str))) (hz : ∀ z ∈ zs, z.length ≤ 100000) (r : Int) (a0 a1 a2 a4 a5 a6 a7 a8 a9 : Option D) :
    ∃ (s' : Store) (a8' : Option D), forL (fun s2 => s2[l]? = some (Cell.lst (zs.map D.str))) (gN 8) bl_law_1 (zs.map D.str) [a0, a1, a2, some (.int r), a4, a5, a6, a7, a8, a9] s = .nx [a0, a1, a2, some (.int (zs.foldl (fun r z => r + bz z) r)), a4, a5, a6, a7, a8', a9] s' ∧ Ext s s' := by
  obtain ⟨env', s', e, r', a8', rfl, x, hr⟩ := forL_atT (gd := fun s2 => s2[l]? = some (Cell.lst (zs.map D.str))) (g := gN 8) (b := bl_law_1) (zs.map D.str)
    (fun i env s' => ∃ (r' : Int) (a8' : Option D), env = [a0, a1, a2, some (.int r'), a4, a5, a6, a7, a8', a9] ∧ Ext s s' ∧ r' = (zs.take i).foldl (fun r z => r + bz z) r) (fun _ _ _ ⟨_, _, _, x, _⟩ => x.get g)
    (env := [a0, a1, a2, some (.int r), a4, a5, a6, a7, a8, a9]) (s := s) (fun i d env s1 hd ⟨r', a8', he, x, hr⟩ => by
      subst he
      obtain ⟨z, hzi, rfl⟩ := map_get hd
      obtain ⟨s2, e2, x2⟩ := turn1_spec (hz z (List.mem_of_getElem? hzi)) r' s1 a0 a1 a2 a4 a5 a6 a7 a8' a9
      rw [e2]
      refine ⟨_, _, rfl, x.trans x2, ?_⟩
      rw [List.take_succ, hzi, List.foldl_append, ← hr]
      rfl) ⟨r, a8, rfl, Ext.refl s, rfl⟩
  rw [List.length_map, List.take_of_length_le (Nat.le_refl _)] at hr
  subst hr
  exact ⟨s', a8', e, x⟩
theorem bz_nonneg (z : Str) : 0 ≤ bz z := by unfold bz; cases due (words z) <;> simp
theorem bz_bad {z : Str} (h : isBad z) : bz z = 1 := by obtain ⟨w, e⟩ := h; unfold bz; rw [e]
theorem fnm {N n : Nat} {b : MS} {ds : List D} {s s' : Store} {d : D} (h : b (ds.map some ++ List.replicate (N - n) none) s = .rt d s') : fnM N n b ds s = .ok d s' := by rw [fnM_eq, h]
theorem digs_sign (y : Int) : digs (ys y) = false := by unfold ys; split <;> decide +kernel
theorem lap_spec {p : Nat} {s : Store} (hp : Pool p s) (r : Int) (lap : D) (a0 a2 a4 a5 a6 a7 a8 a9 : Option D) : ∃ (s' : Store) (r' : Int) (b5 b6 b7 b8 : Option D), turn (gN 4) bl_law_3 lap [a0, some (.loc p), a2, some (.int r), a4, a5, a6, a7, a8, a9] s = .nx [a0, some (.loc p), a2, some (.int r'), some lap, b5, b6, b7, b8, a9] s' ∧ r + 3 ≤ r' ∧ Pool p s' ∧ Kp p s s' := by
  obtain ⟨y, s1, e1, y0, y1, p1, k1⟩ := lyear_spec hp
  have e2 := wordsof_year y0 y1 s1
  have hy := yn_pos y0 y1
  obtain ⟨n, hn⟩ : ∃ n, n = num (yn y) := ⟨_, rfl⟩
  obtain ⟨sg, hsg⟩ : ∃ sg, sg = ys y := ⟨_, rfl⟩
  have nok : WOk n := by rw [hn]; exact num_ok (by omega)
  have nlen : n.length ≤ 10 := by rw [hn]; exact num_len (by omega)
  have nne : tl n ≠ [] := by rw [hn]; exact num_ne _
  have sok : WOk sg := by rw [hsg]; exact (ys_ok y).1
  have sne : tl sg ≠ [] := by rw [hsg]; exact (ys_ok y).2
  have slen' : sg.length ≤ 10 := by rw [hsg]; unfold ys; split <;> decide +kernel
  have sdg : digs sg = false := by rw [hsg]; exact digs_sign y
  have hdue : due [n, sg] = .good y := by rw [hn, hsg]; exact due_year y0 y1
  rw [← hn, ← hsg] at e2
  have x2 := Ext.mk s1 [Cell.lst ([n, sg].map D.str)]
  have g2 := get_new s1 (.lst ([n, sg].map D.str))
  have p2 := Pool.ext p1 x2
  have lw_ne : s1.length ≠ p := Nat.ne_of_gt p1.lt
  obtain ⟨s2, hs2⟩ : ∃ s2, s2 = s1 ++ [Cell.lst ([n, sg].map D.str)] := ⟨_, rfl⟩
  rw [← hs2] at e2 x2 g2 p2
  obtain ⟨lw, hlw⟩ : ∃ lw, lw = s1.length := ⟨_, rfl⟩
  rw [← hlw] at e2 g2 lw_ne
  have e3 := ytext_spec y0 y1 s2
  rw [← hn, ← hsg] at e3
  have i0 : dIxZ (.loc lw) (.int 0) s2 = some (.str n, s2) := by rw [dIxZ_loc g2, dIx_loc g2]; simp
  have i1 : dIxZ (.loc lw) (.int 1) s2 = some (.str sg, s2) := by rw [dIxZ_loc g2, dIx_loc g2]; simp
  have sl : (" " : Str).length = 1 := by decide +kernel
  have l1 := slen n " "
  have l2 := slen (n ++ " ") sg
  have d1 := sadd (a := n) (b := " ") (by omega) (by omega) s2
  have d2 := sadd (a := n ++ " ") (b := sg) (by omega) (by omega) s2
  obtain ⟨t1, ht1⟩ : ∃ t1, t1 = n ++ " " ++ sg := ⟨_, rfl⟩
  have W1 : words t1 = [n, sg] := words_of_W (by
    have e : tl (" " : Str) = List.replicate (0 + 1) 32 := by decide +kernel
    rw [ht1, tl_app, tl_app, e, W_next _ _ sok.1, W_word nok.1, ← ne0_app]
    exact ne0_all fun w hw => by
      simp only [List.cons_append, List.nil_append, List.mem_cons, List.mem_nil_iff, or_false] at hw
      rcases hw with rfl | rfl
      · exact nne
      · exact sne)
  have lt1 : t1.length ≤ 100 := by rw [ht1]; omega
  obtain ⟨t2, s3, e4, hW2, lt2, p3, k3⟩ := line_spec p2 g2 lw_ne (ok2 nok sok) (by simp)
  have W2 : words t2 = [n, sg] := words_of_W (by
    rw [hW2]
    exact ne0_all fun w hw => by
      simp only [List.map_cons, List.map_nil, List.mem_cons, List.mem_nil_iff, or_false] at hw
      rcases hw with rfl | rfl
      · exact nne
      · exact sne)
  rw [← ht1] at e3 d2
  have x4 := Ext.mk s3 [Cell.lst ([t1, t2].map D.str)]
  have g4 := get_new s3 (.lst ([t1, t2].map D.str))
  obtain ⟨s4, hs4⟩ : ∃ s4, s4 = s3 ++ [Cell.lst ([t1, t2].map D.str)] := ⟨_, rfl⟩
  rw [← hs4] at x4 g4
  obtain ⟨l4, hl4⟩ : ∃ l4, l4 = s3.length := ⟨_, rfl⟩
  rw [← hl4] at g4
  have q1 : due (words t1) = .good y := by rw [W1]; exact hdue
  have q2 : due (words t2) = .good y := by rw [W2]; exact hdue
  obtain ⟨env5, s5, e5, b8, rfl, x5⟩ := forL_atT (gd := fun s2 => s2[l4]? = some (Cell.lst ([t1, t2].map D.str))) (g := gN 8) (b := bl_law_2) ([t1, t2].map D.str)
    (fun i env s' => ∃ (b8 : Option D), env = [a0, some (.loc p), a2, some (.int r), some lap, some (.int y), some (.loc lw), some (.str t1), b8, a9] ∧ Ext s4 s') (fun _ _ _ ⟨_, _, x⟩ => x.get g4)
    (env := [a0, some (.loc p), a2, some (.int r), some lap, some (.int y), some (.loc lw), some (.str t1), a8, a9]) (s := s4) (fun i d env s' hd ⟨b8, he, x⟩ => by
      subst he
      obtain ⟨z, hzi, rfl⟩ := map_get hd
      have hz : due (words z) = .good y ∧ z.length ≤ 100000 := by
        have := List.mem_of_getElem? hzi
        simp only [List.mem_cons, List.mem_nil_iff, or_false] at this
        rcases this with rfl | rfl
        · exact ⟨q1, by omega⟩
        · exact ⟨q2, by omega⟩
      obtain ⟨s2, e2, x2⟩ := turn2_spec hz.1 hz.2 s' a0 (some (.loc p)) a2 (some (.int r)) (some lap) (some (.loc lw)) (some (.str t1)) b8 a9
      rw [e2]
      exact ⟨_, rfl, x.trans x2⟩) ⟨a8, rfl, Ext.refl s4⟩
  have p5 := Pool.ext (Pool.ext p3 x4) x5
  have k5 := ((((k1.trans (Kp.ext x2)).trans k3).trans (Kp.ext x4)).trans (Kp.ext x5))
  have gw5 : s5[lw]? = some (.lst [.str n, .str sg]) := x5.get (x4.get (Kp.get k3 g2 lw_ne))
  obtain ⟨lz, zs, s6, e6, g6, ⟨za, zb, zc, zd, ze, zf, zg, hzs, ba, bf, bg⟩, hzl, nz, p6, k6⟩ := wlines_spec p5 gw5 lw_ne nok sok (by omega) slen' nne sne sdg
  have e6' : m_d_law_wrong_lines [.loc p, .loc lw] s5 = .ok (.loc lz) s6 := fnm e6
  obtain ⟨s7, b8', e7, x7⟩ := sum_loop g6 (fun z hz => by have := hzl z hz; omega) r a0 (some (.loc p)) a2 (some lap) (some (.int y)) (some (.loc lw)) (some (.str t1)) b8 a9
  obtain ⟨r', hr'⟩ : ∃ r', r' = zs.foldl (fun r z => r + bz z) r := ⟨_, rfl⟩
  have hge : r + 3 ≤ r' := by
    rw [hr', hzs]
    simp only [List.foldl_cons, List.foldl_nil]
    rw [bz_bad ba, bz_bad bf, bz_bad bg]
    have := bz_nonneg zb
    have := bz_nonneg zc
    have := bz_nonneg zd
    have := bz_nonneg ze
    omega
  rw [← hr'] at e7
  refine ⟨s7, r', some (.int y), some (.loc lw), some (.str t1), b8', ?_, hge, Pool.ext p6 x7, (k5.trans k6).trans (Kp.ext x7)⟩
  simp only [List.map_cons, List.map_nil] at hs4 g4 e5
  generalize zs.map D.str = ZZ at *
  simp [turn, bl_law_3, e1, e2, e3, i0, i1, d1, d2, dIsi, e4, ← hs4, ← hl4, g4, e5, e6', g6, e7]
theorem law_true (ns : List Int) (hn : ns.length ≤ 63) : ∃ s, m_law [.fl (ns.map D.int)] [] = .ok (.bl true) s := by
  refine Yes.fn (N := 10) (n := 1) (b := b_law) ?_
  show Yes (b_law [some (.fl (ns.map D.int)), none, none, none, none, none, none, none, none, none] [])
  obtain ⟨p, s0, e0, p0⟩ := pool_spec ns hn
  unfold b_law
  generalize D.fl (ns.map D.int) = v0 at *
  refine st_set (d := .loc p) (s' := s0) (by simp [e0]) ?_
  simp only [List.set_cons_succ, List.set_cons_zero]
  obtain ⟨y, s1, e1, y0, y1, p1, k1⟩ := lyear_spec p0
  have hy := yn_pos y0 y1
  have e2 := wordsof_year y0 y1 s1
  have x2 := Ext.mk s1 [Cell.lst ([num (yn y), ys y].map D.str)]
  have g2 := get_new s1 (.lst ([num (yn y), ys y].map D.str))
  obtain ⟨first, s3, e3, _, lf, p3, k3⟩ := line_spec (Pool.ext p1 x2) g2 (Nat.ne_of_gt p1.lt) (ok2 (num_ok (by omega)) (ys_ok y).1) (by simp)
  refine st_set (d := .str first) (s' := s3) (by
    generalize [num (yn y), ys y].map D.str = L at *
    simp [e1, e2, e3]) ?_
  simp only [List.set_cons_succ, List.set_cons_zero]
  refine st_set (d := .int 0) (s' := s3) (by simp) ?_
  simp only [List.set_cons_succ, List.set_cons_zero]
  have er := rangeOf_int s3 (4 : Int) (by omega) (by omega)
  obtain ⟨env4, s4, e4, r, b4, b5, b6, b7, b8, rfl, p4, hr⟩ := forL_atT (gd := always) (g := gN 4) (b := bl_law_3) (rng 4)
    (fun i env s' => ∃ (r : Int) (b4 b5 b6 b7 b8 : Option D), env = [some v0, some (.loc p), some (.str first), some (.int r), b4, b5, b6, b7, b8, none] ∧ Pool p s' ∧ 3 * (i : Int) ≤ r) (fun _ _ _ _ => trivial)
    (env := [some v0, some (.loc p), some (.str first), some (.int 0), none, none, none, none, none, none]) (s := s3) (fun i d env s' hd ⟨r, b4, b5, b6, b7, b8, he, hp', hr⟩ => by
      subst he
      obtain ⟨s2, r', c5, c6, c7, c8, e5, hr', p5, k5⟩ := lap_spec hp' r d (some v0) (some (.str first)) b4 b5 b6 b7 b8 none
      rw [e5]
      exact ⟨_, _, _, _, _, _, rfl, p5, by omega⟩) ⟨0, none, none, none, none, none, rfl, p3, by omega⟩
  rw [rng_len] at hr
  refine st_for (x := Itm.mk (rng 4) always) (s' := s3) (by
    have er' : rangeOf [.int 4] s3 = .ok (Itm.mk (rng 4) always) s3 := er
    simp [er']) e4 ?_
  obtain ⟨s5, e5, x5⟩ := right_spec (t := first) (by omega) s4
  have hr' : ¬ r < 12 := by omega
  refine st_no (s' := s5) (by simp [hr', e5]) ?_
  have p5 := Pool.ext p4 x5
  obtain ⟨k, s6, e6, k0, k1', p6, k6⟩ := draw_spec p5 (many := 11) (by omega) (by omega)
  have last : ∀ (s : Store) (c6 c9 : Option D), Yes (sRet (eAnd (eCall m_d_law_right (aCons (eC (.str "10000 BC")) (aNil))) (eAnd (eCall m_d_law_right (aCons (eC (.str "9999 AD")) (aNil))) (eAnd (eCall m_d_law_right (aCons (eC (.str "1 BC")) (aNil))) (eCall m_d_law_right (aCons (eV 2) (aNil)))))) [some v0, some (.loc p), some (.str first), some (.int r), b4, b5, c6, b7, b8, c9] s) := fun s c6 c9 => by
    obtain ⟨sa, ea, _⟩ := right_spec (t := "10000 BC") (by decide +kernel) s
    obtain ⟨sb, eb, _⟩ := right_spec (t := "9999 AD") (by decide +kernel) sa
    obtain ⟨sc, ec, _⟩ := right_spec (t := "1 BC") (by decide +kernel) sb
    obtain ⟨sd, ed, _⟩ := right_spec (t := first) (by omega) sc
    exact st_ret (d := .bl true) (s' := sd) (by simp [ea, eb, ec, ed]) ⟨sd, rfl⟩
  by_cases c0 : k = 0
  · obtain ⟨y2, s7, e7, z0, z1, p7, k7⟩ := lyear_spec p6
    have hy2 := yn_pos z0 z1
    have e8 := wordsof_year z0 z1 s7
    obtain ⟨n, hn⟩ : ∃ n, n = num (yn y2) := ⟨_, rfl⟩
    obtain ⟨sg, hsg⟩ : ∃ sg, sg = ys y2 := ⟨_, rfl⟩
    have nlen : n.length ≤ 10 := by rw [hn]; exact num_len (by omega)
    have slen' : sg.length ≤ 10 := by rw [hsg]; unfold ys; split <;> decide +kernel
    rw [← hn, ← hsg] at e8
    have x8 := Ext.mk s7 [Cell.lst ([n, sg].map D.str)]
    have g8 := get_new s7 (.lst ([n, sg].map D.str))
    have p8 := Pool.ext p7 x8
    obtain ⟨s8, hs8⟩ : ∃ s8, s8 = s7 ++ [Cell.lst ([n, sg].map D.str)] := ⟨_, rfl⟩
    rw [← hs8] at e8 g8 p8
    have nlp : s7.length ≠ p := Nat.ne_of_gt p7.lt
    obtain ⟨w, s9, e9, w0, w1, p9, k9⟩ := draw_spec p8 (many := 2500) (by omega) (by omega)
    obtain ⟨wn, rfl⟩ := Int.eq_ofNat_of_zero_le w0
    have m := mul_sp (k := 100 + wn) (by omega) s9
    have m' : dMulS (.str " ") (.int (100 + (wn : Int))) s9 = some (.str (sp (100 + wn)), s9) := by
      rw [show ((100 + wn : Nat) : Int) = 100 + (wn : Int) by omega] at m
      exact m
    have g9 := Kp.get k9 g8 nlp
    have i0 : ∀ {s}, Ext s9 s → dIxZ (.loc s7.length) (.int 0) s = some (.str n, s) := fun x => by have g := x.get g9; rw [dIxZ_loc g, dIx_loc g]; simp
    have i1 : ∀ {s}, Ext s9 s → dIxZ (.loc s7.length) (.int 1) s = some (.str sg, s) := fun x => by have g := x.get g9; rw [dIxZ_loc g, dIx_loc g]; simp
    obtain ⟨wd, hwd⟩ : ∃ wd, wd = sp (100 + wn) := ⟨_, rfl⟩
    have wl : wd.length ≤ 2600 := by rw [hwd, sp_len]; omega
    rw [← hwd] at m'
    have l1 := slen wd n
    have l2 := slen (wd ++ n) wd
    have l3 := slen (wd ++ n ++ wd) sg
    have l4 := slen (wd ++ n ++ wd ++ sg) wd
    have d1 := fun s => sadd (a := wd) (b := n) (by omega) (by omega) s
    have d2 := fun s => sadd (a := wd ++ n) (b := wd) (by omega) (by omega) s
    have d3 := fun s => sadd (a := wd ++ n ++ wd) (b := sg) (by omega) (by omega) s
    have d4 := fun s => sadd (a := wd ++ n ++ wd ++ sg) (b := wd) (by omega) (by omega) s
    obtain ⟨sx, ex, xx⟩ := right_spec (t := wd ++ n ++ wd ++ sg ++ wd) (by omega) s9
    obtain ⟨sy, ey, xy⟩ := right_spec (t := wd ++ n ++ wd) (by omega) sx
    refine st_yes (s' := s6) (env2 := [some v0, some (.loc p), some (.str first), some (.int r), b4, b5, some (.loc s7.length), b7, b8, some (.str wd)]) (s2 := sy) (by simp [e6, c0]) ?_ (last sy _ _)
    have a0 := i0 (Ext.refl s9)
    have a1 := i1 (Ext.refl s9)
    have a2 := i0 xx
    generalize wd ++ n ++ wd ++ sg ++ wd = q4 at *
    generalize wd ++ n ++ wd ++ sg = q3 at *
    generalize wd ++ n ++ wd = q2 at *
    generalize wd ++ n = q1 at *
    generalize [n, sg].map D.str = L at *
    simp [e7, e8, e9, m', a0, a1, a2, d1, d2, d3, d4, ex, ey]
  · exact st_no (s' := s6) (by simp [e6, c0]) (last s6 _ _)
end Law
namespace Law
open PySem PySem.Spec PyProof.Rows L2 Mi
theorem all_mk {P : Program} {w : World} {K : PySem.W.Frag} {h : Heap} {mg : Str → Option Value} {fa : Addr} (X : K.In h) (G : h.Ns mainGlobals mg) (hfa : mg "law" = some (.ref fa))
  {f_words_of : Addr} {od_words_of an_words_of : Option Addr} {sl_words_of : Array (Option Value)} {oc_words_of kV_words_of dc_words_of pm_words_of cd_words_of ct_words_of : Value} (a_words_of : PySem.W.nsIn K mainGlobals "words_of" = some (some (.ref f_words_of))) (l_words_of : K.lookup f_words_of = some ⟨oc_words_of, od_words_of, .func (PySem.W.fnOf "words_of" "words_of" (defArgs s_words_of) (defBody s_words_of) (defScope s_words_of) .none kV_words_of dc_words_of pm_words_of an_words_of cd_words_of ct_words_of), sl_words_of⟩) (c_words_of : PySem.W.codeIn K cd_words_of "words_of" = true) (k_words_of : PySem.W.keepIn K (.ref f_words_of) = true)
  {f_written_integer : Addr} {od_written_integer an_written_integer : Option Addr} {sl_written_integer : Array (Option Value)} {oc_written_integer kV_written_integer dc_written_integer pm_written_integer cd_written_integer ct_written_integer : Value} (a_written_integer : PySem.W.nsIn K mainGlobals "written_integer" = some (some (.ref f_written_integer))) (l_written_integer : K.lookup f_written_integer = some ⟨oc_written_integer, od_written_integer, .func (PySem.W.fnOf "written_integer" "written_integer" (defArgs s_written_integer) (defBody s_written_integer) (defScope s_written_integer) .none kV_written_integer dc_written_integer pm_written_integer an_written_integer cd_written_integer ct_written_integer), sl_written_integer⟩) (c_written_integer : PySem.W.codeIn K cd_written_integer "written_integer" = true) (k_written_integer : PySem.W.keepIn K (.ref f_written_integer) = true)
  {f_year_text : Addr} {od_year_text an_year_text : Option Addr} {sl_year_text : Array (Option Value)} {oc_year_text kV_year_text dc_year_text pm_year_text cd_year_text ct_year_text : Value} (a_year_text : PySem.W.nsIn K mainGlobals "year_text" = some (some (.ref f_year_text))) (l_year_text : K.lookup f_year_text = some ⟨oc_year_text, od_year_text, .func (PySem.W.fnOf "year_text" "year_text" (defArgs s_year_text) (defBody s_year_text) (defScope s_year_text) .none kV_year_text dc_year_text pm_year_text an_year_text cd_year_text ct_year_text), sl_year_text⟩) (c_year_text : PySem.W.codeIn K cd_year_text "year_text" = true) (k_year_text : PySem.W.keepIn K (.ref f_year_text) = true)
  {f_year_from : Addr} {od_year_from an_year_from : Option Addr} {sl_year_from : Array (Option Value)} {oc_year_from kV_year_from dc_year_from pm_year_from cd_year_from ct_year_from : Value} (a_year_from : PySem.W.nsIn K mainGlobals "year_from" = some (some (.ref f_year_from))) (l_year_from : K.lookup f_year_from = some ⟨oc_year_from, od_year_from, .func (PySem.W.fnOf "year_from" "year_from" (defArgs s_year_from) (defBody s_year_from) (defScope s_year_from) .none kV_year_from dc_year_from pm_year_from an_year_from cd_year_from ct_year_from), sl_year_from⟩) (c_year_from : PySem.W.codeIn K cd_year_from "year_from" = true) (k_year_from : PySem.W.keepIn K (.ref f_year_from) = true)
  {f_read_year : Addr} {od_read_year an_read_year : Option Addr} {sl_read_year : Array (Option Value)} {oc_read_year kV_read_year dc_read_year pm_read_year cd_read_year ct_read_year : Value} (a_read_year : PySem.W.nsIn K mainGlobals "read_year" = some (some (.ref f_read_year))) (l_read_year : K.lookup f_read_year = some ⟨oc_read_year, od_read_year, .func (PySem.W.fnOf "read_year" "read_year" (defArgs s_read_year) (defBody s_read_year) (defScope s_read_year) .none kV_read_year dc_read_year pm_read_year an_read_year cd_read_year ct_read_year), sl_read_year⟩) (c_read_year : PySem.W.codeIn K cd_read_year "read_year" = true) (k_read_year : PySem.W.keepIn K (.ref f_read_year) = true)
  {f_d_law_pool : Addr} {od_d_law_pool an_d_law_pool : Option Addr} {sl_d_law_pool : Array (Option Value)} {oc_d_law_pool kV_d_law_pool dc_d_law_pool pm_d_law_pool cd_d_law_pool ct_d_law_pool : Value} (a_d_law_pool : PySem.W.nsIn K mainGlobals "_law_pool" = some (some (.ref f_d_law_pool))) (l_d_law_pool : K.lookup f_d_law_pool = some ⟨oc_d_law_pool, od_d_law_pool, .func (PySem.W.fnOf "_law_pool" "_law_pool" (defArgs s_d_law_pool) (defBody s_d_law_pool) (defScope s_d_law_pool) .none kV_d_law_pool dc_d_law_pool pm_d_law_pool an_d_law_pool cd_d_law_pool ct_d_law_pool), sl_d_law_pool⟩) (c_d_law_pool : PySem.W.codeIn K cd_d_law_pool "_law_pool" = true) (k_d_law_pool : PySem.W.keepIn K (.ref f_d_law_pool) = true)
  {f_d_law_draw : Addr} {od_d_law_draw an_d_law_draw : Option Addr} {sl_d_law_draw : Array (Option Value)} {oc_d_law_draw kV_d_law_draw dc_d_law_draw pm_d_law_draw cd_d_law_draw ct_d_law_draw : Value} (a_d_law_draw : PySem.W.nsIn K mainGlobals "_law_draw" = some (some (.ref f_d_law_draw))) (l_d_law_draw : K.lookup f_d_law_draw = some ⟨oc_d_law_draw, od_d_law_draw, .func (PySem.W.fnOf "_law_draw" "_law_draw" (defArgs s_d_law_draw) (defBody s_d_law_draw) (defScope s_d_law_draw) .none kV_d_law_draw dc_d_law_draw pm_d_law_draw an_d_law_draw cd_d_law_draw ct_d_law_draw), sl_d_law_draw⟩) (c_d_law_draw : PySem.W.codeIn K cd_d_law_draw "_law_draw" = true) (k_d_law_draw : PySem.W.keepIn K (.ref f_d_law_draw) = true)
  {f_d_law_often_end : Addr} {od_d_law_often_end an_d_law_often_end : Option Addr} {sl_d_law_often_end : Array (Option Value)} {oc_d_law_often_end kV_d_law_often_end dc_d_law_often_end pm_d_law_often_end cd_d_law_often_end ct_d_law_often_end : Value} (a_d_law_often_end : PySem.W.nsIn K mainGlobals "_law_often_end" = some (some (.ref f_d_law_often_end))) (l_d_law_often_end : K.lookup f_d_law_often_end = some ⟨oc_d_law_often_end, od_d_law_often_end, .func (PySem.W.fnOf "_law_often_end" "_law_often_end" (defArgs s_d_law_often_end) (defBody s_d_law_often_end) (defScope s_d_law_often_end) .none kV_d_law_often_end dc_d_law_often_end pm_d_law_often_end an_d_law_often_end cd_d_law_often_end ct_d_law_often_end), sl_d_law_often_end⟩) (c_d_law_often_end : PySem.W.codeIn K cd_d_law_often_end "_law_often_end" = true) (k_d_law_often_end : PySem.W.keepIn K (.ref f_d_law_often_end) = true)
  {f_d_law_is_integer : Addr} {od_d_law_is_integer an_d_law_is_integer : Option Addr} {sl_d_law_is_integer : Array (Option Value)} {oc_d_law_is_integer kV_d_law_is_integer dc_d_law_is_integer pm_d_law_is_integer cd_d_law_is_integer ct_d_law_is_integer : Value} (a_d_law_is_integer : PySem.W.nsIn K mainGlobals "_law_is_integer" = some (some (.ref f_d_law_is_integer))) (l_d_law_is_integer : K.lookup f_d_law_is_integer = some ⟨oc_d_law_is_integer, od_d_law_is_integer, .func (PySem.W.fnOf "_law_is_integer" "_law_is_integer" (defArgs s_d_law_is_integer) (defBody s_d_law_is_integer) (defScope s_d_law_is_integer) .none kV_d_law_is_integer dc_d_law_is_integer pm_d_law_is_integer an_d_law_is_integer cd_d_law_is_integer ct_d_law_is_integer), sl_d_law_is_integer⟩) (c_d_law_is_integer : PySem.W.codeIn K cd_d_law_is_integer "_law_is_integer" = true) (k_d_law_is_integer : PySem.W.keepIn K (.ref f_d_law_is_integer) = true)
  {f_d_law_signs : Addr} {od_d_law_signs an_d_law_signs : Option Addr} {sl_d_law_signs : Array (Option Value)} {oc_d_law_signs kV_d_law_signs dc_d_law_signs pm_d_law_signs cd_d_law_signs ct_d_law_signs : Value} (a_d_law_signs : PySem.W.nsIn K mainGlobals "_law_signs" = some (some (.ref f_d_law_signs))) (l_d_law_signs : K.lookup f_d_law_signs = some ⟨oc_d_law_signs, od_d_law_signs, .func (PySem.W.fnOf "_law_signs" "_law_signs" (defArgs s_d_law_signs) (defBody s_d_law_signs) (defScope s_d_law_signs) .none kV_d_law_signs dc_d_law_signs pm_d_law_signs an_d_law_signs cd_d_law_signs ct_d_law_signs), sl_d_law_signs⟩) (c_d_law_signs : PySem.W.codeIn K cd_d_law_signs "_law_signs" = true) (k_d_law_signs : PySem.W.keepIn K (.ref f_d_law_signs) = true)
  {f_d_law_year : Addr} {od_d_law_year an_d_law_year : Option Addr} {sl_d_law_year : Array (Option Value)} {oc_d_law_year kV_d_law_year dc_d_law_year pm_d_law_year cd_d_law_year ct_d_law_year : Value} (a_d_law_year : PySem.W.nsIn K mainGlobals "_law_year" = some (some (.ref f_d_law_year))) (l_d_law_year : K.lookup f_d_law_year = some ⟨oc_d_law_year, od_d_law_year, .func (PySem.W.fnOf "_law_year" "_law_year" (defArgs s_d_law_year) (defBody s_d_law_year) (defScope s_d_law_year) .none kV_d_law_year dc_d_law_year pm_d_law_year an_d_law_year cd_d_law_year ct_d_law_year), sl_d_law_year⟩) (c_d_law_year : PySem.W.codeIn K cd_d_law_year "_law_year" = true) (k_d_law_year : PySem.W.keepIn K (.ref f_d_law_year) = true)
  {f_d_law_words_of : Addr} {od_d_law_words_of an_d_law_words_of : Option Addr} {sl_d_law_words_of : Array (Option Value)} {oc_d_law_words_of kV_d_law_words_of dc_d_law_words_of pm_d_law_words_of cd_d_law_words_of ct_d_law_words_of : Value} (a_d_law_words_of : PySem.W.nsIn K mainGlobals "_law_words_of" = some (some (.ref f_d_law_words_of))) (l_d_law_words_of : K.lookup f_d_law_words_of = some ⟨oc_d_law_words_of, od_d_law_words_of, .func (PySem.W.fnOf "_law_words_of" "_law_words_of" (defArgs s_d_law_words_of) (defBody s_d_law_words_of) (defScope s_d_law_words_of) .none kV_d_law_words_of dc_d_law_words_of pm_d_law_words_of an_d_law_words_of cd_d_law_words_of ct_d_law_words_of), sl_d_law_words_of⟩) (c_d_law_words_of : PySem.W.codeIn K cd_d_law_words_of "_law_words_of" = true) (k_d_law_words_of : PySem.W.keepIn K (.ref f_d_law_words_of) = true)
  {f_d_law_spaces : Addr} {od_d_law_spaces an_d_law_spaces : Option Addr} {sl_d_law_spaces : Array (Option Value)} {oc_d_law_spaces kV_d_law_spaces dc_d_law_spaces pm_d_law_spaces cd_d_law_spaces ct_d_law_spaces : Value} (a_d_law_spaces : PySem.W.nsIn K mainGlobals "_law_spaces" = some (some (.ref f_d_law_spaces))) (l_d_law_spaces : K.lookup f_d_law_spaces = some ⟨oc_d_law_spaces, od_d_law_spaces, .func (PySem.W.fnOf "_law_spaces" "_law_spaces" (defArgs s_d_law_spaces) (defBody s_d_law_spaces) (defScope s_d_law_spaces) .none kV_d_law_spaces dc_d_law_spaces pm_d_law_spaces an_d_law_spaces cd_d_law_spaces ct_d_law_spaces), sl_d_law_spaces⟩) (c_d_law_spaces : PySem.W.codeIn K cd_d_law_spaces "_law_spaces" = true) (k_d_law_spaces : PySem.W.keepIn K (.ref f_d_law_spaces) = true)
  {f_d_law_line : Addr} {od_d_law_line an_d_law_line : Option Addr} {sl_d_law_line : Array (Option Value)} {oc_d_law_line kV_d_law_line dc_d_law_line pm_d_law_line cd_d_law_line ct_d_law_line : Value} (a_d_law_line : PySem.W.nsIn K mainGlobals "_law_line" = some (some (.ref f_d_law_line))) (l_d_law_line : K.lookup f_d_law_line = some ⟨oc_d_law_line, od_d_law_line, .func (PySem.W.fnOf "_law_line" "_law_line" (defArgs s_d_law_line) (defBody s_d_law_line) (defScope s_d_law_line) .none kV_d_law_line dc_d_law_line pm_d_law_line an_d_law_line cd_d_law_line ct_d_law_line), sl_d_law_line⟩) (c_d_law_line : PySem.W.codeIn K cd_d_law_line "_law_line" = true) (k_d_law_line : PySem.W.keepIn K (.ref f_d_law_line) = true)
  {f_d_law_due : Addr} {od_d_law_due an_d_law_due : Option Addr} {sl_d_law_due : Array (Option Value)} {oc_d_law_due kV_d_law_due dc_d_law_due pm_d_law_due cd_d_law_due ct_d_law_due : Value} (a_d_law_due : PySem.W.nsIn K mainGlobals "_law_due" = some (some (.ref f_d_law_due))) (l_d_law_due : K.lookup f_d_law_due = some ⟨oc_d_law_due, od_d_law_due, .func (PySem.W.fnOf "_law_due" "_law_due" (defArgs s_d_law_due) (defBody s_d_law_due) (defScope s_d_law_due) .none kV_d_law_due dc_d_law_due pm_d_law_due an_d_law_due cd_d_law_due ct_d_law_due), sl_d_law_due⟩) (c_d_law_due : PySem.W.codeIn K cd_d_law_due "_law_due" = true) (k_d_law_due : PySem.W.keepIn K (.ref f_d_law_due) = true)
  {f_d_law_ask : Addr} {od_d_law_ask an_d_law_ask : Option Addr} {sl_d_law_ask : Array (Option Value)} {oc_d_law_ask kV_d_law_ask dc_d_law_ask pm_d_law_ask cd_d_law_ask ct_d_law_ask : Value} (a_d_law_ask : PySem.W.nsIn K mainGlobals "_law_ask" = some (some (.ref f_d_law_ask))) (l_d_law_ask : K.lookup f_d_law_ask = some ⟨oc_d_law_ask, od_d_law_ask, .func (PySem.W.fnOf "_law_ask" "_law_ask" (defArgs s_d_law_ask) (defBody s_d_law_ask) (defScope s_d_law_ask) .none kV_d_law_ask dc_d_law_ask pm_d_law_ask an_d_law_ask cd_d_law_ask ct_d_law_ask), sl_d_law_ask⟩) (c_d_law_ask : PySem.W.codeIn K cd_d_law_ask "_law_ask" = true) (k_d_law_ask : PySem.W.keepIn K (.ref f_d_law_ask) = true)
  {f_d_law_right : Addr} {od_d_law_right an_d_law_right : Option Addr} {sl_d_law_right : Array (Option Value)} {oc_d_law_right kV_d_law_right dc_d_law_right pm_d_law_right cd_d_law_right ct_d_law_right : Value} (a_d_law_right : PySem.W.nsIn K mainGlobals "_law_right" = some (some (.ref f_d_law_right))) (l_d_law_right : K.lookup f_d_law_right = some ⟨oc_d_law_right, od_d_law_right, .func (PySem.W.fnOf "_law_right" "_law_right" (defArgs s_d_law_right) (defBody s_d_law_right) (defScope s_d_law_right) .none kV_d_law_right dc_d_law_right pm_d_law_right an_d_law_right cd_d_law_right ct_d_law_right), sl_d_law_right⟩) (c_d_law_right : PySem.W.codeIn K cd_d_law_right "_law_right" = true) (k_d_law_right : PySem.W.keepIn K (.ref f_d_law_right) = true)
  {f_d_law_set_in : Addr} {od_d_law_set_in an_d_law_set_in : Option Addr} {sl_d_law_set_in : Array (Option Value)} {oc_d_law_set_in kV_d_law_set_in dc_d_law_set_in pm_d_law_set_in cd_d_law_set_in ct_d_law_set_in : Value} (a_d_law_set_in : PySem.W.nsIn K mainGlobals "_law_set_in" = some (some (.ref f_d_law_set_in))) (l_d_law_set_in : K.lookup f_d_law_set_in = some ⟨oc_d_law_set_in, od_d_law_set_in, .func (PySem.W.fnOf "_law_set_in" "_law_set_in" (defArgs s_d_law_set_in) (defBody s_d_law_set_in) (defScope s_d_law_set_in) .none kV_d_law_set_in dc_d_law_set_in pm_d_law_set_in an_d_law_set_in cd_d_law_set_in ct_d_law_set_in), sl_d_law_set_in⟩) (c_d_law_set_in : PySem.W.codeIn K cd_d_law_set_in "_law_set_in" = true) (k_d_law_set_in : PySem.W.keepIn K (.ref f_d_law_set_in) = true)
  {f_d_law_wrong_number : Addr} {od_d_law_wrong_number an_d_law_wrong_number : Option Addr} {sl_d_law_wrong_number : Array (Option Value)} {oc_d_law_wrong_number kV_d_law_wrong_number dc_d_law_wrong_number pm_d_law_wrong_number cd_d_law_wrong_number ct_d_law_wrong_number : Value} (a_d_law_wrong_number : PySem.W.nsIn K mainGlobals "_law_wrong_number" = some (some (.ref f_d_law_wrong_number))) (l_d_law_wrong_number : K.lookup f_d_law_wrong_number = some ⟨oc_d_law_wrong_number, od_d_law_wrong_number, .func (PySem.W.fnOf "_law_wrong_number" "_law_wrong_number" (defArgs s_d_law_wrong_number) (defBody s_d_law_wrong_number) (defScope s_d_law_wrong_number) .none kV_d_law_wrong_number dc_d_law_wrong_number pm_d_law_wrong_number an_d_law_wrong_number cd_d_law_wrong_number ct_d_law_wrong_number), sl_d_law_wrong_number⟩) (c_d_law_wrong_number : PySem.W.codeIn K cd_d_law_wrong_number "_law_wrong_number" = true) (k_d_law_wrong_number : PySem.W.keepIn K (.ref f_d_law_wrong_number) = true)
  {f_d_law_wrong_sign : Addr} {od_d_law_wrong_sign an_d_law_wrong_sign : Option Addr} {sl_d_law_wrong_sign : Array (Option Value)} {oc_d_law_wrong_sign kV_d_law_wrong_sign dc_d_law_wrong_sign pm_d_law_wrong_sign cd_d_law_wrong_sign ct_d_law_wrong_sign : Value} (a_d_law_wrong_sign : PySem.W.nsIn K mainGlobals "_law_wrong_sign" = some (some (.ref f_d_law_wrong_sign))) (l_d_law_wrong_sign : K.lookup f_d_law_wrong_sign = some ⟨oc_d_law_wrong_sign, od_d_law_wrong_sign, .func (PySem.W.fnOf "_law_wrong_sign" "_law_wrong_sign" (defArgs s_d_law_wrong_sign) (defBody s_d_law_wrong_sign) (defScope s_d_law_wrong_sign) .none kV_d_law_wrong_sign dc_d_law_wrong_sign pm_d_law_wrong_sign an_d_law_wrong_sign cd_d_law_wrong_sign ct_d_law_wrong_sign), sl_d_law_wrong_sign⟩) (c_d_law_wrong_sign : PySem.W.codeIn K cd_d_law_wrong_sign "_law_wrong_sign" = true) (k_d_law_wrong_sign : PySem.W.keepIn K (.ref f_d_law_wrong_sign) = true)
  {f_d_law_beyond : Addr} {od_d_law_beyond an_d_law_beyond : Option Addr} {sl_d_law_beyond : Array (Option Value)} {oc_d_law_beyond kV_d_law_beyond dc_d_law_beyond pm_d_law_beyond cd_d_law_beyond ct_d_law_beyond : Value} (a_d_law_beyond : PySem.W.nsIn K mainGlobals "_law_beyond" = some (some (.ref f_d_law_beyond))) (l_d_law_beyond : K.lookup f_d_law_beyond = some ⟨oc_d_law_beyond, od_d_law_beyond, .func (PySem.W.fnOf "_law_beyond" "_law_beyond" (defArgs s_d_law_beyond) (defBody s_d_law_beyond) (defScope s_d_law_beyond) .none kV_d_law_beyond dc_d_law_beyond pm_d_law_beyond an_d_law_beyond cd_d_law_beyond ct_d_law_beyond), sl_d_law_beyond⟩) (c_d_law_beyond : PySem.W.codeIn K cd_d_law_beyond "_law_beyond" = true) (k_d_law_beyond : PySem.W.keepIn K (.ref f_d_law_beyond) = true)
  {f_d_law_wrong_lines : Addr} {od_d_law_wrong_lines an_d_law_wrong_lines : Option Addr} {sl_d_law_wrong_lines : Array (Option Value)} {oc_d_law_wrong_lines kV_d_law_wrong_lines dc_d_law_wrong_lines pm_d_law_wrong_lines cd_d_law_wrong_lines ct_d_law_wrong_lines : Value} (a_d_law_wrong_lines : PySem.W.nsIn K mainGlobals "_law_wrong_lines" = some (some (.ref f_d_law_wrong_lines))) (l_d_law_wrong_lines : K.lookup f_d_law_wrong_lines = some ⟨oc_d_law_wrong_lines, od_d_law_wrong_lines, .func (PySem.W.fnOf "_law_wrong_lines" "_law_wrong_lines" (defArgs s_d_law_wrong_lines) (defBody s_d_law_wrong_lines) (defScope s_d_law_wrong_lines) .none kV_d_law_wrong_lines dc_d_law_wrong_lines pm_d_law_wrong_lines an_d_law_wrong_lines cd_d_law_wrong_lines ct_d_law_wrong_lines), sl_d_law_wrong_lines⟩) (c_d_law_wrong_lines : PySem.W.codeIn K cd_d_law_wrong_lines "_law_wrong_lines" = true) (k_d_law_wrong_lines : PySem.W.keepIn K (.ref f_d_law_wrong_lines) = true)
  {f_law : Addr} {od_law an_law : Option Addr} {sl_law : Array (Option Value)} {oc_law kV_law dc_law pm_law cd_law ct_law : Value} (a_law : PySem.W.nsIn K mainGlobals "law" = some (some (.ref f_law))) (l_law : K.lookup f_law = some ⟨oc_law, od_law, .func (PySem.W.fnOf "law" "law" (defArgs s_law) (defBody s_law) (defScope s_law) .none kV_law dc_law pm_law an_law cd_law ct_law), sl_law⟩) (c_law : PySem.W.codeIn K cd_law "law" = true) (k_law : PySem.W.keepIn K (.ref f_law) = true)
  {c_BadText f_BadText : Addr} {nm_BadText q_BadText : Str} {N_BadText : Addr} {bs_BadText bm_BadText : List Value} {sn_BadText : List Str} {sub_BadText : List Value} {ab_BadText : Bool} {col_BadText : Option Bool} {dd_BadText : Option Addr} {m0_BadText m1_BadText m2_BadText m3_BadText m5_BadText : Option Value} {od_BadText an_BadText : Option Addr} {sl_BadText : Array (Option Value)} {oc_BadText kV_BadText dc_BadText pm_BadText cd_BadText ct_BadText : Value} (aC_BadText : PySem.W.nsIn K mainGlobals "BadText" = some (some (.ref c_BadText))) (xL_BadText : K.lookup c_BadText = some (excClassObj nm_BadText q_BadText c_BadText N_BadText bs_BadText bm_BadText true sn_BadText sub_BadText ab_BadText col_BadText dd_BadText m0_BadText m1_BadText m2_BadText m3_BadText m5_BadText "ValueError.__new__")) (bm_ok_BadText : PySem.HandSPX.refsVE bm_BadText = true) (sa_BadText : PySem.W.findIn K (.ref c_BadText) "__setattr__" = some (some (.builtin "object.__setattr__"))) (ga_BadText : PySem.W.findIn K (.ref c_BadText) "__getattribute__" = some (some (.builtin "BaseException.__getattribute__"))) (gg_BadText : PySem.W.findIn K (.ref c_BadText) "__getattr__" = some none) (no_BadText_line : PySem.W.findIn K (.ref c_BadText) "line" = some none) (no_BadText_word : PySem.W.findIn K (.ref c_BadText) "word" = some none) (iI_BadText : PySem.W.findIn K (.ref c_BadText) "__init__" = some (some (.ref f_BadText))) (tF_BadText : PySem.W.typeIn K (.ref f_BadText) = some (.type "function")) (l_BadText : K.lookup f_BadText = some ⟨oc_BadText, od_BadText, .func (PySem.W.fnOf "__init__" "BadText.__init__" (defArgs s_BadText) (defBody s_BadText) (defScope s_BadText) .none kV_BadText dc_BadText pm_BadText an_BadText cd_BadText ct_BadText), sl_BadText⟩) (cd_ok_BadText : PySem.W.codeIn K cd_BadText "BadText.__init__" = true) (kI_BadText : PySem.W.keepIn K (.ref f_BadText) = true) (kC_BadText : PySem.W.keepIn K (.ref c_BadText) = true) (eC_BadText : PySem.W.subIn K (.ref c_BadText) (.type "BaseException") = some true) (tC_BadText : PySem.W.typeIn K (.ref c_BadText) = some (.type "type")) (hC_BadText : PySem.W.hasDictIn K c_BadText = true) (iC_BadText : PySem.W.isClsIn K c_BadText = true) (sC_BadText : PySem.W.subIn K (.ref c_BadText) (.ref c_BadText) = some true)
  {c_TextError : Addr} (aC_TextError : PySem.W.nsIn K mainGlobals "TextError" = some (some (.ref c_TextError)))
  {c_DataError : Addr} (aC_DataError : PySem.W.nsIn K mainGlobals "DataError" = some (some (.ref c_DataError)))
  {c_CallError : Addr} (aC_CallError : PySem.W.nsIn K mainGlobals "CallError" = some (some (.ref c_CallError)))
  {c_DeskError : Addr} (aC_DeskError : PySem.W.nsIn K mainGlobals "DeskError" = some (some (.ref c_DeskError)))
  (x1_BadText : PySem.W.findIn K (.ref c_BadText) "__class__" = some (some (.builtin "object.__class__"))) (x2_BadText : PySem.W.specialIn K (.builtin "object.__class__") "__get__" = some (some (.builtin "getset_descriptor.__get__"))) (x3_BadText : PySem.W.takesIn K (.builtin "object.__class__") = some true) (x4_BadText : PySem.W.mroIn K c_BadText (.type "object") = some true)
  (ki_0 : PySem.W.kitOne K (.ref c_BadText) (.ref c_TextError) = some true)
  (ki_1 : PySem.W.kitAny K (.ref c_BadText) ([c_DataError, c_CallError, c_DeskError].map Value.ref) = some false)
  {t_FIGURES : Tok} (n_FIGURES : PySem.W.nsIn K mainGlobals "FIGURES" = some (some (.str "0123456789" t_FIGURES)))
  {t_WRITTEN_MOST : Tok} (n_WRITTEN_MOST : PySem.W.nsIn K mainGlobals "WRITTEN_MOST" = some (some (.int (9) t_WRITTEN_MOST)))
  {t_YEAR_LEAST : Tok} (n_YEAR_LEAST : PySem.W.nsIn K mainGlobals "YEAR_LEAST" = some (some (.int (-9999) t_YEAR_LEAST)))
  {t_YEAR_MOST : Tok} (n_YEAR_MOST : PySem.W.nsIn K mainGlobals "YEAR_MOST" = some (some (.int (9999) t_YEAR_MOST)))
  (z_bool : PySem.W.nsIn K mainGlobals "bool" = some none)
  (z_int : PySem.W.nsIn K mainGlobals "int" = some none)
  (z_isinstance : PySem.W.nsIn K mainGlobals "isinstance" = some none)
  (z_len : PySem.W.nsIn K mainGlobals "len" = some none)
  (z_range : PySem.W.nsIn K mainGlobals "range" = some none)
  (z_str : PySem.W.nsIn K mainGlobals "str" = some none) :
  ∃ fd : FuncData, (∀ (s : Shared) (v : Value), BindsTo s fd ⟨[v], []⟩ [("script", v)]) ∧ ∀ base : Heap, K.In base → base.Ns mainGlobals mg → FnOk P w K mg base (L2.CX P w) 6 fa fd ["script"] (spLaw K) := by
  cases hfa.symm.trans (PySem.W.mg_of X G a_law)
  have Z : ∃ Z : Fx K mg, Z.a_law = fa ∧ Z.d_law = PySem.W.fnOf "law" "law" (defArgs s_law) (defBody s_law) (defScope s_law) .none kV_law dc_law pm_law an_law cd_law ct_law := ⟨{
    a_words_of := f_words_of, d_words_of := _, F_words_of := fun_mk (st := s_words_of) l_words_of c_words_of k_words_of, g_words_of := PySem.W.mg_of X G a_words_of,
    a_written_integer := f_written_integer, d_written_integer := _, F_written_integer := fun_mk (st := s_written_integer) l_written_integer c_written_integer k_written_integer, g_written_integer := PySem.W.mg_of X G a_written_integer,
    a_year_text := f_year_text, d_year_text := _, F_year_text := fun_mk (st := s_year_text) l_year_text c_year_text k_year_text, g_year_text := PySem.W.mg_of X G a_year_text,
    a_year_from := f_year_from, d_year_from := _, F_year_from := fun_mk (st := s_year_from) l_year_from c_year_from k_year_from, g_year_from := PySem.W.mg_of X G a_year_from,
    a_read_year := f_read_year, d_read_year := _, F_read_year := fun_mk (st := s_read_year) l_read_year c_read_year k_read_year, g_read_year := PySem.W.mg_of X G a_read_year,
    a_d_law_pool := f_d_law_pool, d_d_law_pool := _, F_d_law_pool := fun_mk (st := s_d_law_pool) l_d_law_pool c_d_law_pool k_d_law_pool, g_d_law_pool := PySem.W.mg_of X G a_d_law_pool,
    a_d_law_draw := f_d_law_draw, d_d_law_draw := _, F_d_law_draw := fun_mk (st := s_d_law_draw) l_d_law_draw c_d_law_draw k_d_law_draw, g_d_law_draw := PySem.W.mg_of X G a_d_law_draw,
    a_d_law_often_end := f_d_law_often_end, d_d_law_often_end := _, F_d_law_often_end := fun_mk (st := s_d_law_often_end) l_d_law_often_end c_d_law_often_end k_d_law_often_end, g_d_law_often_end := PySem.W.mg_of X G a_d_law_often_end,
    a_d_law_is_integer := f_d_law_is_integer, d_d_law_is_integer := _, F_d_law_is_integer := fun_mk (st := s_d_law_is_integer) l_d_law_is_integer c_d_law_is_integer k_d_law_is_integer, g_d_law_is_integer := PySem.W.mg_of X G a_d_law_is_integer,
    a_d_law_signs := f_d_law_signs, d_d_law_signs := _, F_d_law_signs := fun_mk (st := s_d_law_signs) l_d_law_signs c_d_law_signs k_d_law_signs, g_d_law_signs := PySem.W.mg_of X G a_d_law_signs,
    a_d_law_year := f_d_law_year, d_d_law_year := _, F_d_law_year := fun_mk (st := s_d_law_year) l_d_law_year c_d_law_year k_d_law_year, g_d_law_year := PySem.W.mg_of X G a_d_law_year,
    a_d_law_words_of := f_d_law_words_of, d_d_law_words_of := _, F_d_law_words_of := fun_mk (st := s_d_law_words_of) l_d_law_words_of c_d_law_words_of k_d_law_words_of, g_d_law_words_of := PySem.W.mg_of X G a_d_law_words_of,
    a_d_law_spaces := f_d_law_spaces, d_d_law_spaces := _, F_d_law_spaces := fun_mk (st := s_d_law_spaces) l_d_law_spaces c_d_law_spaces k_d_law_spaces, g_d_law_spaces := PySem.W.mg_of X G a_d_law_spaces,
    a_d_law_line := f_d_law_line, d_d_law_line := _, F_d_law_line := fun_mk (st := s_d_law_line) l_d_law_line c_d_law_line k_d_law_line, g_d_law_line := PySem.W.mg_of X G a_d_law_line,
    a_d_law_due := f_d_law_due, d_d_law_due := _, F_d_law_due := fun_mk (st := s_d_law_due) l_d_law_due c_d_law_due k_d_law_due, g_d_law_due := PySem.W.mg_of X G a_d_law_due,
    a_d_law_ask := f_d_law_ask, d_d_law_ask := _, F_d_law_ask := fun_mk (st := s_d_law_ask) l_d_law_ask c_d_law_ask k_d_law_ask, g_d_law_ask := PySem.W.mg_of X G a_d_law_ask,
    a_d_law_right := f_d_law_right, d_d_law_right := _, F_d_law_right := fun_mk (st := s_d_law_right) l_d_law_right c_d_law_right k_d_law_right, g_d_law_right := PySem.W.mg_of X G a_d_law_right,
    a_d_law_set_in := f_d_law_set_in, d_d_law_set_in := _, F_d_law_set_in := fun_mk (st := s_d_law_set_in) l_d_law_set_in c_d_law_set_in k_d_law_set_in, g_d_law_set_in := PySem.W.mg_of X G a_d_law_set_in,
    a_d_law_wrong_number := f_d_law_wrong_number, d_d_law_wrong_number := _, F_d_law_wrong_number := fun_mk (st := s_d_law_wrong_number) l_d_law_wrong_number c_d_law_wrong_number k_d_law_wrong_number, g_d_law_wrong_number := PySem.W.mg_of X G a_d_law_wrong_number,
    a_d_law_wrong_sign := f_d_law_wrong_sign, d_d_law_wrong_sign := _, F_d_law_wrong_sign := fun_mk (st := s_d_law_wrong_sign) l_d_law_wrong_sign c_d_law_wrong_sign k_d_law_wrong_sign, g_d_law_wrong_sign := PySem.W.mg_of X G a_d_law_wrong_sign,
    a_d_law_beyond := f_d_law_beyond, d_d_law_beyond := _, F_d_law_beyond := fun_mk (st := s_d_law_beyond) l_d_law_beyond c_d_law_beyond k_d_law_beyond, g_d_law_beyond := PySem.W.mg_of X G a_d_law_beyond,
    a_d_law_wrong_lines := f_d_law_wrong_lines, d_d_law_wrong_lines := _, F_d_law_wrong_lines := fun_mk (st := s_d_law_wrong_lines) l_d_law_wrong_lines c_d_law_wrong_lines k_d_law_wrong_lines, g_d_law_wrong_lines := PySem.W.mg_of X G a_d_law_wrong_lines,
    a_law := fa, d_law := _, F_law := fun_mk (st := s_law) l_law c_law k_law, g_law := PySem.W.mg_of X G a_law,
    c_BadText := c_BadText, i_BadText := f_BadText, d_BadText := _, gc_BadText := PySem.W.mg_of X G aC_BadText, T_BadText := ⟨⟨_, _, _, _, _, _, _, _, _, _, _, _, _, _, _, xL_BadText, bm_ok_BadText⟩, sa_BadText, eC_BadText, tC_BadText, kC_BadText⟩, iC_BadText := iI_BadText, tI_BadText := tF_BadText, F_BadText := fun_mk (st := s_BadText) l_BadText cd_ok_BadText kI_BadText, xf_BadText := ⟨ga_BadText, gg_BadText, eC_BadText, hC_BadText⟩, te_BadText := exm_own eC_BadText iC_BadText tC_BadText sC_BadText, no_BadText_line := no_BadText_line, no_BadText_word := no_BadText_word,
    c_TextError := c_TextError, gc_TextError := PySem.W.mg_of X G aC_TextError,
    c_DataError := c_DataError, gc_DataError := PySem.W.mg_of X G aC_DataError,
    c_CallError := c_CallError, gc_CallError := PySem.W.mg_of X G aC_CallError,
    c_DeskError := c_DeskError, gc_DeskError := PySem.W.mg_of X G aC_DeskError,
    EC_BadText := ⟨ga_BadText, gg_BadText, eC_BadText, hC_BadText, x1_BadText, x2_BadText, x3_BadText, x4_BadText⟩,
    ki_0 := ki_0,
    ki_1 := ki_1,
    k_FIGURES := ⟨_, PySem.W.mg_of X G n_FIGURES⟩,
    k_WRITTEN_MOST := ⟨_, PySem.W.mg_of X G n_WRITTEN_MOST⟩,
    k_YEAR_LEAST := ⟨_, PySem.W.mg_of X G n_YEAR_LEAST⟩,
    k_YEAR_MOST := ⟨_, PySem.W.mg_of X G n_YEAR_MOST⟩,
    b_bool := PySem.W.mg_none_of X G z_bool,
    b_int := PySem.W.mg_none_of X G z_int,
    b_isinstance := PySem.W.mg_none_of X G z_isinstance,
    b_len := PySem.W.mg_none_of X G z_len,
    b_range := PySem.W.mg_none_of X G z_range,
    b_str := PySem.W.mg_none_of X G z_str
  }, rfl, rfl⟩
  obtain ⟨Z, e1, e2⟩ := Z
  rw [← e1]
  exact ⟨Z.d_law, fun s v => e2 ▸ .of_eq rfl, fun base _ _ => FnOk.imp (ok_law Z) (law_imp law_true)⟩
end Law
open PySem PySem.W PyProof.Rows
set_option maxHeartbeats 0 in
theorem PySem.Challenge.cw_beforeinall_k04_years_in_texts_holds : PySem.Challenge.rw_beforeinall_k04_years_in_texts.Holds := by
  w_on; o_law; k_head; (case hw => w_witness2)
  k_fill
  refine L2.walk_of (l := PySem.Challenge.rw_beforeinall_k04_years_in_texts) (n := 63) (k := 6) (x := "script") (CX := fun w => L2.CX PySem.Challenge.rw_beforeinall_k04_years_in_texts.prog w) (sp := fun w => Mi.spLaw _) rfl (by decide) rfl ⟨rfl, by decide, by decide⟩ (fun w h Y => PySem.W.kIn_of Y) ?F (fun _ _ a ns hl hO hS => ⟨a, ns, rfl, hS, hl, hO, fun _ => rfl⟩) (fun _ _ _ _ _ h => Mi.cx_none h)
  case F =>
    intro w mg fa h KX G hmg
    refine' Law.all_mk KX G hmg ?a_words_of ?l_words_of ?c_words_of ?k_words_of ?a_written_integer ?l_written_integer ?c_written_integer ?k_written_integer ?a_year_text ?l_year_text ?c_year_text ?k_year_text ?a_year_from ?l_year_from ?c_year_from ?k_year_from ?a_read_year ?l_read_year ?c_read_year ?k_read_year ?a_d_law_pool ?l_d_law_pool ?c_d_law_pool ?k_d_law_pool ?a_d_law_draw ?l_d_law_draw ?c_d_law_draw ?k_d_law_draw ?a_d_law_often_end ?l_d_law_often_end ?c_d_law_often_end ?k_d_law_often_end ?a_d_law_is_integer ?l_d_law_is_integer ?c_d_law_is_integer ?k_d_law_is_integer ?a_d_law_signs ?l_d_law_signs ?c_d_law_signs ?k_d_law_signs ?a_d_law_year ?l_d_law_year ?c_d_law_year ?k_d_law_year ?a_d_law_words_of ?l_d_law_words_of ?c_d_law_words_of ?k_d_law_words_of ?a_d_law_spaces ?l_d_law_spaces ?c_d_law_spaces ?k_d_law_spaces ?a_d_law_line ?l_d_law_line ?c_d_law_line ?k_d_law_line ?a_d_law_due ?l_d_law_due ?c_d_law_due ?k_d_law_due ?a_d_law_ask ?l_d_law_ask ?c_d_law_ask ?k_d_law_ask ?a_d_law_right ?l_d_law_right ?c_d_law_right ?k_d_law_right ?a_d_law_set_in ?l_d_law_set_in ?c_d_law_set_in ?k_d_law_set_in ?a_d_law_wrong_number ?l_d_law_wrong_number ?c_d_law_wrong_number ?k_d_law_wrong_number ?a_d_law_wrong_sign ?l_d_law_wrong_sign ?c_d_law_wrong_sign ?k_d_law_wrong_sign ?a_d_law_beyond ?l_d_law_beyond ?c_d_law_beyond ?k_d_law_beyond ?a_d_law_wrong_lines ?l_d_law_wrong_lines ?c_d_law_wrong_lines ?k_d_law_wrong_lines ?a_law ?l_law ?c_law ?k_law ?aC_BadText ?xL_BadText ?bm_ok_BadText ?sa_BadText ?ga_BadText ?gg_BadText ?no_BadText_line ?no_BadText_word ?iI_BadText ?tF_BadText ?l_BadText ?cd_ok_BadText ?kI_BadText ?kC_BadText ?eC_BadText ?tC_BadText ?hC_BadText ?iC_BadText ?sC_BadText ?aC_TextError ?aC_DataError ?aC_CallError ?aC_DeskError ?x1_BadText ?x2_BadText ?x3_BadText ?x4_BadText ?ki_0 ?ki_1 ?n_FIGURES ?n_WRITTEN_MOST ?n_YEAR_LEAST ?n_YEAR_MOST ?z_bool ?z_int ?z_isinstance ?z_len ?z_range ?z_str
    (case a_words_of => k_is); (case l_words_of => k_is); (case c_words_of => k_is); (case k_words_of => k_is); (case a_written_integer => k_is); (case l_written_integer => k_is); (case c_written_integer => k_is); (case k_written_integer => k_is); (case a_year_text => k_is); (case l_year_text => k_is); (case c_year_text => k_is); (case k_year_text => k_is); (case a_year_from => k_is); (case l_year_from => k_is); (case c_year_from => k_is); (case k_year_from => k_is); (case a_read_year => k_is); (case l_read_year => k_is); (case c_read_year => k_is); (case k_read_year => k_is); (case a_d_law_pool => k_is); (case l_d_law_pool => k_is); (case c_d_law_pool => k_is); (case k_d_law_pool => k_is); (case a_d_law_draw => k_is); (case l_d_law_draw => k_is); (case c_d_law_draw => k_is); (case k_d_law_draw => k_is); (case a_d_law_often_end => k_is); (case l_d_law_often_end => k_is); (case c_d_law_often_end => k_is); (case k_d_law_often_end => k_is); (case a_d_law_is_integer => k_is); (case l_d_law_is_integer => k_is); (case c_d_law_is_integer => k_is); (case k_d_law_is_integer => k_is); (case a_d_law_signs => k_is); (case l_d_law_signs => k_is); (case c_d_law_signs => k_is); (case k_d_law_signs => k_is); (case a_d_law_year => k_is); (case l_d_law_year => k_is); (case c_d_law_year => k_is); (case k_d_law_year => k_is); (case a_d_law_words_of => k_is); (case l_d_law_words_of => k_is); (case c_d_law_words_of => k_is); (case k_d_law_words_of => k_is); (case a_d_law_spaces => k_is); (case l_d_law_spaces => k_is); (case c_d_law_spaces => k_is); (case k_d_law_spaces => k_is); (case a_d_law_line => k_is); (case l_d_law_line => k_is); (case c_d_law_line => k_is); (case k_d_law_line => k_is); (case a_d_law_due => k_is); (case l_d_law_due => k_is); (case c_d_law_due => k_is); (case k_d_law_due => k_is); (case a_d_law_ask => k_is); (case l_d_law_ask => k_is); (case c_d_law_ask => k_is); (case k_d_law_ask => k_is); (case a_d_law_right => k_is); (case l_d_law_right => k_is); (case c_d_law_right => k_is); (case k_d_law_right => k_is); (case a_d_law_set_in => k_is); (case l_d_law_set_in => k_is); (case c_d_law_set_in => k_is); (case k_d_law_set_in => k_is); (case a_d_law_wrong_number => k_is); (case l_d_law_wrong_number => k_is); (case c_d_law_wrong_number => k_is); (case k_d_law_wrong_number => k_is); (case a_d_law_wrong_sign => k_is); (case l_d_law_wrong_sign => k_is); (case c_d_law_wrong_sign => k_is); (case k_d_law_wrong_sign => k_is); (case a_d_law_beyond => k_is); (case l_d_law_beyond => k_is); (case c_d_law_beyond => k_is); (case k_d_law_beyond => k_is); (case a_d_law_wrong_lines => k_is); (case l_d_law_wrong_lines => k_is); (case c_d_law_wrong_lines => k_is); (case k_d_law_wrong_lines => k_is); (case a_law => k_is); (case l_law => k_is); (case c_law => k_is); (case k_law => k_is); (case aC_BadText => k_is); (case xL_BadText => k_is); (case bm_ok_BadText => first | rfl | decide +kernel); (case sa_BadText => k_is); (case ga_BadText => k_is); (case gg_BadText => k_is); (case no_BadText_line => k_is); (case no_BadText_word => k_is); (case iI_BadText => k_is); (case tF_BadText => k_is); (case l_BadText => k_is); (case cd_ok_BadText => k_is); (case kI_BadText => k_is); (case kC_BadText => k_is); (case eC_BadText => k_is); (case tC_BadText => k_is); (case hC_BadText => k_is); (case iC_BadText => k_is); (case sC_BadText => first | rfl | k_is); (case aC_TextError => k_is); (case aC_DataError => k_is); (case aC_CallError => k_is); (case aC_DeskError => k_is); (case x1_BadText => first | rfl | k_is); (case x2_BadText => first | rfl | k_is); (case x3_BadText => first | rfl | k_is); (case x4_BadText => first | rfl | k_is); (case ki_0 => first | rfl | k_is); (case ki_1 => first | rfl | k_is); (case n_FIGURES => first | rfl | k_is); (case n_WRITTEN_MOST => first | rfl | k_is); (case n_YEAR_LEAST => first | rfl | k_is); (case n_YEAR_MOST => first | rfl | k_is); (case z_bool => k_is); (case z_int => k_is); (case z_isinstance => k_is); (case z_len => k_is); (case z_range => k_is); (case z_str => k_is)
