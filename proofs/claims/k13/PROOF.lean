import PyProof.Rows.All
import HandS.ForMost
import HandS.ForExc
import HandS.IsInst
import HandS.TupAny
import HandS.Zip
import HandS.Wide
import HandS.Walk
import KE.SortData
import HandS.Style
import HandS.Flt
import HandS.ExcInit
import HandS.ExcField
import KE.GoesEnum
import HandS.Deep
import HandS.More
import HandS.RaiseMore
import PyProof.AutoSeq1
import HandS.DictComp
import HandS.TryOnly
import HandS.Strs
import HandS.Conv
import KE.KDictZip
import HandS.Exc
import HandS.ExcIs
import HandS.Text
import HandS.FStr
import HandS.StrMore
import KE.KMathGC
import HandS.SetFor
import HandS.Flow
import PySem.Challenge.RW_beforeinall_k13_ways_and_orders
set_option Elab.async false
set_option linter.all false
set_option maxRecDepth 100000
set_option maxHeartbeats 4000000
/-! Mi: mirrors of defs over pure values and a store; each combinator is held by the hand layer's judgements. -/
namespace Mi
open PySem PySem.Spec PyProof.Rows L2
/-! ### values, store, results -/
/-- a value: tuples are data; fl: a list that is never written; loc: a place of the store -/
inductive D where
  | non | bl (b : Bool) | int (i : Int) | str (x : Str)
  | tup (xs : List D) | fl (xs : List D) | loc (l : Nat) | exv (a dd : Addr) (c : Str) (fs : List (Str × D))
  /-- a pair that a walk hands out -/
  | tuw (xs : List D)
inductive Cell where
  | lst (xs : List D) | dic (kvs : List (Key × D)) | dct (kvs : List (List Key × D))
abbrev Store := List Cell
structure Ex where
  cls : Str
  fs : List (Str × D)
inductive R (α : Type) where
  | ok (a : α) (s : Store) | ex (e : Ex) (s : Store) | no
namespace R
def bind {α β : Type} (r : R α) (k : α → Store → R β) : R β := match r with
  | .ok a s => k a s
  | .ex e s => .ex e s
  | .no => .no
def of {α : Type} : Option (α × Store) → R α
  | some (a, s) => .ok a s
  | none => .no
@[simp] theorem bind_ok {α β : Type} (a : α) (s : Store) (k : α → Store → R β) : (R.ok a s).bind k = k a s := rfl
@[simp] theorem bind_ex {α β : Type} (e : Ex) (s : Store) (k : α → Store → R β) : (R.ex e s : R α).bind k = .ex e s := rfl
@[simp] theorem bind_no {α β : Type} (k : α → Store → R β) : (R.no : R α).bind k = .no := rfl
@[simp] theorem of_some {α : Type} (a : α) (s : Store) : R.of (some (a, s)) = .ok a s := rfl
@[simp] theorem of_none {α : Type} : (R.of none : R α) = .no := rfl
end R
/-- the slots of a def's names -/
abbrev Sl := List (Option D)
inductive RS where
  | nx (env : Sl) (s : Store) | rt (d : D) (s : Store) | bk (env : Sl) (s : Store) | ct (env : Sl) (s : Store) | ex (e : Ex) (env : Sl) (s : Store) | no
/-! ### the relation to the hand layer's heap -/
section
variable (K : PySem.W.Frag)
/-- a tuple of ours: its object is known and has no dict -/
def TupS (H : Hp) (a : Addr) (vs : List V) : Prop := ∃ o : Obj, o.cls = .type "tuple" ∧ o.dict = none ∧ H a = some (.frz o (.tup vs))
theorem TupS.sq {K : PySem.W.Frag} {H : Hp} {a : Addr} {vs : List V} (h : TupS H a vs) : SqT K H a vs := let ⟨o, _, _, e⟩ := h; .inl (.inr ⟨o, e⟩)
/-- a list that is never written: known to the object, or of the module -/
def FrL (H : Hp) (a : Addr) (vs : List V) : Prop :=
  (∃ o, H a = some (.frz o (.lst vs))) ∨
    ∃ (o : Obj) (its : Array Value) (n : Nat), K.lookup a = some o ∧ o.cls = .type "list" ∧ o.dict = none ∧ o.data = .seq its n ∧ its.size ≤ sizeLine ∧ Vals vs its.toList
theorem FrL.sq {K : PySem.W.Frag} {H : Hp} {a : Addr} {vs : List V} (h : FrL K H a vs) : SqL K H a vs := by
  rcases h with ⟨o, h⟩ | h
  · exact .inl (.inr ⟨o, h⟩)
  · exact .inr h
mutual
inductive Rep (m : List Addr) (H : Hp) : D → V → Prop where
  | non : Rep m H .non .non
  | bl (b : Bool) : Rep m H (.bl b) (.bl b)
  | int (i : Int) : Rep m H (.int i) (.int i)
  | str (x : Str) : Rep m H (.str x) (.str x)
  | tup {xs : List D} {a : Addr} {vs : List V} (h : TupS H a vs) (r : Reps m H xs vs) : Rep m H (.tup xs) (.ref a)
  | tuw {xs : List D} {a : Addr} {vs : List V} (h : H a = some (.tup vs)) (r : Reps m H xs vs) : Rep m H (.tuw xs) (.ref a)
  | fl {xs : List D} {a : Addr} {vs : List V} (h : FrL K H a vs) (r : Reps m H xs vs) : Rep m H (.fl xs) (.ref a)
  | loc {l : Nat} {a : Addr} (h : m[l]? = some a) : Rep m H (.loc l) (.ref a)
  | exv {c : Str} {fs : List (Str × D)} {a dd : Addr} {vfs : List (Str × V)} (h : H dd = some (.xd vfs)) (n : dd ∉ m) (r : FldR m H fs vfs) : Rep m H (.exv a dd c fs) (.ref a)
inductive Reps (m : List Addr) (H : Hp) : List D → List V → Prop where
  | nil : Reps m H [] []
  | cons {x : D} {v : V} {xs : List D} {vs : List V} (h : Rep m H x v) (r : Reps m H xs vs) : Reps m H (x :: xs) (v :: vs)
inductive FldR (m : List Addr) (H : Hp) : List (Str × D) → List (Str × V) → Prop where
  | nil : FldR m H [] []
  | cons {f : Str} {x : D} {v : V} {xs : List (Str × D)} {vs : List (Str × V)} (h : Rep m H x v) (r : FldR m H xs vs) : FldR m H ((f, x) :: xs) ((f, v) :: vs)
end
inductive RepK {κ : Type} (m : List Addr) (H : Hp) : List (κ × D) → List (κ × V) → Prop where
  | nil : RepK m H [] []
  | cons {k : κ} {x : D} {v : V} {xs : List (κ × D)} {vs : List (κ × V)} (h : Rep K m H x v) (r : RepK m H xs vs) : RepK m H ((k, x) :: xs) ((k, v) :: vs)
def CellR (m : List Addr) (H : Hp) (a : Addr) : Cell → Prop
  | .lst xs => ∃ vs, H a = some (.lst vs) ∧ Reps K m H xs vs
  | .dic kvs => ∃ ws, H a = some (.dK ws) ∧ RepK K m H kvs ws
  | .dct kvs => ∃ ws, H a = some (.dT ws) ∧ RepK K m H kvs ws
structure Rel (m : List Addr) (H : Hp) (s : Store) : Prop where
  len : m.length = s.length
  nd : m.Nodup
  at_ : ∀ (l : Nat) (a : Addr) (c : Cell), m[l]? = some a → s[l]? = some c → CellR K m H a c
/-- later: what was there is there; tuples and the lists that are never written stand; what is no cell of ours stands -/
structure Le (m : List Addr) (H : Hp) (m' : List Addr) (H' : Hp) : Prop where
  pre : ∃ r, m' = m ++ r
  tup : ∀ a xs, SqT K H a xs → SqT K H' a xs
  frl : ∀ a xs, FrL K H a xs → FrL K H' a xs
  fr : ∀ b o, H b = some o → b ∉ m → H' b = some o
  nw : ∀ b, b ∈ m' → b ∈ m ∨ H b = none
  trk : ∀ a o u, H a = some (.frz o u) → H' a = some (.frz o u)
  trt : ∀ a xs, H a = some (.tup xs) → H' a = some (.tup xs)
def RelE (m : List Addr) (H : Hp) (env : Sl) (σ : L2.St) : Prop :=
  env.length = σ.length ∧ ∀ (i : Nat) (d : D), env[i]? = some (some d) → ∃ v, σ[i]? = some (some v) ∧ Rep K m H d v
end
section
variable {K : PySem.W.Frag} {m m1 m2 : List Addr} {H H1 H2 : Hp} {s : Store} {a b p : Addr} {c : Cell}
theorem Le.refl : Le K m H m H := ⟨⟨[], by simp⟩, fun _ _ h => h, fun _ _ h => h, fun _ _ h _ => h, fun _ h => .inl h, fun _ _ _ h => h, fun _ _ h => h⟩
theorem Le.get (e : Le K m H m1 H1) {l : Nat} (h : m[l]? = some a) : m1[l]? = some a := by
  obtain ⟨r, rfl⟩ := e.pre
  rw [List.getElem?_append_left (by
    rcases Nat.lt_or_ge l m.length with q | q
    · exact q
    · rw [List.getElem?_eq_none q] at h; cases h)]
  exact h
theorem Le.trans (e : Le K m H m1 H1) (f : Le K m1 H1 m2 H2) : Le K m H m2 H2 := by
  refine ⟨?_, fun a xs h => f.tup a xs (e.tup a xs h), fun a xs h => f.frl a xs (e.frl a xs h), fun b o h n => ?_, fun b h => ?_, fun a o u h => f.trk a o u (e.trk a o u h), fun a xs h => f.trt a xs (e.trt a xs h)⟩
  · obtain ⟨r, rfl⟩ := e.pre
    obtain ⟨r2, rfl⟩ := f.pre
    exact ⟨r ++ r2, by simp⟩
  · refine f.fr b o (e.fr b o h n) fun z => ?_
    rcases e.nw b z with q | q
    · exact n q
    · rw [h] at q; cases q
  · by_cases z : b ∈ m
    · exact .inl z
    · rcases f.nw b h with q | q
      · exact e.nw b q
      · refine .inr ?_
        cases w : H b with
        | none => rfl
        | some o =>
          rw [e.fr b o w z] at q; cases q
mutual
theorem Rep.mono (e : Le K m H m1 H1) : ∀ {d : D} {v : V}, Rep K m H d v → Rep K m1 H1 d v
  | _, _, .non => .non
  | _, _, .bl b => .bl b
  | _, _, .int i => .int i
  | _, _, .str x => .str x
  | _, _, .tup h r => .tup (let ⟨o, h1, h2, h3⟩ := h; ⟨o, h1, h2, e.trk _ _ _ h3⟩) (Reps.mono e r)
  | _, _, .tuw h r => .tuw (e.trt _ _ h) (Reps.mono e r)
  | _, _, .fl h r => .fl (e.frl _ _ h) (Reps.mono e r)
  | _, _, .loc h => .loc (e.get h)
  | _, _, .exv h n r => .exv (e.fr _ _ h n) (fun z => (e.nw _ z).elim n fun q => by rw [h] at q; cases q) (FldR.mono e r)
theorem Reps.mono (e : Le K m H m1 H1) : ∀ {ds : List D} {vs : List V}, Reps K m H ds vs → Reps K m1 H1 ds vs
  | _, _, .nil => .nil
  | _, _, .cons h r => .cons (Rep.mono e h) (Reps.mono e r)
theorem FldR.mono (e : Le K m H m1 H1) : ∀ {ds : List (Str × D)} {vs : List (Str × V)}, FldR K m H ds vs → FldR K m1 H1 ds vs
  | _, _, .nil => .nil
  | _, _, .cons h r => .cons (Rep.mono e h) (FldR.mono e r)
end
theorem RepK.mono {κ : Type} (e : Le K m H m1 H1) : ∀ {ds : List (κ × D)} {vs : List (κ × V)}, RepK K m H ds vs → RepK K m1 H1 ds vs
  | _, _, .nil => .nil
  | _, _, .cons h r => .cons (h.mono e) (RepK.mono e r)
theorem RelE.mono (e : Le K m H m1 H1) {env : Sl} {σ : L2.St} (h : RelE K m H env σ) : RelE K m1 H1 env σ :=
  ⟨h.1, fun i d q => let ⟨v, h1, h2⟩ := h.2 i d q; ⟨v, h1, h2.mono e⟩⟩
theorem Reps.length : ∀ {xs : List D} {vs : List V}, Reps K m H xs vs → xs.length = vs.length
  | _, _, .nil => rfl
  | _, _, .cons _ r => by simp [Reps.length r]
theorem Reps.get : ∀ {xs : List D} {vs : List V} {i : Nat} {x : D}, Reps K m H xs vs → xs[i]? = some x → ∃ v, vs[i]? = some v ∧ Rep K m H x v
  | _, _, _, _, .nil, e => by simp at e
  | _, _, 0, _, .cons h _, e => by simp at e; subst e; exact ⟨_, rfl, h⟩
  | _, _, i + 1, x, .cons _ r, e => by
    obtain ⟨v, h1, h2⟩ := Reps.get (i := i) (x := x) r (by simpa using e)
    exact ⟨v, by simpa using h1, h2⟩
theorem Reps.append : ∀ {xs ys : List D} {vs ws : List V}, Reps K m H xs vs → Reps K m H ys ws → Reps K m H (xs ++ ys) (vs ++ ws)
  | _, _, _, _, .nil, q => q
  | _, _, _, _, .cons h r, q => .cons h (Reps.append r q)
theorem Reps.take : ∀ {xs : List D} {vs : List V} (n : Nat), Reps K m H xs vs → Reps K m H (xs.take n) (vs.take n)
  | _, _, 0, _ => .nil
  | _, _, _ + 1, .nil => .nil
  | _, _, n + 1, .cons h r => .cons h (Reps.take n r)
theorem Reps.drop : ∀ {xs : List D} {vs : List V} (n : Nat), Reps K m H xs vs → Reps K m H (xs.drop n) (vs.drop n)
  | _, _, 0, r => r
  | _, _, _ + 1, .nil => .nil
  | _, _, n + 1, .cons _ r => Reps.drop n r
theorem Reps.set {x : D} {v : V} (h : Rep K m H x v) : ∀ {xs : List D} {vs : List V} (i : Nat), Reps K m H xs vs → Reps K m H (xs.set i x) (vs.set i v)
  | _, _, _, .nil => .nil
  | _, _, 0, .cons _ r => .cons h r
  | _, _, i + 1, .cons q r => .cons q (Reps.set h i r)
theorem Reps.dropLast : ∀ {xs : List D} {vs : List V}, Reps K m H xs vs → Reps K m H xs.dropLast vs.dropLast
  | _, _, .nil => .nil
  | _, _, .cons _ .nil => .nil
  | _, _, .cons h (.cons h2 r) => by
    rw [List.dropLast_cons₂, List.dropLast_cons₂]
    exact .cons h (Reps.dropLast (.cons h2 r))
theorem Reps.erase : ∀ {xs : List D} {vs : List V} (i : Nat), Reps K m H xs vs → Reps K m H (xs.eraseIdx i) (vs.eraseIdx i)
  | _, _, _, .nil => .nil
  | _, _, 0, .cons _ r => r
  | _, _, i + 1, .cons q r => .cons q (Reps.erase i r)
theorem Reps.reverse {xs : List D} {vs : List V} (h : Reps K m H xs vs) : Reps K m H xs.reverse vs.reverse := by
  induction xs generalizing vs with
  | nil => cases h; exact .nil
  | cons x xs ih =>
    cases h with
    | cons h r =>
      rw [List.reverse_cons, List.reverse_cons]
      exact (ih r).append (.cons h .nil)
theorem Reps.ints : ∀ {ns : List Int} {vs : List V}, Reps K m H (ns.map D.int) vs → vs = ns.map V.int
  | [], _, .nil => rfl
  | n :: ns, _, .cons h r => by
    cases h
    rw [List.map_cons, Reps.ints r]
theorem reps_ints (ns : List Int) : Reps K m H (ns.map D.int) (ns.map V.int) := by
  induction ns with
  | nil => exact .nil
  | cons n ns ih => exact .cons (.int n) ih
/-! ### changes of the heap -/
theorem Rel.lt (r : Rel K m H s) {l : Nat} (h : m[l]? = some a) : l < s.length := by
  rw [← r.len]
  rcases Nat.lt_or_ge l m.length with q | q
  · exact q
  · rw [List.getElem?_eq_none q] at h; cases h
theorem Rel.there (r : Rel K m H s) (h : b ∈ m) : (∃ vs, H b = some (.lst vs)) ∨ (∃ ws, H b = some (.dK ws)) ∨ ∃ ws, H b = some (.dT ws) := by
  obtain ⟨l, hl⟩ := List.getElem?_of_mem h
  have q := r.lt hl
  obtain ⟨c, hc⟩ : ∃ c, s[l]? = some c := ⟨s[l], by simp [q]⟩
  have x := r.at_ l b c hl hc
  cases c with
  | lst xs => obtain ⟨vs, e, _⟩ := x; exact .inl ⟨vs, e⟩
  | dic kvs => obtain ⟨ws, e, _⟩ := x; exact .inr (.inl ⟨ws, e⟩)
  | dct kvs => obtain ⟨ws, e, _⟩ := x; exact .inr (.inr ⟨ws, e⟩)
theorem Rel.has (r : Rel K m H s) (h : b ∈ m) : ∃ o, H b = some o ∧ (∀ xs, o ≠ .tup xs) ∧ ∀ u x, o ≠ .frz u x := by
  rcases r.there h with ⟨vs, e⟩ | ⟨ws, e⟩ | ⟨ws, e⟩
  · exact ⟨_, e, fun _ z => (by cases z), fun _ _ z => (by cases z)⟩
  · exact ⟨_, e, fun _ z => (by cases z), fun _ _ z => (by cases z)⟩
  · exact ⟨_, e, fun _ z => (by cases z), fun _ _ z => (by cases z)⟩
theorem Rel.new_notin (r : Rel K m H s) (h : H p = none) : p ∉ m := fun z => by
  obtain ⟨o, e, _⟩ := r.has z
  rw [h] at e; cases e
/-- any object laid at a free place, or written at a place that is neither tuple nor frozen -/
theorem le_upd {o : HO} (hp : ∀ u, H p = Option.some u → p ∈ m) (hm : ∀ u, H p = Option.some u → (∀ xs, u ≠ .tup xs) ∧ ∀ ob x, u ≠ .frz ob x) : Le K m H m (upd H p o) := by
  refine ⟨⟨[], by simp⟩, fun b xs h => ?_, fun b xs h => ?_, fun b u h n => ?_, fun b h => .inl h, fun b o2 u h => by rw [upd_ne (fun z => by subst z; exact (hm _ h).2 _ _ rfl)]; exact h, fun b xs h => by rw [upd_ne (fun z => by subst z; exact (hm _ h).1 xs rfl)]; exact h⟩
  · rcases h with (h | ⟨ob, h⟩) | h
    · exact .inl (.inl (by rw [upd_ne (fun z => by subst z; exact (hm _ h).1 xs rfl)]; exact h))
    · exact .inl (.inr ⟨ob, by rw [upd_ne (fun z => by subst z; exact (hm _ h).2 _ _ rfl)]; exact h⟩)
    · exact .inr h
  · rcases h with ⟨ob, h⟩ | h
    · exact .inl ⟨ob, by rw [upd_ne (fun z => by subst z; exact (hm _ h).2 _ _ rfl)]; exact h⟩
    · exact .inr h
  · rw [upd_ne (fun z => by subst z; exact n (hp _ h))]; exact h
theorem le_new {o : HO} (hp : H p = none) : Le K m H m (upd H p o) :=
  le_upd (fun u h => by rw [hp] at h; cases h) (fun u h => by rw [hp] at h; cases h)
theorem le_put (r : Rel K m H s) (h : p ∈ m) {o : HO} : Le K m H m (upd H p o) :=
  le_upd (fun _ _ => h) (fun u e => by
    obtain ⟨o', e', q⟩ := r.has h
    rw [e] at e'; cases e'
    exact q)
theorem le_more (r : Rel K m H s) (hp : H p = none) {o : HO} : Le K m H (m ++ [p]) (upd H p o) := by
  have e : Le K m H m (upd H p o) := le_new hp
  refine ⟨⟨[p], rfl⟩, e.tup, e.frl, e.fr, fun b h => ?_, e.trk, e.trt⟩
  rcases List.mem_append.mp h with q | q
  · exact .inl q
  · rw [List.mem_singleton.mp q]; exact .inr hp
theorem CellR.mono {m' : List Addr} {H' : Hp} (e : Le K m H m' H') (hs : H' a = H a) (h : CellR K m H a c) : CellR K m' H' a c := by
  cases c with
  | lst xs => obtain ⟨vs, h1, h2⟩ := h; exact ⟨vs, hs.trans h1, h2.mono e⟩
  | dic kvs => obtain ⟨ws, h1, h2⟩ := h; exact ⟨ws, hs.trans h1, h2.mono e⟩
  | dct kvs => obtain ⟨ws, h1, h2⟩ := h; exact ⟨ws, hs.trans h1, h2.mono e⟩
/-- an object that is no cell is laid -/
theorem Rel.tmp (r : Rel K m H s) (hp : H p = none) {o : HO} : Rel K m (upd H p o) s :=
  ⟨r.len, r.nd, fun l a c h1 h2 => (r.at_ l a c h1 h2).mono (le_new hp) (upd_ne fun z => by subst z; exact r.new_notin hp (List.mem_of_getElem? h1))⟩
theorem Rel.put (r : Rel K m H s) {l : Nat} (h : m[l]? = Option.some p) {o : HO} {c : Cell} (hc : CellR K m (upd H p o) p c) : Rel K m (upd H p o) (s.set l c) := by
  refine ⟨by rw [List.length_set]; exact r.len, r.nd, fun j b d h1 h2 => ?_⟩
  by_cases hj : j = l
  · subst hj
    rw [h] at h1; cases h1
    rw [List.getElem?_set_self (r.lt h)] at h2; cases h2
    exact hc
  · rw [List.getElem?_set_ne (Ne.symm hj)] at h2
    refine (r.at_ j b d h1 h2).mono (le_put r (List.mem_of_getElem? h)) (upd_ne fun z => hj ?_)
    subst z
    exact nd_ix r.nd h1 h
theorem Rel.new (r : Rel K m H s) (hp : H p = none) {o : HO} {c : Cell} (hc : CellR K (m ++ [p]) (upd H p o) p c) : Rel K (m ++ [p]) (upd H p o) (s ++ [c]) := by
  have hn := r.new_notin hp
  refine ⟨by simp [r.len], ?_, fun j b d h1 h2 => ?_⟩
  · rw [List.nodup_append]
    exact ⟨r.nd, by simp, fun x hx y hy => by rw [List.mem_singleton.mp hy]; exact fun z => hn (z ▸ hx)⟩
  · rcases Nat.lt_or_ge j m.length with q | q
    · rw [List.getElem?_append_left q] at h1
      rw [List.getElem?_append_left (by rw [← r.len]; exact q)] at h2
      exact (r.at_ j b d h1 h2).mono (le_more r hp) (upd_ne fun z => by subst z; exact hn (List.mem_of_getElem? h1))
    · rw [List.getElem?_append_right q] at h1
      rw [List.getElem?_append_right (by rw [← r.len]; exact q), ← r.len] at h2
      cases hk : j - m.length with
      | zero =>
        rw [hk] at h1 h2
        simp at h1 h2
        subst h1; subst h2
        exact hc
      | succ n => rw [hk] at h1; simp at h1
theorem len_get (r : Rel K m H s) : (m ++ [p])[s.length]? = some p := by
  rw [← r.len, List.getElem?_append_right (Nat.le_refl _)]; simp
/-- a new tuple -/
theorem rep_newtup {xs : List D} {vs : List V} {o : Obj} (h1 : o.cls = .type "tuple") (h2 : o.dict = none) (hp : H p = none) (h : Reps K m H xs vs) : Rep K m (upd H p (.frz o (.tup vs))) (.tup xs) (.ref p) :=
  .tup ⟨o, h1, h2, upd_same⟩ (h.mono (le_new hp))
theorem rep_newtuw {xs : List D} {vs : List V} (hp : H p = none) (h : Reps K m H xs vs) : Rep K m (upd H p (.tup vs)) (.tuw xs) (.ref p) :=
  .tuw upd_same (h.mono (le_new hp))
/-- a new list -/
theorem rel_newlist {xs : List D} {vs : List V} (r : Rel K m H s) (hp : H p = none) (h : Reps K m H xs vs) : Rel K (m ++ [p]) (upd H p (.lst vs)) (s ++ [.lst xs]) :=
  r.new hp ⟨vs, upd_same, h.mono (le_more r hp)⟩
theorem Rel.list (r : Rel K m H s) {l : Nat} {xs : List D} (h : m[l]? = Option.some a) (hs : s[l]? = Option.some (.lst xs)) : ∃ vs, H a = Option.some (.lst vs) ∧ Reps K m H xs vs := r.at_ l a _ h hs
end
/-- a list that is being made is no cell yet: what a value's standing needs -/
structure Lw (K : PySem.W.Frag) (m : List Addr) (H : Hp) (m' : List Addr) (H' : Hp) : Prop where
  pre : ∃ r, m' = m ++ r
  tup : ∀ a xs, SqT K H a xs → SqT K H' a xs
  frl : ∀ a xs, FrL K H a xs → FrL K H' a xs
  xd : ∀ b vfs, H b = some (.xd vfs) → b ∉ m → H' b = some (.xd vfs) ∧ b ∉ m'
  trk : ∀ a o u, H a = some (.frz o u) → H' a = some (.frz o u)
  trt : ∀ a xs, H a = some (.tup xs) → H' a = some (.tup xs)
section
variable {K : PySem.W.Frag} {mg : Str → Option Value} {m m1 m2 : List Addr} {H H1 H2 : Hp} {s : Store} {p : Addr}
theorem Le.w (e : Le K m H m1 H1) : Lw K m H m1 H1 := ⟨e.pre, e.tup, e.frl, fun b vfs h n => ⟨e.fr _ _ h n, fun z => (e.nw _ z).elim n fun q => by rw [h] at q; cases q⟩, e.trk, e.trt⟩
theorem Lw.get (e : Lw K m H m1 H1) {l : Nat} {a : Addr} (h : m[l]? = some a) : m1[l]? = some a := by
  obtain ⟨r, rfl⟩ := e.pre
  rw [List.getElem?_append_left (by
    rcases Nat.lt_or_ge l m.length with q | q
    · exact q
    · rw [List.getElem?_eq_none q] at h; cases h)]
  exact h
mutual
theorem Rep.monoW (e : Lw K m H m1 H1) : ∀ {d : D} {v : V}, Rep K m H d v → Rep K m1 H1 d v
  | _, _, .non => .non
  | _, _, .bl b => .bl b
  | _, _, .int i => .int i
  | _, _, .str x => .str x
  | _, _, .tup h r => .tup (let ⟨o, h1, h2, h3⟩ := h; ⟨o, h1, h2, e.trk _ _ _ h3⟩) (Reps.monoW e r)
  | _, _, .tuw h r => .tuw (e.trt _ _ h) (Reps.monoW e r)
  | _, _, .fl h r => .fl (e.frl _ _ h) (Reps.monoW e r)
  | _, _, .loc h => .loc (e.get h)
  | _, _, .exv h n r => .exv (e.xd _ _ h n).1 (e.xd _ _ h n).2 (FldR.monoW e r)
theorem Reps.monoW (e : Lw K m H m1 H1) : ∀ {ds : List D} {vs : List V}, Reps K m H ds vs → Reps K m1 H1 ds vs
  | _, _, .nil => .nil
  | _, _, .cons h r => .cons (Rep.monoW e h) (Reps.monoW e r)
theorem FldR.monoW (e : Lw K m H m1 H1) : ∀ {ds : List (Str × D)} {vs : List (Str × V)}, FldR K m H ds vs → FldR K m1 H1 ds vs
  | _, _, .nil => .nil
  | _, _, .cons h r => .cons (Rep.monoW e h) (FldR.monoW e r)
end
theorem RepK.monoW {κ : Type} (e : Lw K m H m1 H1) : ∀ {ds : List (κ × D)} {vs : List (κ × V)}, RepK K m H ds vs → RepK K m1 H1 ds vs
  | _, _, .nil => .nil
  | _, _, .cons h r => .cons (h.monoW e) (RepK.monoW e r)
theorem RelE.monoW (e : Lw K m H m1 H1) {env : Sl} {σ : L2.St} (h : RelE K m H env σ) : RelE K m1 H1 env σ :=
  ⟨h.1, fun i d q => let ⟨v, h1, h2⟩ := h.2 i d q; ⟨v, h1, h2.monoW e⟩⟩
theorem CellR.monoW {c : Cell} {a : Addr} (e : Lw K m H m1 H1) (hs : H1 a = H a) (h : CellR K m H a c) : CellR K m1 H1 a c := by
  cases c with
  | lst xs => obtain ⟨vs, h1, h2⟩ := h; exact ⟨vs, hs.trans h1, h2.monoW e⟩
  | dic kvs => obtain ⟨ws, h1, h2⟩ := h; exact ⟨ws, hs.trans h1, h2.monoW e⟩
  | dct kvs => obtain ⟨ws, h1, h2⟩ := h; exact ⟨ws, hs.trans h1, h2.monoW e⟩
/-- a list of ours that is no cell is written -/
theorem lw_side {vs ws : List V} (h : H p = some (.lst vs)) : Lw K m H m (upd H p (HO.lst ws)) :=
  ⟨⟨[], by simp⟩, fun b xs q => by
    rcases q with (q | ⟨ob, q⟩) | q
    · exact .inl (.inl (by rw [upd_ne (fun z => by subst z; rw [h] at q; cases q)]; exact q))
    · exact .inl (.inr ⟨ob, by rw [upd_ne (fun z => by subst z; rw [h] at q; cases q)]; exact q⟩)
    · exact .inr q, fun b xs q => by
    rcases q with ⟨ob, q⟩ | q
    · exact .inl ⟨ob, by rw [upd_ne (fun z => by subst z; rw [h] at q; cases q)]; exact q⟩
    · exact .inr q, fun b vfs q n => ⟨by rw [upd_ne (fun z => by subst z; rw [h] at q; cases q)]; exact q, n⟩, fun b o2 u q => by rw [upd_ne (fun z => by subst z; rw [h] at q; cases q)]; exact q, fun b xs q => by rw [upd_ne (fun z => by subst z; rw [h] at q; cases q)]; exact q⟩
theorem Rel.side (r : Rel K m H s) {vs ws : List V} (h : H p = some (.lst vs)) (n : p ∉ m) : Rel K m (upd H p (HO.lst ws)) s :=
  ⟨r.len, r.nd, fun l a c h1 h2 => (r.at_ l a c h1 h2).monoW (lw_side h) (upd_ne fun z => by subst z; exact n (List.mem_of_getElem? h1))⟩
theorem Le.side (e : Le K m H m1 H1) {vs ws : List V} (h0 : H p = none) (h : H1 p = some (.lst vs)) : Le K m H m1 (upd H1 p (HO.lst ws)) :=
  ⟨e.pre, fun a xs q => (lw_side (m := m1) h).tup a xs (e.tup a xs q), fun a xs q => (lw_side (m := m1) h).frl a xs (e.frl a xs q), fun b o q n => by
    rw [upd_ne (fun z => by subst z; rw [h0] at q; cases q)]; exact e.fr b o q n, e.nw, fun a o2 u q => (lw_side (K := K) (m := m1) h).trk a o2 u (e.trk a o2 u q), fun a xs q => (lw_side (K := K) (m := m1) h).trt a xs (e.trt a xs q)⟩
theorem lw_adopt {vs : List V} (h : H p = some (.lst vs)) : Lw K m H (m ++ [p]) H := ⟨⟨[p], rfl⟩, fun _ _ q => q, fun _ _ q => q, fun b vfs q n => ⟨q, fun z => by
    rcases List.mem_append.mp z with z | z
    · exact n z
    · rw [List.mem_singleton.mp z, h] at q; cases q⟩, fun _ _ _ q => q, fun _ _ q => q⟩
theorem Rel.adopt (r : Rel K m H s) {xs : List D} {vs : List V} (n : p ∉ m) (h : H p = some (.lst vs)) (q : Reps K m H xs vs) : Rel K (m ++ [p]) H (s ++ [Cell.lst xs]) := by
  refine ⟨by simp [r.len], ?_, fun j b d h1 h2 => ?_⟩
  · rw [List.nodup_append]
    exact ⟨r.nd, by simp, fun x hx y hy => by rw [List.mem_singleton.mp hy]; exact fun z => n (z ▸ hx)⟩
  · rcases Nat.lt_or_ge j m.length with w | w
    · rw [List.getElem?_append_left w] at h1
      rw [List.getElem?_append_left (by rw [← r.len]; exact w)] at h2
      exact (r.at_ j b d h1 h2).monoW (lw_adopt h) rfl
    · rw [List.getElem?_append_right w] at h1
      rw [List.getElem?_append_right (by rw [← r.len]; exact w), ← r.len] at h2
      cases hk : j - m.length with
      | zero =>
        rw [hk] at h1 h2
        simp at h1 h2
        subst h1; subst h2
        exact ⟨vs, h, q.monoW (lw_adopt h)⟩
      | succ n => rw [hk] at h1; simp at h1
theorem Le.adopt (e : Le K m H m1 H1) (h0 : H p = none) : Le K m H (m1 ++ [p]) H1 := by
  refine ⟨?_, e.tup, e.frl, e.fr, fun b h => ?_, e.trk, e.trt⟩
  · obtain ⟨r, rfl⟩ := e.pre
    exact ⟨r ++ [p], by simp⟩
  · rcases List.mem_append.mp h with q | q
    · exact e.nw b q
    · rw [List.mem_singleton.mp q]; exact .inr h0
end
end Mi
namespace Mi
open PySem PySem.Spec PyProof.Rows L2
/-! ### new tuples whose object is known -/
def NewT (Q : VK) (H : Hp) (ys : List V) : Prop := ∀ (p : Addr) (o : Obj), o.cls = .type "tuple" → o.dict = none → H p = none → Q (.ref p) (upd H p (.frz o (.tup ys)))
section
variable {X : Cx} {pins : List (Addr × Obj)} {σ : L2.St} {H : Hp} {s : Shared} {Q : VK} {ys : List V} {its : List Value} {es : List Expr} {t : TA} {pos : Pos}
/-- the pushed tuple is laid -/
theorem laidT (I : Inv X pins σ H s) (r : Vals ys its) (z : ys.length ≤ sizeLine) (q : NewT Q H ys) (tk : Nat) :
    EP X pins σ Q (.ref s.heap.objs.size) { s with heap := s.heap.push { cls := .type "tuple", data := .seq its.toArray }, toks := tk } := by
  have fr : H s.heap.objs.size = none := I.hok.fresh (Nat.le_refl _)
  have got : (s.heap.push { cls := .type "tuple", data := .seq its.toArray }).get? s.heap.objs.size = some { cls := .type "tuple", data := .seq its.toArray } := Heap.get?_push_size _ rfl
  refine ⟨.ref s.heap.objs.size, _, I.laid (t' := tk) (o := .frz { cls := .type "tuple", data := .seq its.toArray } (.tup ys)) (fun b u e => Heap.get?_push_of_some _ e) (Nat.le_refl _) ?_, rfl, q _ _ rfl rfl fr⟩
  exact ⟨got, z, its, r, _, got, rfl, _, rfl⟩
def tTupN (t : TA) : TE := fun σ H Q => t σ H fun xs H1 => xs.length ≤ sizeLine ∧ NewT Q H1 xs
theorem pe_tupN {x1 : Nat} (h : PA X es t) : PE X (.Tuple es x1 pos) (tTupN t) := by
  constructor
  intro pins s σ H Q I hq
  refine wpAny_Tuple_spliced (thn (h.run pos pins s σ H _ I hq) fun us s1 w => ?_)
  obtain ⟨xs, H1, I1, r, z, q⟩ := w
  exact ⟨by rw [← r.length]; exact z, laidT I1 r z q s1.toks⟩
/-- the same, the items by an equation -/
theorem laidA (I : Inv X pins σ H s) {arr : Array Value} (e : arr = its.toArray) (r : Vals ys its) (z : ys.length ≤ sizeLine) (q : NewT Q H ys) (tk : Nat) :
    EP X pins σ Q (.ref s.heap.objs.size) { s with heap := s.heap.push { cls := .type "tuple", data := .seq arr }, toks := tk } := by
  subst e
  exact laidT I r z q tk
/-- tuple(x) -/
theorem call_tupN : CallR X (.type "tuple") (fun xs H Q => ∃ p ys, xs = [.ref p] ∧ ((SqL X.K H p ys ∧ NewT Q H ys) ∨ (SqT X.K H p ys ∧ Q (.ref p) H))) := by
  intro pins s σ H xs us Q I r w
  obtain ⟨p, ys, hxs, w⟩ := w
  subst hxs
  obtain ⟨u, hu, rx⟩ := vals1 r
  subst hu
  cases rx
  cases w with
  | inl w =>
    obtain ⟨its, vr, pl, hz⟩ := I.list w.1
    have len := vr.length
    refine call_tuple_list pl.isList (fun h' kp => ?_) (by simp only [List.size_toArray] <;> omega)
    have J : Inv X pins σ H { s with heap := h' } := I.kept (t' := s.toks) kp
    exact laidT J vr hz w.2 s.toks
  | inr w =>
    obtain ⟨its, _, pl, _⟩ := I.tuple w.1
    exact call_tuple_same pl ⟨.ref p, H, I, rfl, w.2⟩
/-- t + u -/
def rCatN (K : PySem.W.Frag) : R2 := fun x y H Q => ∃ a b xs ys, x = .ref a ∧ y = .ref b ∧ SqT K H a xs ∧ SqT K H b ys ∧ xs.length + ys.length ≤ sizeLine ∧
  (xs = [] → Q (.ref b) H) ∧ (xs ≠ [] → ys = [] → Q (.ref a) H) ∧ (xs ≠ [] → ys ≠ [] → NewT Q H (xs ++ ys))
theorem op_catN : OpR X (binaryOp .Add) (rCatN X.K) := by
  intro pins s σ H x y v u Q I rx ry w
  obtain ⟨a, b, xs, ys, ex, ey, ha, hb, hz, q0, q1, q2⟩ := w
  subst ex
  subst ey
  cases rx
  cases ry
  obtain ⟨is1, r1, p1, _⟩ := I.tuple ha
  obtain ⟨is2, r2, p2, _⟩ := I.tuple hb
  by_cases hx : xs = []
  · subst hx
    cases r1
    exact cat_tup0 p1 p2 ⟨.ref b, H, I, rfl, q0 rfl⟩
  · refine HT.cat_tup p1 p2 (fun e => hx (r1.nil_iff.mp e)) (fun e => ⟨.ref a, H, I, rfl, q1 hx (r2.nil_iff.mp e)⟩) (fun e => ?_) (by rw [← r1.length, ← r2.length]; exact hz)
    exact laidA I (its := is1 ++ is2) rfl (r1.append r2) (by rw [List.length_append]; exact hz) (q2 hx fun w => e (r2.nil_iff.mpr w)) s.toks
/-- t[lo:hi] -/
def rSlN (K : PySem.W.Frag) : V → Option Int → Option Int → Hp → VK → Prop := fun x lo hi H Q => ∃ a xs, x = .ref a ∧ SqT K H a xs ∧
  (HT.sIx xs.length 0 lo = 0 ∧ HT.sIx xs.length xs.length hi = xs.length → Q (.ref a) H) ∧ (¬ (HT.sIx xs.length 0 lo = 0 ∧ HT.sIx xs.length xs.length hi = xs.length) → NewT Q H (cutV xs lo hi))
theorem sl_tupN : SlR X (rSlN X.K) := by
  intro pins s σ H x v vl vu lo hi sl Q I rx hs pl pu w
  obtain ⟨a, xs, ex, hx, q1, q2⟩ := w
  subst ex
  cases rx
  obtain ⟨its, r, ht, hz⟩ := I.tuple hx
  have len : its.toArray.size = xs.length := by rw [List.size_toArray]; exact r.length.symm
  refine ⟨"tuple", _, PyProof.Rows.slot_tuple_getitem.lookup, ht.typeIs, ?_⟩
  by_cases hw : HT.sIx xs.length 0 lo = 0 ∧ HT.sIx xs.length xs.length hi = xs.length
  · exact getItem_tuple_whole ht hs pl pu (by rw [len]; exact hw) ⟨.ref a, H, I, rfl, q1 hw⟩
  · refine HT.getItem_tuple_cut ht hs pl pu (by rw [len]; exact hw) ?_ (by rw [len]; exact hz)
    rw [len]
    exact laidA I rfl ((r.drop (HT.sIx xs.length 0 lo)).take (HT.sIx xs.length xs.length hi - HT.sIx xs.length 0 lo)) (Nat.le_trans (cutV_length xs lo hi) hz) (q2 hw) s.toks
end
end Mi
namespace Mi
open PySem PySem.Spec PyProof.Rows L2
/-! ### readings of mirrors -/
section
variable (K : PySem.W.Frag) (mg : Str → Option Value)
/-- an exception: its class, its own dict -/
def ExR (m : List Addr) (H : Hp) (e : Ex) (c : Value) (dd : Option Addr) : Prop :=
  mg e.cls = some c ∧ ((e.fs = [] ∧ dd = none) ∨ ∃ d vfs, dd = some d ∧ H d = some (.xd vfs) ∧ d ∉ m ∧ FldR K m H e.fs vfs)
/-- what a result is to bring about -/
def G {α β : Type} (ρ : List Addr → Hp → α → β → Prop) (W : WX) (σ : L2.St) (m : List Addr) (H : Hp) (Q : β → Hp → Prop) : R α → Prop
  | .ok a s => ∀ m' H' b, Le K m H m' H' → Rel K m' H' s → ρ m' H' a b → Q b H'
  | .ex e s => ∀ m' H' c dd, Le K m H m' H' → Rel K m' H' s → ExR K mg m' H' e c dd → W c dd σ H'
  | .no => False
def Tm {α β : Type} (ρ : List Addr → Hp → α → β → Prop) (W : WX) (f : Sl → Store → R α) : L2.St → Hp → (β → Hp → Prop) → Prop := fun σ H Q =>
  ∃ m env s, Rel K m H s ∧ RelE K m H env σ ∧ G K mg ρ W σ m H Q (f env s)
abbrev ME (α : Type) := Sl → Store → R α
/-- a test's -/
def ρB : List Addr → Hp → Bool → Bool → Prop := fun _ _ a b => a = b
abbrev Te (W : WX) (f : ME D) : TE := Tm K mg (Rep K) W f
abbrev Tt (W : WX) (f : ME Bool) : TT := Tm K mg ρB W f
abbrev Ta (W : WX) (f : ME (List D)) : TA := Tm K mg (Reps K) W f
end
section
variable {K : PySem.W.Frag} {mg : Str → Option Value} {m m1 : List Addr} {H H1 : Hp} {s : Store} {W : WX} {σ : L2.St}
section
variable {α α' β β' : Type} {ρ : List Addr → Hp → α → β → Prop} {ρ' : List Addr → Hp → α' → β' → Prop} {Q : β → Hp → Prop} {Q' : β' → Hp → Prop}
theorem G.mono (e : Le K m H m1 H1) {r : R α} (h : G K mg ρ W σ m H Q r) : G K mg ρ W σ m1 H1 Q r := by
  cases r with
  | ok a s => exact fun m' H' b l r q => h m' H' b (e.trans l) r q
  | ex x s => exact fun m' H' c d l r q => h m' H' c d (e.trans l) r q
  | no => exact h
theorem G.bind {r : R α} {k : α → Store → R α'} (h : G K mg ρ' W σ m H Q' (r.bind k))
    (q : ∀ m1 H1 a b s1, Le K m H m1 H1 → Rel K m1 H1 s1 → ρ m1 H1 a b → G K mg ρ' W σ m1 H1 Q' (k a s1) → Q b H1) : G K mg ρ W σ m H Q r := by
  cases r with
  | ok a s => exact fun m' H' b l r p => q m' H' a b s l r p (G.mono l h)
  | ex x s => exact h
  | no => exact h
theorem G.imp {r : R α} (h : G K mg ρ W σ m H Q r) {Q1 : β → Hp → Prop} (q : ∀ m' H' a b s, r = .ok a s → Le K m H m' H' → Rel K m' H' s → ρ m' H' a b → Q b H' → Q1 b H') : G K mg ρ W σ m H Q1 r := by
  cases r with
  | ok a s => exact fun m' H' b l r p => q m' H' a b s rfl l r p (h m' H' b l r p)
  | ex x s => exact h
  | no => exact h
/-- run the first part -/
theorem Tm.bind {f : Sl → Store → R α} {k : Sl → α → Store → R α'} (h : Tm K mg ρ' W (fun env s => (f env s).bind (k env)) σ H Q')
    (q : ∀ m1 H1 env a b s1, Rel K m1 H1 s1 → RelE K m1 H1 env σ → ρ m1 H1 a b → G K mg ρ' W σ m1 H1 Q' (k env a s1) → Q b H1) : Tm K mg ρ W f σ H Q := by
  obtain ⟨m, env, s, r, e, g⟩ := h
  exact ⟨m, env, s, r, e, G.bind g fun m1 H1 a b s1 l r1 p g1 => q m1 H1 env a b s1 r1 (e.mono l) p g1⟩
/-- a further part runs -/
theorem Tm.of {f : Sl → Store → R α} {env : Sl} (r : Rel K m H s) (e : RelE K m H env σ) (g : G K mg ρ W σ m H Q (f env s)) : Tm K mg ρ W f σ H Q := ⟨m, env, s, r, e, g⟩
end
/-- the end: a value that is there -/
theorem G.now {d : D} {v : V} {Q : VK} (h : G K mg (Rep K) W σ m H Q (.ok d s)) (r : Rel K m H s) (p : Rep K m H d v) : Q v H := h m H v .refl r p
theorem G.nowB {d : Bool} {Q : Bool → Hp → Prop} (h : G K mg ρB W σ m H Q (.ok d s)) (r : Rel K m H s) : Q d H := h m H d .refl r rfl
end
theorem PE.imp {X : Cx} {e : Expr} {t t' : TE} (h : PE X e t) (i : ∀ σ H Q, t' σ H Q → t σ H Q) : PE X e t' := ⟨fun pins s σ H Q I q => h.run pins s σ H Q I (i σ H Q q)⟩
theorem PT.imp {X : Cx} {e : Expr} {t t' : TT} (h : PT X e t) (i : ∀ σ H Q, t' σ H Q → t σ H Q) : PT X e t' := ⟨fun pins s σ H Q I q => h.run pins s σ H Q I (i σ H Q q)⟩
theorem PW.imp {X : Cx} {e : Expr} {t t' : TT} (h : PW X e t) (i : ∀ σ H Q, t' σ H Q → t σ H Q) : PW X e t' := ⟨fun wh pins s σ H Q I q => h.run wh pins s σ H Q I (i σ H Q q)⟩
theorem PA.imp {X : Cx} {e : List Expr} {t t' : TA} (h : PA X e t) (i : ∀ σ H Q, t' σ H Q → t σ H Q) : PA X e t' := ⟨fun pos pins s σ H Q I q => h.run pos pins s σ H Q I (i σ H Q q)⟩
theorem PS.imp {X : Cx} {e : Stmt} {t t' : TS} (h : PS X e t) (i : ∀ D σ H, t' D σ H → t D σ H) : PS X e t' := ⟨fun pins s σ H D I q => h.run pins s σ H D I (i D σ H q)⟩
theorem PSs.imp {X : Cx} {e : List Stmt} {t t' : TS} (h : PSs X e t) (i : ∀ D σ H, t' D σ H → t D σ H) : PSs X e t' := ⟨fun pins s σ H D I q => h.run pins s σ H D I (i D σ H q)⟩
/-! ### combinators: expressions -/
def eC (d : D) : ME D := fun _ s => .ok d s
def eV (i : Nat) : ME D := fun env s => match env[i]? with
  | some (some d) => .ok d s
  | _ => .no
/-- two values -/
def e2 (g : D → D → Store → Option (D × Store)) (a b : ME D) : ME D := fun env s => (a env s).bind fun x s => (b env s).bind fun y s => R.of (g x y s)
def e1 (g : D → Store → Option (D × Store)) (a : ME D) : ME D := fun env s => (a env s).bind fun x s => R.of (g x s)
def aNil : ME (List D) := fun _ s => .ok [] s
def aCons (a : ME D) (r : ME (List D)) : ME (List D) := fun env s => (a env s).bind fun x s => (r env s).bind fun xs s => .ok (x :: xs) s
def eFn (g : List D → Store → Option (D × Store)) (a : ME (List D)) : ME D := fun env s => (a env s).bind fun xs s => R.of (g xs s)
def eTup (a : ME (List D)) : ME D := fun env s => (a env s).bind fun xs s => if xs.length ≤ sizeLine then .ok (.tup xs) s else .no
def eLst (a : ME (List D)) : ME D := fun env s => (a env s).bind fun xs s => if xs.length ≤ sizeLine then .ok (.loc s.length) (s ++ [.lst xs]) else .no
def eCall (g : List D → Store → R D) (a : ME (List D)) : ME D := fun env s => (a env s).bind g
/-- a value as a test: a bool -/
def tV (a : ME D) : ME Bool := fun env s => (a env s).bind fun x s => match x with
  | .bl b => .ok b s
  | _ => .no
def tAnd (a b : ME Bool) : ME Bool := fun env s => (a env s).bind fun x s => if x then b env s else .ok false s
def tOr (a b : ME Bool) : ME Bool := fun env s => (a env s).bind fun x s => if x then .ok true s else b env s
def tNot (a : ME Bool) : ME Bool := fun env s => (a env s).bind fun x s => .ok (!x) s
def eIf (c : ME Bool) (a b : ME D) : ME D := fun env s => (c env s).bind fun x s => if x then a env s else b env s
/-- and, or, not as values (bools) -/
def eAnd (a b : ME D) : ME D := fun env s => (a env s).bind fun x s => match x with
  | .bl true => b env s
  | .bl false => .ok (.bl false) s
  | _ => .no
def eOr (a b : ME D) : ME D := fun env s => (a env s).bind fun x s => match x with
  | .bl true => .ok (.bl true) s
  | .bl false => b env s
  | _ => .no
def eNot (a : ME D) : ME D := fun env s => (a env s).bind fun x s => match x with
  | .bl c => .ok (.bl !c) s
  | _ => .no
def eChain (g g' : D → D → Store → Option (D × Store)) (a b c : ME D) : ME D := fun env s => (a env s).bind fun x s => (b env s).bind fun y s => (R.of (g x y s)).bind fun z s => match z with
  | .bl true => (c env s).bind fun w s => R.of (g' y w s)
  | .bl false => .ok (.bl false) s
  | _ => .no
section
variable {X : Cx} {W : WX} {pos : Pos} {a b c e : Expr} {es : List Expr} {fa fb fc : ME D} {ga gb : ME Bool} {fs : ME (List D)}
theorem ce_v (i : Nat) {x : Str} (hN : X.N[i]? = some x := by rfl) (hv : Vis X.env.scope x := by first | exact Or.inl rfl | exact Or.inr (Or.inl rfl) | exact Or.inr (Or.inr rfl)) (hd : (x == ("__debug__" : Str)) = false := by decide)
    (hcd : (x == ("__classdict__" : Str)) = false := by decide) : PE X (.Name x pos) (Te X.K X.mg W (eV i)) := by
  refine PE.imp (pe_var (i := i) hN hv hd hcd) fun σ H Q h => ?_
  obtain ⟨m, env, s, r, E, g⟩ := h
  unfold eV at g
  cases q : env[i]? with
  | none => rw [q] at g; exact g.elim
  | some o =>
    cases o with
    | none => rw [q] at g; exact g.elim
    | some d =>
      rw [q] at g
      obtain ⟨v, h1, h2⟩ := E.2 i d q
      exact ⟨v, h1, g.now r h2⟩
theorem ce_c {d : D} {v : V} (h : PE X e (tC v)) (r : ∀ m H, Rep X.K m H d v) : PE X e (Te X.K X.mg W (eC d)) :=
  PE.imp h fun σ H Q ⟨m, env, s, rl, E, g⟩ => g.now rl (r m H)
theorem ce_int {i j} : PE X (.Constant (.int i) j pos) (Te X.K X.mg W (eC (.int i))) := ce_c pe_int fun _ _ => .int _
theorem ce_bl {i j} : PE X (.Constant (.bool i) j pos) (Te X.K X.mg W (eC (.bl i))) := ce_c pe_bl fun _ _ => .bl _
theorem ce_non {j} : PE X (.Constant .none j pos) (Te X.K X.mg W (eC .non)) := ce_c pe_non fun _ _ => .non
theorem ce_str {x j} : PE X (.Constant (.str x) j pos) (Te X.K X.mg W (eC (.str x))) := ce_c pe_str fun _ _ => .str _
theorem ce_glob {x : Str} {d : D} {v : V} {u : Value} (hg : Gl X x) (hm : X.mg x = some u) (r : RelV v u) (q : ∀ m H, Rep X.K m H d v) (hd : (x == ("__debug__" : Str)) = false := by decide) : PE X (.Name x pos) (Te X.K X.mg W (eC d)) := ce_c (pe_glob hg hm r hd) q
/-- an operation on values, with its mirror -/
def OpS (K : PySem.W.Frag) (r : R2) (g : D → D → Store → Option (D × Store)) : Prop :=
  ∀ {mg : Str → Option Value} {W : WX} {σ : L2.St} {m : List Addr} {H : Hp} {s : Store} {x y : V} {dx dy : D} {Q : VK}, Rel K m H s → Rep K m H dx x → Rep K m H dy y → G K mg (Rep K) W σ m H Q (R.of (g dx dy s)) → r x y H Q
theorem e2_run {r : R2} {g : D → D → Store → Option (D × Store)} (hs : OpS X.K r g) : ∀ σ H Q, Te X.K X.mg W (e2 g fa fb) σ H Q → tOp r (Te X.K X.mg W fa) (Te X.K X.mg W fb) σ H Q := fun σ H Q h =>
  Tm.bind (k := fun env x s => (fb env s).bind fun y s => R.of (g x y s)) h fun m1 H1 env x v s1 r1 E1 p1 g1 =>
    ⟨m1, env, s1, r1, E1, G.bind g1 fun m2 H2 y u s2 l2 r2 p2 g2 => hs r2 (p1.mono l2) p2 g2⟩
theorem ce_op {op : Operator} {r : R2} {g : D → D → Store → Option (D × Store)} (ho : OpR X (binaryOp op) r) (hs : OpS X.K r g) (ha : PE X a (Te X.K X.mg W fa)) (hb : PE X b (Te X.K X.mg W fb)) :
    PE X (.BinOp a op b pos) (Te X.K X.mg W (e2 g fa fb)) := PE.imp (pe_op ho ha hb) (e2_run hs)
theorem ce_cmp {op : CmpOp} {r : R2} {g : D → D → Store → Option (D × Store)} (ho : OpR X (compareOp op) r) (hs : OpS X.K r g) (ha : PE X a (Te X.K X.mg W fa)) (hb : PE X b (Te X.K X.mg W fb)) (hm : behindInMarks op b = false) :
    PE X (.Compare a [op] [b] pos) (Te X.K X.mg W (e2 g fa fb)) := PE.imp (pe_cmpR ho ha hb hm) (e2_run hs)
theorem ce_ix {r : R2} {g : D → D → Store → Option (D × Store)} (ho : IxR X r) (hs : OpS X.K r g) (ha : PE X a (Te X.K X.mg W fa)) (hb : PE X b (Te X.K X.mg W fb)) (hp : PlainIx b) :
    PE X (.Subscript a b pos) (Te X.K X.mg W (e2 g fa fb)) := PE.imp (pe_ix ho ha hb hp) (e2_run hs)
/-- a test of a value that is a bool -/
theorem tv_run {t : TE} (hp : ∀ σ H Q, Te X.K X.mg W fa σ H Q → t σ H Q) : ∀ σ H Q, Tt X.K X.mg W (tV fa) σ H Q → t σ H fun x H' => ∃ k, x = .bl k ∧ Q k H' := fun σ H Q h =>
  hp σ H _ (Tm.bind (k := fun _ x s => match x with | .bl b => R.ok b s | _ => R.no) h fun m1 H1 env x v s1 r1 E1 p1 g1 => by
    cases x with
    | bl k => cases p1; exact ⟨k, rfl, g1.nowB r1⟩
    | _ => exact g1.elim)
theorem ct_v (ha : PE X a (Te X.K X.mg W fa)) (he : ∀ whole, isTrue a X.env whole = (do let v ← whole; standAt a.pos; holding [v] (truthy v)) := by intro _; rfl) : PT X a (Tt X.K X.mg W (tV fa)) :=
  PT.imp (pt_val ha he) (tv_run fun _ _ _ h => h)
theorem ct_cmp {op : CmpOp} {r : R2} {g : D → D → Store → Option (D × Store)} (ho : OpR X (compareOp op) r) (hs : OpS X.K r g) (ha : PE X a (Te X.K X.mg W fa)) (hb : PE X b (Te X.K X.mg W fb)) (hm : behindInMarks op b = false) :
    PT X (.Compare a [op] [b] pos) (Tt X.K X.mg W (tV (e2 g fa fb))) := PT.imp (pt_cmpR ho ha hb hm) (tv_run (e2_run hs))
theorem chain_run {r r' : R2} {g g' : D → D → Store → Option (D × Store)} (hs : OpS X.K r g) (hs' : OpS X.K r' g') : ∀ σ H Q, Te X.K X.mg W (eChain g g' fa fb fc) σ H Q → tChain r r' (Te X.K X.mg W fa) (Te X.K X.mg W fb) (Te X.K X.mg W fc) σ H Q := fun σ H Q h =>
  Tm.bind (k := fun env x s => (fb env s).bind fun y s => (R.of (g x y s)).bind fun z s => match z with | .bl true => (fc env s).bind fun w s => R.of (g' y w s) | .bl false => R.ok (D.bl false) s | _ => R.no) h fun m1 H1 env x v s1 r1 E1 p1 g1 =>
    ⟨m1, env, s1, r1, E1, G.bind g1 fun m2 H2 y u s2 l2 r2 p2 g2 => hs r2 (p1.mono l2) p2 (G.bind g2 fun m3 H3 z w s3 l3 r3 p3 g3 => by
      cases z with
      | bl k =>
        cases p3
        refine ⟨k, rfl, ?_⟩
        cases k with
        | true => exact iteT ⟨m3, env, s3, r3, (E1.mono l2).mono l3, G.bind g3 fun m4 H4 z w s4 l4 r4 p4 g4 => hs' r4 ((p2.mono l3).mono l4) p4 g4⟩
        | false => exact iteF (g3.now r3 (.bl false))
      | _ => exact g3.elim)⟩
theorem ce_chain {op op' : CmpOp} {r r' : R2} {g g' : D → D → Store → Option (D × Store)} (ho : OpR X (compareOp op) r) (hs : OpS X.K r g) (ho' : OpR X (compareOp op') r') (hs' : OpS X.K r' g') (ha : PE X a (Te X.K X.mg W fa)) (hb : PE X b (Te X.K X.mg W fb)) (hc : PE X c (Te X.K X.mg W fc))
    (hm : lastMarks [op, op'] [b, c] = false := by with_unfolding_all rfl) : PE X (.Compare a [op, op'] [b, c] pos) (Te X.K X.mg W (eChain g g' fa fb fc)) := PE.imp (pe_chain ho ho' ha hb hc hm) (chain_run hs hs')
theorem ct_chain {op op' : CmpOp} {r r' : R2} {g g' : D → D → Store → Option (D × Store)} (ho : OpR X (compareOp op) r) (hs : OpS X.K r g) (ho' : OpR X (compareOp op') r') (hs' : OpS X.K r' g') (ha : PE X a (Te X.K X.mg W fa)) (hb : PE X b (Te X.K X.mg W fb)) (hc : PE X c (Te X.K X.mg W fc))
    (hm : lastMarks [op, op'] [b, c] = false := by with_unfolding_all rfl) : PT X (.Compare a [op, op'] [b, c] pos) (Tt X.K X.mg W (tV (eChain g g' fa fb fc))) := PT.imp (pt_chain ho ho' ha hb hc hm) (tv_run (chain_run hs hs'))
/-! #### tests -/
theorem cw_and1 (ha : PT X a (Tt X.K X.mg W ga)) : PW X (.BoolOp .And [a] pos) (Tt X.K X.mg W ga) := pw_and1 ha
theorem cw_or1 (ha : PT X a (Tt X.K X.mg W ga)) : PW X (.BoolOp .Or [a] pos) (Tt X.K X.mg W ga) := pw_or1 ha
theorem cw_and {rest : List Expr} (ha : PT X a (Tt X.K X.mg W ga)) (hb : PW X (.BoolOp .And (b :: rest) pos) (Tt X.K X.mg W gb)) : PW X (.BoolOp .And (a :: b :: rest) pos) (Tt X.K X.mg W (tAnd ga gb)) :=
  PW.imp (pw_and ha hb) fun σ H Q h => Tm.bind (k := fun env x s => if x then gb env s else R.ok false s) h fun m1 H1 env x v s1 r1 E1 p1 g1 => by
    cases (show x = v from p1)
    cases x with
    | true => exact iteT ⟨m1, env, s1, r1, E1, g1⟩
    | false => exact iteF (G.nowB g1 r1)
theorem cw_or {rest : List Expr} (ha : PT X a (Tt X.K X.mg W ga)) (hb : PW X (.BoolOp .Or (b :: rest) pos) (Tt X.K X.mg W gb)) : PW X (.BoolOp .Or (a :: b :: rest) pos) (Tt X.K X.mg W (tOr ga gb)) :=
  PW.imp (pw_or ha hb) fun σ H Q h => Tm.bind (k := fun env x s => if x then R.ok true s else gb env s) h fun m1 H1 env x v s1 r1 E1 p1 g1 => by
    cases (show x = v from p1)
    cases x with
    | true => exact iteT (G.nowB g1 r1)
    | false => exact iteF ⟨m1, env, s1, r1, E1, g1⟩
theorem ct_not (ha : PT X a (Tt X.K X.mg W ga)) : PT X (.UnaryOp .Not a pos) (Tt X.K X.mg W (tNot ga)) :=
  PT.imp (pt_not ha) fun σ H Q h => Tm.bind (k := fun env x s => R.ok (!x) s) h fun m1 H1 env x v s1 r1 E1 p1 g1 => by
    cases (show x = v from p1)
    exact G.nowB g1 r1
theorem ce_ifExp (hc : PT X c (Tt X.K X.mg W ga)) (ha : PE X a (Te X.K X.mg W fa)) (hb : PE X b (Te X.K X.mg W fb)) : PE X (.IfExp c a b pos) (Te X.K X.mg W (eIf ga fa fb)) :=
  PE.imp (pe_ifExp hc ha hb) fun σ H Q h => Tm.bind (k := fun env x s => if x then fa env s else fb env s) h fun m1 H1 env x v s1 r1 E1 p1 g1 => by
    cases (show x = v from p1)
    cases x with
    | true => exact iteT ⟨m1, env, s1, r1, E1, g1⟩
    | false => exact iteF ⟨m1, env, s1, r1, E1, g1⟩
theorem ce_one {op} {t : TE} (h : PE X a t) : PE X (.BoolOp op [a] pos) t := pe_one h
theorem ce_and {rest : List Expr} (ha : PE X a (Te X.K X.mg W fa)) (hb : PE X (.BoolOp .And (b :: rest) pos) (Te X.K X.mg W fb)) : PE X (.BoolOp .And (a :: b :: rest) pos) (Te X.K X.mg W (eAnd fa fb)) :=
  PE.imp (pe_and ha hb) fun σ H Q h => Tm.bind (k := fun env x s => match x with | .bl true => fb env s | .bl false => R.ok (D.bl false) s | _ => R.no) h fun m1 H1 env x v s1 r1 E1 p1 g1 => by
    cases x with
    | bl k =>
      cases p1
      refine ⟨k, rfl, ?_⟩
      cases k with
      | true => exact iteT ⟨m1, env, s1, r1, E1, g1⟩
      | false => exact iteF (g1.now r1 (.bl false))
    | _ => exact g1.elim
theorem ce_or {rest : List Expr} (ha : PE X a (Te X.K X.mg W fa)) (hb : PE X (.BoolOp .Or (b :: rest) pos) (Te X.K X.mg W fb)) : PE X (.BoolOp .Or (a :: b :: rest) pos) (Te X.K X.mg W (eOr fa fb)) :=
  PE.imp (pe_or ha hb) fun σ H Q h => Tm.bind (k := fun env x s => match x with | .bl true => R.ok (D.bl true) s | .bl false => fb env s | _ => R.no) h fun m1 H1 env x v s1 r1 E1 p1 g1 => by
    cases x with
    | bl k =>
      cases p1
      refine ⟨k, rfl, ?_⟩
      cases k with
      | true => exact iteT (g1.now r1 (.bl true))
      | false => exact iteF ⟨m1, env, s1, r1, E1, g1⟩
    | _ => exact g1.elim
theorem ce_not (ha : PE X a (Te X.K X.mg W fa)) : PE X (.UnaryOp .Not a pos) (Te X.K X.mg W (eNot fa)) :=
  PE.imp (pe_not ha) fun σ H Q h => Tm.bind (k := fun env x s => match x with | .bl c => R.ok (D.bl !c) s | _ => R.no) h fun m1 H1 env x v s1 r1 E1 p1 g1 => by
    cases x with
    | bl k => cases p1; exact ⟨k, rfl, g1.now r1 (.bl _)⟩
    | _ => exact g1.elim
/-! #### argument lists, displays -/
theorem ca_nil : PA X [] (Ta X.K X.mg W aNil) := PA.imp pa_nil fun σ H Q ⟨m, env, s, r, E, g⟩ => g m H [] .refl r .nil
theorem ca_cons (ha : PE X e (Te X.K X.mg W fa)) (hr : PA X es (Ta X.K X.mg W fs)) (hs : starEach (e :: es) X.env = (false, eval e X.env) :: starEach es X.env := by rfl) : PA X (e :: es) (Ta X.K X.mg W (aCons fa fs)) :=
  PA.imp (pa_cons ha hr hs) fun σ H Q h => Tm.bind (k := fun env x s => (fs env s).bind fun xs s => R.ok (x :: xs) s) h fun m1 H1 env x v s1 r1 E1 p1 g1 =>
    ⟨m1, env, s1, r1, E1, G.bind g1 fun m2 H2 xs vs s2 l2 r2 p2 g2 => g2 m2 H2 _ .refl r2 (.cons (p1.mono l2) p2)⟩
theorem ce_tup {k : Nat} (h : PA X es (Ta X.K X.mg W fs)) : PE X (.Tuple es k pos) (Te X.K X.mg W (eTup fs)) :=
  PE.imp (pe_tupN h) fun σ H Q h => Tm.bind (k := fun env xs s => if xs.length ≤ sizeLine then R.ok (D.tup xs) s else R.no) h fun m1 H1 env xs vs s1 r1 E1 p1 g1 => by
    by_cases hz : xs.length ≤ sizeLine
    · simp only [hz, if_true] at g1
      exact ⟨by rw [← p1.length]; exact hz, fun p o o1 o2 hp => g1 m1 _ _ (le_new hp) (r1.tmp hp) (rep_newtup o1 o2 hp p1)⟩
    · simp only [hz, if_false] at g1
      exact g1.elim
theorem newlist {xs : List D} {vs : List V} {m : List Addr} {H : Hp} {s : Store} {σ : L2.St} {Q : VK} {mg : Str → Option Value} (r : Rel X.K m H s) (p : Reps X.K m H xs vs) (g : G X.K mg (Rep X.K) W σ m H Q (.ok (.loc s.length) (s ++ [.lst xs]))) :
    ∀ q, H q = none → Q (.ref q) (upd H q (.lst vs)) := fun q hq => g (m ++ [q]) _ _ (le_more r hq) (rel_newlist r hq p) (.loc (len_get r))
theorem ce_lst (h : PA X es (Ta X.K X.mg W fs)) : PE X (.List es pos) (Te X.K X.mg W (eLst fs)) :=
  PE.imp (pe_lst h) fun σ H Q h => Tm.bind (k := fun env xs s => if xs.length ≤ sizeLine then R.ok (D.loc s.length) (s ++ [.lst xs]) else R.no) h fun m1 H1 env xs vs s1 r1 E1 p1 g1 => by
    by_cases hz : xs.length ≤ sizeLine
    · simp only [hz, if_true] at g1
      exact ⟨by rw [← p1.length]; exact hz, newlist r1 p1 g1⟩
    · simp only [hz, if_false] at g1
      exact g1.elim
/-! #### calls of builtins, by values -/
def FnS (K : PySem.W.Frag) (r : List V → Hp → VK → Prop) (g : List D → Store → Option (D × Store)) : Prop :=
  ∀ {mg : Str → Option Value} {W : WX} {σ : L2.St} {m : List Addr} {H : Hp} {s : Store} {xs : List V} {ds : List D} {Q : VK}, Rel K m H s → Reps K m H ds xs → G K mg (Rep K) W σ m H Q (R.of (g ds s)) → r xs H Q
theorem eFn_run {r : List V → Hp → VK → Prop} {g : List D → Store → Option (D × Store)} (hs : FnS X.K r g) : ∀ σ H Q, Te X.K X.mg W (eFn g fs) σ H Q → tCB r (Ta X.K X.mg W fs) σ H Q := fun σ H Q h =>
  Tm.bind (k := fun env xs s => R.of (g xs s)) h fun m1 H1 env x v s1 r1 E1 p1 g1 => hs r1 p1 g1
theorem ce_callB {x id : String} {p : Pos} {r : List V → Hp → VK → Prop} {g : List D → Store → Option (D × Store)} (hc : CallR X (.builtin id) r) (hs : FnS X.K r g) (hg : Gl X x) (hm : X.mg x = none) (hv : bootBuiltins x = some (.builtin id)) (ha : PA X (e :: es) (Ta X.K X.mg W fs))
    (hn : (x : Str) ≠ "__name__" := by decide) (hdb : ((x : Str) == ("__debug__" : Str)) = false := by decide)
    (he : starEach (e :: es) X.env = (false, eval e X.env) :: starEach es X.env := by rfl) (hpl : (backTo pos (starEach es X.env)).any (·.1) = false := by rfl) : PE X (.Call (.Name x p) (e :: es) [] pos) (Te X.K X.mg W (eFn g fs)) :=
  PE.imp (pe_callB hc hg hm hv ha hn hdb he hpl) (eFn_run hs)
theorem ce_callTy {x id : String} {p : Pos} {r : List V → Hp → VK → Prop} {g : List D → Store → Option (D × Store)} (hc : CallR X (.type id) r) (hs : FnS X.K r g) (hg : Gl X x) (hm : X.mg x = none) (hv : bootBuiltins x = some (.type id)) (ha : PA X (e :: es) (Ta X.K X.mg W fs))
    (hn : (x : Str) ≠ "__name__" := by decide) (hdb : ((x : Str) == ("__debug__" : Str)) = false := by decide)
    (he : starEach (e :: es) X.env = (false, eval e X.env) :: starEach es X.env := by rfl) (hpl : (backTo pos (starEach es X.env)).any (·.1) = false := by rfl) : PE X (.Call (.Name x p) (e :: es) [] pos) (Te X.K X.mg W (eFn g fs)) :=
  PE.imp (pe_callTy hc hg hm hv ha hn hdb he hpl) (eFn_run hs)
/-! #### one-place -/
def UnS (K : PySem.W.Frag) (r : V → Hp → VK → Prop) (g : D → Store → Option (D × Store)) : Prop :=
  ∀ {mg : Str → Option Value} {W : WX} {σ : L2.St} {m : List Addr} {H : Hp} {s : Store} {x : V} {d : D} {Q : VK}, Rel K m H s → Rep K m H d x → G K mg (Rep K) W σ m H Q (R.of (g d s)) → r x H Q
theorem ce_un {op : UnaryOp} {r : V → Hp → VK → Prop} {g : D → Store → Option (D × Store)} (ho : UnR X (unaryOp op) r) (hs : UnS X.K r g) (ha : PE X a (Te X.K X.mg W fa)) : PE X (.UnaryOp op a pos) (Te X.K X.mg W (e1 g fa)) :=
  PE.imp (pe_un ho ha) fun σ H Q h => Tm.bind (k := fun env x s => R.of (g x s)) h fun m1 H1 env x v s1 r1 E1 p1 g1 => hs r1 p1 g1
/-! #### a def's promise: its mirror's value -/
def spM (K : PySem.W.Frag) (mg : Str → Option Value) (n : Nat) (g : List D → Store → R D) : Sp := fun vs H Q E => vs.length = n ∧
  ∃ m s ds, Rel K m H s ∧ Reps K m H ds vs ∧ G K mg (Rep K) (fun c d _ H => E c d H) [] m H Q (g ds s)
theorem ce_call {k n : Nat} {f : Addr} {fd : FuncData} {ps : List Str} {x : Str} {p : Pos} {g : List D → Store → R D} (F : FnOk X.prog X.w X.K X.mg X.base (L2.CX X.prog X.w) k f fd ps (spM X.K X.mg n g)) (hr : Room k X.A) (tk : Takes X W) (hg : Gl X x) (hm : X.mg x = some (.ref f)) (hk : PySem.W.keepIn X.K (.ref f) = true) (hb : Binds X.K fd ps [])
    (hn : ∀ xs s env, ∀ s', fs env s = .ok xs s' → xs.length = n) (ha : PA X (e :: es) (Ta X.K X.mg W fs)) (hdb : (x == ("__debug__" : Str)) = false := by decide) (he : starEach (e :: es) X.env = (false, eval e X.env) :: starEach es X.env := by rfl) (hpl : (backTo pos (starEach es X.env)).any (·.1) = false := by rfl) :
    PE X (.Call (.Name x p) (e :: es) [] pos) (Te X.K X.mg W (eCall g fs)) :=
  PE.imp (pe_callS (E := WE W) F hr hg hm hk hb (fun σ => passAt tk σ) ha hdb he hpl) fun σ H Q h => by
    obtain ⟨m, env, s, r, E, g0⟩ := h
    refine ⟨m, env, s, r, E, ?_⟩
    unfold eCall at g0
    cases hf : fs env s with
    | ok xs s1 =>
      rw [hf] at g0
      intro m1 H1 vs l1 r1 p1
      refine ⟨by rw [← p1.length]; exact hn xs s env s1 hf, m1, s1, xs, r1, p1, ?_⟩
      have g1 : G X.K X.mg (Rep X.K) W σ m H Q (g xs s1) := g0
      have g2 := g1.mono l1
      cases hgx : g xs s1 with
      | ok a s2 => rw [hgx] at g2; exact g2
      | ex x2 s2 => rw [hgx] at g2; exact g2
      | no => rw [hgx] at g2; exact g2
    | ex x s1 => rw [hf] at g0; exact g0
    | no => rw [hf] at g0; exact g0.elim
end
end Mi
namespace Mi
open PySem PySem.Spec PyProof.Rows L2
/-! ### operations on values: mirrors and their rules -/
section
variable {K : PySem.W.Frag}
theorem OpS.or {r r' : R2} {g : D → D → Store → Option (D × Store)} (h : ∀ {mg : Str → Option Value} {W : WX} {σ : L2.St} {m : List Addr} {H : Hp} {s : Store} {x y : V} {dx dy : D} {Q : VK}, Rel K m H s → Rep K m H dx x → Rep K m H dy y → G K mg (Rep K) W σ m H Q (R.of (g dx dy s)) → r x y H Q ∨ r' x y H Q) : OpS K (fun x y H Q => r x y H Q ∨ r' x y H Q) g := h
/-- two ints -/
def dI (f : Int → Int → Option D) : D → D → Store → Option (D × Store)
  | .int i, .int j, s => (f i j).map fun d => (d, s)
  | _, _, _ => none
theorem ops_dI {C : Int → Int → Prop} {gv : Int → Int → V} {f : Int → Int → Option D} (h : ∀ i j d, f i j = some d → C i j ∧ ∀ m H, Rep K m H d (gv i j)) : OpS K (rI C gv) (dI f) := by
  intro mg W σ m H s x y dx dy Q r px py g
  cases dx with
  | int i =>
    cases dy with
    | int j =>
      cases px; cases py
      cases e : f i j with
      | none => rw [show R.of (dI f (.int i) (.int j) s) = R.no by simp [dI, e]] at g; exact g.elim
      | some d =>
        rw [show R.of (dI f (.int i) (.int j) s) = .ok d s by simp [dI, e]] at g
        obtain ⟨h1, h2⟩ := h i j d e
        exact ⟨i, j, rfl, rfl, h1, g.now r (h2 m H)⟩
    | _ => exact g.elim
  | _ => exact g.elim
theorem ops_dI0 {gv : Int → Int → V} {f : Int → Int → D} (h : ∀ i j m H, Rep K m H (f i j) (gv i j)) : OpS K (rI0 gv) (dI fun i j => some (f i j)) := by
  intro mg W σ m H s x y dx dy Q r px py g
  obtain ⟨i, j, e1, e2, _, q⟩ := ops_dI (K := K) (C := fun _ _ => True) (gv := gv) (fun i j d e => ⟨trivial, by cases e; exact h i j⟩) r px py g
  exact ⟨i, j, e1, e2, q⟩
def dAdd : D → D → Store → Option (D × Store)
  | .int i, .int j, s => some (.int (i + j), s)
  | .str x, .str y, s => if x.length + y.length ≤ sizeLine then some (.str (x ++ y), s) else none
  | .tup xs, .tup ys, s => if xs.length + ys.length ≤ sizeLine then some (.tup (xs ++ ys), s) else none
  | .loc l, .loc k, s => match s[l]?, s[k]? with
    | some (.lst xs), some (.lst ys) => if xs.length + ys.length ≤ sizeLine then some (.loc s.length, s ++ [.lst (xs ++ ys)]) else none
    | _, _ => none
  | _, _, _ => none
def rAddA (K : PySem.W.Frag) : R2 := fun x y H Q => rI0 (fun i j => .int (i + j)) x y H Q ∨ (∃ i j, x = .str i ∧ y = .str j ∧ i.length + j.length ≤ sizeLine ∧ Q (.str (i ++ j)) H) ∨ rCatN K x y H Q ∨ rCat x y H Q
theorem op_addA {X : Cx} : OpR X (binaryOp .Add) (rAddA X.K) := op_add.or (op_add_str.or (op_catN.or op_cat))
theorem ops_add : OpS K (rAddA K) dAdd := by
  intro mg W σ m H s x y dx dy Q r px py g
  cases dx with
  | int i =>
    cases dy with
    | int j => cases px; cases py; exact .inl ⟨i, j, rfl, rfl, g.now r (.int _)⟩
    | _ => exact g.elim
  | str i =>
    cases dy with
    | str j =>
      cases px; cases py
      by_cases hz : i.length + j.length ≤ sizeLine
      · rw [show dAdd (.str i) (.str j) s = some (.str (i ++ j), s) by simp [dAdd, hz]] at g
        exact .inr (.inl ⟨i, j, rfl, rfl, hz, g.now r (.str _)⟩)
      · rw [show dAdd (.str i) (.str j) s = none by simp [dAdd, hz]] at g; exact g.elim
    | _ => exact g.elim
  | tup xs =>
    cases dy with
    | tup ys =>
      cases px with
      | tup h1 r1 =>
        cases py with
        | tup h2 r2 =>
          by_cases hz : xs.length + ys.length ≤ sizeLine
          · rw [show dAdd (.tup xs) (.tup ys) s = some (.tup (xs ++ ys), s) by simp [dAdd, hz]] at g
            refine .inr (.inr (.inl ⟨_, _, _, _, rfl, rfl, h1.sq, h2.sq, by rw [← r1.length, ← r2.length]; exact hz, fun e => ?_, fun _ e => ?_, fun _ _ p o o1 o2 hp => ?_⟩))
            · subst e; cases r1; exact g.now r (.tup h2 r2)
            · subst e; cases r2; rw [List.append_nil] at g; exact g.now r (.tup h1 r1)
            · exact g m _ _ (le_new hp) (r.tmp hp) (rep_newtup o1 o2 hp (r1.append r2))
          · rw [show dAdd (.tup xs) (.tup ys) s = none by simp [dAdd, hz]] at g; exact g.elim
    | _ => exact g.elim
  | loc l =>
    cases dy with
    | loc k =>
      cases px with
      | loc h1 =>
        cases py with
        | loc h2 =>
          cases e1 : s[l]? with
          | none => rw [show dAdd (.loc l) (.loc k) s = none by simp [dAdd, e1]] at g; exact g.elim
          | some c1 =>
            cases c1 with
            | dic _ => rw [show dAdd (.loc l) (.loc k) s = none by simp [dAdd, e1]] at g; exact g.elim
            | dct _ => rw [show dAdd (.loc l) (.loc k) s = none by simp [dAdd, e1]] at g; exact g.elim
            | lst xs =>
              cases e2 : s[k]? with
              | none => rw [show dAdd (.loc l) (.loc k) s = none by simp [dAdd, e1, e2]] at g; exact g.elim
              | some c2 =>
                cases c2 with
                | dic _ => rw [show dAdd (.loc l) (.loc k) s = none by simp [dAdd, e1, e2]] at g; exact g.elim
                | dct _ => rw [show dAdd (.loc l) (.loc k) s = none by simp [dAdd, e1, e2]] at g; exact g.elim
                | lst ys =>
                  by_cases hz : xs.length + ys.length ≤ sizeLine
                  · rw [show dAdd (.loc l) (.loc k) s = some (.loc s.length, s ++ [.lst (xs ++ ys)]) by simp [dAdd, e1, e2, hz]] at g
                    obtain ⟨vs, q1, p1⟩ := r.list h1 e1
                    obtain ⟨ws, q2, p2⟩ := r.list h2 e2
                    refine .inr (.inr (.inr ⟨_, _, vs, ws, rfl, rfl, q1, q2, by rw [← p1.length, ← p2.length]; exact hz, fun p hp => ?_⟩))
                    exact g (m ++ [p]) _ _ (le_more r hp) (rel_newlist r hp (p1.append p2)) (.loc (len_get r))
                  · rw [show dAdd (.loc l) (.loc k) s = none by simp [dAdd, e1, e2, hz]] at g; exact g.elim
    | _ => exact g.elim
  | _ => exact g.elim
def dSub := dI fun i j => some (.int (i - j))
theorem ops_sub : OpS K (rI0 fun i j => .int (i - j)) dSub := ops_dI0 fun _ _ _ _ => .int _
noncomputable instance (i j : Int) : Decidable (CMul i j) := Classical.propDecidable _
noncomputable instance (i j : Int) : Decidable (CDiv i j) := Classical.propDecidable _
noncomputable instance (i j : Int) : Decidable (CDivN i j) := Classical.propDecidable _
noncomputable instance (i j : Int) : Decidable (CPow i j) := Classical.propDecidable _
noncomputable def dMul := dI fun i j => if CMul i j then some (.int (i * j)) else none
theorem ops_mul : OpS K (rI CMul fun i j => .int (i * j)) dMul := ops_dI fun i j d h => by
  split at h
  · cases h; exact ⟨by assumption, fun _ _ => .int _⟩
  · cases h
noncomputable def dDiv := dI fun i j => if CDiv i j then some (.int (i / j)) else none
theorem ops_div : OpS K (rI CDiv fun i j => .int (i / j)) dDiv := ops_dI fun i j d h => by
  split at h
  · cases h; exact ⟨by assumption, fun _ _ => .int _⟩
  · cases h
noncomputable def dMod := dI fun i j => if 0 < j then some (.int (i % j)) else none
theorem ops_mod : OpS K (rI (fun _ j => 0 < j) fun i j => .int (i % j)) dMod := ops_dI fun i j d h => by
  split at h
  · cases h; exact ⟨by assumption, fun _ _ => .int _⟩
  · cases h
noncomputable def dPow := dI fun i j => if CPow i j then some (.int (i ^ j.toNat)) else none
theorem ops_pow : OpS K (rI CPow fun i j => .int (i ^ j.toNat)) dPow := ops_dI fun i j d h => by
  split at h
  · cases h; exact ⟨by assumption, fun _ _ => .int _⟩
  · cases h
def dNeg : D → Store → Option (D × Store)
  | .int i, s => some (.int (-i), s)
  | _, _ => none
theorem uns_neg : UnS K (rU fun i => .int (-i)) dNeg := by
  intro mg W σ m H s x d Q r p g
  cases d with
  | int i => cases p; exact ⟨i, rfl, g.now r (.int _)⟩
  | _ => exact g.elim
/-! #### comparisons -/
def dLt : D → D → Store → Option (D × Store)
  | .int i, .int j, s => some (.bl (decide (i < j)), s)
  | .str x, .str y, s => some (.bl (decide (x.cps.toList < y.cps.toList)), s)
  | _, _, _ => none
def dLe : D → D → Store → Option (D × Store)
  | .int i, .int j, s => some (.bl (decide (i ≤ j)), s)
  | .str x, .str y, s => some (.bl (!decide (y.cps.toList < x.cps.toList)), s)
  | _, _, _ => none
def dGt : D → D → Store → Option (D × Store)
  | .int i, .int j, s => some (.bl (decide (j < i)), s)
  | .str x, .str y, s => some (.bl (decide (y.cps.toList < x.cps.toList)), s)
  | _, _, _ => none
def dGe : D → D → Store → Option (D × Store)
  | .int i, .int j, s => some (.bl (decide (j ≤ i)), s)
  | .str x, .str y, s => some (.bl (!decide (x.cps.toList < y.cps.toList)), s)
  | _, _, _ => none
def rCmpA (f : Int → Int → Bool) (k : Str → Str → Bool) : R2 := fun x y H Q => rI0 (fun i j => .bl (f i j)) x y H Q ∨ ∃ i j, x = .str i ∧ y = .str j ∧ Q (.bl (k i j)) H
theorem ops_cmp {f : Int → Int → Bool} {k : Str → Str → Bool} {g : D → D → Store → Option (D × Store)} (h1 : ∀ i j s, g (.int i) (.int j) s = some (.bl (f i j), s)) (h2 : ∀ i j s, g (.str i) (.str j) s = some (.bl (k i j), s))
    (h3 : ∀ x y s, (∀ i j, x = .int i → y = .int j → False) → (∀ i j, x = .str i → y = .str j → False) → g x y s = none) : OpS K (rCmpA f k) g := by
  intro mg W σ m H s x y dx dy Q r px py q
  by_cases ha : ∃ i j, dx = .int i ∧ dy = .int j
  · obtain ⟨i, j, rfl, rfl⟩ := ha
    cases px; cases py
    rw [h1] at q
    exact .inl ⟨i, j, rfl, rfl, q.now r (.bl _)⟩
  · by_cases hb : ∃ i j, dx = .str i ∧ dy = .str j
    · obtain ⟨i, j, rfl, rfl⟩ := hb
      cases px; cases py
      rw [h2] at q
      exact .inr ⟨i, j, rfl, rfl, q.now r (.bl _)⟩
    · rw [h3 dx dy s (fun i j e1 e2 => ha ⟨i, j, e1, e2⟩) (fun i j e1 e2 => hb ⟨i, j, e1, e2⟩)] at q
      exact q.elim
theorem ops_lt : OpS K (rCmpA (fun i j => decide (i < j)) fun x y => decide (x.cps.toList < y.cps.toList)) dLt :=
  ops_cmp (fun _ _ _ => rfl) (fun _ _ _ => rfl) fun x y s h1 h2 => by cases x <;> cases y <;> first | rfl | exact (h1 _ _ rfl rfl).elim | exact (h2 _ _ rfl rfl).elim
theorem ops_le : OpS K (rCmpA (fun i j => decide (i ≤ j)) fun x y => !decide (y.cps.toList < x.cps.toList)) dLe :=
  ops_cmp (fun _ _ _ => rfl) (fun _ _ _ => rfl) fun x y s h1 h2 => by cases x <;> cases y <;> first | rfl | exact (h1 _ _ rfl rfl).elim | exact (h2 _ _ rfl rfl).elim
theorem ops_gt : OpS K (rCmpA (fun i j => decide (j < i)) fun x y => decide (y.cps.toList < x.cps.toList)) dGt :=
  ops_cmp (fun _ _ _ => rfl) (fun _ _ _ => rfl) fun x y s h1 h2 => by cases x <;> cases y <;> first | rfl | exact (h1 _ _ rfl rfl).elim | exact (h2 _ _ rfl rfl).elim
theorem ops_ge : OpS K (rCmpA (fun i j => decide (j ≤ i)) fun x y => !decide (x.cps.toList < y.cps.toList)) dGe :=
  ops_cmp (fun _ _ _ => rfl) (fun _ _ _ => rfl) fun x y s h1 h2 => by cases x <;> cases y <;> first | rfl | exact (h1 _ _ rfl rfl).elim | exact (h2 _ _ rfl rfl).elim
theorem opA_lt {X : Cx} : OpR X (compareOp .Lt) (rCmpA (fun i j => decide (i < j)) fun x y => decide (x.cps.toList < y.cps.toList)) := op_lt.or op_lt_str
theorem opA_le {X : Cx} : OpR X (compareOp .LtE) (rCmpA (fun i j => decide (i ≤ j)) fun x y => !decide (y.cps.toList < x.cps.toList)) := op_le.or op_le_str
theorem opA_gt {X : Cx} : OpR X (compareOp .Gt) (rCmpA (fun i j => decide (j < i)) fun x y => decide (y.cps.toList < x.cps.toList)) := op_gt.or op_gt_str
theorem opA_ge {X : Cx} : OpR X (compareOp .GtE) (rCmpA (fun i j => decide (j ≤ i)) fun x y => !decide (x.cps.toList < y.cps.toList)) := op_ge.or op_ge_str
/-! #### == and != -/
mutual
/-- data without places -/
def py0 : D → Option PyData
  | .non => some .none
  | .bl b => some (.bool b)
  | .int i => some (.int i)
  | .str x => some (.str x)
  | .tup xs => (pys0 xs).map .tuple
  | .fl xs => (pys0 xs).map .list
  | .loc _ => none
  | .exv _ _ _ _ => none
  | .tuw _ => none
def pys0 : List D → Option (List PyData)
  | [] => some []
  | x :: xs => (py0 x).bind fun a => (pys0 xs).map fun r => a :: r
end
/-- data, a list of the store at its head -/
def py1 (s : Store) : D → Option PyData
  | .loc l => match s[l]? with
    | some (.lst xs) => (pys0 xs).map .list
    | _ => none
  | d => py0 d
mutual
theorem py0_dp {m : List Addr} {H : Hp} : ∀ {d : D} {v : V} {p : PyData}, Rep K m H d v → py0 d = some p → Dp K H v p
  | .non, _, _, .non, e => by cases e; exact .non
  | .bl b, _, _, .bl _, e => by cases e; exact .bl b
  | .int b, _, _, .int _, e => by cases e; exact .int b
  | .str b, _, _, .str _, e => by cases e; exact .str b
  | .tup xs, _, _, .tup h r, e => by
    unfold py0 at e
    cases q : pys0 xs with
    | none => rw [q] at e; cases e
    | some ps => rw [q] at e; cases e; exact .tup h.sq (pys0_dp r q)
  | .fl xs, _, _, .fl h r, e => by
    unfold py0 at e
    cases q : pys0 xs with
    | none => rw [q] at e; cases e
    | some ps => rw [q] at e; cases e; exact .lst h.sq (pys0_dp r q)
  | .loc _, _, _, _, e => by cases e
  | .exv _ _ _ _, _, _, _, e => by cases e
  | .tuw _, _, _, _, e => by cases e
theorem pys0_dp {m : List Addr} {H : Hp} : ∀ {ds : List D} {vs : List V} {ps : List PyData}, Reps K m H ds vs → pys0 ds = some ps → DpAll K H vs ps
  | [], _, _, .nil, e => by cases e; exact .nil
  | x :: xs, _, _, .cons h r, e => by
    unfold pys0 at e
    cases q : py0 x with
    | none => rw [q] at e; cases e
    | some a =>
      cases q2 : pys0 xs with
      | none => rw [q, q2] at e; cases e
      | some b => rw [q, q2] at e; cases e; exact .cons (py0_dp h q) (pys0_dp r q2)
end
theorem py1_dp {m : List Addr} {H : Hp} {s : Store} (r : Rel K m H s) {d : D} {v : V} {p : PyData} (h : Rep K m H d v) (e : py1 s d = some p) : Dp K H v p := by
  cases d with
  | loc l =>
    cases h with
    | loc h =>
      unfold py1 at e
      cases q : s[l]? with
      | none => simp [q] at e
      | some c =>
        cases c with
        | dic _ => simp [q] at e
        | dct _ => simp [q] at e
        | lst xs =>
          simp only [q] at e
          obtain ⟨vs, q1, p1⟩ := r.list h q
          cases q2 : pys0 xs with
          | none => rw [q2] at e; cases e
          | some ps => rw [q2] at e; cases e; exact .lst (.inl (.inl q1)) (pys0_dp p1 q2)
  | _ => exact py0_dp h e
/-- scalars that == tells apart without more -/
def dScal : D → D → Option Bool
  | .non, .non => some true
  | .non, .int _ => some false | .int _, .non => some false | .non, .bl _ => some false | .bl _, .non => some false | .non, .str _ => some false | .str _, .non => some false
  | .int i, .int j => some (decide (i = j)) | .bl i, .bl j => some (decide (i = j)) | .str i, .str j => some (decide (i = j))
  | .int _, .str _ => some false | .str _, .int _ => some false | .bl _, .str _ => some false | .str _, .bl _ => some false
  | _, _ => none
@[simp] def okTwo (a b : PyData) : Bool := (SeqAt.shaped a && SeqAt.shaped b) || (a.canLay0 && b.canLay0 && decide (min a.depth b.depth ≤ 64))
def dEqB (x y : D) (s : Store) : Option Bool := match dScal x y with
  | some b => some b
  | none => (py1 s x).bind fun a => (py1 s y).bind fun b => if okTwo a b then some (PyData.eqv a b) else none
def dEq (x y : D) (s : Store) : Option (D × Store) := (dEqB x y s).map fun b => (.bl b, s)
def dNe (x y : D) (s : Store) : Option (D × Store) := (dEqB x y s).map fun b => (.bl !b, s)
def rEqM (K : PySem.W.Frag) : R2 := fun x y H Q => ∃ d e, Dp K H x d ∧ Dp K H y e ∧ d.canLay0 = true ∧ e.canLay0 = true ∧ min d.depth e.depth ≤ 64 ∧ Q (.bl (PyData.eqv d e)) H
def rNeM (K : PySem.W.Frag) : R2 := fun x y H Q => ∃ d e, Dp K H x d ∧ Dp K H y e ∧ d.canLay0 = true ∧ e.canLay0 = true ∧ min d.depth e.depth ≤ 64 ∧ Q (.bl (!PyData.eqv d e)) H
theorem op_eqM {X : Cx} (hu : X.A.units + 64 < cLine) : OpR X (compareOp .Eq) (rEqM X.K) := by
  intro pins s σ H x y v u Q I rx ry h
  obtain ⟨d, e, hd, he, sd, se, hm, q⟩ := h
  obtain ⟨as, r1⟩ := Dp.reads I d x v hd rx
  obtain ⟨bs, r2⟩ := Dp.reads I e y u he ry
  exact SeqAt.compareEq_reads r1 r2 sd se (by omega) ⟨.bl _, H, I, rfl, q⟩
theorem op_neM {X : Cx} (hu : X.A.units + 64 < cLine) : OpR X (compareOp .NotEq) (rNeM X.K) := by
  intro pins s σ H x y v u Q I rx ry h
  obtain ⟨d, e, hd, he, sd, se, hm, q⟩ := h
  obtain ⟨as, r1⟩ := Dp.reads I d x v hd rx
  obtain ⟨bs, r2⟩ := Dp.reads I e y u he ry
  exact SeqAt.compareNe_reads r1 r2 sd se (by omega) ⟨.bl _, H, I, rfl, q⟩
def rEqA (K : PySem.W.Frag) : R2 := fun x y H Q => rEq x y H Q ∨ rEqM K x y H Q
def rNeA (K : PySem.W.Frag) : R2 := fun x y H Q => rNe x y H Q ∨ rNeM K x y H Q
theorem opA_eq {X : Cx} (hu : X.A.units + 64 < cLine) : OpR X (compareOp .Eq) (rEqA X.K) := op_eq.or (op_eqM hu)
theorem opA_ne {X : Cx} (hu : X.A.units + 64 < cLine) : OpR X (compareOp .NotEq) (rNeA X.K) := op_ne.or (op_neM hu)
theorem scal_of {m : List Addr} {H : Hp} {dx dy : D} {x y : V} {b : Bool} (px : Rep K m H dx x) (py : Rep K m H dy y) (e : dScal dx dy = some b) : scal x y = true ∧ decide (x = y) = b := by
  cases px <;> cases py <;> first | (cases e; done) | (cases e; exact ⟨rfl, by simp⟩)
theorem eqB_cases {m : List Addr} {H : Hp} {s : Store} (r : Rel K m H s) {dx dy : D} {x y : V} {b : Bool} (px : Rep K m H dx x) (py : Rep K m H dy y) (e : dEqB dx dy s = some b) :
    (scal x y = true ∧ decide (x = y) = b) ∨ ∃ d e', Dp K H x d ∧ Dp K H y e' ∧ d.canLay0 = true ∧ e'.canLay0 = true ∧ min d.depth e'.depth ≤ 64 ∧ PyData.eqv d e' = b := by
  unfold dEqB at e
  cases q : dScal dx dy with
  | some c => rw [q] at e; cases e; exact .inl (scal_of px py q)
  | none =>
    rw [q] at e
    cases q1 : py1 s dx with
    | none => rw [q1] at e; cases e
    | some a =>
      cases q2 : py1 s dy with
      | none => rw [q1, q2] at e; cases e
      | some c =>
        rw [q1, q2] at e
        simp only [Option.bind_some] at e
        split at e
        · rename_i hs
          cases e
          obtain ⟨h1, h2, h3⟩ : a.canLay0 = true ∧ c.canLay0 = true ∧ min a.depth c.depth ≤ 64 := by
            unfold okTwo at hs
            rw [Bool.or_eq_true, Bool.and_eq_true, Bool.and_eq_true, Bool.and_eq_true, decide_eq_true_iff] at hs
            rcases hs with ⟨h1, h2⟩ | ⟨⟨h1, h2⟩, h3⟩
            · have := SeqAt.depth_of_shaped h1
              exact ⟨SeqAt.canLay_of_shaped h1, SeqAt.canLay_of_shaped h2, by omega⟩
            · exact ⟨h1, h2, h3⟩
          exact .inr ⟨a, c, py1_dp r px q1, py1_dp r py q2, h1, h2, h3, rfl⟩
        · cases e
theorem ops_eq : OpS K (rEqA K) dEq := by
  intro mg W σ m H s x y dx dy Q r px py g
  unfold dEq at g
  cases e : dEqB dx dy s with
  | none => rw [e] at g; exact g.elim
  | some b =>
    rw [e] at g
    have q := g.now r (.bl b)
    rcases eqB_cases r px py e with ⟨h1, h2⟩ | ⟨d, e', h1, h2, h3, h4, h6, h5⟩
    · exact .inl ⟨h1, by rw [h2]; exact q⟩
    · exact .inr ⟨d, e', h1, h2, h3, h4, h6, by rw [h5]; exact q⟩
theorem ops_ne : OpS K (rNeA K) dNe := by
  intro mg W σ m H s x y dx dy Q r px py g
  unfold dNe at g
  cases e : dEqB dx dy s with
  | none => rw [e] at g; exact g.elim
  | some b =>
    rw [e] at g
    have q := g.now r (.bl (!b))
    rcases eqB_cases r px py e with ⟨h1, h2⟩ | ⟨d, e', h1, h2, h3, h4, h6, h5⟩
    · exact .inl ⟨h1, by rw [h2]; exact q⟩
    · exact .inr ⟨d, e', h1, h2, h3, h4, h6, by rw [h5]; exact q⟩
/-! #### is, is not: None, True, False -/
theorem is_bool_gen {M : Model} {A : Around} {E : Value → Shared → Prop} {s : Shared} {Q : Value → Shared → Prop} {v : Value} {b : Bool} (hn : ∀ i, v ≠ .builtin i) (h : Q (.bool (v == .bool b)) s) : wpAny M A (compareOp .Is v (.bool b)) Q E s := by
  cases v <;> first | exact wpAny_pure h | exact (hn _ rfl).elim
theorem isnot_bool_gen {M : Model} {A : Around} {E : Value → Shared → Prop} {s : Shared} {Q : Value → Shared → Prop} {v : Value} {b : Bool} (hn : ∀ i, v ≠ .builtin i) (h : Q (.bool (!(v == .bool b))) s) : wpAny M A (compareOp .IsNot v (.bool b)) Q E s := by
  cases v <;> first | exact wpAny_pure h | exact (hn _ rfl).elim
theorem relv_nb {x : V} {v : Value} (r : RelV x v) : ∀ i, v ≠ .builtin i := fun i e => by
  subst e
  cases x with
  | non => cases r
  | bl c => cases r
  | int i => obtain ⟨t, e⟩ := r; cases e
  | str i => obtain ⟨t, e⟩ := r; cases e
  | byt i => obtain ⟨t, e⟩ := r; cases e
  | flt i => obtain ⟨t, e⟩ := r; cases e
  | ref i => cases r
  | ty i => cases r
theorem relv_bool {x : V} {v : Value} {b : Bool} (r : RelV x v) : (v == .bool b) = decide (x = .bl b) := by
  cases x with
  | non => cases r; simp
  | bl c => cases r; cases c <;> cases b <;> rfl
  | int i => obtain ⟨t, rfl⟩ := r; simp
  | str i => obtain ⟨t, rfl⟩ := r; simp
  | byt i => obtain ⟨t, rfl⟩ := r; simp
  | flt i => obtain ⟨t, rfl⟩ := r; simp
  | ref i => cases r; simp
  | ty i => cases r; simp
theorem op_isB {X : Cx} : OpR X (compareOp .Is) (fun x y H Q => ∃ b, y = .bl b ∧ Q (.bl (decide (x = .bl b))) H) := by
  intro pins s σ H x y v u Q I rx ry h
  obtain ⟨b, rfl, q⟩ := h
  cases ry
  exact is_bool_gen (relv_nb rx) (fin_bl I q (relv_bool rx).symm)
theorem op_notB {X : Cx} : OpR X (compareOp .IsNot) (fun x y H Q => ∃ b, y = .bl b ∧ Q (.bl (!decide (x = .bl b))) H) := by
  intro pins s σ H x y v u Q I rx ry h
  obtain ⟨b, rfl, q⟩ := h
  cases ry
  exact isnot_bool_gen (relv_nb rx) (fin_bl I q (by rw [relv_bool rx]))
def dIsB : D → D → Option Bool
  | .non, .non => some true
  | _, .non => some false
  | .bl c, .bl b => some (decide (c = b))
  | _, .bl _ => some false
  | _, _ => none
def dIs (x y : D) (s : Store) : Option (D × Store) := (dIsB x y).map fun b => (.bl b, s)
def dIsNot (x y : D) (s : Store) : Option (D × Store) := (dIsB x y).map fun b => (.bl !b, s)
def rIsA : R2 := fun x y H Q => (y = .non ∧ Q (.bl (decide (x = .non))) H) ∨ ∃ b, y = .bl b ∧ Q (.bl (decide (x = .bl b))) H
def rNotA : R2 := fun x y H Q => (y = .non ∧ Q (.bl (!decide (x = .non))) H) ∨ ∃ b, y = .bl b ∧ Q (.bl (!decide (x = .bl b))) H
theorem opA_is {X : Cx} : OpR X (compareOp .Is) rIsA := op_isN.or op_isB
theorem opA_isnot {X : Cx} : OpR X (compareOp .IsNot) rNotA := op_notN.or op_notB
theorem isB_cases {m : List Addr} {H : Hp} {dx dy : D} {x y : V} {b : Bool} (px : Rep K m H dx x) (py : Rep K m H dy y) (e : dIsB dx dy = some b) : (y = .non ∧ decide (x = .non) = b) ∨ ∃ c, y = .bl c ∧ decide (x = .bl c) = b := by
  cases py with
  | non => refine .inl ⟨rfl, ?_⟩; cases px <;> (cases e; simp)
  | bl c => refine .inr ⟨c, rfl, ?_⟩; cases px <;> (cases e; simp)
  | _ => cases px <;> cases e
theorem ops_is : OpS K rIsA dIs := by
  intro mg W σ m H s x y dx dy Q r px py g
  unfold dIs at g
  cases e : dIsB dx dy with
  | none => rw [e] at g; exact g.elim
  | some b =>
    rw [e] at g
    have q := g.now r (.bl b)
    rcases isB_cases px py e with ⟨rfl, h⟩ | ⟨c, rfl, h⟩
    · exact .inl ⟨rfl, by rw [h]; exact q⟩
    · exact .inr ⟨c, rfl, by rw [h]; exact q⟩
theorem ops_isnot : OpS K rNotA dIsNot := by
  intro mg W σ m H s x y dx dy Q r px py g
  unfold dIsNot at g
  cases e : dIsB dx dy with
  | none => rw [e] at g; exact g.elim
  | some b =>
    rw [e] at g
    have q := g.now r (.bl (!b))
    rcases isB_cases px py e with ⟨rfl, h⟩ | ⟨c, rfl, h⟩
    · exact .inl ⟨rfl, by rw [h]; exact q⟩
    · exact .inr ⟨c, rfl, by rw [h]; exact q⟩
end
end Mi
namespace Mi
open PySem PySem.Spec PyProof.Rows L2
section
variable {K : PySem.W.Frag} {m : List Addr} {H : Hp} {s : Store}
theorem Rep.sqT {xs : List D} {v : V} (h : Rep K m H (.tup xs) v) : ∃ a vs, v = .ref a ∧ SqT K H a vs ∧ Reps K m H xs vs := by
  cases h with
  | tup h r => exact ⟨_, _, rfl, h.sq, r⟩
theorem Rep.trk {xs : List D} {v : V} (h : Rep K m H (.tup xs) v) : ∃ a vs, v = .ref a ∧ TupS H a vs ∧ Reps K m H xs vs := by
  cases h with
  | tup h r => exact ⟨_, _, rfl, h, r⟩
/-- the items of a list: of the store, or never written -/
def lstOf (s : Store) : D → Option (List D)
  | .loc l => match s[l]? with
    | some (.lst xs) => some xs
    | _ => none
  | .fl xs => some xs
  | _ => none
theorem lstOf_sq (r : Rel K m H s) {d : D} {v : V} {xs : List D} (p : Rep K m H d v) (e : lstOf s d = some xs) : ∃ a vs, v = .ref a ∧ SqL K H a vs ∧ Reps K m H xs vs := by
  cases d with
  | loc l =>
    cases p with
    | loc h =>
      unfold lstOf at e
      cases q : s[l]? with
      | none => simp [q] at e
      | some c =>
        cases c with
        | dic _ => simp [q] at e
        | dct _ => simp [q] at e
        | lst ys =>
          simp only [q] at e
          cases e
          obtain ⟨vs, h1, h2⟩ := r.list h q
          exact ⟨_, vs, rfl, .inl (.inl h1), h2⟩
  | fl ys =>
    cases e
    cases p with
    | fl h q => exact ⟨_, _, rfl, h.sq, q⟩
  | _ => cases e
/-- list or tuple -/
def seqOf (s : Store) : D → Option (List D)
  | .tup xs => some xs
  | d => lstOf s d
theorem seqOf_sq (r : Rel K m H s) {d : D} {v : V} {xs : List D} (p : Rep K m H d v) (e : seqOf s d = some xs) : ∃ a vs, v = .ref a ∧ (SqL K H a vs ∨ SqT K H a vs) ∧ Reps K m H xs vs := by
  cases d with
  | tup ys =>
    cases e
    obtain ⟨a, vs, h1, h2, h3⟩ := p.sqT
    exact ⟨a, vs, h1, .inr h2, h3⟩
  | loc l => obtain ⟨a, vs, h1, h2, h3⟩ := lstOf_sq (d := .loc l) r p e; exact ⟨a, vs, h1, .inl h2, h3⟩
  | fl l => obtain ⟨a, vs, h1, h2, h3⟩ := lstOf_sq (d := .fl l) r p e; exact ⟨a, vs, h1, .inl h2, h3⟩
  | _ => cases e
/-! #### a[i] -/
def dIx (x i : D) (s : Store) : Option (D × Store) := match i with
  | .int i => match x with
    | .str z => if z.length ≤ sizeLine then (atI z.cps.toList i).map fun c => (.str ⟨#[c]⟩, s) else none
    | x => (seqOf s x).bind fun xs => (atI xs i).map fun d => (d, s)
  | _ => none
theorem Reps.atI {xs : List D} {vs : List V} {i : Int} {d : D} (r : Reps K m H xs vs) (e : L2.atI xs i = some d) : ∃ v, L2.atI vs i = some v ∧ Rep K m H d v := by
  unfold L2.atI at e ⊢
  rw [← r.length]
  cases q : ixN xs.length i with
  | none => rw [q] at e; cases e
  | some j =>
    rw [q] at e
    exact r.get e
theorem ops_ix : OpS K (rIx K) dIx := by
  intro mg W σ m H s x y dx dy Q r px py g
  cases dy with
  | int i =>
    cases py
    have seq : ∀ xs, seqOf s dx = some xs → (∀ d, L2.atI xs i = some d → G K mg (Rep K) W σ m H Q (.ok d s)) → (L2.atI xs i).isSome → rIx K x (.int i) H Q := by
      intro xs e q hs
      obtain ⟨d, hd⟩ := Option.isSome_iff_exists.mp hs
      obtain ⟨a, vs, rfl, hq, rr⟩ := seqOf_sq r px e
      obtain ⟨v, hv, rv⟩ := rr.atI hd
      have q2 := (q d hd).now r rv
      rcases hq with hq | hq
      · exact .inl ⟨a, vs, i, v, rfl, rfl, hq, hv, q2⟩
      · exact .inr (.inl ⟨a, vs, i, v, rfl, rfl, hq, hv, q2⟩)
    have gen : (∀ z, dx ≠ .str z) → rIx K x (.int i) H Q := by
      intro hn
      have e : dIx dx (.int i) s = (seqOf s dx).bind fun xs => (L2.atI xs i).map fun d => (d, s) := by
        cases dx <;> first | rfl | exact (hn _ rfl).elim
      rw [e] at g
      cases q : seqOf s dx with
      | none => rw [q] at g; exact g.elim
      | some xs =>
        rw [q] at g
        cases q2 : L2.atI xs i with
        | none => simp [q2] at g; exact g.elim
        | some d =>
          simp [q2] at g
          exact seq xs q (fun d' h => by rw [q2] at h; cases h; exact g) (by simp [q2])
    cases dx with
    | str z =>
      cases px
      by_cases hz : z.length ≤ sizeLine
      · cases q2 : L2.atI z.cps.toList i with
        | none => simp [dIx, hz, q2] at g; exact g.elim
        | some c =>
          simp [dIx, hz, q2] at g
          exact .inr (.inr ⟨z, i, c, rfl, rfl, hz, q2, g.now r (.str _)⟩)
      · simp [dIx, hz] at g; exact g.elim
    | _ => exact gen (fun z e => by cases e)
  | _ => exact g.elim
/-! #### slices -/
def cutD (xs : List D) (lo hi : Option Int) : List D := (xs.drop (HT.sIx xs.length 0 lo)).take (HT.sIx xs.length xs.length hi - HT.sIx xs.length 0 lo)
theorem Reps.cut {xs : List D} {vs : List V} (r : Reps K m H xs vs) (lo hi : Option Int) : Reps K m H (cutD xs lo hi) (cutV vs lo hi) := by
  unfold cutD cutV
  rw [← r.length]
  exact (r.drop _).take _
def dSl (x : D) (lo hi : Option Int) (s : Store) : Option (D × Store) := match x with
  | .tup xs => some (.tup (cutD xs lo hi), s)
  | x => (lstOf s x).map fun xs => (.loc s.length, s ++ [.lst (cutD xs lo hi)])
def SlS (K : PySem.W.Frag) (r : V → Option Int → Option Int → Hp → VK → Prop) (g : D → Option Int → Option Int → Store → Option (D × Store)) : Prop :=
  ∀ {mg : Str → Option Value} {W : WX} {σ : L2.St} {m : List Addr} {H : Hp} {s : Store} {x : V} {d : D} {lo hi : Option Int} {Q : VK}, Rel K m H s → Rep K m H d x → G K mg (Rep K) W σ m H Q (R.of (g d lo hi s)) → r x lo hi H Q
def rSlS : V → Option Int → Option Int → Hp → VK → Prop := fun x lo hi H Q => ∃ z : Str, x = .str z ∧ z.length ≤ sizeLine ∧ Q (.str (cutS z lo hi)) H
def rSlLT (K : PySem.W.Frag) : V → Option Int → Option Int → Hp → VK → Prop := fun x lo hi H Q => rSlL K x lo hi H Q ∨ rSlN K x lo hi H Q
theorem sl_LT {X : Cx} : SlR X (rSlLT X.K) := sl_list.or sl_tupN
theorem sls_LT : SlS K (rSlLT K) dSl := by
  intro mg W σ m H s x d lo hi Q r p g
  have lst : ∀ xs, lstOf s d = some xs → G K mg (Rep K) W σ m H Q (.ok (.loc s.length) (s ++ [.lst (cutD xs lo hi)])) → rSlLT K x lo hi H Q := by
    intro xs e q
    obtain ⟨a, vs, rfl, hq, rr⟩ := lstOf_sq r p e
    exact .inl ⟨a, vs, rfl, hq, fun q' hq' => q (m ++ [q']) _ _ (le_more r hq') (rel_newlist r hq' (rr.cut lo hi)) (.loc (len_get r))⟩
  have gen : (∀ ys, d ≠ .tup ys) → rSlLT K x lo hi H Q := by
    intro hn
    have e : dSl d lo hi s = (lstOf s d).map fun xs => (.loc s.length, s ++ [.lst (cutD xs lo hi)]) := by
      cases d <;> first | rfl | exact (hn _ rfl).elim
    rw [e] at g
    cases q : lstOf s d with
    | none => rw [q] at g; exact g.elim
    | some xs => rw [q] at g; exact lst xs q g
  cases d with
  | tup xs =>
    obtain ⟨a, vs, rfl, hq, rr⟩ := p.sqT
    have g' : G K mg (Rep K) W σ m H Q (.ok (.tup (cutD xs lo hi)) s) := g
    refine .inr ⟨a, vs, rfl, hq, fun w => ?_, fun _ q o o1 o2 hn => g' m _ _ (le_new hn) (r.tmp hn) (rep_newtup o1 o2 hn (rr.cut lo hi))⟩
    have e : cutD xs lo hi = xs := by
      unfold cutD
      rw [rr.length, w.1, w.2, ← rr.length]
      simp
    rw [e] at g'
    exact g'.now r p
  | _ => exact gen (fun z e => by cases e)
def oNone : ME (Option Int) := fun _ s => .ok none s
def oSome (a : ME D) : ME (Option Int) := fun env s => (a env s).bind fun x s => match x with
  | .int i => .ok (some i) s
  | _ => .no
def ρO : List Addr → Hp → Option Int → Option Int → Prop := fun _ _ a b => a = b
abbrev To (K : PySem.W.Frag) (mg : Str → Option Value) (W : WX) (f : ME (Option Int)) : TO := Tm K mg ρO W f
def eSl (g : D → Option Int → Option Int → Store → Option (D × Store)) (a : ME D) (lo hi : ME (Option Int)) : ME D := fun env s => (a env s).bind fun x s => (lo env s).bind fun l s => (hi env s).bind fun u s => R.of (g x l u s)
end
section
variable {X : Cx} {W : WX} {pos p2 : Pos} {a b c e : Expr} {es : List Expr} {fa fb fc : ME D} {ga gb : ME Bool} {fs : ME (List D)} {ol oh : ME (Option Int)} {lo hi : Option Expr}
theorem co_none : PO X none (To X.K X.mg W oNone) := ⟨fun pins s σ H Q I ⟨m, env, st, r, E, g⟩ => po_none.run pins s σ H Q I (g m H none .refl r rfl)⟩
theorem co_some (h : PE X e (Te X.K X.mg W fa)) : PO X (some e) (To X.K X.mg W (oSome fa)) := ⟨fun pins s σ H Q I q =>
  (po_some h).run pins s σ H Q I (Tm.bind (k := fun _ x s => match x with | .int i => R.ok (some i) s | _ => R.no) q fun m1 H1 env x v s1 r1 E1 p1 g1 => by
    cases x with
    | int i => cases p1; exact ⟨i, rfl, g1 m1 H1 (some i) .refl r1 rfl⟩
    | _ => exact g1.elim)⟩
theorem ce_sl {r : V → Option Int → Option Int → Hp → VK → Prop} {g : D → Option Int → Option Int → Store → Option (D × Store)} (hr : SlR X r) (hs : SlS X.K r g) (ha : PE X a (Te X.K X.mg W fa)) (hl : PO X lo (To X.K X.mg W ol)) (hu : PO X hi (To X.K X.mg W oh)) :
    PE X (.Subscript a (.Slice lo hi none p2) pos) (Te X.K X.mg W (eSl g fa ol oh)) :=
  PE.imp (pe_slice hr ha hl hu) fun σ H Q h => Tm.bind (k := fun env x s => (ol env s).bind fun l s => (oh env s).bind fun u s => R.of (g x l u s)) h fun m1 H1 env x v s1 r1 E1 p1 g1 =>
    ⟨m1, env, s1, r1, E1, G.bind g1 fun m2 H2 l l' s2 l2 r2 p2 g2 => ⟨m2, env, s2, r2, E1.mono l2, G.bind g2 fun m3 H3 u u' s3 l3 r3 p3 g3 => by
      cases (show l = l' from p2); cases (show u = u' from p3)
      exact hs r3 ((p1.mono l2).mono l3) g3⟩⟩
end
/-! #### calls of builtins -/
section
variable {K : PySem.W.Frag}
def dLen : List D → Store → Option (D × Store)
  | [.str z], s => if z.length ≤ sizeLine then some (.int z.length, s) else none
  | [x], s => (seqOf s x).map fun xs => (.int xs.length, s)
  | _, _ => none
theorem fns_len : FnS K (fun xs H Q => ∃ x n, xs = [x] ∧ LenV K x H n ∧ Q (.int n) H) dLen := by
  intro mg W σ m H s xs ds Q r p g
  cases p with
  | nil => exact g.elim
  | @cons d v ds2 vs2 h p =>
    cases p with
    | cons h2 p2 => cases d <;> exact g.elim
    | nil =>
      have seq : ∀ xs, seqOf s d = some xs → G K mg (Rep K) W σ m H Q (.ok (.int xs.length) s) → ∃ x n, [v] = [x] ∧ LenV K x H n ∧ Q (.int n) H := by
        intro xs e q
        obtain ⟨a, vs, rfl, hq, rr⟩ := seqOf_sq r h e
        refine ⟨.ref a, xs.length, rfl, ?_, q.now r (.int _)⟩
        rcases hq with hq | hq
        · exact .inl ⟨vs, hq, rr.length⟩
        · exact .inr ⟨vs, hq, rr.length⟩
      have gen : (∀ z, d ≠ .str z) → ∃ x n, [v] = [x] ∧ LenV K x H n ∧ Q (.int n) H := by
        intro hn
        have e : dLen [d] s = (seqOf s d).map fun xs => (.int xs.length, s) := by cases d <;> first | rfl | exact (hn _ rfl).elim
        rw [e] at g
        cases q : seqOf s d with
        | none => rw [q] at g; exact g.elim
        | some xs => rw [q] at g; exact seq xs q g
      cases d with
      | str z =>
        cases h
        by_cases hz : z.length ≤ sizeLine
        · simp [dLen, hz] at g
          exact ⟨.str z, z.length, rfl, ⟨hz, rfl⟩, g.now r (.int _)⟩
        · simp [dLen, hz] at g; exact g.elim
      | _ => exact gen (fun z e => by cases e)
def dInt : List D → Store → Option (D × Store)
  | [.int i], s => some (.int i, s)
  | [.bl k], s => some (.int (if k then 1 else 0), s)
  | _, _ => none
theorem reps1 {m : List Addr} {H : Hp} {d : D} {xs : List V} (p : Reps K m H [d] xs) : ∃ v, xs = [v] ∧ Rep K m H d v := by
  cases p with
  | cons h p => cases p; exact ⟨_, rfl, h⟩
theorem reps2 {m : List Addr} {H : Hp} {d e : D} {xs : List V} (p : Reps K m H [d, e] xs) : ∃ v w, xs = [v, w] ∧ Rep K m H d v ∧ Rep K m H e w := by
  cases p with
  | cons h p =>
    obtain ⟨w, rfl, q⟩ := reps1 p
    exact ⟨_, w, rfl, h, q⟩
theorem fns_int : FnS K (fun xs H Q => (∃ i, xs = [.int i] ∧ Q (.int i) H) ∨ ∃ k, xs = [.bl k] ∧ Q (.int (if k then 1 else 0)) H) dInt := by
  intro mg W σ m H s xs ds Q r p g
  unfold dInt at g
  split at g
  · obtain ⟨v, rfl, h⟩ := reps1 p
    cases h
    exact .inl ⟨_, rfl, g.now r (.int _)⟩
  · obtain ⟨v, rfl, h⟩ := reps1 p
    cases h
    exact .inr ⟨_, rfl, g.now r (.int _)⟩
  · exact g.elim
def dAbs : List D → Store → Option (D × Store)
  | [.int i], s => some (.int (if i < 0 then -i else i), s)
  | _, _ => none
theorem fns_abs : FnS K (fun xs H Q => ∃ i, xs = [.int i] ∧ Q (.int (if i < 0 then -i else i)) H) dAbs := by
  intro mg W σ m H s xs ds Q r p g
  unfold dAbs at g
  split at g
  · obtain ⟨v, rfl, h⟩ := reps1 p
    cases h
    exact ⟨_, rfl, g.now r (.int _)⟩
  · exact g.elim
def dMax2 : List D → Store → Option (D × Store)
  | [.int i, .int j], s => some (.int (if j > i then j else i), s)
  | _, _ => none
theorem fns_max2 : FnS K (fun xs H Q => ∃ i j, xs = [.int i, .int j] ∧ Q (.int (if j > i then j else i)) H) dMax2 := by
  intro mg W σ m H s xs ds Q r p g
  unfold dMax2 at g
  split at g
  · obtain ⟨v, w, rfl, h, h2⟩ := reps2 p
    cases h; cases h2
    exact ⟨_, _, rfl, g.now r (.int _)⟩
  · exact g.elim
def dMin2 : List D → Store → Option (D × Store)
  | [.int i, .int j], s => some (.int (if j < i then j else i), s)
  | _, _ => none
theorem fns_min2 : FnS K (fun xs H Q => ∃ i j, xs = [.int i, .int j] ∧ Q (.int (if j < i then j else i)) H) dMin2 := by
  intro mg W σ m H s xs ds Q r p g
  unfold dMin2 at g
  split at g
  · obtain ⟨v, w, rfl, h, h2⟩ := reps2 p
    cases h; cases h2
    exact ⟨_, _, rfl, g.now r (.int _)⟩
  · exact g.elim
/-- all ints -/
def intsOf : List D → Option (List Int)
  | [] => some []
  | .int i :: r => (intsOf r).map fun x => i :: x
  | _ :: _ => none
theorem intsOf_map (ns : List Int) : intsOf (ns.map D.int) = some ns := by
  induction ns with
  | nil => rfl
  | cons n ns ih => simp [intsOf, ih]
theorem of_intsOf : ∀ {ds : List D} {ns : List Int}, intsOf ds = some ns → ds = ns.map D.int
  | [], _, e => by cases e; rfl
  | d :: ds, ns, e => by
    cases d with
    | int i =>
      unfold intsOf at e
      cases q : intsOf ds with
      | none => rw [q] at e; cases e
      | some x => rw [q] at e; cases e; rw [List.map_cons, of_intsOf q]
    | _ => cases e
def dSum : List D → Store → Option (D × Store)
  | [x], s => (lstOf s x).bind fun xs => (intsOf xs).map fun ns => (.int ns.sum, s)
  | _, _ => none
theorem fns_sum : FnS K (rSum K) dSum := by
  intro mg W σ m H s xs ds Q r p g
  unfold dSum at g
  split at g
  · obtain ⟨v, rfl, h⟩ := reps1 p
    rename_i x
    cases q : lstOf s x with
    | none => rw [q] at g; exact g.elim
    | some ys =>
      rw [q] at g
      cases q2 : intsOf ys with
      | none => simp [q2] at g; exact g.elim
      | some ns =>
        simp [q2] at g
        obtain ⟨a, vs, rfl, hq, rr⟩ := lstOf_sq r h q
        rw [of_intsOf q2] at rr
        have e := rr.ints
        subst e
        exact ⟨a, ns, rfl, hq, g.now r (.int _)⟩
  · exact g.elim
def dTuple : List D → Store → Option (D × Store)
  | [x], s => (seqOf s x).map fun xs => (.tup xs, s)
  | _, _ => none
theorem fns_tuple : FnS K (fun xs H Q => ∃ p ys, xs = [.ref p] ∧ ((SqL K H p ys ∧ NewT Q H ys) ∨ (SqT K H p ys ∧ Q (.ref p) H))) dTuple := by
  intro mg W σ m H s xs ds Q r p g
  unfold dTuple at g
  split at g
  · obtain ⟨v, rfl, h⟩ := reps1 p
    rename_i x
    cases q : seqOf s x with
    | none => rw [q] at g; exact g.elim
    | some ys =>
      rw [q] at g
      have g' : G K mg (Rep K) W σ m H Q (.ok (.tup ys) s) := g
      have gen : (∀ zs, x ≠ .tup zs) → ∃ p ys, [v] = [V.ref p] ∧ ((SqL K H p ys ∧ NewT Q H ys) ∨ (SqT K H p ys ∧ Q (.ref p) H)) := fun hn => by
        have q' : lstOf s x = some ys := by cases x <;> first | exact q | exact (hn _ rfl).elim
        obtain ⟨a, vs, rfl, hq, rr⟩ := lstOf_sq r h q'
        exact ⟨a, vs, rfl, .inl ⟨hq, fun l o o1 o2 hl => g' m _ _ (le_new hl) (r.tmp hl) (rep_newtup o1 o2 hl rr)⟩⟩
      cases x with
      | tup zs =>
        cases q
        obtain ⟨a, vs, rfl, hq, rr⟩ := h.sqT
        exact ⟨a, vs, rfl, .inr ⟨hq, g'.now r h⟩⟩
      | _ => exact gen fun _ e => by cases e
  · exact g.elim
def dList : List D → Store → Option (D × Store)
  | [x], s => (seqOf s x).map fun xs => (.loc s.length, s ++ [.lst xs])
  | _, _ => none
theorem fns_list : FnS K (fun xs H Q => ∃ p ys, xs = [.ref p] ∧ (SqL K H p ys ∨ SqT K H p ys) ∧ ∀ l, H l = none → Q (.ref l) (upd H l (.lst ys))) dList := by
  intro mg W σ m H s xs ds Q r p g
  unfold dList at g
  split at g
  · obtain ⟨v, rfl, h⟩ := reps1 p
    rename_i x
    cases q : seqOf s x with
    | none => rw [q] at g; exact g.elim
    | some ys =>
      rw [q] at g
      have g' : G K mg (Rep K) W σ m H Q (.ok (.loc s.length) (s ++ [.lst ys])) := g
      obtain ⟨a, vs, rfl, hq, rr⟩ := seqOf_sq r h q
      exact ⟨a, vs, rfl, hq, fun l hl => g' (m ++ [l]) _ _ (le_more r hl) (rel_newlist r hl rr) (.loc (len_get r))⟩
  · exact g.elim
/-! #### isinstance(x, T), T a built-in type -/
def tyN (s : Store) : D → Option String
  | .non => some "NoneType"
  | .bl _ => some "bool"
  | .int _ => some "int"
  | .str _ => some "str"
  | .tup _ => some "tuple"
  | .fl _ => some "list"
  | .loc l => match s[l]? with
    | some (.lst _) => some "list"
    | some (.dic _) => some "dict"
    | some (.dct _) => some "dict"
    | none => none
  | .exv _ _ _ _ => none
  | .tuw _ => some "tuple"
theorem tyN_tyx {m : List Addr} {H : Hp} {s : Store} (r : Rel K m H s) {d : D} {v : V} {t : String} (p : Rep K m H d v) (e : tyN s d = some t) : TyX K H v (.type t) := by
  cases p with
  | non => cases e; exact .base .non
  | bl b => cases e; exact .base (.bl b)
  | int b => cases e; exact .base (.int b)
  | str b => cases e; exact .base (.str b)
  | tup h q =>
    have e' : t = "tuple" := (Option.some.inj e).symm
    subst e'
    obtain ⟨o, _, _, h⟩ := h
    exact .fTuple h
  | fl h q =>
    cases e
    rcases h with ⟨o, h⟩ | ⟨o, _, _, h1, h2, _⟩
    · exact .base (.frz h)
    · exact .kList h1 h2
  | @loc l a h =>
    unfold tyN at e
    cases q : s[l]? with
    | none => simp [q] at e
    | some c =>
      cases c with
      | lst xs => simp [q] at e; subst e; obtain ⟨vs, h1, _⟩ := r.list h q; exact .base (.lst h1)
      | dic xs => simp [q] at e; subst e; obtain ⟨vs, h1, _⟩ := r.at_ l a _ h q; exact .base (.dK h1)
      | dct xs => simp [q] at e; subst e; obtain ⟨vs, h1, _⟩ := r.at_ l a _ h q; exact .base (.dT h1)
  | exv h n r => cases e
  | tuw h q =>
    have e' : t = "tuple" := (Option.some.inj e).symm
    subst e'
    exact .base (.tup h)
def dIsi (T : String) (x : D) (s : Store) : Option (D × Store) := (tyN s x).bind fun t => (kitB t T).map fun b => (.bl b, s)
end
section
variable {X : Cx} {W : WX} {pos p p2 : Pos} {a b c e : Expr} {es : List Expr} {fa fb fc : ME D} {ga gb : ME Bool} {fs : ME (List D)}
theorem ce_isi {T : String} (hg : Gl X "isinstance") (hm : X.mg "isinstance" = none) (hgT : Gl X (T : Str)) (hmT : X.mg (T : Str) = none) (hvT : bootBuiltins (T : Str) = some (.type T)) (ha : PE X a (Te X.K X.mg W fa))
    (hnT : (T : Str) ≠ "__name__" := by decide) (hdT : ((T : Str) == ("__debug__" : Str)) = false := by decide)
    (hv : bootBuiltins "isinstance" = some (.builtin "isinstance") := by decide +kernel) (he : starEach [a, .Name T p2] X.env = (false, eval a X.env) :: starEach [.Name T p2] X.env := by rfl)
    (he2 : starEach [.Name T p2] X.env = (false, eval (.Name T p2) X.env) :: starEach [] X.env := by rfl)
    (hpl : (backTo pos (starEach [.Name T p2] X.env)).any (·.1) = false := by rfl) : PE X (.Call (.Name "isinstance" p) [a, .Name T p2] [] pos) (Te X.K X.mg W (e1 (dIsi T) fa)) :=
  PE.imp (pe_callB call_isi hg hm hv (pa_cons ha (pa_cons (pe_bltn (v := .ty T) hgT hmT hvT rfl hnT hdT) pa_nil he2) he) (by decide) (by decide) he hpl) fun σ H Q h =>
    Tm.bind (k := fun _ x s => R.of (dIsi T x s)) h fun m1 H1 env x v s1 r1 E1 p1 g1 => by
      unfold dIsi at g1
      cases q : tyN s1 x with
      | none => rw [q] at g1; exact g1.elim
      | some t =>
        rw [q] at g1
        cases q2 : kitB t T with
        | none => simp [q2] at g1; exact g1.elim
        | some k =>
          simp [q2] at g1
          exact ⟨v, .ty T, .type t, .type T, k, rfl, .ty T, tyN_tyx r1 p1 q, kit_ty q2, g1.now r1 (.bl _)⟩
/-! #### methods of builtin types -/
def tyOk (T : String) (s : Store) : D → Bool
  | .str _ => T == "str"
  | .int _ => T == "int"
  | .loc l => match s[l]? with
    | some (.lst _) => T == "list"
    | some (.dic _) => T == "dict"
    | some (.dct _) => T == "dict"
    | none => false
  | .fl _ => T == "list"
  | _ => false
theorem tyOk_tyV {T : String} {m : List Addr} {H : Hp} {s : Store} {K : PySem.W.Frag} (r : Rel K m H s) {d : D} {v : V} (p : Rep K m H d v) (e : tyOk T s d = true) : tyV K T v H := by
  cases p with
  | str b => exact beq_iff_eq.mp e
  | int b => exact beq_iff_eq.mp e
  | fl h q => exact .inl ⟨beq_iff_eq.mp e, _, h.sq⟩
  | @loc l a h =>
    unfold tyOk at e
    cases q : s[l]? with
    | none => simp [q] at e
    | some c =>
      cases c with
      | lst xs => simp [q] at e; obtain ⟨vs, h1, _⟩ := r.list h q; exact .inl ⟨e, vs, .inl (.inl h1)⟩
      | dic xs => simp [q] at e; obtain ⟨vs, h1, _⟩ := r.at_ l a _ h q; exact .inr (.inr (.inl ⟨e, .inl ⟨vs, h1⟩⟩))
      | dct xs => simp [q] at e; obtain ⟨vs, h1, _⟩ := r.at_ l a _ h q; exact .inr (.inr (.inl ⟨e, .inr ⟨vs, h1⟩⟩))
  | _ => cases e
def eMt (T : String) (g : D → List D → Store → Option (D × Store)) (a : ME D) (fs : ME (List D)) : ME D := fun env s => (a env s).bind fun x s => if tyOk T s x = true then (fs env s).bind fun xs s => R.of (g x xs s) else .no
def eMt0 (T : String) (g : D → List D → Store → Option (D × Store)) (a : ME D) : ME D := fun env s => (a env s).bind fun x s => if tyOk T s x = true then R.of (g x [] s) else .no
def MtS (K : PySem.W.Frag) (r : V → List V → Hp → VK → Prop) (g : D → List D → Store → Option (D × Store)) : Prop :=
  ∀ {mg : Str → Option Value} {W : WX} {σ : L2.St} {m : List Addr} {H : Hp} {s : Store} {x : V} {d : D} {xs : List V} {ds : List D} {Q : VK}, Rel K m H s → Rep K m H d x → Reps K m H ds xs → G K mg (Rep K) W σ m H Q (R.of (g d ds s)) → r x xs H Q
variable {o : Expr} {T id : String} {name : Str} {apos cpos : Pos} {r : V → List V → Hp → VK → Prop} {g : D → List D → Store → Option (D × Store)} {fo : ME D}
theorem ce_bm0 (pa : PlainAttrs T) (slot : Slot T name id) (hty : typeOf (.builtin id) = pure (.type "method_descriptor")) (hm : MtR X id r) (hs : MtS X.K r g) (ho : PE X o (Te X.K X.mg W fo))
    (hbase : attributeBase o name X.env (eval o X.env) = eval o X.env := by rfl) (hline : (apos.endLine == cpos.line) = true := by rfl) : PE X (.Call (.Attribute o name apos) [] [] cpos) (Te X.K X.mg W (eMt0 T g fo)) :=
  PE.imp (pe_bm0 pa slot hty hm ho hbase hline) fun σ H Q h => Tm.bind (k := fun env x s => if tyOk T s x = true then R.of (g x [] s) else R.no) h fun m1 H1 env x v s1 r1 E1 p1 g1 => by
    by_cases q : tyOk T s1 x = true
    · simp only [q, if_true] at g1
      exact ⟨tyOk_tyV r1 p1 q, hs r1 p1 .nil g1⟩
    · simp only [q, if_false] at g1
      exact g1.elim
theorem ce_bm (pa : PlainAttrs T) (slot : Slot T name id) (hty : typeOf (.builtin id) = pure (.type "method_descriptor")) (hm : MtR X id r) (hs : MtS X.K r g) (ho : PE X o (Te X.K X.mg W fo)) (ha : PA X (e :: es) (Ta X.K X.mg W fs))
    (hbase : attributeBase o name X.env (eval o X.env) = eval o X.env := by rfl)
    (hfew : ((backTo cpos (starEach (e :: es) X.env)).all (fun x => !x.1) && (backToKw cpos (keywordEach [] X.env)).all (fun x => x.1.isSome)
      && decide ((e :: es).length + ([] : List Keyword).length + (if ([] : List Keyword).isEmpty then 0 else 1) < 30)) = true := by rfl)
    (hline : (apos.endLine == cpos.line) = true := by rfl) (hst : starEach (e :: es) X.env = (false, eval e X.env) :: starEach es X.env := by rfl) (hplain : (backTo cpos (starEach es X.env)).any (·.1) = false := by rfl) :
    PE X (.Call (.Attribute o name apos) (e :: es) [] cpos) (Te X.K X.mg W (eMt T g fo fs)) :=
  PE.imp (pe_bm pa slot hty hm ho ha hbase hfew hline hst hplain) fun σ H Q h => Tm.bind (k := fun env x s => if tyOk T s x = true then (fs env s).bind fun xs s => R.of (g x xs s) else R.no) h fun m1 H1 env x v s1 r1 E1 p1 g1 => by
    by_cases q : tyOk T s1 x = true
    · simp only [q, if_true] at g1
      exact ⟨tyOk_tyV r1 p1 q, ⟨m1, env, s1, r1, E1, G.bind g1 fun m2 H2 xs vs s2 l2 r2 p2 g2 => hs r2 (p1.mono l2) p2 g2⟩⟩
    · simp only [q, if_false] at g1
      exact g1.elim
end
section
variable {K : PySem.W.Frag}
theorem le_setlist {m : List Addr} {H : Hp} {s : Store} (r : Rel K m H s) {l : Nat} {a : Addr} (h : m[l]? = some a) {vs : List V} {xs : List D} (p : Reps K m H xs vs) : Le K m H m (upd H a (.lst vs)) ∧ Rel K m (upd H a (.lst vs)) (s.set l (.lst xs)) :=
  have le := le_put (o := .lst vs) r (List.mem_of_getElem? h)
  ⟨le, r.put h ⟨vs, upd_same, p.mono le⟩⟩
def dAppend (x : D) (ys : List D) (s : Store) : Option (D × Store) := match x, ys with
  | .loc l, [y] => match s[l]? with
    | some (.lst xs) => if xs.length < sizeLine then some (.non, s.set l (.lst (xs ++ [y]))) else none
    | _ => none
  | _, _ => none
theorem mts_append : MtS K rAppend dAppend := by
  intro mg W σ m H s x d xs ds Q r p ps g
  unfold dAppend at g
  split at g
  · rename_i l y
    obtain ⟨w, rfl, h⟩ := reps1 ps
    cases p with
    | loc hl =>
      split at g
      · rename_i ys q
        split at g
        · rename_i hz
          obtain ⟨vs, h1, h2⟩ := r.list hl q
          obtain ⟨le, r2⟩ := le_setlist r hl (h2.append (.cons h .nil))
          exact ⟨_, vs, w, rfl, rfl, h1, by rw [← h2.length]; exact hz, g m _ _ le r2 .non⟩
        · exact g.elim
      · exact g.elim
  · exact g.elim
def dPop (x : D) (ys : List D) (s : Store) : Option (D × Store) := match x, ys with
  | .loc l, [] => match s[l]? with
    | some (.lst xs) => (xs[xs.length - 1]?).map fun y => (y, s.set l (.lst xs.dropLast))
    | _ => none
  | _, _ => none
theorem mts_pop : MtS K rPop dPop := by
  intro mg W σ m H s x d xs ds Q r p ps g
  unfold dPop at g
  split at g
  · rename_i l
    cases ps
    cases p with
    | loc hl =>
      split at g
      · rename_i ys q
        cases q2 : ys[ys.length - 1]? with
        | none => rw [q2] at g; exact g.elim
        | some y =>
          rw [q2] at g
          obtain ⟨vs, h1, h2⟩ := r.list hl q
          obtain ⟨v, hv, rv⟩ := h2.get q2
          obtain ⟨le, r2⟩ := le_setlist r hl h2.dropLast
          exact ⟨_, vs, v, rfl, rfl, h1, by rw [← h2.length]; exact hv, g m _ _ le r2 (rv.mono le)⟩
      · exact g.elim
  · exact g.elim
end
end Mi
namespace Mi
open PySem PySem.Spec PyProof.Rows L2
/-! ### targets -/
def gN (i : Nat) : D → Sl → Option Sl := fun d env => some (env.set i (some d))
def gsN : List D → Sl → Option Sl := fun xs env => match xs with
  | [] => some env
  | _ => none
def gsC (g : D → Sl → Option Sl) (r : List D → Sl → Option Sl) : List D → Sl → Option Sl := fun xs env => match xs with
  | x :: xs => (g x env).bind (r xs)
  | [] => none
def gT (n : Nat) (r : List D → Sl → Option Sl) : D → Sl → Option Sl := fun d env => match d with
  | .tup xs => if xs.length = n then r xs env else none
  | .tuw xs => if xs.length = n then r xs env else none
  | _ => none
def GTm (K : PySem.W.Frag) (vs : List Nat) (g : D → Sl → Option Sl) : TG := fun v σ H Q =>
  ∃ m env s d env', Rel K m H s ∧ RelE K m H env σ ∧ Rep K m H d v ∧ g d env = some env' ∧ ∀ σ', RelE K m H env' σ' → (∀ i, i ∉ vs → σ'[i]? = σ[i]?) → σ'.length = σ.length → Q σ' H
def GTs (K : PySem.W.Frag) (vs : List Nat) (g : List D → Sl → Option Sl) : TGs := fun xs σ H Q =>
  ∃ m env s ds env', Rel K m H s ∧ RelE K m H env σ ∧ Reps K m H ds xs ∧ g ds env = some env' ∧ ∀ σ', RelE K m H env' σ' → (∀ i, i ∉ vs → σ'[i]? = σ[i]?) → σ'.length = σ.length → Q σ' H
theorem relE_set {K : PySem.W.Frag} {m : List Addr} {H : Hp} {env : Sl} {σ : L2.St} (E : RelE K m H env σ) {d : D} {v : V} (p : Rep K m H d v) (i : Nat) : RelE K m H (env.set i (some d)) (σ.set i (some v)) := by
  refine ⟨by simp [E.1], fun j d' h => ?_⟩
  by_cases hj : i = j
  · subst hj
    by_cases hi : i < env.length
    · rw [List.getElem?_set_self hi] at h
      cases h
      exact ⟨v, by rw [List.getElem?_set_self (by rw [← E.1]; exact hi)], p⟩
    · rw [List.getElem?_eq_none (by simpa using hi)] at h; cases h
  · rw [List.getElem?_set_ne hj] at h
    rw [List.getElem?_set_ne hj]
    exact E.2 j d' h
section
variable {X : Cx} {pos : Pos}
theorem PG.imp {e : Expr} {t t' : TG} (h : PG X e t) (i : ∀ v σ H Q, t' v σ H Q → t v σ H Q) : PG X e t' := ⟨fun pins s σ H v u Q I r q => h.run pins s σ H v u Q I r (i v σ H Q q)⟩
theorem PGs.imp {e : List Expr} {t t' : TGs} (h : PGs X e t) (i : ∀ v σ H Q, t' v σ H Q → t v σ H Q) : PGs X e t' := ⟨fun pins s σ H v u Q I r q => h.run pins s σ H v u Q I r (i v σ H Q q)⟩
theorem cg_name {i : Nat} {x : Str} (hN : X.N.Nodup) (hi : X.N[i]? = some x) (hx : Loc X.env.scope x) (hf : X.fn x = true ∨ X.env.scope.names.lookup x = some .local := by first | exact .inl rfl | exact .inr rfl | assumption) : PG X (.Name x pos) (GTm X.K [i] (gN i)) :=
  PG.imp (pg_name hN hi hx hf) fun v σ H Q ⟨m, env, s, d, env', r, E, p, e, q⟩ => by
    cases e
    exact q _ (relE_set E p i) (fun j hj => List.getElem?_set_ne (by simpa [eq_comm] using hj)) (by simp)
theorem cgs_nil {vs : List Nat} : PGs X [] (GTs X.K vs gsN) := PGs.imp pgs_nil fun v σ H Q ⟨m, env, s, ds, env', r, E, p, e, q⟩ => by
  cases ds with
  | nil => cases e; cases p; exact ⟨rfl, q σ E (fun _ _ => rfl) rfl⟩
  | cons _ _ => cases e
theorem cgs_cons {e : Expr} {es : List Expr} {g : D → Sl → Option Sl} {r : List D → Sl → Option Sl} {vs ws us : List Nat} (h1 : PG X e (GTm X.K vs g)) (h2 : PGs X es (GTs X.K ws r)) (hv : ∀ i, i ∈ vs ∨ i ∈ ws → i ∈ us := by simp)
    (hs : (assignEach (e :: es) X.env).map (·.2) = assign e X.env :: (assignEach es X.env).map (·.2) := by rfl) : PGs X (e :: es) (GTs X.K us (gsC g r)) :=
  PGs.imp (pgs_cons h1 h2 hs) fun v σ H Q ⟨m, env, s, ds, env', rl, E, p, e, q⟩ => by
    cases ds with
    | nil => cases e
    | cons d ds =>
      cases p with
      | cons pd p =>
        have e : (g d env).bind (r ds) = some env' := e
        cases q1 : g d env with
        | none => rw [q1] at e; cases e
        | some env1 =>
          rw [q1] at e
          refine ⟨_, _, rfl, m, env, s, d, env1, rl, E, pd, q1, fun σ1 E1 k1 n1 => ⟨m, env1, s, ds, env', rl, E1, p, e, fun σ2 E2 k2 n2 => q σ2 E2 (fun i hi => ?_) (n2.trans n1)⟩⟩
          rw [k2 i (fun z => hi (hv i (.inr z))), k1 i (fun z => hi (hv i (.inl z)))]
theorem cg_tup {es : List Expr} {k n : Nat} {r : List D → Sl → Option Sl} {vs : List Nat} (hc : X.calm = true) (h : PGs X es (GTs X.K vs r)) (hn : (assignEach es X.env).length = n := by rfl) (hst : (assignEach es X.env).findIdx? (·.1) = none := by rfl) :
    PG X (.Tuple es k pos) (GTm X.K vs (gT n r)) := PG.imp (pg_tup (n := n) hc h hn hst) fun v σ H Q ⟨m, env, s, d, env', rl, E, p, e, q⟩ => by
  cases d with
  | tup xs =>
    obtain ⟨a, ws, rfl, hq, rr⟩ := p.sqT
    have e : (if xs.length = n then r xs env else none) = some env' := e
    split at e
    · rename_i hl
      exact ⟨a, ws, rfl, hq, by rw [← rr.length]; exact hl, m, env, s, xs, env', rl, E, rr, e, q⟩
    · cases e
  | tuw xs =>
    cases p with
    | @tuw _ a ws hq rr =>
    have e : (if xs.length = n then r xs env else none) = some env' := e
    split at e
    · rename_i hl
      exact ⟨a, ws, rfl, .inl (.inl hq), by rw [← rr.length]; exact hl, m, env, s, xs, env', rl, E, rr, e, q⟩
    · cases e
  | _ => cases e
end
/-! ### statements -/
abbrev MS := Sl → Store → RS
section
variable (K : PySem.W.Frag) (mg : Str → Option Value)
def GS (W : WX) (Dn : Ends) (m : List Addr) (H : Hp) : RS → Prop
  | .nx env s => ∀ m' σ' H', Le K m H m' H' → Rel K m' H' s → RelE K m' H' env σ' → Dn.nx σ' H'
  | .rt d s => ∀ m' H' v, Le K m H m' H' → Rel K m' H' s → Rep K m' H' d v → Dn.rt v H'
  | .bk env s => ∀ m' σ' H', Le K m H m' H' → Rel K m' H' s → RelE K m' H' env σ' → Dn.bk σ' H'
  | .ct env s => ∀ m' σ' H', Le K m H m' H' → Rel K m' H' s → RelE K m' H' env σ' → Dn.ct σ' H'
  | .ex e env s => ∀ m' σ' H' c dd, Le K m H m' H' → Rel K m' H' s → RelE K m' H' env σ' → ExR K mg m' H' e c dd → W c dd σ' H'
  | .no => False
def Ts (W : WX) (f : MS) : TS := fun Dn σ H => ∃ m env s, Rel K m H s ∧ RelE K m H env σ ∧ GS K mg W Dn m H (f env s)
end
def RS.bind (r : RS) (k : Sl → Store → RS) : RS := match r with
  | .nx env s => k env s
  | r => r
/-- behind an expression -/
def R.then {α : Type} (r : R α) (env : Sl) (k : α → Store → RS) : RS := match r with
  | .ok a s => k a s
  | .ex e s => .ex e env s
  | .no => .no
@[simp] theorem RS.bind_nx (env : Sl) (s : Store) (k : Sl → Store → RS) : (RS.nx env s).bind k = k env s := rfl
@[simp] theorem RS.bind_rt (d : D) (s : Store) (k : Sl → Store → RS) : (RS.rt d s).bind k = .rt d s := rfl
@[simp] theorem RS.bind_bk (env : Sl) (s : Store) (k : Sl → Store → RS) : (RS.bk env s).bind k = .bk env s := rfl
@[simp] theorem RS.bind_ct (env : Sl) (s : Store) (k : Sl → Store → RS) : (RS.ct env s).bind k = .ct env s := rfl
@[simp] theorem RS.bind_ex (e : Ex) (env : Sl) (s : Store) (k : Sl → Store → RS) : (RS.ex e env s).bind k = .ex e env s := rfl
@[simp] theorem RS.bind_no (k : Sl → Store → RS) : (RS.no).bind k = .no := rfl
@[simp] theorem R.then_ok {α : Type} (a : α) (s : Store) (env : Sl) (k : α → Store → RS) : (R.ok a s).then env k = k a s := rfl
@[simp] theorem R.then_ex {α : Type} (e : Ex) (s : Store) (env : Sl) (k : α → Store → RS) : (R.ex e s : R α).then env k = .ex e env s := rfl
@[simp] theorem R.then_no {α : Type} (env : Sl) (k : α → Store → RS) : (R.no : R α).then env k = .no := rfl
def sNil : MS := fun env s => .nx env s
def sSeq (f g : MS) : MS := fun env s => (f env s).bind g
def sSet (i : Nat) (e : ME D) : MS := fun env s => (e env s).then env fun d s => .nx (env.set i (some d)) s
def sAsg (g : D → Sl → Option Sl) (e : ME D) : MS := fun env s => (e env s).then env fun d s => match g d env with
  | some env' => .nx env' s
  | none => .no
def sIf (c : ME Bool) (f g : MS) : MS := fun env s => (c env s).then env fun b s => if b then f env s else g env s
def sRet (e : ME D) : MS := fun env s => (e env s).then env fun d s => .rt d s
def sRetN : MS := fun _ s => .rt .non s
def sExpr (e : ME D) : MS := fun env s => (e env s).then env fun _ s => .nx env s
def sBrk : MS := fun env s => .bk env s
def sCnt : MS := fun env s => .ct env s
/-- o[i] = e: e, o, i in this sequence -/
def sPut (g : D → D → D → Store → Option Store) (o i e : ME D) : MS := fun env s => (e env s).then env fun d s => (o env s).then env fun x s => (i env s).then env fun y s => match g x y d s with
  | some s' => .nx env s'
  | none => .no
/-- name op= e -/
def sAug (i : Nat) (g : D → D → Store → Option (D × Store)) (e : ME D) : MS := fun env s => match env[i]? with
  | some (some x) => (e env s).then env fun y s => match g x y s with
    | some (z, s') => .nx (env.set i (some z)) s'
    | none => .no
  | _ => .no
structure Itm where
  xs : List D
  guard : Store → Prop
open Classical in
noncomputable def forL (guard : Store → Prop) (g : D → Sl → Option Sl) (b : MS) : List D → Sl → Store → RS
  | [], env, s => if guard s then .nx env s else .no
  | x :: xs, env, s => if guard s then (match g x env with
    | none => .no
    | some env1 => match b env1 s with
      | .nx env2 s2 => forL guard g b xs env2 s2
      | .ct env2 s2 => forL guard g b xs env2 s2
      | .bk env2 s2 => .nx env2 s2
      | .rt d s2 => .rt d s2
      | .ex e env2 s2 => .ex e env2 s2
      | .no => .no) else .no
noncomputable def sFor (it : ME Itm) (g : D → Sl → Option Sl) (b : MS) : MS := fun env s => (it env s).then env fun i s => forL i.guard g b i.xs env s
def whileN (c : ME Bool) (b : MS) : Nat → Sl → Store → RS
  | 0, _, _ => .no
  | n + 1, env, s => (c env s).then env fun k s => if k then (match b env s with
      | .nx env2 s2 => whileN c b n env2 s2
      | .ct env2 s2 => whileN c b n env2 s2
      | .bk env2 s2 => .nx env2 s2
      | .rt d s2 => .rt d s2
      | .ex e env2 s2 => .ex e env2 s2
      | .no => .no) else .nx env s
open Classical in
/-- a while: some number of turns is enough -/
noncomputable def sWhile (c : ME Bool) (b : MS) : MS := fun env s => if h : ∃ n, whileN c b n env s ≠ .no then whileN c b (Classical.choose h) env s else .no
section
variable {K : PySem.W.Frag} {mg : Str → Option Value} {m m1 : List Addr} {H H1 : Hp} {s : Store} {W : WX} {σ : L2.St} {Dn : Ends}
theorem GS.mono (e : Le K m H m1 H1) {r : RS} (h : GS K mg W Dn m H r) : GS K mg W Dn m1 H1 r := by
  cases r with
  | nx env s => exact fun m' σ' H' l => h m' σ' H' (e.trans l)
  | rt d s => exact fun m' σ' H' l => h m' σ' H' (e.trans l)
  | bk env s => exact fun m' σ' H' l => h m' σ' H' (e.trans l)
  | ct env s => exact fun m' σ' H' l => h m' σ' H' (e.trans l)
  | ex x env s => exact fun m' σ' H' c d l => h m' σ' H' c d (e.trans l)
  | no => exact h
/-- an expression first -/
theorem GS.ofE {α β : Type} {ρ : List Addr → Hp → α → β → Prop} {r : R α} {env : Sl} {k : α → Store → RS} {Q : β → Hp → Prop} (E : RelE K m H env σ) (h : GS K mg W Dn m H (r.then env k))
    (q : ∀ m1 H1 a b s1, Le K m H m1 H1 → Rel K m1 H1 s1 → ρ m1 H1 a b → GS K mg W Dn m1 H1 (k a s1) → Q b H1) : G K mg ρ W σ m H Q r := by
  cases r with
  | ok a s => exact fun m' H' b l r p => q m' H' a b s l r p (GS.mono l h)
  | ex x s => exact fun m' H' c d l r p => h m' σ H' c d l r (E.mono l) p
  | no => exact h
theorem Ts.ofE {α β : Type} {ρ : List Addr → Hp → α → β → Prop} {f : Sl → Store → R α} {k : Sl → α → Store → RS} {Q : β → Hp → Prop} (h : Ts K mg W (fun env s => (f env s).then env (k env)) Dn σ H)
    (q : ∀ m1 H1 env a b s1, Rel K m1 H1 s1 → RelE K m1 H1 env σ → ρ m1 H1 a b → GS K mg W Dn m1 H1 (k env a s1) → Q b H1) : Tm K mg ρ W f σ H Q := by
  obtain ⟨m, env, s, r, E, g⟩ := h
  exact ⟨m, env, s, r, E, GS.ofE E g fun m1 H1 a b s1 l r1 p g1 => q m1 H1 env a b s1 r1 (E.mono l) p g1⟩
end
section
variable {X : Cx} {W : WX} {pos : Pos} {e o i c tg iter : Expr} {st : Stmt} {rest body els : List Stmt} {fe fo fi : ME D} {gc : ME Bool} {f g : MS}
theorem css_nil : PSs X [] (Ts X.K X.mg W sNil) := PSs.imp pss_nil fun Dn σ H ⟨m, env, s, r, E, q⟩ => q m σ H .refl r E
theorem css_cons (h1 : PS X st (Ts X.K X.mg W f)) (h2 : PSs X rest (Ts X.K X.mg W g)) : PSs X (st :: rest) (Ts X.K X.mg W (sSeq f g)) :=
  PSs.imp (pss_cons h1 h2) fun Dn σ H ⟨m, env, s, r, E, q⟩ => by
    refine ⟨m, env, s, r, E, ?_⟩
    unfold sSeq at q
    cases hf : f env s with
    | nx env1 s1 => rw [hf] at q; exact fun m' σ' H' l r' E' => ⟨m', env1, s1, r', E', GS.mono l q⟩
    | rt d s1 => rw [hf] at q; exact q
    | bk env1 s1 => rw [hf] at q; exact q
    | ct env1 s1 => rw [hf] at q; exact q
    | ex x env1 s1 => rw [hf] at q; exact q
    | no => rw [hf] at q; exact q
theorem css_one (h1 : PS X st (Ts X.K X.mg W f)) : PSs X [st] (Ts X.K X.mg W f) := pss_one h1
theorem cs_pass : PS X (.Pass pos) (Ts X.K X.mg W sNil) := PS.imp ps_pass fun Dn σ H ⟨m, env, s, r, E, q⟩ => q m σ H .refl r E
theorem cs_doc {x j pos'} : PS X (.Expr (.Constant (.str x) j pos) pos') (Ts X.K X.mg W sNil) := PS.imp ps_doc fun Dn σ H ⟨m, env, s, r, E, q⟩ => q m σ H .refl r E
theorem cs_break : PS X (.Break pos) (Ts X.K X.mg W sBrk) := PS.imp ps_break fun Dn σ H ⟨m, env, s, r, E, q⟩ => q m σ H .refl r E
theorem cs_cont : PS X (.Continue pos) (Ts X.K X.mg W sCnt) := PS.imp ps_continue fun Dn σ H ⟨m, env, s, r, E, q⟩ => q m σ H .refl r E
theorem cs_set {j : Nat} {x : Str} {pos' : Pos} (hN : X.N.Nodup) (hi : X.N[j]? = some x) (hx : Loc X.env.scope x) (he : PE X e (Te X.K X.mg W fe)) (hs : swapsWith e (some (.Name x pos')) pos.line X.env = pure false := by rfl) (hf : X.fn x = true ∨ X.env.scope.names.lookup x = some .local := by first | exact .inl rfl | exact .inr rfl | assumption) :
    PS X (.Assign [.Name x pos'] e pos) (Ts X.K X.mg W (sSet j fe)) := PS.imp (ps_set (i := j) hN hi hx he hs hf) fun Dn σ H h =>
  Ts.ofE (k := fun env d s => .nx (env.set j (some d)) s) h fun m1 H1 env d v s1 r1 E1 p1 g1 => g1 m1 _ H1 .refl r1 (relE_set E1 p1 j)
theorem cs_asg {vs : List Nat} {g : D → Sl → Option Sl} (he : PE X e (Te X.K X.mg W fe)) (hg : PG X tg (GTm X.K vs g)) (hs : swapsWithSole [tg] e pos.line X.env = pure false := by rfl) (hw : swappedStores [tg] e X.env = pure none := by rfl)
    (h1 : (assignEach [tg] X.env).map (·.2) = [assign tg X.env] := by rfl) : PS X (.Assign [tg] e pos) (Ts X.K X.mg W (sAsg g fe)) := PS.imp (ps_asg he hg hs hw h1) fun Dn σ H h =>
  Ts.ofE (k := fun env d s => match g d env with | some env' => RS.nx env' s | none => RS.no) h fun m1 H1 env d v s1 r1 E1 p1 g1 => by
    cases q : g d env with
    | none => simp only [q] at g1; exact g1.elim
    | some env' =>
      simp only [q] at g1
      exact ⟨m1, env, s1, d, env', r1, E1, p1, q, fun σ' E' _ _ => g1 m1 σ' H1 .refl r1 E'⟩
theorem cs_expr (he : PE X e (Te X.K X.mg W fe)) (hs : swapsWith e none pos.line X.env = pure false := by rfl) : PS X (.Expr e pos) (Ts X.K X.mg W (sExpr fe)) := PS.imp (ps_expr he hs) fun Dn σ H h =>
  Ts.ofE (k := fun env _ s => RS.nx env s) h fun m1 H1 env d v s1 r1 E1 p1 g1 => g1 m1 σ H1 .refl r1 E1
theorem cs_ret (he : PE X e (Te X.K X.mg W fe)) : PS X (.Return (some e) pos) (Ts X.K X.mg W (sRet fe)) := PS.imp (ps_ret he) fun Dn σ H h =>
  Ts.ofE (k := fun _ d s => RS.rt d s) h fun m1 H1 env d v s1 r1 E1 p1 g1 => g1 m1 H1 v .refl r1 p1
theorem cs_retN : PS X (.Return none pos) (Ts X.K X.mg W sRetN) := PS.imp ps_retN fun Dn σ H ⟨m, env, s, r, E, q⟩ => q m H _ .refl r .non
theorem cs_if (hc : PT X c (Tt X.K X.mg W gc)) (ha : PSs X body (Ts X.K X.mg W f)) (hb : PSs X els (Ts X.K X.mg W g)) : PS X (.If c body els pos) (Ts X.K X.mg W (sIf gc f g)) := PS.imp (ps_if hc ha hb) fun Dn σ H h =>
  Ts.ofE (k := fun env (b : Bool) s => if b then f env s else g env s) h fun m1 H1 env d v s1 r1 E1 p1 g1 => by
    cases (show d = v from p1)
    cases d with
    | true => exact iteT ⟨m1, env, s1, r1, E1, g1⟩
    | false => exact iteF ⟨m1, env, s1, r1, E1, g1⟩
def PutS (K : PySem.W.Frag) (t : TSet) (g : D → D → D → Store → Option Store) : Prop :=
  ∀ {m : List Addr} {H : Hp} {s s' : Store} {x y z : V} {dx dy dz : D} {Q : Hp → Prop}, Rel K m H s → Rep K m H dx x → Rep K m H dy y → Rep K m H dz z → g dx dy dz s = some s' → (∀ H', Le K m H m H' → Rel K m H' s' → Q H') → t x y z H Q
theorem cs_put {t : TSet} {g : D → D → D → Store → Option Store} (he : PE X e (Te X.K X.mg W fe)) (ho : PE X o (Te X.K X.mg W fo)) (hi : PE X i (Te X.K X.mg W fi)) (hs : PSet X t) (hp : PutS X.K t g)
    (ha : ∀ v, assign (.Subscript o i pos) X.env v = (do
      let ov ← holding [v] (eval o X.env)
      let iv ← holding [v, ov] (eval i X.env)
      standAt pos
      holding [v, ov, iv] (setItem ov iv v)
      release [v, ov, iv] []) := by intro _; rfl) {pos' : Pos} (hs1 : swapsWithSole [.Subscript o i pos] e pos'.line X.env = pure false := by rfl) (hw : swappedStores [.Subscript o i pos] e X.env = pure none := by rfl)
    (h1 : (assignEach [.Subscript o i pos] X.env).map (·.2) = [assign (.Subscript o i pos) X.env] := by rfl) : PS X (.Assign [.Subscript o i pos] e pos') (Ts X.K X.mg W (sPut g fo fi fe)) :=
  PS.imp (ps_asg he (pg_sub ho hi hs ha) hs1 hw h1) fun Dn σ H h =>
    Ts.ofE (k := fun env d s => (fo env s).then env fun x s => (fi env s).then env fun y s => match g x y d s with | some s' => RS.nx env s' | none => RS.no) h fun m1 H1 env d v s1 r1 E1 p1 g1 =>
      ⟨m1, env, s1, r1, E1, GS.ofE E1 g1 fun m2 H2 x vx s2 l2 r2 p2 g2 => ⟨m2, env, s2, r2, E1.mono l2, GS.ofE (E1.mono l2) g2 fun m3 H3 y vy s3 l3 r3 p3 g3 => by
        cases q : g x y d s3 with
        | none => simp only [q] at g3; exact g3.elim
        | some s' =>
          simp only [q] at g3
          exact hp r3 (p2.mono l3) p3 ((p1.mono l2).mono l3) q fun H' l' r' => g3 m3 σ H' l' r' (((E1.mono l2).mono l3).mono l')⟩⟩
def IpS (K : PySem.W.Frag) (t : TIp) (g : D → D → Store → Option (D × Store)) : Prop := OpS K t g
theorem cs_aug {j : Nat} {x : Str} {op : Operator} {ti : TIp} {g : D → D → Store → Option (D × Store)} {pos' : Pos} (hN : X.N.Nodup) (hi : X.N[j]? = some x) (hx : Loc X.env.scope x) (he : PE X e (Te X.K X.mg W fe)) (ho : PIp X op ti) (hp : OpS X.K ti g) (hf : X.fn x = true ∨ X.env.scope.names.lookup x = some .local := by first | exact .inl rfl | exact .inr rfl | assumption) :
    PS X (.AugAssign (.Name x pos') op e pos) (Ts X.K X.mg W (sAug j g fe)) := PS.imp (ps_aug (i := j) hN hi hx he ho hf) fun Dn σ H ⟨m, env, s, r, E, q⟩ => by
  unfold sAug at q
  cases q1 : env[j]? with
  | none => simp only [q1] at q; exact q.elim
  | some o1 =>
    cases o1 with
    | none => simp only [q1] at q; exact q.elim
    | some d =>
      simp only [q1] at q
      obtain ⟨v, h1, h2⟩ := E.2 j d q1
      refine ⟨v, h1, m, env, s, r, E, GS.ofE E q fun m1 H1 y vy s1 l1 r1 p1 g1 => ?_⟩
      refine hp (mg := X.mg) (W := W) (σ := σ) r1 (h2.mono l1) p1 ?_
      cases q2 : g d y s1 with
      | none => simp only [q2] at g1; exact g1.elim
      | some zs =>
        obtain ⟨z, s'⟩ := zs
        simp only [q2] at g1
        exact fun m' H' b l r p => g1 m' _ H' l r (relE_set ((E.mono l1).mono l) p j)
/-! #### loops -/
def ItR (K : PySem.W.Frag) (m : List Addr) (H : Hp) (it : Itm) (J : It) : Prop := ∀ m2 H2 s2, Lw K m H m2 H2 → Rel K m2 H2 s2 → it.guard s2 →
  (∀ i d, it.xs[i]? = some d → J.go i H2 ∧ ∀ v H3, J.yld i H2 v H3 → Le K m2 H2 m2 H3 ∧ Rel K m2 H3 s2 ∧ Rep K m2 H3 d v) ∧ J.stop it.xs.length H2
abbrev Ti (K : PySem.W.Frag) (mg : Str → Option Value) (W : WX) (f : ME Itm) : TI := Tm K mg (ItR K) W f
theorem cs_for {fi : ME Itm} {vs : List Nat} {gt : D → Sl → Option Sl} (hp : PassesOwn (model X.prog X.w) X.A X.env X.xe) (hc : X.calm = true) (hi : PI X tg iter (Ti X.K X.mg W fi)) (hg : PG X tg (GTm X.K vs gt)) (hb : PSs X body (Ts X.K X.mg W f))
    (hs : ∀ x, foldedSetIterable iter X.env x = pure x := by intro _; rfl) : PS X (.For tg iter body [] pos) (Ts X.K X.mg W (sFor fi gt f)) :=
  PS.imp (ps_for hp hc hi hg hb hs) fun Dn σ H h => Ts.ofE (k := fun env (i : Itm) s => forL i.guard gt f i.xs env s) h fun m1 H1 env it J s1 r1 E1 p1 g1 => by
    refine ⟨fun i k σ H => k = it.xs.length - i ∧ i ≤ it.xs.length ∧ ∃ m2 env2 s2, Le X.K m1 H1 m2 H ∧ Rel X.K m2 H s2 ∧ RelE X.K m2 H env2 σ ∧ GS X.K X.mg W Dn m2 H (forL it.guard gt f (it.xs.drop i) env2 s2),
      ⟨it.xs.length, by simp, Nat.zero_le _, m1, env, s1, .refl, r1, E1, g1⟩, ?_⟩
    rintro i k σ2 H2 ⟨rfl, hi, m2, env2, s2, l2, r2, E2, g2⟩
    by_cases hlt : i < it.xs.length
    · have hx : it.xs[i]? = some it.xs[i] := by simp [hlt]
      have hd : it.xs.drop i = it.xs[i] :: it.xs.drop (i + 1) := List.drop_eq_getElem_cons hlt
      rw [hd] at g2
      unfold forL at g2
      by_cases hgd : it.guard s2
      · simp only [hgd, if_true] at g2
        obtain ⟨hall, _⟩ := p1 m2 H2 s2 l2.w r2 hgd
        obtain ⟨hgo, hy⟩ := hall i _ hx
        refine .inr ⟨hgo, fun σ' H' => ∃ m3 env3 s3, Le X.K m1 H1 m3 H' ∧ Rel X.K m3 H' s3 ∧ RelE X.K m3 H' env3 σ' ∧ GS X.K X.mg W Dn m3 H' (forL it.guard gt f (it.xs.drop (i + 1)) env3 s3),
          fun σ' H' ⟨m3, env3, s3, l3, r3, E3, g3⟩ => ⟨it.xs.length - (i + 1), by omega, rfl, hlt, m3, env3, s3, l3, r3, E3, g3⟩, fun v H3 y => ?_⟩
        obtain ⟨l3, r3, p3⟩ := hy v H3 y
        cases q : gt it.xs[i] env2 with
        | none => simp only [q] at g2; exact g2.elim
        | some env3 =>
          simp only [q] at g2
          refine ⟨m2, env2, s2, it.xs[i], env3, r3, E2.mono l3, p3, q, fun σ4 E4 _ _ => ⟨m2, env3, s2, r3, E4, ?_⟩⟩
          have g3 := GS.mono l3 g2
          have l4 := l2.trans l3
          cases hb2 : f env3 s2 with
          | nx env5 s5 => rw [hb2] at g3; exact fun m' σ' H' l r E => ⟨m', env5, s5, l4.trans l, r, E, GS.mono l g3⟩
          | ct env5 s5 => rw [hb2] at g3; exact fun m' σ' H' l r E => ⟨m', env5, s5, l4.trans l, r, E, GS.mono l g3⟩
          | bk env5 s5 => rw [hb2] at g3; exact g3
          | rt d s5 => rw [hb2] at g3; exact g3
          | ex x env5 s5 => rw [hb2] at g3; exact g3
          | no => rw [hb2] at g3; exact g3
      · simp only [hgd, if_false] at g2
        exact g2.elim
    · have e : i = it.xs.length := by omega
      subst e
      rw [List.drop_length] at g2
      unfold forL at g2
      by_cases hgd : it.guard s2
      · simp only [hgd, if_true] at g2
        exact .inl ⟨(p1 m2 H2 s2 l2.w r2 hgd).2, g2 m2 σ2 H2 .refl r2 E2⟩
      · simp only [hgd, if_false] at g2
        exact g2.elim
theorem cs_while (hp : PassesOwn (model X.prog X.w) X.A X.env X.xe) (hc : PT X c (Tt X.K X.mg W gc)) (hb : PSs X body (Ts X.K X.mg W f)) : PS X (.While c body [] pos) (Ts X.K X.mg W (sWhile gc f)) :=
  PS.imp (ps_while hp hc hb) fun Dn σ H ⟨m, env, s, r, E, g⟩ => by
    unfold sWhile at g
    split at g
    · rename_i hx
      refine ⟨fun n σ H => ∃ m2 env2 s2, Rel X.K m2 H s2 ∧ RelE X.K m2 H env2 σ ∧ GS X.K X.mg W Dn m2 H (whileN gc f n env2 s2), ⟨_, m, env, s, r, E, g⟩, ?_⟩
      rintro n σ1 H1 ⟨m1, env1, s1, r1, E1, g1⟩
      cases n with
      | zero => exact g1.elim
      | succ n =>
        unfold whileN at g1
        refine ⟨m1, env1, s1, r1, E1, GS.ofE E1 g1 fun m2 H2 k kb s2 l2 r2 p2 g2 => ?_⟩
        cases (show k = kb from p2)
        cases k with
        | false => exact iteF (g2 m2 σ1 H2 .refl r2 (E1.mono l2))
        | true =>
          refine iteT ⟨fun σ' H' => ∃ m3 env3 s3, Rel X.K m3 H' s3 ∧ RelE X.K m3 H' env3 σ' ∧ GS X.K X.mg W Dn m3 H' (whileN gc f n env3 s3), fun σ' H' q => ⟨n, Nat.lt_succ_self n, q⟩, m2, env1, s2, r2, E1.mono l2, ?_⟩
          simp only [if_true] at g2
          cases hb2 : f env1 s2 with
          | nx env5 s5 => rw [hb2] at g2; exact fun m' σ' H' l r E => ⟨m', env5, s5, r, E, GS.mono l g2⟩
          | ct env5 s5 => rw [hb2] at g2; exact fun m' σ' H' l r E => ⟨m', env5, s5, r, E, GS.mono l g2⟩
          | bk env5 s5 => rw [hb2] at g2; exact g2
          | rt d s5 => rw [hb2] at g2; exact g2
          | ex x env5 s5 => rw [hb2] at g2; exact g2
          | no => rw [hb2] at g2; exact g2
    · exact g.elim
end
/-! #### what a loop walks -/
def always : Store → Prop := fun _ => True
/-- a list, a tuple, a text -/
def iSeq (a : ME D) : ME Itm := fun env s => (a env s).bind fun x s => match x with
  | .tup xs => .ok (Itm.mk (xs) (always)) s
  | .fl xs => .ok (Itm.mk (xs) (always)) s
  | .str z => .ok (Itm.mk (z.cps.toList.map fun c => .str ⟨#[c]⟩) (always)) s
  | .loc l => match s[l]? with
    | some (.lst xs) => .ok (Itm.mk (xs) (fun s2 => s2[l]? = some (.lst xs))) s
    | _ => .no
  | _ => .no
/-- a bound of a range -/
def InR (j : Int) : Prop := -(2 ^ 62) ≤ j ∧ j < 2 ^ 62
noncomputable instance (j : Int) : Decidable (InR j) := Classical.propDecidable _
noncomputable def iRange1 (a : ME (List D)) : ME Itm := fun env s => (a env s).bind fun x s => match x with
  | [.int j] => if InR j then .ok (Itm.mk ((List.range j.toNat).map fun i => .int ((0 : Int) + (i : Nat))) (always)) s else .no
  | _ => .no
noncomputable def iRange2 (a : ME (List D)) : ME Itm := fun env s => (a env s).bind fun x s => match x with
  | [.int i, .int j] => if InR i ∧ InR j then .ok (Itm.mk ((List.range (j - i).toNat).map fun k => .int (i + (k : Nat))) (always)) s else .no
  | _ => .no
section
variable {K : PySem.W.Frag} {m : List Addr} {H : Hp}
theorem itr_list {l : Nat} {xs : List D} {a : Addr} (h : m[l]? = some a) : ItR K m H ⟨xs, fun s2 => s2[l]? = some (.lst xs)⟩ (Itl K a) := fun m2 H2 s2 l2 r2 g => by
  have g' : s2[l]? = some (.lst xs) := g
  obtain ⟨vs, h1, h2⟩ := r2.list (l2.get h) g'
  have hq : SqL K H2 a vs := .inl (.inl h1)
  refine ⟨fun i d e => ?_, ⟨vs, hq, by rw [← h2.length]; exact Nat.le_refl _⟩⟩
  obtain ⟨v, hv, rv⟩ := h2.get e
  refine ⟨⟨vs, v, hq, hv⟩, fun w H3 y => ?_⟩
  obtain ⟨rfl, y⟩ := y
  have e2 := y vs hq
  rw [hv] at e2; cases e2
  exact ⟨.refl, r2, rv⟩
theorem itr_fl {xs : List D} {vs : List V} {a : Addr} (h : FrL K H a vs) (p : Reps K m H xs vs) : ItR K m H ⟨xs, always⟩ (Itl K a) := fun m2 H2 s2 l2 r2 g => by
  have hq : SqL K H2 a vs := (l2.frl a vs h).sq
  have h2 := p.monoW l2
  refine ⟨fun i d e => ?_, ⟨vs, hq, by rw [← h2.length]; exact Nat.le_refl _⟩⟩
  obtain ⟨v, hv, rv⟩ := h2.get e
  refine ⟨⟨vs, v, hq, hv⟩, fun w H3 y => ?_⟩
  obtain ⟨rfl, y⟩ := y
  have e2 := y vs hq
  rw [hv] at e2; cases e2
  exact ⟨.refl, r2, rv⟩
theorem itr_tup {xs : List D} {vs : List V} {a : Addr} (h : SqT K H a vs) (p : Reps K m H xs vs) : ItR K m H ⟨xs, always⟩ (Itt K a) := fun m2 H2 s2 l2 r2 g => by
  have hq : SqT K H2 a vs := l2.tup a vs h
  have h2 := p.monoW l2
  refine ⟨fun i d e => ?_, ⟨vs, hq, by rw [← h2.length]; exact Nat.le_refl _⟩⟩
  obtain ⟨v, hv, rv⟩ := h2.get e
  refine ⟨⟨vs, v, hq, hv⟩, fun w H3 y => ?_⟩
  obtain ⟨rfl, y⟩ := y
  have e2 := y vs hq
  rw [hv] at e2; cases e2
  exact ⟨.refl, r2, rv⟩
theorem itr_str {z : Str} : ItR K m H ⟨z.cps.toList.map fun c => .str ⟨#[c]⟩, always⟩ (Its z) := fun m2 H2 s2 l2 r2 g => by
  have w := walk_str (z := z)
  refine ⟨fun i d e => ?_, by
    have q := w.stops H2 trivial
    show (Its z).stop (List.map _ z.cps.toList).length H2
    rw [List.length_map, Array.length_toList]
    exact q⟩
  rw [List.getElem?_map, Array.getElem?_toList] at e
  cases hc : z.cps[i]? with
  | none => rw [hc] at e; cases e
  | some c =>
    rw [hc] at e; cases e
    have hi : i < z.cps.size := (Array.getElem?_eq_some_iff.mp hc).1
    refine ⟨w.goes i H2 hi trivial, fun v H3 y => ?_⟩
    obtain ⟨rfl, c', h1, rfl⟩ := w.yields i H2 v H3 hi trivial y
    rw [hc] at h1; cases h1
    exact ⟨.refl, r2, .str _⟩
theorem itr_range {lo : Int} {n : Nat} : ItR K m H ⟨(List.range n).map fun (i : Nat) => .int (lo + (i : Int)), always⟩ (Itr lo n) := fun m2 H2 s2 l2 r2 g => by
  refine ⟨fun i d e => ?_, by show n ≤ (List.map _ (List.range n)).length; simp⟩
  rw [List.getElem?_map] at e
  by_cases hi : i < n
  · rw [List.getElem?_range hi] at e
    cases e
    refine ⟨hi, fun v H3 y => ?_⟩
    obtain ⟨rfl, rfl⟩ := y
    exact ⟨.refl, r2, .int _⟩
  · rw [List.getElem?_eq_none (by simpa using hi)] at e; cases e
end
section
variable {X : Cx} {W : WX} {tg e a b : Expr} {p pos : Pos} {fe : ME D} {fs : ME (List D)}
theorem PI.imp {e : Expr} {t t' : TI} (h : PI X tg e t) (i : ∀ σ H Q, t' σ H Q → t σ H Q) : PI X tg e t' := ⟨fun pins s σ H Q I q => h.run pins s σ H Q I (i σ H Q q)⟩
def iAny (K : PySem.W.Frag) (tl : TE) : TI := fun σ H R => tl σ H fun x H1 => (∃ a, x = .ref a ∧ ((∃ xs, SqL K H1 a xs) ∧ R (Itl K a) H1 ∨ (∃ xs, SqT K H1 a xs) ∧ R (Itt K a) H1)) ∨ ∃ z, x = .str z ∧ R (Its z) H1
theorem pi_any {tl : TE} (hl : PE X e tl) : PI X tg e (iAny X.K tl) := by
  refine ⟨fun pins s σ H R I h => ?_⟩
  refine thn (hl.run pins s σ H _ I h) fun v s1 ⟨x, H1, I1, r1, q1⟩ => ?_
  rcases q1 with ⟨a, rfl, ⟨⟨xs, hq⟩, q⟩ | ⟨⟨xs, hq⟩, q⟩⟩ | ⟨z, rfl, q⟩
  · cases r1
    obtain ⟨its, rv, p, hz⟩ := I1.list hq
    refine wpAny_pyIter_list p.isList ?_
    refine ⟨s1.heap.objs.size, [s1.heap.objs.size], _, _, H1, rfl, I1.kept (t' := s1.toks) fun b o e => Heap.get?_push_of_some _ e, turn_list a _, ⟨_, Heap.get?_push_size _ rfl, rfl, rfl⟩, fun b hb => ?_, q⟩
    have e : b = s1.heap.objs.size := by simpa using hb
    subst e
    exact I1.fpOk (Nat.le_refl _) (I1.hok.fresh (Nat.le_refl _))
  · cases r1
    obtain ⟨its, rv, p, hz⟩ := I1.tuple hq
    refine wpAny_pyIter_tuple (show s1.heap.IsTuple a its.toArray from p) ?_
    refine ⟨s1.heap.objs.size, [s1.heap.objs.size], _, _, H1, rfl, I1.kept (t' := s1.toks) fun b o e => Heap.get?_push_of_some _ e, turn_tuple a _, ⟨_, Heap.get?_push_size _ rfl, rfl, rfl⟩, fun b hb => ?_, q⟩
    have e : b = s1.heap.objs.size := by simpa using hb
    subst e
    exact I1.fpOk (Nat.le_refl _) (I1.hok.fresh (Nat.le_refl _))
  · obtain ⟨t, rfl⟩ := r1
    cases ha : z.cps.all (· < 128)
    · exact wpAny_pyIter_wide ha (pi_one (tk := s1.toks) I1 _ (turn_str _ z t "str_iterator" (.inr rfl)) ⟨_, Heap.get?_push_size _ rfl, rfl, rfl⟩ q)
    · exact wpAny_pyIter_ascii ha (pi_one (tk := s1.toks) I1 _ (turn_str _ z t "str_ascii_iterator" (.inl rfl)) ⟨_, Heap.get?_push_size _ rfl, rfl, rfl⟩ q)
theorem ci_seq (he : PE X e (Te X.K X.mg W fe)) : PI X tg e (Ti X.K X.mg W (iSeq fe)) := PI.imp (pi_any he) fun σ H Rw h =>
  Tm.bind (k := fun _ x s => match x with
  | .tup xs => R.ok (Itm.mk (xs) (always)) s
  | .fl xs => R.ok (Itm.mk (xs) (always)) s
  | .str z => R.ok (Itm.mk (z.cps.toList.map fun c => .str ⟨#[c]⟩) (always)) s
  | .loc l => match s[l]? with
    | some (.lst xs) => R.ok (Itm.mk (xs) (fun s2 => s2[l]? = some (.lst xs))) s
    | _ => R.no
  | _ => R.no) h fun m1 H1 env x v s1 r1 E1 p1 g1 => by
    cases x with
    | tup xs =>
      obtain ⟨a, vs, rfl, hq, rr⟩ := p1.sqT
      exact .inl ⟨a, rfl, .inr ⟨⟨vs, hq⟩, g1 m1 H1 _ .refl r1 (itr_tup hq rr)⟩⟩
    | fl xs =>
      cases p1 with
      | fl hq rr => exact .inl ⟨_, rfl, .inl ⟨⟨_, hq.sq⟩, g1 m1 H1 _ .refl r1 (itr_fl hq rr)⟩⟩
    | str z => cases p1; exact .inr ⟨z, rfl, g1 m1 H1 _ .refl r1 itr_str⟩
    | loc l =>
      cases p1 with
      | loc hl =>
        cases q : s1[l]? with
        | none => simp only [q] at g1; exact g1.elim
        | some c =>
          cases c with
          | dic _ => simp only [q] at g1; exact g1.elim
          | dct _ => simp only [q] at g1; exact g1.elim
          | lst xs =>
            simp only [q] at g1
            obtain ⟨vs, h1, h2⟩ := r1.list hl q
            exact .inl ⟨_, rfl, .inl ⟨⟨vs, .inl (.inl h1)⟩, g1 m1 H1 _ .refl r1 (itr_list hl)⟩⟩
    | _ => exact g1.elim
theorem ci_range1 (hg : Gl X "range") (hm : X.mg "range" = none) (ha : PA X [a] (Ta X.K X.mg W fs)) (hs : starEach [a] X.env = [(false, eval a X.env)] := by rfl) : PI X tg (.Call (.Name "range" p) [a] [] pos) (Ti X.K X.mg W (iRange1 fs)) :=
  PI.imp (pi_range1 hg hm ha hs) fun σ H Rw h => Tm.bind (k := fun _ x s => match x with
  | [.int j] => if InR j then R.ok (Itm.mk ((List.range j.toNat).map fun i => .int ((0 : Int) + (i : Nat))) (always)) s else R.no
  | _ => R.no) h fun m1 H1 env x v s1 r1 E1 p1 g1 => by
    match x, p1, g1 with
    | [.int j], p1, g1 =>
      obtain ⟨v, rfl, h⟩ := reps1 p1
      cases h
      by_cases hj : InR j
      · simp only [hj, if_true] at g1
        exact ⟨j, rfl, hj.1, hj.2, g1 m1 H1 _ .refl r1 itr_range⟩
      · simp only [hj, if_false] at g1
        exact g1.elim
    | [], _, g1 => exact g1.elim
    | [.non], _, g1 => exact g1.elim
    | [.bl _], _, g1 => exact g1.elim
    | [.str _], _, g1 => exact g1.elim
    | [.tup _], _, g1 => exact g1.elim
    | [.fl _], _, g1 => exact g1.elim
    | [.loc _], _, g1 => exact g1.elim
    | [.exv _ _ _ _], _, g1 => exact g1.elim
    | .non :: _ :: _, _, g1 => exact g1.elim
    | .bl _ :: _ :: _, _, g1 => exact g1.elim
    | .int _ :: _ :: _, _, g1 => exact g1.elim
    | .str _ :: _ :: _, _, g1 => exact g1.elim
    | .tup _ :: _ :: _, _, g1 => exact g1.elim
    | .fl _ :: _ :: _, _, g1 => exact g1.elim
    | .loc _ :: _ :: _, _, g1 => exact g1.elim
    | .exv _ _ _ _ :: _ :: _, _, g1 => exact g1.elim
theorem ci_range2 (hg : Gl X "range") (hm : X.mg "range" = none) (ha : PA X [a, b] (Ta X.K X.mg W fs)) (hs : starEach [a, b] X.env = [(false, eval a X.env), (false, eval b X.env)] := by rfl) (hs2 : starEach [b] X.env = [(false, eval b X.env)] := by rfl) :
    PI X tg (.Call (.Name "range" p) [a, b] [] pos) (Ti X.K X.mg W (iRange2 fs)) :=
  PI.imp (pi_range2 hg hm ha hs hs2) fun σ H Rw h => Tm.bind (k := fun _ x s => match x with
  | [.int i, .int j] => if InR i ∧ InR j then R.ok (Itm.mk ((List.range (j - i).toNat).map fun k => .int (i + (k : Nat))) (always)) s else R.no
  | _ => R.no) h fun m1 H1 env x v s1 r1 E1 p1 g1 => by
    split at g1
    · rename_i i j
      obtain ⟨v, w, rfl, h, h2⟩ := reps2 p1
      cases h; cases h2
      by_cases hj : InR i ∧ InR j
      · simp only [hj, and_self, if_true] at g1
        exact ⟨i, j, rfl, ⟨hj.1.1, hj.1.2, hj.2.1, hj.2.2⟩, g1 m1 H1 _ .refl r1 itr_range⟩
      · simp only [hj, if_false] at g1
        exact g1.elim
    · exact g1.elim
end
/-- o[i] = e of a list -/
def pList (x y z : D) (s : Store) : Option Store := match x, y with
  | .loc l, .int i => match s[l]? with
    | some (.lst xs) => (ixN xs.length i).map fun j => s.set l (.lst (xs.set j z))
    | _ => none
  | _, _ => none
theorem puts_list {K : PySem.W.Frag} : PutS K rSetL pList := by
  intro m H s s' x y z dx dy dz Q r px py pz e q
  unfold pList at e
  split at e
  · rename_i l i
    cases px with
    | loc hl =>
      cases py
      split at e
      · rename_i xs q1
        cases q2 : ixN xs.length i with
        | none => rw [q2] at e; cases e
        | some j =>
          rw [q2] at e
          cases e
          obtain ⟨vs, h1, h2⟩ := r.list hl q1
          obtain ⟨le, r2⟩ := le_setlist r hl (h2.set pz j)
          exact ⟨_, vs, i, j, rfl, rfl, h1, by rw [← h2.length]; exact q2, q _ le r2⟩
      · cases e
  · cases e
end Mi
namespace Mi
open PySem PySem.Spec PyProof.Rows L2
/-! ### list comprehensions -/
def wipeE (env : Sl) : List Nat → Sl
  | [] => env
  | v :: vs => (wipeE env vs).set v none
theorem wipeE_length (env : Sl) : ∀ vs : List Nat, (wipeE env vs).length = env.length
  | [] => rfl
  | v :: vs => by unfold wipeE; rw [List.length_set, wipeE_length env vs]
theorem wipeE_some {env : Sl} {i : Nat} {x : D} : ∀ {vs : List Nat}, (wipeE env vs)[i]? = some (some x) → env[i]? = some (some x) ∧ i ∉ vs
  | [], h => ⟨h, by simp⟩
  | v :: vs, h => by
    unfold wipeE at h
    by_cases hi : v = i
    · subst hi
      by_cases hv : v < (wipeE env vs).length
      · rw [List.getElem?_set_self hv] at h; cases h
      · rw [List.getElem?_eq_none (by simpa using hv)] at h; cases h
    · rw [List.getElem?_set_ne hi] at h
      obtain ⟨h1, h2⟩ := wipeE_some h
      exact ⟨h1, by simp only [List.mem_cons, not_or]; exact ⟨fun e => hi e.symm, h2⟩⟩
theorem relE_wipe {K : PySem.W.Frag} {m : List Addr} {H : Hp} {env : Sl} {σ : L2.St} (E : RelE K m H env σ) (vs : List Nat) : RelE K m H (wipeE env vs) (wipe σ vs) := by
  refine ⟨by rw [wipeE_length, wipe_length]; exact E.1, fun i d h => ?_⟩
  obtain ⟨h1, h2⟩ := wipeE_some h
  obtain ⟨v, h3, h4⟩ := E.2 i d h1
  exact ⟨v, by rw [wipe_out h2]; exact h3, h4⟩
theorem wipe_in {σ : L2.St} {i : Nat} : ∀ {vs : List Nat}, i ∈ vs → i < σ.length → (wipe σ vs)[i]? = some none
  | v :: vs, h, hl => by
    unfold wipe
    by_cases hv : v = i
    · subst hv
      rw [List.getElem?_set_self (by rw [wipe_length]; exact hl)]
    · rw [List.getElem?_set_ne hv]
      exact wipe_in (by rcases List.mem_cons.mp h with e | e; exact absurd e.symm hv; exact e) hl
theorem wipe_congr {σ σ' : L2.St} {vs : List Nat} (hl : σ'.length = σ.length) (h : ∀ i, i ∉ vs → σ'[i]? = σ[i]?) : wipe σ' vs = wipe σ vs := by
  apply List.ext_getElem?
  intro i
  by_cases hi : i ∈ vs
  · by_cases hn : i < σ.length
    · rw [wipe_in hi (by rw [hl]; exact hn), wipe_in hi hn]
    · rw [List.getElem?_eq_none (by rw [wipe_length, hl]; omega), List.getElem?_eq_none (by rw [wipe_length]; omega)]
  · rw [wipe_out hi, wipe_out hi, h i hi]
theorem wipe_wipe (σ : L2.St) (vs : List Nat) : wipe (wipe σ vs) vs = wipe σ vs := wipe_congr (wipe_length σ vs) fun i hi => wipe_out hi
/-- nothing is raised within a comprehension -/
def noX {α : Type} : R α → R α
  | .ok a s => .ok a s
  | _ => .no
open Classical in
noncomputable def lcL (guard : Store → Prop) (g : D → Sl → Option Sl) (t : ME Bool) (e : ME D) (env : Sl) : List D → List D → Store → R (List D)
  | [], acc, s => if guard s then .ok acc s else .no
  | x :: xs, acc, s => if guard s then (match g x env with
    | none => .no
    | some env1 => match t env1 s with
      | .ok b s1 => if b then (match e env1 s1 with
        | .ok y s2 => if acc.length < sizeLine then lcL guard g t e env xs (acc ++ [y]) s2 else .no
        | _ => .no) else lcL guard g t e env xs acc s1
      | _ => .no) else .no
noncomputable def eLc (it : ME Itm) (vs : List Nat) (g : D → Sl → Option Sl) (t : ME Bool) (e : ME D) : ME D := fun env s => (it env s).bind fun i s => (lcL i.guard g t e (wipeE env vs) i.xs [] s).bind fun acc s => .ok (.loc s.length) (s ++ [.lst acc])
def tT : ME Bool := fun _ s => .ok true s
abbrev WF : WX := fun _ _ _ _ => False
section
variable {X : Cx} {W : WX}
theorem lc_run {fi : ME Itm} {vs : List Nat} {gt : D → Sl → Option Sl} {ft : ME Bool} {fe : ME D} : ∀ σ H Q, Te X.K X.mg W (eLc fi vs gt ft fe) σ H Q →
    tLc (Ti X.K X.mg W fi) (GTm X.K vs gt) (Tt X.K X.mg WF ft) (Te X.K X.mg WF fe) vs σ H Q := fun σ H Q h =>
  Tm.bind (k := fun env (i : Itm) s => (lcL i.guard gt ft fe (wipeE env vs) i.xs [] s).bind fun acc s => R.ok (D.loc s.length) (s ++ [Cell.lst acc])) h fun m1 H1 env it J s1 r1 E1 p1 g1 => by
    intro P hP
    refine ⟨fun i k H => k = it.xs.length - i ∧ i ≤ it.xs.length ∧ ∃ m2 s2 acc accV, Le X.K m1 H1 m2 H ∧ Rel X.K m2 H s2 ∧ H P = some (.lst accV) ∧ P ∉ m2 ∧ Reps X.K m2 H acc accV ∧
        G X.K X.mg (Rep X.K) W σ m1 H1 Q ((lcL it.guard gt ft fe (wipeE env vs) (it.xs.drop i) acc s2).bind fun acc s => R.ok (D.loc s.length) (s ++ [Cell.lst acc])),
      ⟨it.xs.length, by simp, Nat.zero_le _, m1, s1, [], [], le_new hP, r1.tmp hP, upd_same, r1.new_notin hP, .nil, g1⟩, ?_⟩
    rintro i k H2 ⟨rfl, hi, m2, s2, acc, accV, l2, r2, hD, nD, pA, g2⟩
    by_cases hlt : i < it.xs.length
    · have hx : it.xs[i]? = some it.xs[i] := by simp [hlt]
      have hd : it.xs.drop i = it.xs[i] :: it.xs.drop (i + 1) := List.drop_eq_getElem_cons hlt
      rw [hd] at g2
      unfold lcL at g2
      by_cases hgd : it.guard s2
      · simp only [hgd, if_true] at g2
        obtain ⟨hall, _⟩ := p1 m2 H2 s2 l2.w r2 hgd
        obtain ⟨hgo, hy⟩ := hall i _ hx
        refine .inr ⟨hgo, fun H' => ∃ m2 s2 acc accV, Le X.K m1 H1 m2 H' ∧ Rel X.K m2 H' s2 ∧ H' P = some (.lst accV) ∧ P ∉ m2 ∧ Reps X.K m2 H' acc accV ∧
          G X.K X.mg (Rep X.K) W σ m1 H1 Q ((lcL it.guard gt ft fe (wipeE env vs) (it.xs.drop (i + 1)) acc s2).bind fun acc s => R.ok (D.loc s.length) (s ++ [Cell.lst acc])),
          fun H' q => ⟨it.xs.length - (i + 1), by omega, rfl, hlt, q⟩, fun v H3 y => ?_⟩
        obtain ⟨l3, r3, p3⟩ := hy v H3 y
        cases q : gt it.xs[i] (wipeE env vs) with
        | none => simp only [q] at g2; exact g2.elim
        | some env3 =>
          simp only [q] at g2
          have l13 := l2.trans l3
          have hD3 := l3.fr P _ hD nD
          refine ⟨m2, wipeE env vs, s2, it.xs[i], env3, r3, relE_wipe (E1.mono l13) vs, p3, q, fun σ4 E4 k4 n4 => ⟨by rw [wipe_congr n4 k4, wipe_wipe], m2, env3, s2, r3, E4, ?_⟩⟩
          cases ht : ft env3 s2 with
          | no => rw [ht] at g2; exact g2.elim
          | ex x s4 => rw [ht] at g2; exact g2.elim
          | ok b s4 =>
            simp only [ht] at g2
            intro m5 H5 b' l5 r5 eb
            cases (show b = b' from eb)
            have hD5 := l5.fr P _ hD3 nD
            have nD5 : P ∉ m5 := fun z => by
              rcases l5.nw P z with w | w
              · exact nD w
              · rw [hD3] at w; cases w
            have l15 := l13.trans l5
            cases b with
            | false =>
              refine iteF ⟨m5, s4, acc, accV, l15, r5, hD5, nD5, (pA.mono l3).mono l5, ?_⟩
              simpa using g2
            | true =>
              simp only [if_true] at g2
              refine iteT ⟨m5, env3, s4, r5, E4.mono l5, ?_⟩
              cases he : fe env3 s4 with
              | no => rw [he] at g2; exact g2.elim
              | ex x s6 => rw [he] at g2; exact g2.elim
              | ok y s6 =>
                simp only [he] at g2
                by_cases hz : acc.length < sizeLine
                · simp only [hz, if_true] at g2
                  intro m7 H7 yv l7 r7 p7
                  have hD7 := l7.fr P _ hD5 nD5
                  have nD7 : P ∉ m7 := fun z => by
                    rcases l7.nw P z with w | w
                    · exact nD5 w
                    · rw [hD5] at w; cases w
                  have pA7 := ((pA.mono l3).mono l5).mono l7
                  exact ⟨accV, hD7, by rw [← pA.length]; exact hz, m7, s6, acc ++ [y], accV ++ [yv], (l15.trans l7).side hP hD7, r7.side hD7 nD7, upd_same, nD7,
                    (pA7.monoW (lw_side hD7)).append (.cons (p7.monoW (lw_side hD7)) .nil), g2⟩
                · simp only [hz, if_false] at g2
                  exact g2.elim
      · simp only [hgd, if_false] at g2
        exact g2.elim
    · have e : i = it.xs.length := by omega
      subst e
      rw [List.drop_length] at g2
      unfold lcL at g2
      by_cases hgd : it.guard s2
      · simp only [hgd, if_true] at g2
        refine .inl ⟨(p1 m2 H2 s2 l2.w r2 hgd).2, ?_⟩
        exact g2 (m2 ++ [P]) H2 (.ref P) (l2.adopt hP) (r2.adopt nD hD pA) (.loc (len_get r2))
      · simp only [hgd, if_false] at g2
        exact g2.elim
variable {elt tg iter c : Expr} {ifs : List Expr} {scope : Scope} {own : List (Str × Nat)} {pos : Pos} {fi : ME Itm} {gt : D → Sl → Option Sl} {ft : ME Bool} {fe : ME D}
theorem cts_nil : PTs X [] (Tt X.K X.mg W tT) := ⟨fun pins s σ H Q I ⟨m, env, st, r, E, g⟩ => pts_nil.run pins s σ H Q I (g.nowB r)⟩
theorem cts_one (h : PT X c (Tt X.K X.mg W ft)) : PTs X [c] (Tt X.K X.mg W ft) := pts_one h
theorem ce_lc (hc : X.calm = true) (hN : X.N.Nodup) (hi : PI X tg iter (Ti X.K X.mg W fi)) (ok : BlkOk X.N X.env.scope scope own)
    (hg : ∀ (s : Shared) (H : Hp) (C : Addr) (cl : List (Str × Addr)) (fp : List Addr), PG (X.blk s H scope (compEnvC scope cl C X.env) fp) tg (GTm X.K (own.map (·.2)) gt)) (ht : ∀ (s : Shared) (H : Hp) (C : Addr) (cl : List (Str × Addr)) (fp : List Addr), PTs (X.blk s H scope (compEnvC scope cl C X.env) fp) ifs (Tt X.K X.mg WF ft))
    (he : ∀ (s : Shared) (H : Hp) (C : Addr) (cl : List (Str × Addr)) (fp : List Addr), PE (X.blk s H scope (compEnvC scope cl C X.env) fp) elt (Te X.K X.mg WF fe)) (hs : ∀ x, foldedSetIterable iter X.env x = pure x := by intro _; rfl) :
    PE X (.ListComp elt [⟨tg, iter, ifs, 0⟩] scope pos) (Te X.K X.mg W (eLc fi (own.map (·.2)) gt ft fe)) := PE.imp (pe_lc hc hN hi ok hg ht he hs) lc_run
theorem cs_setLc {i : Nat} {y : Str} {py spos : Pos} (hc : X.calm = true) (hN : X.N.Nodup) (hy : X.N[i]? = some y) (hyl : X.env.scope.names.lookup y = some .local)
    (hsw : swapsWith (.ListComp elt [⟨tg, iter, ifs, 0⟩] scope pos) (some (.Name y py)) spos.line X.env = pure true) (hi : PI X tg iter (Ti X.K X.mg W fi)) (ok : BlkOk X.N X.env.scope scope own)
    (hg : ∀ (s : Shared) (H : Hp) (C : Addr) (cl : List (Str × Addr)) (fp : List Addr), PG (X.blk s H scope (compEnvC scope cl C X.env) fp) tg (GTm X.K (own.map (·.2)) gt)) (ht : ∀ (s : Shared) (H : Hp) (C : Addr) (cl : List (Str × Addr)) (fp : List Addr), PTs (X.blk s H scope (compEnvC scope cl C X.env) fp) ifs (Tt X.K X.mg WF ft))
    (he : ∀ (s : Shared) (H : Hp) (C : Addr) (cl : List (Str × Addr)) (fp : List Addr), PE (X.blk s H scope (compEnvC scope cl C X.env) fp) elt (Te X.K X.mg WF fe)) (hs : ∀ x, foldedSetIterable iter X.env x = pure x := by intro _; rfl) :
    PS X (.Assign [.Name y py] (.ListComp elt [⟨tg, iter, ifs, 0⟩] scope pos) spos) (Ts X.K X.mg W (sSet i (eLc fi (own.map (·.2)) gt ft fe))) := PS.imp (ps_setLc (i := i) hc hN hy hyl hsw hi ok hg ht he hs) fun Dn σ H h =>
  lc_run σ H _ (Ts.ofE (k := fun env d s => RS.nx (env.set i (some d)) s) h fun m1 H1 env d v s1 r1 E1 p1 g1 => g1 m1 _ H1 .refl r1 (relE_set E1 p1 i))
end
/-! ### a def -/
/-- the mirror of a def: N names, n of them parameters -/
def fnM (N n : Nat) (b : MS) : List D → Store → R D := fun ds s => match b (ds.map some ++ List.replicate (N - n) none) s with
  | .rt d s => .ok d s
  | .nx _ s => .ok .non s
  | .ex e _ s => .ex e s
  | _ => .no
theorem relE_start {K : PySem.W.Frag} {m : List Addr} {H : Hp} {N : List Str} {ds : List D} {vs : List V} (p : Reps K m H ds vs) : RelE K m H (ds.map some ++ List.replicate (N.length - ds.length) none) (L2.start N vs) := by
  have hl := p.length
  refine ⟨by simp [L2.start, hl], fun i d h => ?_⟩
  by_cases hi : i < ds.length
  · rw [List.getElem?_append_left (by simpa using hi), List.getElem?_map] at h
    cases q : ds[i]? with
    | none => rw [q] at h; cases h
    | some d' =>
      rw [q] at h; cases h
      obtain ⟨v, h1, h2⟩ := p.get q
      refine ⟨v, ?_, h2⟩
      unfold L2.start
      rw [List.getElem?_append_left (by simpa using (hl ▸ hi)), List.getElem?_map, h1]
      rfl
  · rw [List.getElem?_append_right (by simpa using Nat.le_of_not_lt hi), List.getElem?_replicate] at h
    split at h <;> cases h
theorem okM {P : Program} {w : World} {K : PySem.W.Frag} {mg : Str → Option Value} {base : Heap} {x qual : Str} {st : Stmt} {f : Addr} {fd : FuncData} {N ps : List Str} {k n : Nat} {b : MS} (F : Fun K x qual st f fd) (S : FnScope N ps (defScope st)) (hn : ps.length = n)
    (hb : ∀ (cdv : Value) (A : Around) (outer : List Env) (s : Shared) (H : Hp) (E : XK), Room k (A.deeper (envOfC qual (defScope st) s.heap.objs.size f cdv)) → Takes (cxOf (L2.CX P w) P w K mg base N qual (defScope st) f cdv A outer s H E) (fun c d _ H => E c d H) →
      PSs (cxOf (L2.CX P w) P w K mg base N qual (defScope st) f cdv A outer s H E) (defBody st) (Ts K mg (fun c d _ H => E c d H) b)) :
    FnOk P w K mg base (L2.CX P w) (k + 1) f fd ps (spM K mg n (fnM N.length n b)) := by
  refine F.okX S (fun vs H Q E h => by rw [hn]; exact h.1) fun cdv A outer s H vs Q E hr h => ⟨_, hb cdv A outer s H E hr (takes_of rfl rfl rfl rfl), ?_⟩
  obtain ⟨hl, m, s, ds, r, p, g⟩ := h
  refine ⟨m, _, s, r, relE_start (N := N) p, ?_⟩
  have hd : ds.length = n := by rw [p.length, hl]
  unfold fnM at g
  rw [hd]
  cases q : b (ds.map some ++ List.replicate (N.length - n) none) s with
  | nx env s1 => rw [q] at g; exact fun m' σ' H' l r' _ => g m' H' .non l r' .non
  | rt d s1 => rw [q] at g; exact g
  | ex e env s1 => rw [q] at g; exact fun m' σ' H' c dd l r' _ x => g m' H' c dd l r' x
  | bk env s1 => rw [q] at g; exact g.elim
  | ct env s1 => rw [q] at g; exact g.elim
  | no => rw [q] at g; exact g.elim
end Mi
namespace Mi
open PySem PySem.Spec PyProof.Rows L2
/-! ### the law's end -/
theorem an_nil : ∀ (xs : List D) (s : Store) (env : Sl) (s' : Store), aNil env s = .ok xs s' → xs.length = 0 := fun xs s env s' h => by cases h; rfl
theorem an_cons {a : ME D} {r : ME (List D)} {n : Nat} (h : ∀ (xs : List D) (s : Store) (env : Sl) (s' : Store), r env s = .ok xs s' → xs.length = n) :
    ∀ (xs : List D) (s : Store) (env : Sl) (s' : Store), aCons a r env s = .ok xs s' → xs.length = n + 1 := fun xs s env s' e => by
  unfold aCons at e
  cases q : a env s with
  | no => rw [q] at e; cases e
  | ex x s1 => rw [q] at e; cases e
  | ok x s1 =>
    rw [q] at e
    simp only [R.bind_ok] at e
    cases q2 : r env s1 with
    | no => rw [q2] at e; cases e
    | ex x s2 => rw [q2] at e; cases e
    | ok ys s2 =>
      rw [q2] at e
      simp only [R.bind_ok] at e
      have z := h ys s1 env s2 q2
      cases e
      rw [List.length_cons, z]
def dAddI : D → D → Store → Option (D × Store) := dI fun i j => some (.int (i + j))
theorem ips_add {K : PySem.W.Frag} : OpS K (ipI fun i j => i + j) dAddI := fun {mg W σ m H s x y dx dy Q} r px py g => ops_dI0 (K := K) (gv := fun i j => .int (i + j)) (fun _ _ _ _ => .int _) r px py g
theorem ips_sub {K : PySem.W.Frag} : OpS K (ipI fun i j => i - j) dSub := fun {mg W σ m H s x y dx dy Q} r px py g => ops_sub (K := K) r px py g
theorem cx_none {P : Program} {w : World} {l : List Env} {H : Hp} {s : Shared} {e : Value} {s' : Shared} (h : L2.CX P w l H s (fun _ _ _ => False) e s') : False := by
  obtain ⟨_, _, _, _, _, _, _, _, _, _, _, _, z⟩ := h
  exact z
def spLaw (K : PySem.W.Frag) : Sp := fun vs H Q _ => ∃ (a : Addr) (ns : List Int), vs = [.ref a] ∧ SqL K H a (ns.map V.int) ∧ ns.length ≤ 63 ∧ Only H ∧ ∀ H', Q (.bl true) H'
theorem law_imp {K : PySem.W.Frag} {mg : Str → Option Value} {g : List D → Store → R D} (h : ∀ ns : List Int, ns.length ≤ 63 → ∃ s, g [.fl (ns.map D.int)] [] = .ok (.bl true) s) :
    ∀ vs H Q E, spLaw K vs H Q E → spM K mg 1 g vs H Q E := fun vs H Q E ⟨a, ns, e, hS, hl, hO, q⟩ => by
  subst e
  refine ⟨rfl, [], [], [.fl (ns.map D.int)], ⟨rfl, List.nodup_nil, fun l a c h => by simp at h⟩, .cons (.fl (vs := ns.map V.int) ?_ (reps_ints ns)) .nil, ?_⟩
  · rcases hS with (hS | hS) | hS
    · rcases hO a with z | ⟨o, xs, z⟩
      · rw [hS] at z; cases z
      · rw [hS] at z; cases z
    · exact .inl hS
    · exact .inr hS
  · obtain ⟨s, e⟩ := h ns hl
    rw [e]
    intro m' H' v _ _ p
    cases p
    exact q H'
end Mi
namespace Mi
open PySem PySem.Spec PyProof.Rows L2
/-! ### running a mirror by simp -/
@[simp] theorem line_num : sizeLine = 16777216 := sizeLine_eq
/-- what range(n) gives -/
def rng (n : Nat) : List D := (List.range n).map fun i => .int ((0 : Int) + (i : Nat))
section
variable (env : Sl) (s : Store)
@[simp] theorem eC_eq (d : D) : eC d env s = .ok d s := rfl
@[simp] theorem eV_0 (d : D) (r : Sl) : eV 0 (some d :: r) s = .ok d s := rfl
@[simp] theorem eV_s (i : Nat) (o : Option D) (r : Sl) : eV (i + 1) (o :: r) s = eV i r s := rfl
@[simp] theorem e2_eq (g) (a b : ME D) : e2 g a b env s = (a env s).bind fun x s => (b env s).bind fun y s => R.of (g x y s) := rfl
@[simp] theorem e1_eq (g) (a : ME D) : e1 g a env s = (a env s).bind fun x s => R.of (g x s) := rfl
@[simp] theorem aNil_eq : aNil env s = .ok [] s := rfl
@[simp] theorem aCons_eq (a : ME D) (r : ME (List D)) : aCons a r env s = (a env s).bind fun x s => (r env s).bind fun xs s => .ok (x :: xs) s := rfl
@[simp] theorem eFn_eq (g) (a : ME (List D)) : eFn g a env s = (a env s).bind fun xs s => R.of (g xs s) := rfl
theorem le_line {n : Nat} (h : n ≤ 1000000) : n ≤ sizeLine := by rw [sizeLine_eq]; omega
theorem lt_line {n : Nat} (h : n ≤ 1000000) : n < sizeLine := by rw [sizeLine_eq]; omega
@[simp] theorem eTup_eq (a : ME (List D)) : eTup a env s = (a env s).bind fun xs s => if xs.length ≤ sizeLine then .ok (.tup xs) s else .no := rfl
@[simp] theorem eLst_eq (a : ME (List D)) : eLst a env s = (a env s).bind fun xs s => if xs.length ≤ sizeLine then .ok (.loc s.length) (s ++ [.lst xs]) else .no := rfl
/-- written displays -/
def arity : ME (List D) → Nat → Prop := fun a n => ∀ env s xs s', a env s = .ok xs s' → xs.length = n
theorem tup_short (xs : List D) (h : xs.length ≤ 1000000) : (if xs.length ≤ sizeLine then (R.ok (D.tup xs) s : R D) else .no) = .ok (.tup xs) s := if_pos (le_line h)
@[simp] theorem eCall_eq (g : List D → Store → R D) (a : ME (List D)) : eCall g a env s = (a env s).bind g := rfl
@[simp] theorem tV_eq (a : ME D) : tV a env s = (a env s).bind fun x s => match x with | .bl b => .ok b s | _ => .no := rfl
@[simp] theorem tAnd_eq (a b : ME Bool) : tAnd a b env s = (a env s).bind fun x s => if x then b env s else .ok false s := rfl
@[simp] theorem tOr_eq (a b : ME Bool) : tOr a b env s = (a env s).bind fun x s => if x then .ok true s else b env s := rfl
@[simp] theorem tNot_eq (a : ME Bool) : tNot a env s = (a env s).bind fun x s => .ok (!x) s := rfl
@[simp] theorem eIf_eq (c : ME Bool) (a b : ME D) : eIf c a b env s = (c env s).bind fun x s => if x then a env s else b env s := rfl
@[simp] theorem eAnd_eq (a b : ME D) : eAnd a b env s = (a env s).bind fun x s => match x with | .bl true => b env s | .bl false => .ok (.bl false) s | _ => .no := rfl
@[simp] theorem eOr_eq (a b : ME D) : eOr a b env s = (a env s).bind fun x s => match x with | .bl true => .ok (.bl true) s | .bl false => b env s | _ => .no := rfl
@[simp] theorem eNot_eq (a : ME D) : eNot a env s = (a env s).bind fun x s => match x with | .bl c => .ok (.bl !c) s | _ => .no := rfl
@[simp] theorem eChain_eq (g g') (a b c : ME D) : eChain g g' a b c env s = (a env s).bind fun x s => (b env s).bind fun y s => (R.of (g x y s)).bind fun z s => match z with
  | .bl true => (c env s).bind fun w s => R.of (g' y w s)
  | .bl false => .ok (.bl false) s
  | _ => .no := rfl
@[simp] theorem eMt_eq (T : String) (g) (a : ME D) (fs : ME (List D)) : eMt T g a fs env s = (a env s).bind fun x s => if tyOk T s x = true then (fs env s).bind fun xs s => R.of (g x xs s) else .no := rfl
@[simp] theorem eMt0_eq (T : String) (g) (a : ME D) : eMt0 T g a env s = (a env s).bind fun x s => if tyOk T s x = true then R.of (g x [] s) else .no := rfl
@[simp] theorem oNone_eq : oNone env s = .ok none s := rfl
@[simp] theorem oSome_eq (a : ME D) : oSome a env s = (a env s).bind fun x s => match x with | .int i => .ok (some i) s | _ => .no := rfl
@[simp] theorem eSl_eq (g) (a : ME D) (lo hi : ME (Option Int)) : eSl g a lo hi env s = (a env s).bind fun x s => (lo env s).bind fun l s => (hi env s).bind fun u s => R.of (g x l u s) := rfl
@[simp] theorem gN_eq (i : Nat) (d : D) : gN i d env = some (env.set i (some d)) := rfl
@[simp] theorem gsN_eq : gsN [] env = some env := rfl
@[simp] theorem gsC_eq (g) (r) (x : D) (xs : List D) : gsC g r (x :: xs) env = (g x env).bind (r xs) := rfl
@[simp] theorem gT_eq (n : Nat) (r) (xs : List D) : gT n r (.tup xs) env = if xs.length = n then r xs env else none := rfl
@[simp] theorem sNil_eq : sNil env s = .nx env s := rfl
@[simp] theorem sSeq_eq (f g : MS) : sSeq f g env s = (f env s).bind g := rfl
@[simp] theorem sSet_eq (i : Nat) (e : ME D) : sSet i e env s = (e env s).then env fun d s => .nx (env.set i (some d)) s := rfl
@[simp] theorem sAsg_eq (g) (e : ME D) : sAsg g e env s = (e env s).then env fun d s => match g d env with | some env' => .nx env' s | none => .no := rfl
@[simp] theorem sIf_eq (c : ME Bool) (f g : MS) : sIf c f g env s = (c env s).then env fun b s => if b then f env s else g env s := rfl
@[simp] theorem sRet_eq (e : ME D) : sRet e env s = (e env s).then env fun d s => .rt d s := rfl
@[simp] theorem sRetN_eq : sRetN env s = .rt .non s := rfl
@[simp] theorem sExpr_eq (e : ME D) : sExpr e env s = (e env s).then env fun _ s => .nx env s := rfl
@[simp] theorem sBrk_eq : sBrk env s = .bk env s := rfl
@[simp] theorem sCnt_eq : sCnt env s = .ct env s := rfl
@[simp] theorem sPut_eq (g) (o i e : ME D) : sPut g o i e env s = (e env s).then env fun d s => (o env s).then env fun x s => (i env s).then env fun y s => match g x y d s with
  | some s' => .nx env s'
  | none => .no := rfl
@[simp] theorem sFor_eq (it : ME Itm) (g) (b : MS) : sFor it g b env s = (it env s).then env fun i s => forL i.guard g b i.xs env s := rfl
@[simp] theorem eLc_eq (it : ME Itm) (vs g t e) : eLc it vs g t e env s = (it env s).bind fun i s => (lcL i.guard g t e (wipeE env vs) i.xs [] s).bind fun acc s => .ok (.loc s.length) (s ++ [.lst acc]) := rfl
@[simp] theorem tT_eq : tT env s = .ok true s := rfl
@[simp] theorem iSeq_eq (a : ME D) : iSeq a env s = (a env s).bind fun x s => match x with
  | .tup xs => .ok (Itm.mk xs always) s
  | .fl xs => .ok (Itm.mk xs always) s
  | .str z => .ok (Itm.mk (z.cps.toList.map fun c => .str ⟨#[c]⟩) always) s
  | .loc l => match s[l]? with
    | some (.lst xs) => .ok (Itm.mk xs fun s2 => s2[l]? = some (.lst xs)) s
    | _ => .no
  | _ => .no := rfl
noncomputable def rangeOf (x : List D) (s : Store) : R Itm := match x with
  | [.int j] => if InR j then .ok (Itm.mk (rng j.toNat) always) s else .no
  | _ => .no
@[simp] theorem iRange1_eq (a : ME (List D)) : iRange1 a env s = (a env s).bind rangeOf := (rfl)
theorem big62 : (1000000000 : Int) < 2 ^ 62 := by decide
@[simp] theorem rangeOf_int (j : Int) (h0 : 0 ≤ j) (h1 : j ≤ 1000000000) : rangeOf [.int j] s = .ok (Itm.mk (rng j.toNat) always) s :=
  if_pos ⟨Int.le_trans (by decide) h0, Int.lt_of_le_of_lt h1 big62⟩
noncomputable def rangeOf2 (x : List D) (s : Store) : R Itm := match x with
  | [.int i, .int j] => if InR i ∧ InR j then .ok (Itm.mk ((List.range (j - i).toNat).map fun k => .int (i + (k : Nat))) always) s else .no
  | _ => .no
@[simp] theorem iRange2_eq (a : ME (List D)) : iRange2 a env s = (a env s).bind rangeOf2 := (rfl)
@[simp] theorem rangeOf2_int (i j : Int) (h0 : 0 ≤ i) (h1 : i ≤ 1000000000) (h2 : 0 ≤ j) (h3 : j ≤ 1000000000) : rangeOf2 [.int i, .int j] s = .ok (Itm.mk ((List.range (j - i).toNat).map fun k => .int (i + (k : Nat))) always) s :=
  if_pos ⟨⟨Int.le_trans (by decide) h0, Int.lt_of_le_of_lt h1 big62⟩, Int.le_trans (by decide) h2, Int.lt_of_le_of_lt h3 big62⟩
@[simp] theorem wipeE_nil : wipeE env [] = env := rfl
@[simp] theorem wipeE_cons (v : Nat) (vs : List Nat) : wipeE env (v :: vs) = (wipeE env vs).set v none := rfl
@[simp] theorem forL_nil_always (g) (b : MS) : forL always g b [] env s = .nx env s := by unfold forL; simp [always]
theorem forL_cons_always (g) (b : MS) (x : D) (xs : List D) : forL always g b (x :: xs) env s = match g x env with
    | none => .no
    | some env1 => match b env1 s with
      | .nx env2 s2 => forL always g b xs env2 s2
      | .ct env2 s2 => forL always g b xs env2 s2
      | .bk env2 s2 => .nx env2 s2
      | .rt d s2 => .rt d s2
      | .ex e env2 s2 => .ex e env2 s2
      | .no => .no := by
  conv => lhs; unfold forL
  exact (if_pos trivial).trans rfl
theorem forL_nil (gd : Store → Prop) (h : gd s) (g) (b : MS) : forL gd g b [] env s = .nx env s := by unfold forL; simp [h]
theorem forL_cons (gd : Store → Prop) (h : gd s) (g) (b : MS) (x : D) (xs : List D) : forL gd g b (x :: xs) env s = match g x env with
    | none => .no
    | some env1 => match b env1 s with
      | .nx env2 s2 => forL gd g b xs env2 s2
      | .ct env2 s2 => forL gd g b xs env2 s2
      | .bk env2 s2 => .nx env2 s2
      | .rt d s2 => .rt d s2
      | .ex e env2 s2 => .ex e env2 s2
      | .no => .no := by
  conv => lhs; unfold forL
  exact (if_pos h).trans rfl
theorem lcL_nil (gd : Store → Prop) (h : gd s) (g t e) (acc : List D) : lcL gd g t e env [] acc s = .ok acc s := by unfold lcL; simp [h]
theorem lcL_cons (gd : Store → Prop) (h : gd s) (g t e) (acc : List D) (x : D) (xs : List D) : lcL gd g t e env (x :: xs) acc s = match g x env with
    | none => .no
    | some env1 => match t env1 s with
      | .ok b s1 => if b then (match e env1 s1 with
        | .ok y s2 => if acc.length < sizeLine then lcL gd g t e env xs (acc ++ [y]) s2 else .no
        | _ => .no) else lcL gd g t e env xs acc s1
      | _ => .no := by
  conv => lhs; unfold lcL
  exact (if_pos h).trans rfl
end
@[simp] theorem dI_eq (f : Int → Int → Option D) (i j : Int) (s : Store) : dI f (.int i) (.int j) s = (f i j).map fun d => (d, s) := rfl
@[simp] theorem dAdd_int (i j : Int) (s : Store) : dAdd (.int i) (.int j) s = some (.int (i + j), s) := rfl
theorem dAdd_loc {s : Store} {l k : Nat} {xs ys : List D} (h : s[l]? = some (.lst xs)) (h2 : s[k]? = some (.lst ys)) (hz : xs.length + ys.length ≤ 1000000) : dAdd (.loc l) (.loc k) s = some (.loc s.length, s ++ [.lst (xs ++ ys)]) := by
  have q := le_line hz
  simp only [dAdd, h, h2, q, if_true]
theorem dAdd_tup {s : Store} {xs ys : List D} (hz : xs.length + ys.length ≤ 1000000) : dAdd (.tup xs) (.tup ys) s = some (.tup (xs ++ ys), s) := by
  have q := le_line hz
  simp only [dAdd, q, if_true]
@[simp] theorem dSub_int (i j : Int) (s : Store) : dSub (.int i) (.int j) s = some (.int (i - j), s) := rfl
theorem dMul_int (i j : Int) (s : Store) (h : CMul i j) : dMul (.int i) (.int j) s = some (.int (i * j), s) := by simp [dMul, h]
/-- one factor is small -/
@[simp] theorem dMul_r (i j : Int) (s : Store) (h : -(2 ^ 64) < j ∧ j < 2 ^ 64) : dMul (.int i) (.int j) s = some (.int (i * j), s) := dMul_int i j s (.inr h)
theorem dMul_l (i j : Int) (s : Store) (h : -(2 ^ 64) < i ∧ i < 2 ^ 64) : dMul (.int i) (.int j) s = some (.int (i * j), s) := dMul_int i j s (.inl h)
@[simp] theorem dDiv_int (i j : Int) (s : Store) (h : 0 < j ∧ j < 1073741824) : dDiv (.int i) (.int j) s = some (.int (i / j), s) := by
  have q : CDiv i j := h
  simp [dDiv, q]
@[simp] theorem dMod_int (i j : Int) (s : Store) (h : 0 < j) : dMod (.int i) (.int j) s = some (.int (i % j), s) := by simp [dMod, h]
@[simp] theorem dPow_int (i j : Int) (s : Store) (h : 0 ≤ j ∧ j ≤ 1000000 ∧ i.natAbs < 2 ^ 64) : dPow (.int i) (.int j) s = some (.int (i ^ j.toNat), s) := by
  have q : CPow i j := h
  simp [dPow, q]
@[simp] theorem dNeg_int (i : Int) (s : Store) : dNeg (.int i) s = some (.int (-i), s) := rfl
@[simp] theorem dLt_int (i j : Int) (s : Store) : dLt (.int i) (.int j) s = some (.bl (decide (i < j)), s) := rfl
@[simp] theorem dLe_int (i j : Int) (s : Store) : dLe (.int i) (.int j) s = some (.bl (decide (i ≤ j)), s) := rfl
@[simp] theorem dGt_int (i j : Int) (s : Store) : dGt (.int i) (.int j) s = some (.bl (decide (j < i)), s) := rfl
@[simp] theorem dGe_int (i j : Int) (s : Store) : dGe (.int i) (.int j) s = some (.bl (decide (j ≤ i)), s) := rfl
@[simp] theorem dEq_int (i j : Int) (s : Store) : dEq (.int i) (.int j) s = some (.bl (decide (i = j)), s) := rfl
@[simp] theorem dNe_int (i j : Int) (s : Store) : dNe (.int i) (.int j) s = some (.bl (!decide (i = j)), s) := rfl
@[simp] theorem dEq_bl (i j : Bool) (s : Store) : dEq (.bl i) (.bl j) s = some (.bl (decide (i = j)), s) := rfl
@[simp] theorem dNe_bl (i j : Bool) (s : Store) : dNe (.bl i) (.bl j) s = some (.bl (!decide (i = j)), s) := rfl
@[simp] theorem dEq_str (i j : Str) (s : Store) : dEq (.str i) (.str j) s = some (.bl (decide (i = j)), s) := rfl
@[simp] theorem dNe_str (i j : Str) (s : Store) : dNe (.str i) (.str j) s = some (.bl (!decide (i = j)), s) := rfl
@[simp] theorem dIs_non_non (s : Store) : dIs .non .non s = some (.bl true, s) := rfl
@[simp] theorem dIs_int_non (i : Int) (s : Store) : dIs (.int i) .non s = some (.bl false, s) := rfl
@[simp] theorem dIs_bl_bl (i j : Bool) (s : Store) : dIs (.bl i) (.bl j) s = some (.bl (decide (i = j)), s) := rfl
@[simp] theorem dIs_str_non (i : Str) (s : Store) : dIs (.str i) .non s = some (.bl false, s) := rfl
@[simp] theorem dIs_tup_non (i : List D) (s : Store) : dIs (.tup i) .non s = some (.bl false, s) := rfl
@[simp] theorem dIsNot_non_non (s : Store) : dIsNot .non .non s = some (.bl false, s) := rfl
@[simp] theorem dIsNot_int_non (i : Int) (s : Store) : dIsNot (.int i) .non s = some (.bl true, s) := rfl
@[simp] theorem dIsNot_bl_bl (i j : Bool) (s : Store) : dIsNot (.bl i) (.bl j) s = some (.bl (!decide (i = j)), s) := rfl
@[simp] theorem dIsNot_str_non (i : Str) (s : Store) : dIsNot (.str i) .non s = some (.bl true, s) := rfl
@[simp] theorem dIsNot_tup_non (i : List D) (s : Store) : dIsNot (.tup i) .non s = some (.bl true, s) := rfl
@[simp] theorem dInt_int (i : Int) (s : Store) : dInt [.int i] s = some (.int i, s) := rfl
@[simp] theorem dInt_bl (i : Bool) (s : Store) : dInt [.bl i] s = some (.int (if i then 1 else 0), s) := rfl
theorem dMax2_int (i j : Int) (s : Store) : dMax2 [.int i, .int j] s = some (.int (if j > i then j else i), s) := rfl
theorem dMin2_int (i j : Int) (s : Store) : dMin2 [.int i, .int j] s = some (.int (if j < i then j else i), s) := rfl
theorem max_if (i j : Int) : (if j > i then j else i) = max i j := by
  rw [Int.max_def]; split <;> split <;> omega
theorem min_if (i j : Int) : (if j < i then j else i) = min i j := by
  rw [Int.min_def]; split <;> split <;> omega
@[simp] theorem dMax2_max (i j : Int) (s : Store) : dMax2 [.int i, .int j] s = some (.int (max i j), s) := by rw [dMax2_int, max_if]
@[simp] theorem dMin2_min (i j : Int) (s : Store) : dMin2 [.int i, .int j] s = some (.int (min i j), s) := by rw [dMin2_int, min_if]
@[simp] theorem lstOf_fl (s : Store) (xs : List D) : lstOf s (.fl xs) = some xs := rfl
theorem lstOf_loc {s : Store} {l : Nat} {xs : List D} (h : s[l]? = some (.lst xs)) : lstOf s (.loc l) = some xs := by simp [lstOf, h]
@[simp] theorem seqOf_tup (s : Store) (xs : List D) : seqOf s (.tup xs) = some xs := rfl
@[simp] theorem seqOf_fl (s : Store) (xs : List D) : seqOf s (.fl xs) = some xs := rfl
theorem seqOf_loc {s : Store} {l : Nat} {xs : List D} (h : s[l]? = some (.lst xs)) : seqOf s (.loc l) = some xs := by simp [seqOf, lstOf, h]
@[simp] theorem dLen_tup (s : Store) (xs : List D) : dLen [.tup xs] s = some (.int xs.length, s) := rfl
@[simp] theorem dLen_fl (s : Store) (xs : List D) : dLen [.fl xs] s = some (.int xs.length, s) := rfl
theorem dLen_loc {s : Store} {l : Nat} {xs : List D} (h : s[l]? = some (.lst xs)) : dLen [.loc l] s = some (.int xs.length, s) := by simp [dLen, seqOf, lstOf, h]
@[simp] theorem dTuple_tup (s : Store) (xs : List D) : dTuple [.tup xs] s = some (.tup xs, s) := rfl
theorem dTuple_loc {s : Store} {l : Nat} {xs : List D} (h : s[l]? = some (.lst xs)) : dTuple [.loc l] s = some (.tup xs, s) := by simp [dTuple, seqOf, lstOf, h]
theorem dSum_loc {s : Store} {l : Nat} {ns : List Int} (h : s[l]? = some (.lst (ns.map D.int))) : dSum [.loc l] s = some (.int ns.sum, s) := by simp [dSum, lstOf, h, intsOf_map]
theorem dIx_tup (s : Store) (xs : List D) (i : Int) : dIx (.tup xs) (.int i) s = (atI xs i).map fun d => (d, s) := rfl
theorem dIx_loc {s : Store} {l : Nat} {xs : List D} (h : s[l]? = some (.lst xs)) (i : Int) : dIx (.loc l) (.int i) s = (atI xs i).map fun d => (d, s) := by simp [dIx, seqOf, lstOf, h]
theorem atI_ofNat (xs : List D) (j : Nat) (d : D) (h : xs[j]? = some d) : atI xs (j : Int) = some d := atI_nat h
@[simp] theorem atI_zero (x : D) (xs : List D) : atI (x :: xs) 0 = some x := atI_nat (j := 0) rfl
@[simp] theorem atI_one (x y : D) (xs : List D) : atI (x :: y :: xs) 1 = some y := atI_nat (j := 1) rfl
@[simp] theorem atI_two (x y z : D) (xs : List D) : atI (x :: y :: z :: xs) 2 = some z := atI_nat (j := 2) rfl
@[simp] theorem atI_three (x y z w : D) (xs : List D) : atI (x :: y :: z :: w :: xs) 3 = some w := atI_nat (j := 3) rfl
theorem dAppend_loc {s : Store} {l : Nat} {xs : List D} (h : s[l]? = some (.lst xs)) (hz : xs.length ≤ 1000000) (y : D) : dAppend (.loc l) [y] s = some (.non, s.set l (.lst (xs ++ [y]))) := by
  have q := lt_line hz
  simp only [dAppend, h, q, if_true]
theorem dPop_loc {s : Store} {l : Nat} {xs : List D} {y : D} (h : s[l]? = some (.lst (xs ++ [y]))) : dPop (.loc l) [] s = some (y, s.set l (.lst xs)) := by simp [dPop, h]
theorem tyOk_list {s : Store} {l : Nat} {xs : List D} (h : s[l]? = some (.lst xs)) : tyOk "list" s (.loc l) = true := by simp [tyOk, h]
theorem pList_loc {s : Store} {l : Nat} {xs : List D} (h : s[l]? = some (.lst xs)) (j : Nat) (hj : j < xs.length) (z : D) : pList (.loc l) (.int j) z s = some (s.set l (.lst (xs.set j z))) := by
  have e : ixN xs.length (j : Int) = some j := by
    unfold ixN
    rw [if_pos (by omega), if_pos (by omega)]
    simp
  simp [pList, h, e]
theorem pList_zero {s : Store} {l : Nat} {x : D} {xs : List D} (h : s[l]? = some (.lst (x :: xs))) (z : D) : pList (.loc l) (.int 0) z s = some (s.set l (.lst (z :: xs))) :=
  pList_loc h 0 (by simp) z
@[simp] theorem fnM_eq (N n : Nat) (b : MS) (ds : List D) (s : Store) : fnM N n b ds s = match b (ds.map some ++ List.replicate (N - n) none) s with
  | .rt d s => .ok d s
  | .nx _ s => .ok .non s
  | .ex e _ s => .ex e s
  | _ => .no := rfl
/-! ### stores: what stays -/
/-- all places of s but p are as they were -/
def Kp (p : Nat) (s s' : Store) : Prop := s.length ≤ s'.length ∧ ∀ l, l < s.length → l ≠ p → s'[l]? = s[l]?
theorem Kp.refl (p : Nat) (s : Store) : Kp p s s := ⟨Nat.le_refl _, fun _ _ _ => rfl⟩
theorem Kp.trans {p : Nat} {s s1 s2 : Store} (a : Kp p s s1) (b : Kp p s1 s2) : Kp p s s2 :=
  ⟨Nat.le_trans a.1 b.1, fun l h n => (b.2 l (Nat.lt_of_lt_of_le h a.1) n).trans (a.2 l h n)⟩
theorem Kp.set (p : Nat) (s : Store) (c : Cell) : Kp p s (s.set p c) := ⟨by simp, fun l _ n => List.getElem?_set_ne (Ne.symm n)⟩
theorem Kp.app (p : Nat) (s r : Store) : Kp p s (s ++ r) := ⟨by simp, fun l h _ => List.getElem?_append_left h⟩
theorem Kp.get {p : Nat} {s s' : Store} (a : Kp p s s') {l : Nat} {c : Cell} (h : s[l]? = some c) (n : l ≠ p) : s'[l]? = some c := by
  rw [a.2 l (by
    rcases Nat.lt_or_ge l s.length with q | q
    · exact q
    · rw [List.getElem?_eq_none q] at h; cases h) n]
  exact h
theorem lt_of_get {s : Store} {l : Nat} {c : Cell} (h : s[l]? = some c) : l < s.length := by
  rcases Nat.lt_or_ge l s.length with q | q
  · exact q
  · rw [List.getElem?_eq_none q] at h; cases h
theorem get_new (s : Store) (c : Cell) : (s ++ [c])[s.length]? = some c := by simp
theorem get_set {s : Store} {l : Nat} {c c' : Cell} (h : s[l]? = some c) : (s.set l c')[l]? = some c' := List.getElem?_set_self (lt_of_get h)
/-! #### isinstance -/
@[simp] theorem kit_NoneType_int : kitB "NoneType" "int" = some false := by decide +kernel
@[simp] theorem kit_NoneType_bool : kitB "NoneType" "bool" = some false := by decide +kernel
@[simp] theorem kit_NoneType_str : kitB "NoneType" "str" = some false := by decide +kernel
@[simp] theorem kit_NoneType_tuple : kitB "NoneType" "tuple" = some false := by decide +kernel
@[simp] theorem kit_NoneType_list : kitB "NoneType" "list" = some false := by decide +kernel
@[simp] theorem kit_NoneType_dict : kitB "NoneType" "dict" = some false := by decide +kernel
@[simp] theorem kit_bool_int : kitB "bool" "int" = some true := by decide +kernel
@[simp] theorem kit_bool_bool : kitB "bool" "bool" = some true := by decide +kernel
@[simp] theorem kit_bool_str : kitB "bool" "str" = some false := by decide +kernel
@[simp] theorem kit_bool_tuple : kitB "bool" "tuple" = some false := by decide +kernel
@[simp] theorem kit_bool_list : kitB "bool" "list" = some false := by decide +kernel
@[simp] theorem kit_bool_dict : kitB "bool" "dict" = some false := by decide +kernel
@[simp] theorem kit_int_int : kitB "int" "int" = some true := by decide +kernel
@[simp] theorem kit_int_bool : kitB "int" "bool" = some false := by decide +kernel
@[simp] theorem kit_int_str : kitB "int" "str" = some false := by decide +kernel
@[simp] theorem kit_int_tuple : kitB "int" "tuple" = some false := by decide +kernel
@[simp] theorem kit_int_list : kitB "int" "list" = some false := by decide +kernel
@[simp] theorem kit_int_dict : kitB "int" "dict" = some false := by decide +kernel
@[simp] theorem kit_str_int : kitB "str" "int" = some false := by decide +kernel
@[simp] theorem kit_str_bool : kitB "str" "bool" = some false := by decide +kernel
@[simp] theorem kit_str_str : kitB "str" "str" = some true := by decide +kernel
@[simp] theorem kit_str_tuple : kitB "str" "tuple" = some false := by decide +kernel
@[simp] theorem kit_str_list : kitB "str" "list" = some false := by decide +kernel
@[simp] theorem kit_str_dict : kitB "str" "dict" = some false := by decide +kernel
@[simp] theorem kit_tuple_int : kitB "tuple" "int" = some false := by decide +kernel
@[simp] theorem kit_tuple_bool : kitB "tuple" "bool" = some false := by decide +kernel
@[simp] theorem kit_tuple_str : kitB "tuple" "str" = some false := by decide +kernel
@[simp] theorem kit_tuple_tuple : kitB "tuple" "tuple" = some true := by decide +kernel
@[simp] theorem kit_tuple_list : kitB "tuple" "list" = some false := by decide +kernel
@[simp] theorem kit_tuple_dict : kitB "tuple" "dict" = some false := by decide +kernel
@[simp] theorem kit_list_int : kitB "list" "int" = some false := by decide +kernel
@[simp] theorem kit_list_bool : kitB "list" "bool" = some false := by decide +kernel
@[simp] theorem kit_list_str : kitB "list" "str" = some false := by decide +kernel
@[simp] theorem kit_list_tuple : kitB "list" "tuple" = some false := by decide +kernel
@[simp] theorem kit_list_list : kitB "list" "list" = some true := by decide +kernel
@[simp] theorem kit_list_dict : kitB "list" "dict" = some false := by decide +kernel
@[simp] theorem kit_dict_int : kitB "dict" "int" = some false := by decide +kernel
@[simp] theorem kit_dict_bool : kitB "dict" "bool" = some false := by decide +kernel
@[simp] theorem kit_dict_str : kitB "dict" "str" = some false := by decide +kernel
@[simp] theorem kit_dict_tuple : kitB "dict" "tuple" = some false := by decide +kernel
@[simp] theorem kit_dict_list : kitB "dict" "list" = some false := by decide +kernel
@[simp] theorem kit_dict_dict : kitB "dict" "dict" = some true := by decide +kernel
@[simp] theorem dIsi_eq (T : String) (x : D) (s : Store) : dIsi T x s = (tyN s x).bind fun t => (kitB t T).map fun b => (.bl b, s) := rfl
@[simp] theorem tyN_non (s : Store) : tyN s .non = some "NoneType" := rfl
@[simp] theorem tyN_bl (s : Store) (b : Bool) : tyN s (.bl b) = some "bool" := rfl
@[simp] theorem tyN_int (s : Store) (b : Int) : tyN s (.int b) = some "int" := rfl
@[simp] theorem tyN_str (s : Store) (b : Str) : tyN s (.str b) = some "str" := rfl
@[simp] theorem tyN_tup (s : Store) (b : List D) : tyN s (.tup b) = some "tuple" := rfl
theorem tyN_lst {s : Store} {l : Nat} {xs : List D} (h : s[l]? = some (.lst xs)) : tyN s (.loc l) = some "list" := by simp [tyN, h]
/-! ### loops by what holds between the turns -/
/-- a call's end -/
def Rets {α : Type} (P : α → Store → Prop) : R α → Prop
  | .ok d s => P d s
  | _ => False
@[simp] theorem Rets_ok {α : Type} (P : α → Store → Prop) (d : α) (s : Store) : Rets P (.ok d s) = P d s := rfl
@[simp] theorem Rets_no {α : Type} (P : α → Store → Prop) : Rets P .no = False := rfl
@[simp] theorem Rets_ex {α : Type} (P : α → Store → Prop) (e : Ex) (s : Store) : Rets P (.ex e s) = False := rfl
theorem Rets.out {α : Type} {P : α → Store → Prop} {r : R α} (h : Rets P r) : ∃ d s, r = .ok d s ∧ P d s := by
  cases r with
  | ok d s => exact ⟨d, s, rfl, h⟩
  | ex e s => exact h.elim
  | no => exact h.elim
/-- what a turn's end asks: I of the next turn, Q of leaving -/
def Turns (I : Sl → Store → Prop) (Q : RS → Prop) : RS → Prop
  | .nx env s => I env s
  | .ct env s => I env s
  | .bk env s => Q (.nx env s)
  | .rt d s => Q (.rt d s)
  | .ex e env s => Q (.ex e env s)
  | .no => False
section
variable (I : Sl → Store → Prop) (Q : RS → Prop) (env : Sl) (s : Store)
@[simp] theorem Turns_nx : Turns I Q (.nx env s) = I env s := rfl
@[simp] theorem Turns_ct : Turns I Q (.ct env s) = I env s := rfl
@[simp] theorem Turns_bk : Turns I Q (.bk env s) = Q (.nx env s) := rfl
@[simp] theorem Turns_rt (d : D) : Turns I Q (.rt d s) = Q (.rt d s) := rfl
@[simp] theorem Turns_ex (e : Ex) : Turns I Q (.ex e env s) = Q (.ex e env s) := rfl
@[simp] theorem Turns_no : Turns I Q .no = False := rfl
end
/-- store the item, run the body -/
def turn (g : D → Sl → Option Sl) (b : MS) (x : D) : MS := fun env s => match g x env with
  | none => .no
  | some env1 => b env1 s
@[simp] theorem turn_gN (i : Nat) (b : MS) (x : D) (env : Sl) (s : Store) : turn (gN i) b x env s = b (env.set i (some x)) s := rfl
@[simp] theorem turn_gT (n : Nat) (r) (b : MS) (xs : List D) (env : Sl) (s : Store) : turn (gT n r) b (.tup xs) env s = match (if xs.length = n then r xs env else none) with
  | none => .no
  | some env1 => b env1 s := rfl
theorem forL_rule {gd : Store → Prop} {g : D → Sl → Option Sl} {b : MS} (I : List D → Sl → Store → Prop) (Q : RS → Prop) (hg : ∀ xs env s, I xs env s → gd s)
    (hs : ∀ x xs env s, I (x :: xs) env s → Turns (I xs) Q (turn g b x env s)) (he : ∀ env s, I [] env s → Q (.nx env s)) : ∀ {xs : List D} {env : Sl} {s : Store}, I xs env s → Q (forL gd g b xs env s) := by
  intro xs
  induction xs with
  | nil => intro env s h; rw [forL_nil env s gd (hg _ _ _ h)]; exact he env s h
  | cons x xs ih =>
    intro env s h
    rw [forL_cons env s gd (hg _ _ _ h)]
    have h1 := hs x xs env s h
    unfold turn at h1
    cases e1 : g x env with
    | none => rw [e1] at h1; exact h1.elim
    | some env1 =>
      rw [e1] at h1
      dsimp only at h1 ⊢
      cases q : b env1 s with
      | nx env2 s2 => rw [q] at h1; exact ih h1
      | ct env2 s2 => rw [q] at h1; exact ih h1
      | bk env2 s2 => rw [q] at h1; exact h1
      | rt d s2 => rw [q] at h1; exact h1
      | ex e env2 s2 => rw [q] at h1; exact h1
      | no => rw [q] at h1; exact h1.elim
/-- a loop that runs through -/
theorem forL_thru {gd : Store → Prop} {g : D → Sl → Option Sl} {b : MS} (I : List D → Sl → Store → Prop) (hg : ∀ xs env s, I xs env s → gd s)
    (hs : ∀ x xs env s, I (x :: xs) env s → Turns (I xs) (fun _ => False) (turn g b x env s)) {xs : List D} {env : Sl} {s : Store} (h : I xs env s) : ∃ env' s', forL gd g b xs env s = .nx env' s' ∧ I [] env' s' :=
  forL_rule I (fun r => ∃ env' s', r = .nx env' s' ∧ I [] env' s') hg (fun x xs env s h => by
    have z := hs x xs env s h
    cases q : turn g b x env s with
    | nx env2 s2 => rw [q] at z; exact z
    | ct env2 s2 => rw [q] at z; exact z
    | bk env2 s2 => rw [q] at z; exact z.elim
    | rt d s2 => rw [q] at z; exact z.elim
    | ex e env2 s2 => rw [q] at z; exact z.elim
    | no => rw [q] at z; exact z.elim) (fun env s h => ⟨env, s, rfl, h⟩) h
/-! a loop over range(n) -/
theorem rng_drop {n i : Nat} (h : i < n) : (rng n).drop i = .int ((0 : Int) + (i : Nat)) :: (rng n).drop (i + 1) := by
  have hl : i < (rng n).length := by simpa [rng] using h
  rw [List.drop_eq_getElem_cons hl]
  simp [rng]
theorem rng_lt {n i : Nat} {x : D} {xs : List D} (e : x :: xs = (rng n).drop i) : i < n ∧ x = .int (i : Nat) ∧ xs = (rng n).drop (i + 1) := by
  have hlt : i < n := by
    rcases Nat.lt_or_ge i n with w | w
    · exact w
    · rw [List.drop_eq_nil_of_le (by simpa [rng] using w)] at e; cases e
  rw [rng_drop hlt] at e
  obtain ⟨rfl, rfl⟩ := List.cons.inj e
  exact ⟨hlt, by rw [Int.zero_add], rfl⟩
theorem rng_end {n i : Nat} (hi : i ≤ n) (e : [] = (rng n).drop i) : i = n := by
  rcases Nat.lt_or_ge i n with w | w
  · rw [rng_drop w] at e; cases e
  · omega
theorem forL_range {gd : Store → Prop} {g : D → Sl → Option Sl} {b : MS} (n : Nat) (I : Nat → Sl → Store → Prop) (Q : RS → Prop) (hg : ∀ i env s, i ≤ n → I i env s → gd s)
    (hs : ∀ i env s, i < n → I i env s → Turns (I (i + 1)) Q (turn g b (.int (i : Nat)) env s)) (he : ∀ env s, I n env s → Q (.nx env s)) {env : Sl} {s : Store} (h : I 0 env s) : Q (forL gd g b (rng n) env s) := by
  refine forL_rule (fun xs env s => ∃ i, i ≤ n ∧ xs = (rng n).drop i ∧ I i env s) Q (fun xs env s ⟨i, hi, _, q⟩ => hg i env s hi q) (fun x xs env s ⟨i, hi, e, q⟩ => ?_) (fun env s ⟨i, hi, e, q⟩ => ?_) ⟨0, Nat.zero_le _, rfl, h⟩
  · obtain ⟨hlt, rfl, rfl⟩ := rng_lt e
    have t1 := hs i env s hlt q
    cases hb : turn g b (.int (i : Nat)) env s with
    | nx env2 s2 => rw [hb] at t1; exact ⟨i + 1, hlt, rfl, t1⟩
    | ct env2 s2 => rw [hb] at t1; exact ⟨i + 1, hlt, rfl, t1⟩
    | bk env2 s2 => rw [hb] at t1; exact t1
    | rt d s2 => rw [hb] at t1; exact t1
    | ex x env2 s2 => rw [hb] at t1; exact t1
    | no => rw [hb] at t1; exact t1
  · have hlt := rng_end hi e
    subst hlt
    exact he env s q
theorem forL_rangeT {gd : Store → Prop} {g : D → Sl → Option Sl} {b : MS} (n : Nat) (I : Nat → Sl → Store → Prop) (hg : ∀ i env s, i ≤ n → I i env s → gd s)
    (hs : ∀ i env s, i < n → I i env s → Turns (I (i + 1)) (fun _ => False) (turn g b (.int (i : Nat)) env s)) {env : Sl} {s : Store} (h : I 0 env s) : ∃ env' s', forL gd g b (rng n) env s = .nx env' s' ∧ I n env' s' :=
  forL_range n I (fun r => ∃ env' s', r = .nx env' s' ∧ I n env' s') hg (fun i env s hi h => by
    have z := hs i env s hi h
    cases q : turn g b (.int (i : Nat)) env s with
    | nx env2 s2 => rw [q] at z; exact z
    | ct env2 s2 => rw [q] at z; exact z
    | bk env2 s2 => rw [q] at z; exact z.elim
    | rt d s2 => rw [q] at z; exact z.elim
    | ex e env2 s2 => rw [q] at z; exact z.elim
    | no => rw [q] at z; exact z.elim) (fun env s h => ⟨env, s, rfl, h⟩) h
/-! comprehensions -/
/-- one item: kept with its value, or not -/
def pick (g : D → Sl → Option Sl) (t : ME Bool) (e : ME D) (x : D) (env : Sl) (s : Store) : R (Option D) := match g x env with
  | none => .no
  | some env1 => (t env1 s).bind fun b s => if b then (e env1 s).bind fun y s => .ok (some y) s else .ok none s
@[simp] theorem pick_gN (i : Nat) (t : ME Bool) (e : ME D) (x : D) (env : Sl) (s : Store) : pick (gN i) t e x env s = (t (env.set i (some x)) s).bind fun b s => if b then (e (env.set i (some x)) s).bind fun y s => .ok (some y) s else .ok none s := rfl
@[simp] theorem pick_gT (n : Nat) (r) (t : ME Bool) (e : ME D) (xs : List D) (env : Sl) (s : Store) : pick (gT n r) t e (.tup xs) env s = match (if xs.length = n then r xs env else none) with
  | none => .no
  | some env1 => (t env1 s).bind fun b s => if b then (e env1 s).bind fun y s => .ok (some y) s else .ok none s := rfl
/-- what an item's end asks of the list so far -/
def Kept (I : List D → Store → Prop) (acc : List D) : R (Option D) → Prop
  | .ok (some y) s => acc.length ≤ 1000000 ∧ I (acc ++ [y]) s
  | .ok none s => I acc s
  | _ => False
@[simp] theorem Kept_some (I : List D → Store → Prop) (acc : List D) (y : D) (s : Store) : Kept I acc (.ok (some y) s) = (acc.length ≤ 1000000 ∧ I (acc ++ [y]) s) := rfl
@[simp] theorem Kept_none (I : List D → Store → Prop) (acc : List D) (s : Store) : Kept I acc (.ok none s) = I acc s := rfl
@[simp] theorem Kept_no (I : List D → Store → Prop) (acc : List D) : Kept I acc .no = False := rfl
theorem lcL_thru {gd : Store → Prop} {g : D → Sl → Option Sl} {t : ME Bool} {e : ME D} {env : Sl} (I : List D → List D → Store → Prop) (hg : ∀ xs acc s, I xs acc s → gd s)
    (hs : ∀ x xs acc s, I (x :: xs) acc s → Kept (I xs) acc (pick g t e x env s)) :
    ∀ {xs acc : List D} {s : Store}, I xs acc s → ∃ acc' s', lcL gd g t e env xs acc s = .ok acc' s' ∧ I [] acc' s' := by
  intro xs
  induction xs with
  | nil => intro acc s h; exact ⟨acc, s, lcL_nil env s gd (hg _ _ _ h) g t e acc, h⟩
  | cons x xs ih =>
    intro acc s h
    rw [lcL_cons env s gd (hg _ _ _ h)]
    have h1 := hs x xs acc s h
    unfold pick at h1
    cases e1 : g x env with
    | none => rw [e1] at h1; exact h1.elim
    | some env1 =>
      rw [e1] at h1
      dsimp only at h1 ⊢
      cases e2 : t env1 s with
      | no => rw [e2] at h1; exact h1.elim
      | ex x s => rw [e2] at h1; exact h1.elim
      | ok k s1 =>
        rw [e2] at h1
        simp only [R.bind_ok] at h1
        cases k with
        | false => simpa using ih (by simpa using h1)
        | true =>
          simp only [if_true] at h1 ⊢
          cases e3 : e env1 s1 with
          | no => rw [e3] at h1; exact h1.elim
          | ex x s => rw [e3] at h1; exact h1.elim
          | ok y s2 =>
            rw [e3] at h1
            obtain ⟨hz, h3⟩ := (show acc.length ≤ 1000000 ∧ I xs (acc ++ [y]) s2 from h1)
            have z := lt_line hz
            simp only [z, if_true]
            exact ih h3
/-- a comprehension that leaves the store as it is -/
theorem lcL_fm {β : Type} {gd : Store → Prop} {g : D → Sl → Option Sl} {t : ME Bool} {e : ME D} {env : Sl} {s : Store} (hg : gd s) (h : β → D) (f : β → Option D) :
    ∀ (xs : List β) (acc : List D), (∀ x ∈ xs, pick g t e (h x) env s = .ok (f x) s) → acc.length + xs.length ≤ 1000000 → lcL gd g t e env (xs.map h) acc s = .ok (acc ++ xs.filterMap f) s := by
  intro xs
  induction xs with
  | nil => intro acc _ _; rw [List.map_nil, lcL_nil env s gd hg]; simp
  | cons x xs ih =>
    intro acc hp hz
    rw [List.length_cons] at hz
    rw [List.map_cons, lcL_cons env s gd hg]
    have h1 := hp x (by simp)
    unfold pick at h1
    cases e1 : g (h x) env with
    | none => rw [e1] at h1; cases h1
    | some env1 =>
      rw [e1] at h1
      dsimp only at h1 ⊢
      cases e2 : t env1 s with
      | no => rw [e2] at h1; cases h1
      | ex x s => rw [e2] at h1; cases h1
      | ok k s1 =>
        rw [e2] at h1
        simp only [R.bind_ok] at h1
        cases k with
        | false =>
          simp at h1
          obtain ⟨h2, rfl⟩ := h1
          simp only [Bool.false_eq_true, if_false]
          rw [ih acc (fun y hy => hp y (by simp [hy])) (by omega), List.filterMap_cons, ← h2]
        | true =>
          simp only [if_true] at h1 ⊢
          cases e3 : e env1 s1 with
          | no => rw [e3] at h1; cases h1
          | ex x s => rw [e3] at h1; cases h1
          | ok y s2 =>
            rw [e3] at h1
            simp at h1
            obtain ⟨h2, rfl⟩ := h1
            have z : acc.length < sizeLine := lt_line (by omega)
            simp only [z, if_true]
            rw [ih (acc ++ [y]) (fun y hy => hp y (by simp [hy])) (by simp; omega), List.filterMap_cons, ← h2]
            simp
theorem lcL_map {β : Type} {gd : Store → Prop} {g : D → Sl → Option Sl} {t : ME Bool} {e : ME D} {env : Sl} {s : Store} (hg : gd s) (h : β → D) (f : β → D) (xs : List β)
    (hp : ∀ x ∈ xs, pick g t e (h x) env s = .ok (some (f x)) s) (hz : xs.length ≤ 1000000) : lcL gd g t e env (xs.map h) [] s = .ok (xs.map f) s := by
  have w := lcL_fm hg h (fun x => some (f x)) xs [] hp (by simpa using hz)
  rw [w]
  simp
theorem lcL_range {gd : Store → Prop} {g : D → Sl → Option Sl} {t : ME Bool} {e : ME D} {env : Sl} (n : Nat) (I : Nat → List D → Store → Prop) (hg : ∀ i acc s, i ≤ n → I i acc s → gd s)
    (hs : ∀ i acc s, i < n → I i acc s → Kept (I (i + 1)) acc (pick g t e (.int (i : Nat)) env s)) {acc : List D} {s : Store}
    (h : I 0 acc s) : ∃ acc' s', lcL gd g t e env (rng n) acc s = .ok acc' s' ∧ I n acc' s' := by
  obtain ⟨acc', s', h1, i, hi, e, h2⟩ := lcL_thru (gd := gd) (g := g) (t := t) (e := e) (env := env) (fun xs acc s => ∃ i, i ≤ n ∧ xs = (rng n).drop i ∧ I i acc s) (fun xs acc s ⟨i, hi, _, q⟩ => hg i acc s hi q) (fun x xs acc s ⟨i, hi, e, q⟩ => by
    obtain ⟨hlt, rfl, rfl⟩ := rng_lt e
    have z := hs i acc s hlt q
    cases hp : pick g t _ (.int (i : Nat)) env s with
    | no => rw [hp] at z; exact z
    | ex x s => rw [hp] at z; exact z
    | ok o s2 =>
      rw [hp] at z
      cases o with
      | none => exact ⟨i + 1, hlt, rfl, z⟩
      | some y => exact ⟨z.1, i + 1, hlt, rfl, z.2⟩) (xs := rng n) ⟨0, Nat.zero_le _, rfl, h⟩
  have hlt := rng_end hi e
  subst hlt
  exact ⟨acc', s', h1, h2⟩
/-- all ints -/
def Ints (xs : List D) : Prop := ∃ ns : List Int, xs = ns.map D.int
theorem cut_ints {xs : List D} (h : Ints xs) (lo hi : Option Int) : Ints (Mi.cutD xs lo hi) := by
  obtain ⟨ns, rfl⟩ := h
  unfold Mi.cutD
  exact ⟨_, by rw [← List.map_drop, ← List.map_take]⟩
theorem cut_len (xs : List D) (lo hi : Option Int) : (Mi.cutD xs lo hi).length ≤ xs.length := by
  unfold Mi.cutD
  simp
  omega
end Mi
namespace Mi
open PySem PySem.W PySem.Spec PySem.Calls PyProof.Rows L2
section
variable {prog : Program} {w : World} {A : Around} {E : Value → Shared → Prop} {s : Shared}
/-- the items of a tuple, collected -/
theorem tup_coll {t : Addr} {us : List Value} {R : List Value → Shared → Prop} (ht : IsTup s.heap t us.toArray) (hz : us.length ≤ sizeLine)
    (q : R us { s with heap := (s.heap.push (seqObj "list" #[] 0)).update s.heap.objs.size (Obj.mapSeq (· ++ us.toArray)) }) : wpAny (model prog w) A (collect (.ref t)) R E s := by
  obtain ⟨o, ho, hc, n, hd⟩ := ht
  have ho1 : (s.heap.push (seqObj "list" #[] 0)).get? t = some o := Heap.get?_push_of_some _ ho
  have hn1 : (s.heap.push (seqObj "list" #[] 0)).get? s.heap.objs.size = some (seqObj "list" #[] 0) := Heap.get?_push_size _ rfl
  have hT : (Value.type "tuple" == Value.type "tuple") = true := by rfl
  unfold collect
  refine wpAny_bind (wpAny_runValue (codeAny_builtin entry_proto_collect' ?_))
  show wpAny _ _ (do again (.builtin "list.__iadd__" ⟨[← newList [], .ref t], []⟩)) _ _ s
  refine wpAny_bind (wpAny_newList (wpAny_pure ⟨Code.quiet_builtin _ (by decide +kernel), ?_⟩))
  refine codeAny_builtin entry_list_iadd' ?_
  show wpAny _ _ (Builtin.List.listExtendWith (.ref s.heap.objs.size) (.ref t) (.ref s.heap.objs.size)) _ _ { s with heap := s.heap.push (seqObj "list" #[] 0) }
  unfold Builtin.List.listExtendWith
  refine wpAny_bind (wpAny_typeOf (T := "tuple") ⟨o, ho1, hc⟩ ?_)
  rw [if_pos (by rw [hT]; simp)]
  refine wpAny_bind (listItems_at ho1 hd (wpAny_bind (listItems_at (xs := #[]) (n := 0) hn1 rfl ?_)))
  rw [if_neg (by simp)]
  refine wpAny_bind (listUpdate_at (xs := #[]) (n := 0) hn1 rfl ?_ (Nat.zero_le _) (by rw [Array.size_append]; simp; have := sizeLine_eq; omega))
  refine wpAny_pure ?_
  refine wpAny_bind (wpAny_load (get?_update_seq hn1 _) ?_)
  have e : (((#[] : Array Value) ++ us.toArray).toList) = us := by simp
  show wpAny _ _ (pure ((#[] : Array Value) ++ us.toArray).toList) R E _
  rw [e]
  exact wpAny_pure q
/-- sorted(a tuple), by what sorts the new list -/
theorem tup_sorted {κ : _} {t : Addr} {us : List Value} {R : Value → Shared → Prop} (ht : IsTup s.heap t us.toArray) (hz : us.length ≤ sizeLine)
    (S : SortsAt prog w A.in1.in1 { s with heap := sortingHeap (copyHeap s.heap us) (s.heap.objs.size + 1) us } κ us)
    (q : R (.ref (s.heap.objs.size + 1)) { s with heap := sortedAll s.heap us (sortVals κ false us us).toArray }) : wpAny (model prog w) A (call (.builtin "sorted") [.ref t]) R E s := by
  have hs : ((s.heap.push (seqObj "list" #[] 0)).update s.heap.objs.size (Obj.mapSeq (· ++ us.toArray))).objs.size = s.heap.objs.size + 1 := by rw [Heap.size_update, size_push']
  refine call_function_entry_kw kind_sorted plain_sorted entry_sorted (args_sorted1 _) ?_
  unfold Builtin.«sorted»
  refine wpAny_bind (m := checkCount "sorted" 1 1 _) (wpAny_pure (wpAny_bind (tup_coll ht hz (wpAny_bind (wpAny_newList ?_ hz)))))
  show wpAny _ _ _ _ _ { s with heap := copyHeap s.heap us }
  rw [hs]
  refine wpAny_bind (wpAny_holding (wpAny_call_entry_kw slot_list_sort ⟨_, copyHeap_at s.heap us, rfl⟩ entry_list_sort ?body (args_list_sort _)))
  case body =>
    have b := list_sort_vals (s := { s with heap := copyHeap s.heap us }) (A := A.in1.in1) (E := E) (P := fun f s' => f = .done (.ret .none) ∧ R (.ref (s.heap.objs.size + 1)) s') (copyHeap_at s.heap us) S hz ⟨rfl, q⟩
    refine wpAny_mono b (fun f s' hf => ?_) fun _ _ e => e
    obtain ⟨rfl, hq⟩ := hf
    exact ⟨_, rfl, wpAny_pure ⟨_, rfl, hq⟩⟩
end
/-! ### sorted as a call -/
noncomputable def pyD (d : D) : PyData := (py0 d).getD .none
def rSortB (K : PySem.W.Frag) : List V → Hp → VK → Prop := fun vs H Q => ∃ (a : Addr) (bs : List (D × V)), vs = [.ref a] ∧ (SqL K H a (bs.map Prod.snd) ∨ SqT K H a (bs.map Prod.snd)) ∧ (∀ b ∈ bs, Dp K H b.2 (pyD b.1)) ∧
  AllAlike (bs.map fun b => pyD b.1) ∧ Sortable (bs.map fun b => pyD b.1) ∧ (∀ b ∈ bs, (pyD b.1).depth ≤ 60) ∧ ∀ p, H p = none → Q (.ref p) (upd H p (.lst ((bs.mergeSort (dataLe false fun b => pyD b.1)).map Prod.snd)))
theorem each_vals : ∀ {bs : List (D × V)} {us : List Value}, Vals (bs.map Prod.snd) us → EachIs (fun u b => RelV b.2 u) us bs
  | [], _, .nil => .nil
  | _ :: bs, _, .cons r t => .cons r (each_vals (bs := bs) t)
theorem vals_each : ∀ {bs : List (D × V)} {us : List Value}, EachIs (fun u b => RelV b.2 u) us bs → Vals (bs.map Prod.snd) us
  | [], _, .nil => .nil
  | _ :: bs, _, .cons r t => .cons r (vals_each (bs := bs) t)
theorem each_dp {X : Cx} {pins : List (Addr × Obj)} {σ : L2.St} {H : Hp} {s : Shared} (I : Inv X pins σ H s) : ∀ {bs : List (D × V)} {us : List Value}, (∀ b ∈ bs, Dp X.K H b.2 (pyD b.1)) → EachIs (fun u b => RelV b.2 u) us bs → EachIs (fun u b => ∃ as, Reads s.heap u (pyD b.1) as) us bs
  | [], _, _, .nil => .nil
  | b :: bs, _, h, .cons r t => .cons (Dp.reads I _ _ _ (h b (by simp)) r) (each_dp I (fun z hz => h z (by simp [hz])) t)
theorem cr_sortedB {X : Cx} (hu : X.A.units + 64 < cLine) : CallR X (.builtin "sorted") (rSortB X.K) := by
  intro pins s σ H vs us Q I r h
  obtain ⟨a, bs, rfl, hs, hd, hal, hk, hdep, q⟩ := h
  rw [Vals.ref1 r]
  have fin : ∀ (its out : List Value), its.length = bs.length → bs.length ≤ sizeLine → EachIs (fun u b => RelV b.2 u) out (bs.mergeSort (dataLe false fun b => pyD b.1)) → out.length = bs.length →
      ∃ v H', Inv X pins σ H' { s with heap := sortedAll s.heap its out.toArray } ∧ RelV v (Value.ref (s.heap.objs.size + 1)) ∧ Q v H' := fun its out h1 h2 h3 h4 => by
    obtain ⟨n, hn⟩ := sortedAll_at s.heap its out.toArray
    exact ⟨.ref _, upd H (s.heap.objs.size + 1) (.lst ((bs.mergeSort (dataLe false fun b => pyD b.1)).map Prod.snd)), I.laid (t' := s.toks) (fun _ _ => sortedAll_old) (Nat.le_succ _) ⟨by rw [List.length_map, List.length_mergeSort]; exact h2, out, n, vals_each h3, hn⟩, rfl, q _ (I.hok.fresh (Nat.le_succ _))⟩
  rcases hs with hs | hs
  · obtain ⟨its, rv, hl, hz⟩ := I.list hs
    have hL : bs.length ≤ sizeLine := by simpa using hz
    have e1 := each_vals rv
    refine sorted_data hl.isList e1 (each_dp I hd e1) hal hk hL (fun b hb => by have := hdep b hb; omega) fun out h1 h2 => ?_
    exact fin its out e1.length hL h2 h1
  · obtain ⟨its, rv, hl, hz⟩ := I.tuple hs
    have hL : bs.length ≤ sizeLine := by simpa using hz
    have e1 := each_vals rv
    have er := (each_dp I hd e1).mono fun _ _ ⟨as, z⟩ => (⟨as, PyProof.Rows.Reads.keeps (fun _ _ => sorting_copy_old) z⟩ : ∃ as, Reads (sortingHeap (copyHeap s.heap its) (s.heap.objs.size + 1) its) _ _ as)
    refine tup_sorted hl (by rw [e1.length]; exact hL) (SortsAt.data (A := X.A.in1.in1) (s := { s with heap := sortingHeap (copyHeap s.heap its) (s.heap.objs.size + 1) its }) (each_map (R := fun v d => ∃ as, Reads (sortingHeap (copyHeap s.heap its) (s.heap.objs.size + 1) its) v d as) (fun b : D × V => pyD b.1) er) hal hk (bound_map (enc := fun b : D × V => pyD b.1) (bs := bs) fun b hb => by have := hdep b hb; show X.A.units + 1 + 1 + (pyD b.1).depth < cLine; omega)) ?_
    exact fin its _ e1.length hL (sortVals_data false e1 er hal) (by rw [sortVals_length false rfl]; exact e1.length)
/-! ### its mirror -/
def sortOk (xs : List D) : Prop := (∀ d ∈ xs, (py0 d).isSome = true ∧ (pyD d).depth ≤ 60) ∧ AllAlike (xs.map pyD) ∧ Sortable (xs.map pyD)
noncomputable def sortD (xs : List D) : List D := xs.mergeSort (dataLe false pyD)
open Classical in
noncomputable def dSorted : List D → Store → Option (D × Store)
  | [x], s => (seqOf s x).bind fun xs => if sortOk xs then some (.loc s.length, s ++ [.lst (sortD xs)]) else none
  | _, _ => none
theorem zip_map1 {K : PySem.W.Frag} {m : List Addr} {H : Hp} : ∀ {xs : List D} {vs : List V}, Reps K m H xs vs → (xs.zip vs).map Prod.fst = xs ∧ (xs.zip vs).map Prod.snd = vs ∧ ∀ b ∈ xs.zip vs, Rep K m H b.1 b.2
  | [], _, .nil => ⟨rfl, rfl, fun _ h => by cases h⟩
  | x :: xs, _, .cons h r => by
    obtain ⟨a, b, c⟩ := zip_map1 r
    exact ⟨by simp [a], by simp [b], fun z hz => by
      rcases List.mem_cons.mp hz with e | e
      · rw [e]; exact h
      · exact c z e⟩
theorem reps_map {K : PySem.W.Frag} {m : List Addr} {H : Hp} : ∀ {bs : List (D × V)}, (∀ b ∈ bs, Rep K m H b.1 b.2) → Reps K m H (bs.map Prod.fst) (bs.map Prod.snd)
  | [], _ => .nil
  | b :: bs, h => .cons (h b (by simp)) (reps_map fun z hz => h z (by simp [hz]))
theorem fns_sorted {K : PySem.W.Frag} : FnS K (rSortB K) dSorted := by
  intro mg W σ m H s xs ds Q r p g
  unfold dSorted at g
  split at g
  · obtain ⟨v, rfl, h⟩ := reps1 p
    rename_i x
    cases q : seqOf s x with
    | none => rw [q] at g; exact g.elim
    | some ys =>
      rw [q] at g
      simp only [Option.bind_some] at g
      split at g
      · rename_i ok
        have g' : G K mg (Rep K) W σ m H Q (.ok (.loc s.length) (s ++ [.lst (sortD ys)])) := g
        obtain ⟨a, vs, rfl, hq, rr⟩ := seqOf_sq r h q
        obtain ⟨z1, z2, z3⟩ := zip_map1 rr
        have e1 : ((ys.zip vs).map fun b => pyD b.1) = ys.map pyD := by
          conv => rhs; rw [← z1, List.map_map]
          rfl
        have z4 : ∀ b ∈ ys.zip vs, b.1 ∈ ys := fun b hb => by
          have := List.mem_map.mpr ⟨b, hb, (rfl : b.1 = b.1)⟩
          rw [z1] at this
          exact this
        refine ⟨a, ys.zip vs, rfl, by rw [z2]; exact hq, fun b hb => ?_, by rw [e1]; exact ok.2.1, by rw [e1]; exact ok.2.2, fun b hb => (ok.1 _ (z4 b hb)).2, fun l hl => ?_⟩
        · obtain ⟨w1, _⟩ := ok.1 _ (z4 b hb)
          obtain ⟨pd, hp⟩ := Option.isSome_iff_exists.mp w1
          have := py0_dp (z3 b hb) hp
          unfold pyD
          rw [hp]
          exact this
        · have e2 : sortD ys = ((ys.zip vs).mergeSort (dataLe false fun b => pyD b.1)).map Prod.fst := by
            rw [List.map_mergeSort (r := dataLe false fun b : D × V => pyD b.1) (s := dataLe false pyD) (fun _ _ _ _ => rfl), z1]
            rfl
          rw [e2] at g'
          refine g' (m ++ [l]) _ _ (le_more r hl) (rel_newlist r hl (reps_map fun b hb => z3 b ?_)) (.loc (len_get r))
          exact (List.mergeSort_perm _ _).mem_iff.mp hb
      · exact g.elim
  · exact g.elim
end Mi
namespace HT
open PySem PySem.Spec PyProof.Rows
section
variable {prog : Program} {w : World} {A : Around} {E : Value → Shared → Prop} {s : Shared}
theorem rev_pick (xs : Array Value) : ((List.range xs.size).filterMap fun (m : Nat) => xs[((xs.size : Int) - 1 + (m : Int) * (-1)).toNat]?).toArray = xs.toList.reverse.toArray := by
  have q := PySem.W.krv_pick xs
  unfold slicePick at q
  rw [PySem.W.krv_bounds] at q
  have q' : ((sliceRange ((xs.size : Int) - 1) (-1) (-1)).filterMap (xs[·]?)).toArray = xs.toList.reverse.toArray := q
  rw [PySem.W.krv_sliceRange, List.filterMap_map] at q'
  rw [← q']
  refine congrArg List.toArray (congrArg (fun f => List.filterMap f (List.range xs.size)) (funext fun m => ?_))
  show xs[_]? = xs[_]?
  refine congrArg (fun i : Nat => xs[i]?) ?_
  show ((xs.size : Int) - 1 + (m : Int) * (-1)).toNat = xs.size - 1 - m
  omega
theorem sliced_back {sl : Addr} {vl vu vs : Value} {n : Nat} {R : Int × Int × Nat → Shared → Prop} (hs : s.heap.IsSliceOf sl vl vu vs) (pl : IsPart vl none) (pu : IsPart vu none) (ps : IsPart vs (some (-1)))
    (q : R ((n : Int) - 1, -1, n) s) : wpAny (model prog w) A (Builtin.Slice.sliceApplied (.ref sl) (pure (n : Int))) R E s := by
  obtain ⟨os, hos, hcs, hds⟩ := id hs
  have e : Builtin.Slice.slicePlaces ((n : Int) - 1) (-1) (-1) = n := by
    unfold Builtin.Slice.slicePlaces
    rw [if_neg (by omega)]
    by_cases c : (n : Int) - 1 > -1
    · rw [if_pos c]
      simp
    · rw [if_neg c]
      omega
  unfold Builtin.Slice.sliceApplied Builtin.Slice.sliceFields
  refine wpAny_bind (wpAny_bind (wpAny_field hos hds (x := vl) rfl (wpAny_bind (wpAny_field hos hds (x := vu) rfl (wpAny_bind (wpAny_field hos hds (x := vs) rfl (wpAny_pure ?_)))))))
  refine wpAny_bind (slicePart_ ps ?_)
  show wpAny _ _ (if ((-1 : Int) == 0) = true then _ else _) _ _ s
  rw [if_neg (by decide)]
  refine wpAny_bind (slicePart_ pl (wpAny_bind (slicePart_ pu (wpAny_bind (wpAny_pure ?_)))))
  show wpAny _ _ (pure ((n : Int) - 1, (-1 : Int), Builtin.Slice.slicePlaces ((n : Int) - 1) (-1) (-1))) _ _ s
  rw [e]
  exact wpAny_pure q
theorem tup_back {t sl : Addr} {items : Array Value} {vl vu vs : Value} {R : Value → Shared → Prop} (ht : IsTup s.heap t items) (hs : s.heap.IsSliceOf sl vl vu vs) (pl : IsPart vl none) (pu : IsPart vu none) (ps : IsPart vs (some (-1)))
    (hz : items.size ≤ sizeLine) (h : R (.ref s.heap.objs.size) { s with heap := s.heap.push { cls := .type "tuple", data := .seq items.toList.reverse.toArray } }) : wpAny (model prog w) A (getItem (.ref t) (.ref sl)) R E s := by
  have room : sizeOk (.seq items.toList.reverse.toArray) := by
    show items.toList.reverse.toArray.size ≤ sizeLine
    rw [List.size_toArray, List.length_reverse]
    exact hz
  obtain ⟨os, hos, hcs, hds⟩ := id hs
  have hT : s.TypeIs (.ref sl) "slice" := ⟨os, hos, hcs⟩
  unfold getItem
  try with_reducible refine wpAny_holding ?_
  first | refine wpAny_bind (wpAny_pure ?_) | skip
  refine wpAny_bind (wpAny_sequenceKey ht.typeIs (by decide) ?_)
  refine wpAny_bind (wpAny_callSpecial?_slot (name := Str.ofString "__getitem__") ht.typeIs PyProof.Rows.slot_tuple_getitem (wpAny_call_entry PyProof.Rows.slot_tuple_getitem ht.typeIs entry_tuple_getitem ?_ (args_tuple_getitem _ _)))
  show wpAny _ _ (Builtin.Tuple.tupleItemsOf (.ref t) >>= _) _ _ s
  refine wpAny_bind (tupleItemsOf_ ht (wpAny_bind (wpAny_typeOf hT ?_)))
  rw [if_pos (by decide)]
  refine wpAny_bind (sliced_back hs pl pu ps ?_)
  show wpAny _ _ (if ((((items.size : Int) - 1) == 0 && (-1 : Int) == 1 && items.size == items.size) = true) then _ else _) _ _ s
  rw [if_neg (by simp), rev_pick]
  first
    | exact wpAny_bind (m := Builtin.Tuple.tupleExact _) (wpAny_newObj_type (wpAny_pure ⟨_, rfl, wpAny_pure h⟩) room)
    | exact wpAny_bind (m := Builtin.Tuple.tupleExact _) (wpAny_newObj_type (wpAny_bind (wpAny_pure (wpAny_pure ⟨_, rfl, wpAny_pure h⟩))) room)
    | exact wpAny_bind (wpAny_bind (m := Builtin.Tuple.tupleExact _) (wpAny_newObj_type (wpAny_pure (wpAny_pure ⟨_, rfl, wpAny_pure h⟩)) room))
    | exact wpAny_bind (wpAny_bind (m := Builtin.Tuple.tupleExact _) (wpAny_newObj_type (wpAny_pure ⟨_, rfl, wpAny_pure h⟩) room))
end
end HT
namespace Mi
open PySem PySem.Spec PyProof.Rows L2
/-- a[::-1], a list or a tuple -/
def tBack (K : PySem.W.Frag) (te : TE) : TE := fun σ H Q => te σ H fun x H1 => ∃ a xs, x = .ref a ∧ ((SqL K H1 a xs ∧ ∀ p, H1 p = none → Q (.ref p) (upd H1 p (.lst xs.reverse))) ∨ (SqT K H1 a xs ∧ NewT Q H1 xs.reverse))
theorem pe_back {X : Cx} {e : Expr} {te : TE} {k : Nat} {p1 p2 p3 pos : Pos} (he : PE X e te) : PE X (.Subscript e (.Slice none none (some (.UnaryOp .USub (.Constant (.int 1) k p1) p2)) p3) pos) (tBack X.K te) := by
  refine ⟨fun pins s σ H Q I h => Subscript_ (thn (he.run pins s σ H _ I h) fun v s1 ⟨x, H1, I1, r1, a, xs, ex, q⟩ => ?_)⟩
  subst ex
  cases r1
  have step : PO X (some (.UnaryOp .USub (.Constant (.int 1) k p1) p2)) (tPart (tUn (rU fun i => .int (-i)) (tC (.int 1)))) := po_some (pe_un un_neg pe_int)
  refine wpAny_Slice (thn (po_none.run pins s1 σ H1 (fun o H2 => o = none ∧ H2 = H1) I1 ⟨rfl, rfl⟩) fun vl s2 ⟨l, H2, I2, pl, el, e2⟩ => ?_)
  cases el
  cases e2
  refine thn (po_none.run pins s2 σ H1 (fun o H3 => o = none ∧ H3 = H1) I2 ⟨rfl, rfl⟩) fun vu s3 ⟨u, H3, I3, pu, eu, e3⟩ => ?_
  cases eu
  cases e3
  refine thn (step.run pins s3 σ H1 (fun o H4 => o = some (-1) ∧ H4 = H1) I3 ⟨1, rfl, -1, rfl, rfl, rfl⟩) fun vs s4 ⟨o, H4, I4, ps, eo, e4⟩ => ?_
  cases eo
  cases e4
  have I5 : Inv X pins σ H1 { s4 with heap := s4.heap.push { cls := .type "slice", data := .fields #[vl, vu, vs] } } := I4.kept (t' := s4.toks) fun b ob q => Heap.get?_push_of_some _ q
  show wpAny (model X.prog X.w) X.A (subscriptTail e (.Slice none none (some (.UnaryOp .USub (.Constant (.int 1) k p1) p2)) p3) (.ref a) (.ref s4.heap.objs.size)) (EP X pins σ Q) X.xe { s4 with heap := s4.heap.push { cls := .type "slice", data := .fields #[vl, vu, vs] } }
  rcases q with ⟨hx, q⟩ | ⟨hx, q⟩
  · obtain ⟨its, r, ht, hz⟩ := I5.list hx
    have hlen := r.length
    refine tail_any (ops := [.ref a, .ref s4.heap.objs.size]) ht.isList.typeIs (PySem.slot_list_getitem.lookup) ?_ (by with_unfolding_all rfl)
    refine wpAny_getItem_list_slice ht.isList (Heap.IsSliceOf.new _ vl vu vs) pl pu ps (by decide) ?_ (by rw [List.size_toArray]; omega)
    rw [PySem.W.krv_pick]
    refine ⟨.ref _, _, I5.laid (t' := s4.toks) (o := .lst xs.reverse) (fun b ob q => Heap.get?_push_of_some _ q) (Nat.le_refl _) ?_, rfl, q _ (I5.hok.fresh (Nat.le_refl _))⟩
    exact ⟨by rw [List.length_reverse]; exact hz, _, 0, r.reverse, Heap.get?_push_size _ rfl⟩
  · obtain ⟨its, r, ht, hz⟩ := I5.tuple hx
    have hlen := r.length
    refine tail_any (ops := [.ref a, .ref s4.heap.objs.size]) ht.typeIs (PyProof.Rows.slot_tuple_getitem.lookup) ?_ (by with_unfolding_all rfl)
    refine HT.tup_back ht (Heap.IsSliceOf.new _ vl vu vs) pl pu ps (by rw [List.size_toArray]; omega) ?_
    exact laidA I5 rfl r.reverse (by rw [List.length_reverse]; exact hz) q s4.toks
def dRev (x : D) (s : Store) : Option (D × Store) := match x with
  | .tup xs => some (.tup xs.reverse, s)
  | x => (lstOf s x).map fun xs => (.loc s.length, s ++ [.lst xs.reverse])
theorem Reps.rev {K : PySem.W.Frag} {m : List Addr} {H : Hp} {xs : List D} {vs : List V} (h : Reps K m H xs vs) : Reps K m H xs.reverse vs.reverse := by
  obtain ⟨a, b, c⟩ := zip_map1 h
  have q := reps_map (bs := (xs.zip vs).reverse) fun z hz => c z (List.mem_reverse.mp hz)
  rw [List.map_reverse, List.map_reverse, a, b] at q
  exact q
section
variable {X : Cx} {W : WX} {pos p1 p2 p3 : Pos} {k : Nat} {a : Expr} {fa : ME D}
theorem ce_back (ha : PE X a (Te X.K X.mg W fa)) : PE X (.Subscript a (.Slice none none (some (.UnaryOp .USub (.Constant (.int 1) k p1) p2)) p3) pos) (Te X.K X.mg W (e1 dRev fa)) :=
  PE.imp (pe_back ha) fun σ H Q h => Tm.bind (k := fun env x s => R.of (dRev x s)) h fun m1 H1 env x v s1 r1 E1 p g1 => by
    have gen : (∀ ys, x ≠ .tup ys) → ∃ a xs, v = .ref a ∧ ((SqL X.K H1 a xs ∧ ∀ p, H1 p = none → Q (.ref p) (upd H1 p (.lst xs.reverse))) ∨ (SqT X.K H1 a xs ∧ NewT Q H1 xs.reverse)) := by
      intro hn
      have e : dRev x s1 = (lstOf s1 x).map fun xs => (.loc s1.length, s1 ++ [.lst xs.reverse]) := by
        cases x <;> first | rfl | exact (hn _ rfl).elim
      rw [e] at g1
      cases q : lstOf s1 x with
      | none => rw [q] at g1; exact g1.elim
      | some xs =>
        rw [q] at g1
        have g2 : G X.K X.mg (Rep X.K) W σ m1 H1 Q (.ok (.loc s1.length) (s1 ++ [.lst xs.reverse])) := g1
        obtain ⟨a, vs, rfl, hq, rr⟩ := lstOf_sq r1 p q
        exact ⟨a, vs, rfl, .inl ⟨hq, fun l hl => g2 (m1 ++ [l]) _ _ (le_more r1 hl) (rel_newlist r1 hl rr.rev) (.loc (len_get r1))⟩⟩
    cases x with
    | tup xs =>
      obtain ⟨a, vs, rfl, hq, rr⟩ := p.sqT
      have g2 : G X.K X.mg (Rep X.K) W σ m1 H1 Q (.ok (.tup xs.reverse) s1) := g1
      exact ⟨a, vs, rfl, .inr ⟨hq, fun l o o1 o2 hl => g2 m1 _ _ (le_new hl) (r1.tmp hl) (rep_newtup o1 o2 hl rr.rev)⟩⟩
    | _ => exact gen (fun _ h => nomatch h)
end
end Mi
namespace Mi
open PySem PySem.Spec PyProof.Rows L2
section
variable {K : PySem.W.Frag}
theorem reps3 {m : List Addr} {H : Hp} {d e f : D} {xs : List V} (p : Reps K m H [d, e, f] xs) : ∃ u v w, xs = [u, v, w] ∧ Rep K m H d u ∧ Rep K m H e v ∧ Rep K m H f w := by
  cases p with
  | cons h r =>
    obtain ⟨v, w, rfl, h2, h3⟩ := reps2 r
    exact ⟨_, v, w, rfl, h, h2, h3⟩
/-! #### min, max of three -/
def dMax3 : List D → Store → Option (D × Store)
  | [.int i, .int j, .int k], s => some (.int (max (max i j) k), s)
  | _, _ => none
def dMin3 : List D → Store → Option (D × Store)
  | [.int i, .int j, .int k], s => some (.int (min (min i j) k), s)
  | _, _ => none
theorem nu_lt (i j : Int) : nuLt (.int i) (.int j) = some (decide (i < j)) := rfl
theorem nu_max (i j : Int) : nuMax2 (.int i) (.int j) = some (.int (max i j)) := by
  show (nuLt (.int i) (.int j)).map _ = _
  rw [nu_lt, Option.map_some]
  by_cases c : i < j
  · simp [c, Int.max_def, Int.le_of_lt c]
  · simp [c, Int.max_def]
    omega
theorem nu_min (i j : Int) : nuMin2 (.int i) (.int j) = some (.int (min i j)) := by
  show (nuLt (.int j) (.int i)).map _ = _
  rw [nu_lt, Option.map_some]
  by_cases c : j < i
  · simp [c, Int.min_def]
    omega
  · simp [c, Int.min_def]
theorem fns_max3 : FnS K (rNuC3 nuMax3) dMax3 := by
  intro mg W σ m H s xs ds Q r p g
  unfold dMax3 at g
  split at g
  · obtain ⟨u, v, w, rfl, h, h2, h3⟩ := reps3 p
    cases h; cases h2; cases h3
    exact ⟨_, _, _, _, rfl, by rw [nuMax3, nu_max, Option.bind_some, nu_max], g.now r (.int _)⟩
  · exact g.elim
theorem fns_min3 : FnS K (rNuC3 nuMin3) dMin3 := by
  intro mg W σ m H s xs ds Q r p g
  unfold dMin3 at g
  split at g
  · obtain ⟨u, v, w, rfl, h, h2, h3⟩ := reps3 p
    cases h; cases h2; cases h3
    exact ⟨_, _, _, _, rfl, by rw [nuMin3, nu_min, Option.bind_some, nu_min], g.now r (.int _)⟩
  · exact g.elim
/-! #### min, max of a list of ints -/
def dMaxL : List D → Store → Option (D × Store)
  | [x], s => (lstOf s x).bind fun xs => (intsOf xs).bind fun ns => ns.max?.map fun z => (.int z, s)
  | _, _ => none
def dMinL : List D → Store → Option (D × Store)
  | [x], s => (lstOf s x).bind fun xs => (intsOf xs).bind fun ns => ns.min?.map fun z => (.int z, s)
  | _, _ => none
theorem fns_maxL : FnS K (rMax K) dMaxL := by
  intro mg W σ m H s xs ds Q r p g
  unfold dMaxL at g
  split at g
  · obtain ⟨v, rfl, h⟩ := reps1 p
    rename_i x
    cases q : lstOf s x with
    | none => rw [q] at g; exact g.elim
    | some ys =>
      rw [q, Option.bind_some] at g
      cases q2 : intsOf ys with
      | none => rw [q2] at g; exact g.elim
      | some ns =>
        rw [q2, Option.bind_some] at g
        cases q3 : ns.max? with
        | none => rw [q3] at g; exact g.elim
        | some z =>
          rw [q3] at g
          obtain ⟨a, vs, rfl, hq, rr⟩ := lstOf_sq r h q
          rw [of_intsOf q2] at rr
          have e := rr.ints
          subst e
          obtain ⟨z1, z2⟩ := List.max?_eq_some_iff.mp q3
          refine ⟨a, ns, rfl, hq, List.length_pos_iff_exists_mem.mpr ⟨z, z1⟩, fun y h1 h2 => ?_⟩
          have e : y = z := Int.le_antisymm (z2 y h1) (h2 z z1)
          rw [e]
          exact G.now (d := D.int z) g r (.int _)
  · exact g.elim
theorem fns_minL : FnS K (rMin K) dMinL := by
  intro mg W σ m H s xs ds Q r p g
  unfold dMinL at g
  split at g
  · obtain ⟨v, rfl, h⟩ := reps1 p
    rename_i x
    cases q : lstOf s x with
    | none => rw [q] at g; exact g.elim
    | some ys =>
      rw [q, Option.bind_some] at g
      cases q2 : intsOf ys with
      | none => rw [q2] at g; exact g.elim
      | some ns =>
        rw [q2, Option.bind_some] at g
        cases q3 : ns.min? with
        | none => rw [q3] at g; exact g.elim
        | some z =>
          rw [q3] at g
          obtain ⟨a, vs, rfl, hq, rr⟩ := lstOf_sq r h q
          rw [of_intsOf q2] at rr
          have e := rr.ints
          subst e
          obtain ⟨z1, z2⟩ := List.min?_eq_some_iff.mp q3
          refine ⟨a, ns, rfl, hq, List.length_pos_iff_exists_mem.mpr ⟨z, z1⟩, fun y h1 h2 => ?_⟩
          have e : y = z := Int.le_antisymm (h2 z z1) (z2 y h1)
          rw [e]
          exact G.now (d := D.int z) g r (.int _)
  · exact g.elim
end
end Mi
namespace Mi
open PySem PySem.Spec PyProof.Rows L2
/-! ### a while by an invariant and a measure -/
theorem whileN_more {c : ME Bool} {b : MS} : ∀ {n : Nat} {env : Sl} {s : Store}, whileN c b n env s ≠ .no → whileN c b (n + 1) env s = whileN c b n env s := by
  intro n
  induction n with
  | zero => intro env s h; exact (h rfl).elim
  | succ n ih =>
    intro env s h
    unfold whileN at h ⊢
    cases e : c env s with
    | no => rfl
    | ex x s1 => rfl
    | ok k s1 =>
      rw [e] at h
      cases k with
      | false => rfl
      | true =>
        simp only [R.then, if_true] at h ⊢
        cases e2 : b env s1 with
        | nx env2 s2 => rw [e2] at h; exact ih h
        | ct env2 s2 => rw [e2] at h; exact ih h
        | bk env2 s2 => rfl
        | rt d s2 => rfl
        | ex x env2 s2 => rfl
        | no => rfl
theorem whileN_add {c : ME Bool} {b : MS} {n : Nat} {env : Sl} {s : Store} (h : whileN c b n env s ≠ .no) : ∀ k, whileN c b (n + k) env s = whileN c b n env s
  | 0 => rfl
  | k + 1 => by
    have q := whileN_add h k
    rw [← q] at h
    rw [← Nat.add_assoc, whileN_more h, q]
theorem whileN_one {c : ME Bool} {b : MS} {n m : Nat} {env : Sl} {s : Store} (h : whileN c b n env s ≠ .no) (h2 : whileN c b m env s ≠ .no) : whileN c b n env s = whileN c b m env s := by
  rw [← whileN_add h m, ← whileN_add h2 n, Nat.add_comm]
theorem sWhile_of {c : ME Bool} {b : MS} {n : Nat} {env : Sl} {s : Store} (h : whileN c b n env s ≠ .no) : sWhile c b env s = whileN c b n env s := by
  have z : ∃ n, whileN c b n env s ≠ .no := ⟨n, h⟩
  unfold sWhile
  rw [dif_pos z]
  exact whileN_one (Classical.choose_spec z) h
/-- one turn's promise -/
theorem while_rule {c : ME Bool} {b : MS} (I : Nat → Sl → Store → Prop) (Q : RS → Prop) (no : ¬ Q .no)
    (hs : ∀ n env s, I n env s → (∃ s', c env s = .ok false s' ∧ Q (.nx env s')) ∨ (∃ s', c env s = .ok true s' ∧ Turns (fun env s => ∃ m, m < n ∧ I m env s) Q (b env s'))) {n : Nat} {env : Sl} {s : Store} (h : I n env s) : Q (sWhile c b env s) := by
  have key : ∀ n env s, I n env s → ∃ k, Q (whileN c b k env s) := by
    intro n
    induction n using Nat.strongRecOn with
    | ind n ih =>
      intro env s h
      rcases hs n env s h with ⟨s', e, q⟩ | ⟨s', e, q⟩
      · refine ⟨1, ?_⟩
        unfold whileN
        rw [e]
        exact q
      · cases e2 : b env s' with
        | nx env2 s2 =>
          rw [e2] at q
          obtain ⟨m, hm, hi⟩ := q
          obtain ⟨k, hk⟩ := ih m hm env2 s2 hi
          refine ⟨k + 1, ?_⟩
          unfold whileN
          simp only [e, R.then, if_true, e2]
          exact hk
        | ct env2 s2 =>
          rw [e2] at q
          obtain ⟨m, hm, hi⟩ := q
          obtain ⟨k, hk⟩ := ih m hm env2 s2 hi
          refine ⟨k + 1, ?_⟩
          unfold whileN
          simp only [e, R.then, if_true, e2]
          exact hk
        | bk env2 s2 =>
          rw [e2] at q
          refine ⟨1, ?_⟩
          unfold whileN
          simp only [e, R.then, if_true, e2]
          exact q
        | rt d s2 =>
          rw [e2] at q
          refine ⟨1, ?_⟩
          unfold whileN
          simp only [e, R.then, if_true, e2]
          exact q
        | ex x env2 s2 =>
          rw [e2] at q
          refine ⟨1, ?_⟩
          unfold whileN
          simp only [e, R.then, if_true, e2]
          exact q
        | no => rw [e2] at q; exact q.elim
  obtain ⟨k, hk⟩ := key n env s h
  have nn : whileN c b k env s ≠ .no := fun e => no (e ▸ hk)
  rw [sWhile_of nn]
  exact hk
/-! ### name op= e -/
@[simp] theorem sAug_eq (i : Nat) (g : D → D → Store → Option (D × Store)) (e : ME D) (env : Sl) (s : Store) : sAug i g e env s = match env[i]? with
  | some (some x) => (e env s).then env fun y s => match g x y s with
    | some (z, s') => .nx (env.set i (some z)) s'
    | none => .no
  | _ => .no := rfl
@[simp] theorem dAddI_int (i j : Int) (s : Store) : dAddI (.int i) (.int j) s = some (.int (i + j), s) := rfl
/-! ### a value's truth -/
open Classical in
noncomputable def dTru (s : Store) : D → Option Bool
  | .non => some false
  | .bl b => some b
  | .int i => some (i != 0)
  | .str y => if y.length ≤ sizeLine then some ((y.length : Int) != 0) else none
  | .tup xs => some (!xs.isEmpty)
  | .fl xs => some (!xs.isEmpty)
  | .loc l => match s[l]? with
    | some (.lst xs) => some (!xs.isEmpty)
    | some (.dic ks) => some (!ks.isEmpty)
    | _ => none
  | .exv _ _ _ _ => none
  | .tuw _ => none
theorem reps_empty {K : PySem.W.Frag} {m : List Addr} {H : Hp} {xs : List D} {vs : List V} (h : Reps K m H xs vs) : xs.isEmpty = vs.isEmpty := by
  cases h <;> rfl
theorem repk_empty {K : PySem.W.Frag} {m : List Addr} {H : Hp} {xs : List (Key × D)} {vs : List (Key × V)} (h : RepK K m H xs vs) : xs.isEmpty = vs.isEmpty := by
  cases h <;> rfl
theorem dTru_ok {K : PySem.W.Frag} {m : List Addr} {H : Hp} {s : Store} (r : Rel K m H s) {d : D} {v : V} {k : Bool} (p : Rep K m H d v) (e : dTru s d = some k) : TruV K v H k := by
  cases p with
  | non => cases e; rfl
  | bl b => cases e; rfl
  | int i => cases e; rfl
  | str y =>
    by_cases hz : y.length ≤ sizeLine
    · simp only [dTru, if_pos hz] at e
      cases e
      exact ⟨hz, rfl⟩
    · simp only [dTru, if_neg hz] at e
      cases e
  | tup h q => have e' := Option.some.inj e; subst e'; exact .inr (.inl ⟨_, h.sq, by rw [reps_empty q]⟩)
  | fl h q => cases e; exact .inl ⟨_, h.sq, by rw [reps_empty q]⟩
  | @loc l a h =>
    unfold dTru at e
    cases q : s[l]? with
    | none => simp [q] at e
    | some c =>
      cases c with
      | lst xs =>
        simp only [q] at e
        cases e
        obtain ⟨vs, q1, p1⟩ := r.list h q
        exact .inl ⟨vs, .inl (.inl q1), by rw [reps_empty p1]⟩
      | dic ks =>
        simp only [q] at e
        cases e
        obtain ⟨ws, q1, p1⟩ := r.at_ l a _ h q
        exact .inr (.inr ⟨ws, q1, by rw [repk_empty p1]⟩)
      | dct _ => simp [q] at e
  | exv => cases e
  | tuw => cases e
noncomputable def tTru (a : ME D) : ME Bool := fun env s => (a env s).bind fun x s => match dTru s x with
  | some b => .ok b s
  | none => .no
section
variable {X : Cx} {W : WX} {a : Expr} {fa : ME D}
theorem ct_tru (ha : PE X a (Te X.K X.mg W fa)) (he : ∀ whole, isTrue a X.env whole = (do let v ← whole; standAt a.pos; holding [v] (truthy v)) := by intro _; rfl) : PT X a (Tt X.K X.mg W (tTru fa)) :=
  PT.imp (pt_truth ha he) fun σ H Q h => Tm.bind (k := fun _ x s => match dTru s x with | some b => R.ok b s | none => R.no) h fun m1 H1 env x v s1 r1 E1 p1 g1 => by
    cases q : dTru s1 x with
    | none => rw [q] at g1; exact g1.elim
    | some k => rw [q] at g1; exact ⟨k, dTru_ok r1 p1 q, g1.nowB r1⟩
end
@[simp] theorem tTru_eq (a : ME D) (env : Sl) (s : Store) : tTru a env s = (a env s).bind fun x s => match dTru s x with | some b => .ok b s | none => .no := rfl
@[simp] theorem dTru_bl (s : Store) (b : Bool) : dTru s (.bl b) = some b := rfl
@[simp] theorem dTru_non (s : Store) : dTru s .non = some false := rfl
@[simp] theorem dTru_tup (s : Store) (xs : List D) : dTru s (.tup xs) = some (!xs.isEmpty) := rfl
theorem dTru_loc {s : Store} {l : Nat} {xs : List D} (h : s[l]? = some (.lst xs)) : dTru s (.loc l) = some (!xs.isEmpty) := by simp [dTru, h]
/-! ### the last place -/
@[simp] theorem atI_neg1 (xs : List D) (y : D) : atI (xs ++ [y]) (-1) = some y := L2.atI_last xs y
theorem pList_last {s : Store} {l : Nat} {xs : List D} {y : D} (h : s[l]? = some (.lst (xs ++ [y]))) (z : D) : pList (.loc l) (.int (-1)) z s = some (s.set l (.lst (xs ++ [z]))) := by
  have e : ixN (xs ++ [y]).length (-1) = some xs.length := by
    unfold ixN
    simp
    omega
  have e' : ixN (xs.length + 1) (-1) = some xs.length := by simpa using e
  simp [pList, h]
  exact ⟨xs.length, e', by simp⟩
end Mi
namespace Mi
open PySem PySem.Spec PyProof.Rows L2
/-! ### raise C(e, ..), C with an __init__ that stores its parameters -/
def sRaise (c : Str) (ns : List Str) (a : ME (List D)) : MS := fun env s => (a env s).then env fun xs s => if xs.length = ns.length then .ex ⟨c, (ns.zip xs).reverse⟩ env s else .no
/-- what __init__(self, p) of one field leaves -/
def spI1 (C : Addr) (f : Str) : Sp := fun vs H Q _ => ∃ a y, vs = [.ref a, y] ∧ H a = some (exo a C none) ∧ ∀ dx, H dx = none → dx ≠ a → Q .non (upd (upd H dx (exd dx [(f, y)])) a (exo a C (some dx)))
def spI2 (C : Addr) (f g : Str) : Sp := fun vs H Q _ => ∃ a y z, vs = [.ref a, y, z] ∧ H a = some (exo a C none) ∧ ∀ dx, H dx = none → dx ≠ a → Q .non (upd (upd (upd H dx (exd dx [(f, y)])) a (exo a C (some dx))) dx (exd dx [(g, z), (f, y)]))
section
variable {P : Program} {w : World} {K : PySem.W.Frag} {mg : Str → Option Value} {base : Heap} {x qual : Str} {st : Stmt} {fi C : Addr} {fd : FuncData} {N ps : List Str} {f g : Str}
theorem okI1 (F : Fun K x qual st fi fd) (S : FnScope N ps (defScope st)) (hN : N.length = 2) (hn : ps.length = 2) (T : OexC K C) (no : PySem.W.findIn K (.ref C) f = some none)
    (hb : ∀ (cdv : Value) (A : Around) (outer : List Env) (s : Shared) (H : Hp) (E : XK), PSs (cxOf (L2.CX P w) P w K mg base N qual (defScope st) fi cdv A outer s H E) (defBody st) (tOst K f (tVar 0) (tVar 1))) : FnOk P w K mg base (L2.CX P w) 1 fi fd ps (spI1 C f) := by
  refine F.okX S (fun vs H Q E ⟨a, y, e, _⟩ => by rw [hn, e]; rfl) fun cdv A outer s H vs Q E hr ⟨a, y, e, ha, q⟩ => ⟨_, hb cdv A outer s H E, ?_⟩
  subst e
  match N, hN with
  | [n1, n2], _ => exact ⟨y, rfl, .ref a, rfl, a, C, rfl, T, no, .inl ⟨ha, fun dx h1 h2 => q dx h1 h2⟩⟩
theorem okI2 (F : Fun K x qual st fi fd) (S : FnScope N ps (defScope st)) (hN : N.length = 3) (hn : ps.length = 3) (T : OexC K C) (no : PySem.W.findIn K (.ref C) f = some none) (no2 : PySem.W.findIn K (.ref C) g = some none)
    (hb : ∀ (cdv : Value) (A : Around) (outer : List Env) (s : Shared) (H : Hp) (E : XK), PSs (cxOf (L2.CX P w) P w K mg base N qual (defScope st) fi cdv A outer s H E) (defBody st) (tSeq (tOst K f (tVar 0) (tVar 1)) (tOst K g (tVar 0) (tVar 2)))) : FnOk P w K mg base (L2.CX P w) 1 fi fd ps (spI2 C f g) := by
  refine F.okX S (fun vs H Q E ⟨a, y, z, e, _⟩ => by rw [hn, e]; rfl) fun cdv A outer s H vs Q E hr ⟨a, y, z, e, ha, q⟩ => ⟨_, hb cdv A outer s H E, ?_⟩
  subst e
  match N, hN with
  | [n1, n2, n3], _ =>
    refine ⟨y, rfl, .ref a, rfl, a, C, rfl, T, no, .inl ⟨ha, fun dx h1 h2 => ?_⟩⟩
    refine ⟨z, rfl, .ref a, rfl, a, C, rfl, T, no2, .inr ⟨dx, [(f, y)], upd_same, by rw [upd_ne h2]; exact upd_same, by simp, q dx h1 h2⟩⟩
theorem del_upd {H : Hp} {a d : Addr} {o1 o2 : HO} (ha : H a = none) (h : d ≠ a) (G : Hp) (hG : ∀ b, b ≠ a → b ≠ d → G b = H b) : upd (del G a) d o1 = upd H d o1 := by
  funext b
  by_cases e : b = d
  · rw [e, upd_same, upd_same]
  · rw [upd_ne e, upd_ne e]
    by_cases e2 : b = a
    · rw [e2, del_same, ha]
    · rw [del_ne e2, hG b e2 e]
end
section
variable {X : Cx} {W : WX} {c q : Str} {C fI : Addr} {fd : FuncData} {k : Nat} {f g x1 x2 x0 : Str} {p pos pos2 : Pos} {e e2 : Expr} {fs : ME (List D)}
theorem cs_raise1 (hc : X.calm = true) (tk : Takes X W) (gC : X.mg c = some (.ref C)) (T : OexC X.K C) (iC : PySem.W.findIn X.K (.ref C) "__init__" = some (some (.ref fI))) (tI : PySem.W.typeIn X.K (.ref fI) = some (.type "function"))
    (F : FnOk X.prog X.w X.K X.mg X.base (L2.CX X.prog X.w) 1 fI fd [x0, x1] (spI1 C f)) (hr : Room 2 X.A) (hb : Binds X.K fd [x0, x1] []) (hg : Gl X c) (ha : PA X [e] (Ta X.K X.mg W fs)) (hdb : (c == ("__debug__" : Str)) = false := by decide)
    (he : starEach [e] X.env = (false, eval e X.env) :: starEach [] X.env := by rfl) (hpl : (backTo pos (starEach [] X.env)).any (·.1) = false := by rfl) :
    PS X (.Raise (some (.Call (.Name c p) [e] [] pos)) none pos2) (Ts X.K X.mg W (sRaise c [f] fs)) :=
  PS.imp (ps_raise hc tk (pmk_oex (dvs := []) T iC tI F hr hb .nil (fun pins σ H s e s' I h => (cx_none h).elim) hg gC ha hdb he hpl)) fun Dn σ H h =>
    Ts.ofE (k := fun env (xs : List D) s => if xs.length = [f].length then RS.ex ⟨c, ([f].zip xs).reverse⟩ env s else .no) h fun m1 H1 env xs vs s1 r1 E1 p1 g1 => by
      split at g1
      · rename_i hl
        match xs, vs, p1, hl with
        | [x], [v], .cons pv .nil, _ =>
          refine ⟨by simp, fun a ha => ⟨a, v, rfl, upd_same, fun dx h1 h2 => ⟨rfl, dx, [(f, v)], upd_same, by rw [upd_ne h2]; exact upd_same, by rw [upd_ne h2] at h1; exact h1, ?_⟩⟩⟩
          have h1' : H1 dx = none := by rw [upd_ne h2] at h1; exact h1
          rw [del_upd (o2 := exo a C none) ha h2 _ fun b h3 h4 => by rw [upd_ne h3, upd_ne h4, upd_ne h3]]
          exact g1 m1 _ _ _ _ (le_new h1') (r1.tmp h1') (E1.mono (le_new h1')) ⟨gC, .inr ⟨dx, _, rfl, upd_same, r1.new_notin h1', .cons (pv.mono (le_new h1')) .nil⟩⟩
      · exact g1.elim
theorem cs_raise2 (hc : X.calm = true) (tk : Takes X W) (gC : X.mg c = some (.ref C)) (T : OexC X.K C) (iC : PySem.W.findIn X.K (.ref C) "__init__" = some (some (.ref fI))) (tI : PySem.W.typeIn X.K (.ref fI) = some (.type "function"))
    (F : FnOk X.prog X.w X.K X.mg X.base (L2.CX X.prog X.w) 1 fI fd [x0, x1, x2] (spI2 C f g)) (hr : Room 2 X.A) (hb : Binds X.K fd [x0, x1, x2] []) (hg : Gl X c) (ha : PA X [e, e2] (Ta X.K X.mg W fs)) (hdb : (c == ("__debug__" : Str)) = false := by decide)
    (he : starEach [e, e2] X.env = (false, eval e X.env) :: starEach [e2] X.env := by rfl) (hpl : (backTo pos (starEach [e2] X.env)).any (·.1) = false := by rfl) :
    PS X (.Raise (some (.Call (.Name c p) [e, e2] [] pos)) none pos2) (Ts X.K X.mg W (sRaise c [f, g] fs)) :=
  PS.imp (ps_raise hc tk (pmk_oex (dvs := []) T iC tI F hr hb .nil (fun pins σ H s e s' I h => (cx_none h).elim) hg gC ha hdb he hpl)) fun Dn σ H h =>
    Ts.ofE (k := fun env (xs : List D) s => if xs.length = [f, g].length then RS.ex ⟨c, ([f, g].zip xs).reverse⟩ env s else .no) h fun m1 H1 env xs vs s1 r1 E1 p1 g1 => by
      split at g1
      · rename_i hl
        match xs, vs, p1, hl with
        | [x, y], [v, z], .cons pv (.cons pz .nil), _ =>
          refine ⟨by simp, fun a ha => ⟨a, v, z, rfl, upd_same, fun dx h1 h2 => ⟨rfl, dx, [(g, z), (f, v)], by rw [upd_ne (Ne.symm h2)]; exact upd_same, upd_same, by rw [upd_ne h2] at h1; exact h1, ?_⟩⟩⟩
          have h1' : H1 dx = none := by rw [upd_ne h2] at h1; exact h1
          rw [del_upd (o2 := exo a C none) ha h2 _ fun b h3 h4 => by rw [upd_ne h4, upd_ne h3, upd_ne h4, upd_ne h3]]
          exact g1 m1 _ _ _ _ (le_new h1') (r1.tmp h1') (E1.mono (le_new h1')) ⟨gC, .inr ⟨dx, _, rfl, upd_same, r1.new_notin h1', .cons (pz.mono (le_new h1')) (.cons (pv.mono (le_new h1')) .nil)⟩⟩
      · exact g1.elim
end
/-! ### n.f of the exception that a suite holds -/
def eFld (g : Nat × Nat) (i : Nat) (f : Str) : ME D := fun env s => match env[i]? with
  | some (some (.exv a dd _ fs)) => if a = g.1 ∧ dd = g.2 then (match fs.lookup f with
    | some d => .ok d s
    | none => .no) else .no
  | _ => .no
theorem fld_lookup {K : PySem.W.Frag} {m : List Addr} {H : Hp} {f : Str} : ∀ {fs : List (Str × D)} {vfs : List (Str × V)} {d : D}, FldR K m H fs vfs → fs.lookup f = some d → ∃ v, vfs.lookup f = some v ∧ Rep K m H d v
  | _, _, _, .nil, e => by cases e
  | (h, x) :: fs, (_, v) :: vfs, d, .cons p r, e => by
    by_cases c : f = h
    · subst c
      simp [List.lookup] at e ⊢
      subst e
      exact p
    · have c' : (f == h) = false := by simpa using c
      simp only [List.lookup, c'] at e ⊢
      exact fld_lookup r e
section
variable {X : Cx} {W : WX} {a : Addr} {oe : Obj} {cls : Value} {d : Option Addr} {pn : List (Addr × Obj)} {pos p : Pos} {n f : Str} {i : Nat} {g : Nat × Nat}
theorem ce_fld (hX : ∃ C, cls = .ref C ∧ XfC X.K C ∧ PySem.W.findIn X.K (.ref C) f = some none) (hz : Zc cls d oe) (hf : ∃ vs, oe.data = .fields vs) (g1 : g.1 = a) (g2 : d = some g.2)
    (he : PE (X.suite a ((a, oe) :: pn)) (.Name n p) (tVar i)) (hb : attributeBase (.Name n p) f X.env (eval (.Name n p) X.env) = eval (.Name n p) X.env := by rfl) :
    PE (X.suite a ((a, oe) :: pn)) (.Attribute (.Name n p) f pos) (Te X.K X.mg W (eFld g i f)) := by
  obtain ⟨C, ec, T, hno⟩ := hX
  refine PE.imp (pe_xf T hno hz hf he hb) fun σ H Q ⟨m, env, s, r, E, q⟩ => ?_
  unfold eFld at q
  cases e1 : env[i]? with
  | none => rw [e1] at q; exact q.elim
  | some o =>
    cases o with
    | none => rw [e1] at q; exact q.elim
    | some x =>
      rw [e1] at q
      cases x with
      | exv a' dd c fs =>
        simp only at q
        split at q
        · rename_i hh
          obtain ⟨h1, h2⟩ := hh
          cases e2 : fs.lookup f with
          | none => rw [e2] at q; exact q.elim
          | some dv =>
            rw [e2] at q
            obtain ⟨v, hv, pr⟩ := E.2 i _ e1
            cases pr with
            | exv h n' rf =>
              obtain ⟨u, hu, pu⟩ := fld_lookup rf e2
              refine ⟨_, hv, by rw [h1, g1], ec, g.2, _, u, g2, by rw [← h2]; exact h, hu, ?_⟩
              exact G.now q r pu
        · exact q.elim
      | _ => exact q.elim
end
/-! ### try: body except x as n: suite -/
def clr (i : Nat) : RS → RS
  | .nx env s => .nx (env.set i none) s
  | .bk env s => .bk (env.set i none) s
  | .ct env s => .ct (env.set i none) s
  | .rt d s => .rt d s
  | .ex _ _ _ => .no
  | .no => .no
open Classical in
noncomputable def sTryAs (i : Nat) (cs : List Str) (body : MS) (suite : Nat × Nat → MS) : MS := fun env s => match body env s with
  | .ex e env2 s2 => if e.cls ∈ cs ∧ e.fs ≠ [] ∧ ∀ g : Nat × Nat, clr i (suite g (env2.set i (some (.exv g.1 g.2 e.cls e.fs))) s2) = clr i (suite (0, 0) (env2.set i (some (.exv 0 0 e.cls e.fs))) s2)
    then clr i (suite (0, 0) (env2.set i (some (.exv 0 0 e.cls e.fs))) s2) else .no
  | r => r
theorem relE_clr {K : PySem.W.Frag} {m : List Addr} {H : Hp} {env : Sl} {σ : L2.St} (E : RelE K m H env σ) (i : Nat) : RelE K m H (env.set i none) (σ.set i none) := by
  refine ⟨by simp [E.1], fun j d h => ?_⟩
  by_cases c : i = j
  · subst c
    rw [List.getElem?_set] at h
    by_cases q : i < env.length
    · rw [if_pos rfl, if_pos q] at h; cases h
    · rw [if_pos rfl, if_neg q] at h; cases h
  · rw [List.getElem?_set_ne c] at h ⊢
    exact E.2 j d h
theorem gs_clr {K : PySem.W.Frag} {mg : Str → Option Value} {W W2 : WX} {Dn : Ends} {m : List Addr} {H : Hp} {i : Nat} {r : RS} (h : GS K mg W Dn m H (clr i r)) :
    GS K mg W2 { nx := fun σ' H' => Dn.nx (σ'.set i none) H', rt := Dn.rt, bk := fun σ' H' => Dn.bk (σ'.set i none) H', ct := fun σ' H' => Dn.ct (σ'.set i none) H' } m H r := by
  cases r with
  | nx env s => exact fun m' σ' H' l r E => h m' _ H' l r (relE_clr E i)
  | bk env s => exact fun m' σ' H' l r E => h m' _ H' l r (relE_clr E i)
  | ct env s => exact fun m' σ' H' l r E => h m' _ H' l r (relE_clr E i)
  | rt d s => exact h
  | ex e env s => exact h.elim
  | no => exact h.elim
section
variable {X : Cx} {W : WX} {x n : Str} {c : Value} {i : Nat} {body suite : List Stmt} {b₀ : Stmt} {np pos pos' : Pos} {fb : MS} {fs : Nat × Nat → MS} {cs : List Str}
theorem cs_tryAs (hs : X.stack = X.env :: X.outer) (hf : X.env.frame = some X.env.locals) (hN : X.N.Nodup) (hi : X.N[i]? = some n) (hln : X.env.kindOf n = some .local) (hc : Names X x c) (tk : Takes X W)
    (hcs : ∀ k ∈ cs, ∀ cls, X.mg k = some cls → PySem.W.exmOne X.K cls c = some true)
    (hb : ∀ (W : WX) (pn : List (Addr × Obj)) (xe : Value → Shared → Prop), Takes (X.tr pn xe) W → PSs (X.tr pn xe) body (Ts X.K X.mg W fb))
    (hsu : ∀ (a : Addr) (oe : Obj) (cls : Value) (d : Option Addr) (pn : List (Addr × Obj)) (g : Nat × Nat) (k : Str), Zc cls d oe → (∃ vs, oe.data = .fields vs) → g.1 = a → d = some g.2 → k ∈ cs → X.mg k = some cls →
      PSs (X.suite a ((a, oe) :: pn)) (b₀ :: suite) (Ts X.K X.mg (fun _ _ _ _ => False) (fs g))) :
    PS X (.Try body [.ExceptHandler (some (.Name x np)) (some n) (b₀ :: suite) pos'] [] [] pos) (Ts X.K X.mg W (sTryAs i cs fb fs)) :=
  PS.imp (ps_try_as (i := i) (tb := fun W => Ts X.K X.mg W fb) (ts := fun a cls d => fun Dn σ H => ∃ (g : Nat × Nat) (k : Str), g.1 = a ∧ d = some g.2 ∧ k ∈ cs ∧ X.mg k = some cls ∧ Ts X.K X.mg (fun _ _ _ _ => False) (fs g) Dn σ H) (Wout := W) hs hf hN hi hln hc tk
    (fun W pn xe tk _ => hb W pn xe tk) (fun a oe cls d pn hz hf => ⟨fun pins s σ H Dn I ⟨g, k, h1, h2, h3, h4, h⟩ => (hsu a oe cls d pn g k hz hf h1 h2 h3 h4).run pins s σ H Dn I h⟩)) fun Dn σ H ⟨m, env, s, r, E, q⟩ => by
    refine ⟨m, env, s, r, E, ?_⟩
    unfold sTryAs at q
    cases e : fb env s with
    | ex ex env2 s2 =>
      rw [e] at q
      simp only at q
      split at q
      · rename_i hh
        obtain ⟨h1, h2, h3⟩ := hh
        intro m' σ' H' cv dd l r' E' xr
        obtain ⟨gk, hx⟩ := xr
        rcases hx with ⟨z, _⟩ | ⟨da, vfs, ed, hd, nd, rf⟩
        · exact (h2 z).elim
        · refine ⟨true, hcs _ h1 _ gk, fun _ a ha => ⟨(a, da), ex.cls, rfl, ed, h1, gk, m', _, s2, r', relE_set E' (.exv hd nd rf : Rep X.K m' H' (.exv a da ex.cls ex.fs) (.ref a)) i, ?_⟩, fun z => Bool.noConfusion z⟩
          rw [← h3 (a, da)] at q
          exact gs_clr (GS.mono l q)
      · exact q.elim
    | nx env2 s2 => rw [e] at q; exact q
    | rt d s2 => rw [e] at q; exact q
    | bk env2 s2 => rw [e] at q; exact q
    | ct env2 s2 => rw [e] at q; exact q
    | no => rw [e] at q; exact q.elim
end
/-! ### words for printed texts -/
def clsBody : Stmt → List Stmt
  | .ClassDef (body := b) .. => b
  | _ => []
section
variable {K : PySem.W.Frag} {mg : Str → Option Value} {c f k : Str} {C : Addr} {cls : Value}
theorem hcs1 (g : mg c = some (.ref C)) (te : PySem.W.exmOne K (.ref C) (.ref C) = some true) : ∀ k ∈ [c], ∀ cls, mg k = some cls → PySem.W.exmOne K cls (.ref C) = some true := fun k hk cls e => by
  rw [List.mem_singleton.mp hk, g] at e
  cases e
  exact te
theorem hxf1 (g : mg c = some (.ref C)) (xf : XfC K C) (no : PySem.W.findIn K (.ref C) f = some none) (h3 : k ∈ [c]) (h4 : mg k = some cls) : ∃ C, cls = .ref C ∧ XfC K C ∧ PySem.W.findIn K (.ref C) f = some none := by
  rw [List.mem_singleton.mp h3, g] at h4
  cases h4
  exact ⟨C, rfl, xf, no⟩
theorem exm_own (h1 : PySem.W.subIn K (.ref C) (.type "BaseException") = some true) (h2 : PySem.W.isClsIn K C = true) (h3 : PySem.W.typeIn K (.ref C) = some (.type "type")) (h4 : PySem.W.subIn K (.ref C) (.ref C) = some true) : PySem.W.exmOne K (.ref C) (.ref C) = some true := by
  have z1 : (PySem.W.subIn K (.ref C) (.type "BaseException") == some true) = true := by rw [h1] <;> rfl
  have z2 : (PySem.W.clsIn K C).isSome = true := h2
  have z3 : ((PySem.W.clsIn K C).isSome && PySem.W.typeIn K (.ref C) == some (.type "type")) = true := by rw [z2, h3] <;> rfl
  have q : (if (PySem.W.subIn K (.ref C) (.type "BaseException") == some true) = true then (if ((PySem.W.clsIn K C).isSome && PySem.W.typeIn K (.ref C) == some (.type "type")) = true then PySem.W.subIn K (.ref C) (.ref C) else none) else none) = some true := by
    rw [if_pos z1, if_pos z3, h4]
  exact q
end
end Mi
namespace Mi
open PySem PySem.Spec PyProof.Rows L2
/-! ### enumerate of a tuple -/
theorem enum_made {v : Value} {o : Obj} {Hh : Heap → Prop} (B : Begins v o Hh) :
    Meets (Builtin.«enumerate.__new__» ⟨[.type "enumerate", v], []⟩) (fun _ R s => Hh s.heap ∧
      R (.ok (.ret (.ref (s.heap.push o).objs.size))) { s with heap := (s.heap.push o).push { cls := .type "enumerate", data := .fields #[.none, .bool false, .ref s.heap.objs.size, rawInt 0, .none, .none] } }) :=
  .of_wp fun prog w A R s h => by
    obtain ⟨hp, g, d, tk, os⟩ := s
    obtain ⟨h1, h⟩ := h
    have hsub := sub_enumerate
    have it : ∀ {A' : Around} {E : Value → Shared → Prop} {Q : Value → Shared → Prop}, Q (.ref hp.objs.size) ⟨hp.push o, g, d, tk, os⟩ → wpAny (model prog w) A' (pyIter v) Q E ⟨hp, g, d, tk, os⟩ := fun q => B.iter prog w _ _ ⟨hp, g, d, tk, os⟩ _ h1 q
    wp_walk using it
    refine wpAny_stack_any fun st => wpAny_pure ?_
    split
    · rename_i c _ _ _ _ _
      cases (c == Value.type "enumerate")
      · wp_walk using it
        exact ⟨_, rfl, h⟩
      · wp_walk using it
        exact ⟨_, rfl, h⟩
    · wp_walk using it
      exact ⟨_, rfl, h⟩
section
variable {prog : Program} {w : World} {A : Around} {E : Value → Shared → Prop} {s : Shared}
theorem enum_call {v : Value} {o : Obj} {Hh : Heap → Prop} {R : Value → Shared → Prop} (B : Begins v o Hh) (h1 : Hh s.heap)
    (q : ∀ h', IsEnum h' (s.heap.objs.size + 1) s.heap.objs.size 0 .none → h'.get? s.heap.objs.size = some o → (∀ b o, s.heap.get? b = some o → h'.get? b = some o) → R (.ref (s.heap.objs.size + 1)) { s with heap := h' }) :
    wpAny (model prog w) A (call (.type "enumerate") [v]) R E s := by
  refine callType_new F.called_enumerate (by decide) (F.typeCall_enumerate_1 _) (F.newCall_enumerate_1 _) (fun obj => F.args_object_init_2 obj _) F.entry_enumerate_new (enum_made B) ⟨h1, ?_⟩
  have hz : (s.heap.push o).objs.size = s.heap.objs.size + 1 := Heap.size_push ..
  show _ ∧ _
  rw [hz]
  have he : IsEnum ((s.heap.push o).push { cls := .type "enumerate", data := .fields #[.none, .bool false, .ref s.heap.objs.size, rawInt 0, .none, .none] }) (s.heap.objs.size + 1) s.heap.objs.size 0 .none := by
    have := Heap.get?_push_size (s.heap.push o) (o := { cls := .type "enumerate", data := .fields #[.none, .bool false, .ref s.heap.objs.size, rawInt 0, .none, .none] }) rfl
    rw [hz] at this
    exact this
  exact ⟨⟨_, he, rfl⟩, q _ he (Heap.get?_push_of_some _ (Heap.get?_push_size _ B.free)) fun b o x => Heap.get?_push_of_some _ (Heap.get?_push_of_some _ x)⟩
end
def Itu (K : PySem.W.Frag) (a : Addr) : It :=
  ⟨fun i H => ∃ (xs : List V) (x : V), SqT K H a xs ∧ xs[i]? = some x, fun i H v H' => ∃ T x, v = .ref T ∧ H T = none ∧ H' = upd H T (.tup [.int (i : Nat), x]) ∧ ∀ xs, SqT K H a xs → xs[i]? = some x, fun i H => ∃ xs : List V, SqT K H a xs ∧ xs.length = i⟩
theorem turn_enumT {P : Program} {w : World} {K : PySem.W.Frag} {elts : List Expr} {kk : Nat} {tpos : Pos} (a e it : Addr) :
    Turn P w K (.Tuple elts kk tpos) (Itu K a) [e, it] e (fun i h => (∃ old, IsEnum h e it ((i : Nat) : Int) old) ∧ h.IsTupleIter it a i ∧ e ≠ it) where
  mem := by simp
  obj := fun i h st b hb => by
    obtain ⟨⟨old, he⟩, ⟨o, ho, hc, hd⟩, _⟩ := st
    rcases (by simpa using hb : b = e ∨ b = it) with z | z
    · rw [z]; exact ⟨_, he, fun v q => nomatch q⟩
    · rw [z]; exact ⟨o, ho, fun v q => by rw [hd] at q; cases q⟩
  keep := fun i h h' st k => let ⟨⟨old, he⟩, hi, hne⟩ := st; ⟨⟨old, k e (by simp) _ he⟩, hi.at fun o q => k it (by simp) o q, hne⟩
  item := by
    intro X hP hw hK hc i pins s σ H E I hf st hg
    subst hP hw hK
    obtain ⟨⟨old, he⟩, hit, hne⟩ := st
    obtain ⟨xs, x, hq, hx⟩ := hg
    obtain ⟨its, rv, p, hz⟩ := I.tuple hq
    obtain ⟨u, hu, ru⟩ := rv.get hx
    have hel : e < s.heap.objs.size := Heap.lt_size he
    have hil : it < s.heap.objs.size := by obtain ⟨_, q, _⟩ := hit; exact Heap.lt_size q
    have ait : a ≠ it := fun z => by
      obtain ⟨o1, q1, c1, _⟩ := p
      obtain ⟨o2, q2, c2, _⟩ := hit
      rw [z] at q1
      rw [q1] at q2
      cases q2
      rw [c1] at c2
      exact absurd (Value.type.inj c2) (by decide)
    have ea : e ≠ a := fun z => by
      obtain ⟨o1, q1, c1, _⟩ := p
      have he' := he
      unfold IsEnum at he'
      rw [z, q1] at he'
      cases he'
      exact absurd (Value.type.inj c1) (by decide)
    refine wpAny_pyNext_enum_itemD (Draws.tuple (A := X.A.in1) (I.ok.hd hc) it a ait its.toArray) he ⟨hit, p⟩ (by have := (List.getElem?_eq_some_iff.mp hu).1; simpa using this) hne (by simp [hne, ea]) fun x' h' tk hP ho hst' hT hsz hk => ?_
    have ex : x' = u := by
      have hP' : its.toArray[i]? = some x' := hP
      rw [List.getElem?_toArray, hu] at hP'
      cases hP'
      rfl
    subst ex
    refine ⟨_, rfl, wpAny_letOwnedTupleGo_enum (s := { s with heap := h', toks := tk + 1 }) ho fun h'' he' sb => ?_⟩
    have hT2 : h''.get? s.heap.objs.size = some { cls := .type "tuple", data := .seq #[.int i tk, x'] } := (sb.2 _ (Nat.ne_of_gt hel)).trans hT
    have new : ObjOk X.prog X.w (upd H s.heap.objs.size (.tup [.int (i : Nat), x])) h'' s.heap.objs.size (.tup [.int (i : Nat), x]) :=
      ⟨by show 2 ≤ sizeLine; decide, [.int i tk, x'], .cons ⟨_, rfl⟩ (.cons ru .nil), ⟨_, hT2, rfl, _, rfl⟩⟩
    have I1 : Inv X pins σ (upd H s.heap.objs.size (.tup [.int (i : Nat), x])) { s with heap := h'', toks := tk + 1 } :=
      I.turnedNew (ch := [e, it]) (fun b ob hb q => (sb.2 b (fun z => hb (by simp [z]))).trans (hk b ob (fun z => hb (by simp [z])) (fun z => hb (by simp [z])) q)) hf (Nat.le_refl _) new
    refine ⟨.ref s.heap.objs.size, _, I1, rfl, ⟨_, x, rfl, I.hok.fresh (Nat.le_refl _), rfl, fun ys hy => by rw [I.tuple_inj hy hq]; exact hx⟩, ⟨⟨x', ?_⟩, hst'.1.at fun o q => (sb.2 it (Ne.symm hne)).trans q, hne⟩, fun b hb => ?_⟩
    · have e1 : ((i + 1 : Nat) : Int) = (i : Int) + 1 := by omega
      rw [e1]; exact he'
    · have hb' : b < s.heap.objs.size := by
        rcases (by simpa using hb : b = e ∨ b = it) with z | z
        · rw [z]; exact hel
        · rw [z]; exact hil
      rw [upd_ne (Nat.ne_of_lt hb')]
      exact (hf b hb).1
  done := by
    intro X hP hw hK hc i pins s σ H E I hf st hg
    subst hP hw hK
    obtain ⟨⟨old, he⟩, hit, hne⟩ := st
    obtain ⟨xs, hq, hx⟩ := hg
    obtain ⟨its, rv, p, hz⟩ := I.tuple hq
    obtain ⟨f0, f1, f2, f3, f4, f5⟩ := hf it (by simp)
    have hl := rv.length
    have ait : a ≠ it := fun z => by
      obtain ⟨o1, q1, c1, _⟩ := p
      obtain ⟨o2, q2, c2, _⟩ := hit
      rw [z] at q1
      rw [q1] at q2
      cases q2
      rw [c1] at c2
      exact absurd (Value.type.inj c2) (by decide)
    have en : its.toArray.size = i := by rw [List.size_toArray]; omega
    exact wpAny_pyNext_enum_endD (Draws.tuple (A := X.A.in1) (I.ok.hd hc) it a ait its.toArray) he ⟨by rw [en]; exact hit, p⟩ fun h' eb => ⟨rfl, I.turned (t' := s.toks) (fun b o hb q => eb b o hb q) f0 f1 f3 f4 f5⟩
  self := fun A i s Q E st h => let ⟨⟨_, he⟩, _⟩ := st; wpAny_pyIter_enum he h
/-- enumerate(x), x a list or a tuple -/
def iEnumA (K : PySem.W.Frag) (ta : TA) : TI := fun σ H R => ta σ H fun vs H1 => ∃ a, vs = [.ref a] ∧ (((∃ xs, SqL K H1 a xs) ∧ R (Ite K a) H1) ∨ ((∃ xs, SqT K H1 a xs) ∧ R (Itu K a) H1))
theorem pi_enumA {X : Cx} {e : Expr} {ta : TA} {p pos tpos : Pos} {elts : List Expr} {kk : Nat} (hg : Gl X "enumerate") (hm : X.mg "enumerate" = none) (ha : PA X [e] ta) (hs : starEach [e] X.env = [(false, eval e X.env)] := by rfl) :
    PI X (.Tuple elts kk tpos) (.Call (.Name "enumerate" p) [e] [] pos) (iEnumA X.K ta) := by
  refine ⟨fun pins s σ H R I h => ?_⟩
  refine Call_ (ld_blt I hg hm boot_enumerate (PyProof.Rows.callWith_type1 (thn (ha.run pos pins s σ H _ I h) fun us s1 ⟨vs, H1, I1, r1, a, ex, q1⟩ => ?_) hs rfl))
  subst ex
  cases r1 with
  | cons r rr =>
    cases rr
    cases r
    have fp : ∀ b ∈ [s1.heap.objs.size + 1, s1.heap.objs.size], FpOk X pins H1 b := fun b hb => by
      have hle : s1.heap.objs.size ≤ b := by
        rcases (by simpa using hb : b = s1.heap.objs.size + 1 ∨ b = s1.heap.objs.size) with z | z
        · rw [z]; exact Nat.le_add_right _ _
        · rw [z]; exact Nat.le_refl _
      exact I1.fpOk hle (I1.hok.fresh hle)
    rcases q1 with ⟨⟨xs, hq⟩, q⟩ | ⟨⟨xs, hq⟩, q⟩
    · obtain ⟨its, rv, p', hz⟩ := I1.list hq
      refine call_enumerate_list p'.isList fun h' he hit hsz hk => wpAny_pyIter_enum he ?_
      exact ⟨s1.heap.objs.size + 1, [s1.heap.objs.size + 1, s1.heap.objs.size], _, _, H1, rfl, I1.kept (t' := s1.toks) hk, turn_enum a (s1.heap.objs.size + 1) s1.heap.objs.size, ⟨⟨.none, he⟩, hit, Nat.succ_ne_self _⟩, fp, q⟩
    · obtain ⟨its, rv, p', hz⟩ := I1.tuple hq
      refine enum_call (begins_tuple a its.toArray) p' fun h' he hit hk => wpAny_pyIter_enum he ?_
      exact ⟨s1.heap.objs.size + 1, [s1.heap.objs.size + 1, s1.heap.objs.size], _, _, H1, rfl, I1.kept (t' := s1.toks) hk, turn_enumT a (s1.heap.objs.size + 1) s1.heap.objs.size, ⟨⟨.none, he⟩, ⟨_, hit, rfl, rfl⟩, Nat.succ_ne_self _⟩, fp, q⟩
/-! ### its mirror -/
def enm (xs : List D) : List D := xs.mapIdx fun i x => .tuw [.int (i : Nat), x]
theorem enm_len (xs : List D) : (enm xs).length = xs.length := by simp [enm]
theorem enm_get {xs : List D} {i : Nat} {d : D} (h : (enm xs)[i]? = some d) : ∃ x, xs[i]? = some x ∧ d = .tuw [.int (i : Nat), x] := by
  unfold enm at h
  rw [List.getElem?_mapIdx] at h
  cases e : xs[i]? with
  | none => rw [e] at h; cases h
  | some x => rw [e] at h; cases h; exact ⟨x, rfl, rfl⟩
def iEnm (a : ME (List D)) : ME Itm := fun env s => (a env s).bind fun x s => match x with
  | [.tup xs] => .ok (Itm.mk (enm xs) always) s
  | [.fl xs] => .ok (Itm.mk (enm xs) always) s
  | [.loc l] => match s[l]? with
    | some (.lst xs) => .ok (Itm.mk (enm xs) (fun s2 => s2[l]? = some (.lst xs))) s
    | _ => .no
  | _ => .no
section
variable {K : PySem.W.Frag} {m : List Addr} {H : Hp}
theorem enm_turn {m2 : List Addr} {H2 H3 : Hp} {s2 : Store} {v : V} {i : Nat} {x : D} {xs : List D} {vs : List V} (r2 : Rel K m2 H2 s2) (h : Reps K m2 H2 xs vs) (e : xs[i]? = some x) {T : Addr} {y : V} (ev : v = .ref T) (hT : H2 T = none) (h3 : H3 = upd H2 T (.tup [.int (i : Nat), y])) (hy : vs[i]? = some y) :
    Le K m2 H2 m2 H3 ∧ Rel K m2 H3 s2 ∧ Rep K m2 H3 (.tuw [.int (i : Nat), x]) v := by
  subst ev h3
  obtain ⟨w, hw, rw'⟩ := h.get e
  rw [hy] at hw
  cases hw
  exact ⟨le_new hT, r2.tmp hT, rep_newtuw hT (.cons (.int _) (.cons rw' .nil))⟩
theorem itr_enumL {l : Nat} {xs : List D} {a : Addr} (h : m[l]? = some a) : ItR K m H ⟨enm xs, fun s2 => s2[l]? = some (.lst xs)⟩ (Ite K a) := fun m2 H2 s2 l2 r2 g => by
  have g' : s2[l]? = some (.lst xs) := g
  obtain ⟨vs, h1, h2⟩ := r2.list (l2.get h) g'
  have hq : SqL K H2 a vs := .inl (.inl h1)
  refine ⟨fun i d e => ?_, ⟨vs, hq, by rw [← h2.length]; exact Nat.le_of_eq (enm_len xs).symm⟩⟩
  obtain ⟨x, hx, rfl⟩ := enm_get e
  obtain ⟨v, hv, rv⟩ := h2.get hx
  refine ⟨⟨vs, v, hq, hv⟩, fun w H3 y => ?_⟩
  obtain ⟨T, z, ev, hT, h3, y⟩ := y
  exact enm_turn r2 h2 hx ev hT h3 (y vs hq)
theorem itr_enumF {xs : List D} {vs : List V} {a : Addr} (h : FrL K H a vs) (p : Reps K m H xs vs) : ItR K m H ⟨enm xs, always⟩ (Ite K a) := fun m2 H2 s2 l2 r2 g => by
  have hq : SqL K H2 a vs := (l2.frl a vs h).sq
  have h2 := p.monoW l2
  refine ⟨fun i d e => ?_, ⟨vs, hq, by rw [← h2.length]; exact Nat.le_of_eq (enm_len xs).symm⟩⟩
  obtain ⟨x, hx, rfl⟩ := enm_get e
  obtain ⟨v, hv, rv⟩ := h2.get hx
  refine ⟨⟨vs, v, hq, hv⟩, fun w H3 y => ?_⟩
  obtain ⟨T, z, ev, hT, h3, y⟩ := y
  exact enm_turn r2 h2 hx ev hT h3 (y vs hq)
theorem itr_enumT {xs : List D} {vs : List V} {a : Addr} (h : SqT K H a vs) (p : Reps K m H xs vs) : ItR K m H ⟨enm xs, always⟩ (Itu K a) := fun m2 H2 s2 l2 r2 g => by
  have hq : SqT K H2 a vs := l2.tup a vs h
  have h2 := p.monoW l2
  refine ⟨fun i d e => ?_, ⟨vs, hq, by rw [← h2.length]; exact (enm_len xs).symm⟩⟩
  obtain ⟨x, hx, rfl⟩ := enm_get e
  obtain ⟨v, hv, rv⟩ := h2.get hx
  refine ⟨⟨vs, v, hq, hv⟩, fun w H3 y => ?_⟩
  obtain ⟨T, z, ev, hT, h3, y⟩ := y
  exact enm_turn r2 h2 hx ev hT h3 (y vs hq)
end
section
variable {X : Cx} {W : WX} {e : Expr} {p pos tpos : Pos} {elts : List Expr} {kk : Nat} {fs : ME (List D)}
theorem ci_enum (hg : Gl X "enumerate") (hm : X.mg "enumerate" = none) (ha : PA X [e] (Ta X.K X.mg W fs)) (hs : starEach [e] X.env = [(false, eval e X.env)] := by rfl) :
    PI X (.Tuple elts kk tpos) (.Call (.Name "enumerate" p) [e] [] pos) (Ti X.K X.mg W (iEnm fs)) := PI.imp (pi_enumA hg hm ha hs) fun σ H Rw h =>
  Tm.bind (k := fun _ (x : List D) s => match x with
  | [.tup xs] => R.ok (Itm.mk (enm xs) always) s
  | [.fl xs] => R.ok (Itm.mk (enm xs) always) s
  | [.loc l] => match s[l]? with
    | some (.lst xs) => R.ok (Itm.mk (enm xs) (fun s2 => s2[l]? = some (.lst xs))) s
    | _ => R.no
  | _ => R.no) h fun m1 H1 env x vs s1 r1 E1 p1 g1 => by
    split at g1
    · obtain ⟨v, rfl, h1⟩ := reps1 p1
      obtain ⟨a, vs, rfl, hq, rr⟩ := h1.sqT
      exact ⟨a, rfl, .inr ⟨⟨vs, hq⟩, g1 m1 H1 _ .refl r1 (itr_enumT hq rr)⟩⟩
    · obtain ⟨v, rfl, h1⟩ := reps1 p1
      cases h1 with
      | fl hq rr => exact ⟨_, rfl, .inl ⟨⟨_, hq.sq⟩, g1 m1 H1 _ .refl r1 (itr_enumF hq rr)⟩⟩
    · obtain ⟨v, rfl, h1⟩ := reps1 p1
      cases h1 with
      | loc hl =>
        split at g1
        · rename_i q
          obtain ⟨vs, h1, h2⟩ := r1.list hl q
          exact ⟨_, rfl, .inl ⟨⟨vs, .inl (.inl h1)⟩, g1 m1 H1 _ .refl r1 (itr_enumL hl)⟩⟩
        · exact g1.elim
    · exact g1.elim
end
/-! ### all, any of a list of bools -/
def blsOf : List D → Option (List Bool)
  | [] => some []
  | .bl i :: r => (blsOf r).map fun x => i :: x
  | _ :: _ => none
theorem blsOf_map (bs : List Bool) : blsOf (bs.map D.bl) = some bs := by
  induction bs with
  | nil => rfl
  | cons n ns ih => simp [blsOf, ih]
theorem bls_reps {K : PySem.W.Frag} {m : List Addr} {H : Hp} : ∀ {ds : List D} {vs : List V} {bs : List Bool}, Reps K m H ds vs → blsOf ds = some bs → vs = bs.map V.bl
  | [], _, _, .nil, e => by cases e; rfl
  | d :: ds, _, bs, .cons p r, e => by
    cases d with
    | bl i =>
      unfold blsOf at e
      cases q : blsOf ds with
      | none => rw [q] at e; cases e
      | some x => rw [q] at e; cases e; cases p; rw [List.map_cons, bls_reps r q]
    | _ => cases e
def dAll : List D → Store → Option (D × Store)
  | [x], s => (lstOf s x).bind fun xs => (blsOf xs).map fun bs => (.bl (bs.all id), s)
  | _, _ => none
def dAny : List D → Store → Option (D × Store)
  | [x], s => (lstOf s x).bind fun xs => (blsOf xs).map fun bs => (.bl (bs.any id), s)
  | _, _ => none
section
variable {K : PySem.W.Frag}
theorem fns_all : FnS K (rAll K) dAll := by
  intro mg W σ m H s xs ds Q r p g
  unfold dAll at g
  split at g
  · obtain ⟨v, rfl, h⟩ := reps1 p
    rename_i x
    cases q : lstOf s x with
    | none => rw [q] at g; exact g.elim
    | some ys =>
      rw [q, Option.bind_some] at g
      cases q2 : blsOf ys with
      | none => rw [q2] at g; exact g.elim
      | some bs =>
        rw [q2] at g
        obtain ⟨a, vs, rfl, hq, rr⟩ := lstOf_sq r h q
        have e := bls_reps rr q2
        subst e
        exact ⟨a, bs, rfl, hq, G.now (d := D.bl (bs.all id)) g r (.bl _)⟩
  · exact g.elim
theorem fns_any : FnS K (rAny K) dAny := by
  intro mg W σ m H s xs ds Q r p g
  unfold dAny at g
  split at g
  · obtain ⟨v, rfl, h⟩ := reps1 p
    rename_i x
    cases q : lstOf s x with
    | none => rw [q] at g; exact g.elim
    | some ys =>
      rw [q, Option.bind_some] at g
      cases q2 : blsOf ys with
      | none => rw [q2] at g; exact g.elim
      | some bs =>
        rw [q2] at g
        obtain ⟨a, vs, rfl, hq, rr⟩ := lstOf_sq r h q
        have e := bls_reps rr q2
        subst e
        exact ⟨a, bs, rfl, hq, G.now (d := D.bl (bs.any id)) g r (.bl _)⟩
  · exact g.elim
end
end Mi
namespace Mi
open PySem PySem.Spec PyProof.Rows L2
/-! ### dicts with ints and texts as keys -/
def rIxDic : R2 := fun x y H Q => ∃ a v, x = .ref a ∧ DGet H a y (some v) ∧ Q v H
theorem ix_dic {X : Cx} (hu : X.A.units + 64 < cLine) : IxR X rIxDic := by
  intro value slice pins s σ H x y v u Q I rx ry h hs
  obtain ⟨a, z, rfl, g, q⟩ := h
  cases rx
  exact tail_any (ops := [.ref a, u]) (dict_typeIs I g) PySem.F.slot_dict_getitem.lookup (d_getItem (by omega) I g ry fun w' s' I' r' => ⟨z, H, I', r', q⟩) hs
theorem ix_any {X : Cx} (hu : X.A.units + 64 < cLine) : IxR X (fun x y H Q => rIx X.K x y H Q ∨ rIxDic x y H Q) := ix_seq.or (ix_dic hu)
def rSetDic : TSet := fun x y z H Q => ∃ a H', x = .ref a ∧ DPut H a y z H' ∧ Q H'
theorem set_dic {X : Cx} (hu : X.A.units + 64 < cLine) : PSet X rSetDic := by
  intro pins s σ H o i v ov iv u Q I ro ri rv h
  obtain ⟨a, H', rfl, g, q⟩ := h
  cases ro
  exact d_setItem (by omega) I g ri rv fun s' I' => ⟨H', I', q⟩
theorem pset_or {X : Cx} {t t' : TSet} (h : PSet X t) (h' : PSet X t') : PSet X (fun x y z H Q => t x y z H Q ∨ t' x y z H Q) := by
  intro pins s σ H o i v ov iv u Q I ro ri rv q
  rcases q with q | q
  · exact h pins s σ H o i v ov iv u Q I ro ri rv q
  · exact h' pins s σ H o i v ov iv u Q I ro ri rv q
theorem set_any {X : Cx} (hu : X.A.units + 64 < cLine) : PSet X (fun x y z H Q => rSetL x y z H Q ∨ rSetDic x y z H Q) := pset_or set_list (set_dic hu)
/-! ### mirrors -/
def keyOf : D → Option Key
  | .int i => some (.inl i)
  | .str z => some (.inr z)
  | _ => none
theorem keyOf_rep {K : PySem.W.Frag} {m : List Addr} {H : Hp} {d : D} {v : V} {k : Key} (p : Rep K m H d v) (e : keyOf d = some k) : v = kV k := by
  cases p <;> first | (cases e; done) | (cases e; rfl)
def getD {κ : Type} [DecidableEq κ] (ks : List (κ × D)) (k : κ) : Option D := (ks.find? fun kv => decide (kv.1 = k)).map (·.2)
def putD {κ : Type} [DecidableEq κ] (ks : List (κ × D)) (k : κ) (v : D) : List (κ × D) :=
  if (ks.any fun kv => decide (kv.1 = k)) = true then ks.map (fun kv => if kv.1 = k then (kv.1, v) else kv) else ks ++ [(k, v)]
def dicOf (s : Store) : D → Option (Nat × List (Key × D))
  | .loc l => match s[l]? with
    | some (.dic ks) => some (l, ks)
    | _ => none
  | _ => none
/-- keys that are tuples of ints and texts -/
def keysOf : List D → Option (List Key)
  | [] => some []
  | x :: xs => (keyOf x).bind fun k => (keysOf xs).map fun r => k :: r
def keyT : D → Option (List Key)
  | .tuw xs => keysOf xs
  | _ => none
def dctOf (s : Store) : D → Option (Nat × List (List Key × D))
  | .loc l => match s[l]? with
    | some (.dct ks) => some (l, ks)
    | _ => none
  | _ => none
theorem keysOf_rep {K : PySem.W.Frag} {m : List Addr} {H : Hp} : ∀ {ds : List D} {vs : List V} {ks : List Key}, Reps K m H ds vs → keysOf ds = some ks → vs = ks.map kV
  | _, _, _, .nil, e => by cases e; rfl
  | x :: xs, _, ks, .cons p r, e => by
    unfold keysOf at e
    cases q : keyOf x with
    | none => rw [q] at e; cases e
    | some k =>
      rw [q, Option.bind_some] at e
      cases q2 : keysOf xs with
      | none => rw [q2] at e; cases e
      | some r2 =>
        rw [q2] at e
        cases e
        rw [keyOf_rep p q, keysOf_rep r q2]
        rfl
theorem keyT_rep {K : PySem.W.Frag} {m : List Addr} {H : Hp} {d : D} {v : V} {k : List Key} (p : Rep K m H d v) (e : keyT d = some k) : ∃ b, v = .ref b ∧ H b = some (.tup (k.map kV)) := by
  cases d with
  | tuw xs =>
    cases p with
    | @tuw _ a vs h r =>
    rw [keysOf_rep r e] at h
    exact ⟨a, rfl, h⟩
  | _ => cases e
/-- x[i], x a dict or a sequence -/
def dIxA (x i : D) (s : Store) : Option (D × Store) := match dicOf s x with
  | some (_, ks) => (keyOf i).bind fun k => (getD ks k).map fun d => (d, s)
  | none => match dctOf s x with
    | some (_, ks) => (keyT i).bind fun k => (getD ks k).map fun d => (d, s)
    | none => dIx x i s
section
variable {K : PySem.W.Frag} {m : List Addr} {H : Hp} {s : Store}
section
variable {κ : Type} [DecidableEq κ]
theorem repk_get {k : κ} : ∀ {ks : List (κ × D)} {vs : List (κ × V)} {d : D}, RepK K m H ks vs → getD ks k = some d → ∃ v, valV vs k = some v ∧ Rep K m H d v
  | _, _, _, .nil, e => by cases e
  | (q, x) :: ks, (_, v) :: vs, d, .cons p r, e => by
    by_cases c : q = k
    · subst c
      refine ⟨v, valV_pos rfl, ?_⟩
      simp [getD, List.find?_cons] at e
      subst e
      exact p
    · rw [valV_neg c]
      refine repk_get r ?_
      simpa [getD, List.find?_cons, c] using e
theorem repk_any {k : κ} : ∀ {ks : List (κ × D)} {vs : List (κ × V)}, RepK K m H ks vs → (ks.any fun kv => decide (kv.1 = k)) = (vs.any fun kv => decide (kv.1 = k))
  | _, _, .nil => rfl
  | (q, x) :: ks, (_, v) :: vs, .cons p r => by simp [repk_any r]
theorem repk_map {k : κ} {y : D} {w : V} (p : Rep K m H y w) : ∀ {ks : List (κ × D)} {vs : List (κ × V)}, RepK K m H ks vs → RepK K m H (ks.map fun kv => if kv.1 = k then (kv.1, y) else kv) (vs.map fun kv => if kv.1 = k then (kv.1, w) else kv)
  | _, _, .nil => .nil
  | (q, x) :: ks, (_, v) :: vs, .cons h r => by
    by_cases c : q = k
    · simp only [List.map_cons, c, if_true]
      exact .cons p (repk_map p r)
    · simp only [List.map_cons, c, if_false]
      exact .cons h (repk_map p r)
theorem repk_app {ks : List (κ × D)} {vs : List (κ × V)} {k : κ} {y : D} {w : V} (h : RepK K m H ks vs) (p : Rep K m H y w) : RepK K m H (ks ++ [(k, y)]) (vs ++ [(k, w)]) := by
  induction ks generalizing vs with
  | nil => cases h; exact .cons p .nil
  | cons a ks ih => cases h with | cons q r => exact .cons q (ih r)
theorem repk_put {ks : List (κ × D)} {vs : List (κ × V)} {k : κ} {y : D} {w : V} (h : RepK K m H ks vs) (p : Rep K m H y w) : RepK K m H (putD ks k y) (putK vs k w) := by
  unfold putD putK
  rw [repk_any h]
  split
  · exact repk_map p h
  · exact repk_app h p
theorem repk_len : ∀ {ks : List (κ × D)} {vs : List (κ × V)}, RepK K m H ks vs → ks.length = vs.length
  | _, _, .nil => rfl
  | _, _, .cons _ r => by simp [repk_len r]
end
theorem dicOf_at (r : Rel K m H s) {d : D} {v : V} {l : Nat} {ks : List (Key × D)} (p : Rep K m H d v) (e : dicOf s d = some (l, ks)) : ∃ a vs, d = .loc l ∧ v = .ref a ∧ m[l]? = some a ∧ H a = some (.dK vs) ∧ RepK K m H ks vs := by
  cases p with
  | @loc l' a h =>
    unfold dicOf at e
    cases q : s[l']? with
    | none => simp [q] at e
    | some c =>
      cases c with
      | lst _ => simp [q] at e
      | dct _ => simp [q] at e
      | dic ks' =>
        simp only [q] at e
        cases e
        obtain ⟨ws, h1, h2⟩ := r.at_ _ a _ h q
        exact ⟨a, ws, rfl, rfl, h, h1, h2⟩
  | _ => cases e
theorem dctOf_at (r : Rel K m H s) {d : D} {v : V} {l : Nat} {ks : List (List Key × D)} (p : Rep K m H d v) (e : dctOf s d = some (l, ks)) : ∃ a vs, d = .loc l ∧ v = .ref a ∧ m[l]? = some a ∧ H a = some (.dT vs) ∧ RepK K m H ks vs := by
  cases p with
  | @loc l' a h =>
    unfold dctOf at e
    cases q : s[l']? with
    | none => simp [q] at e
    | some c =>
      cases c with
      | lst _ => simp [q] at e
      | dic _ => simp [q] at e
      | dct ks' =>
        simp only [q] at e
        cases e
        obtain ⟨ws, h1, h2⟩ := r.at_ _ a _ h q
        exact ⟨a, ws, rfl, rfl, h, h1, h2⟩
  | _ => cases e
theorem ops_ixA : OpS K (fun x y H Q => rIx K x y H Q ∨ rIxDic x y H Q) dIxA := by
  intro mg W σ m H s x y dx dy Q r px py g
  unfold dIxA at g
  cases e : dicOf s dx with
  | none =>
    rw [e] at g
    simp only at g
    cases e0 : dctOf s dx with
    | none => rw [e0] at g; exact .inl (ops_ix r px py g)
    | some o =>
      obtain ⟨l, ks⟩ := o
      rw [e0] at g
      simp only at g
      cases e1 : keyT dy with
      | none => rw [e1] at g; exact g.elim
      | some k =>
        rw [e1, Option.bind_some] at g
        cases e2 : getD ks k with
        | none => rw [e2] at g; exact g.elim
        | some d =>
          rw [e2] at g
          obtain ⟨a, vs, _, rfl, _, h1, h2⟩ := dctOf_at r px e0
          obtain ⟨v, hv, pv⟩ := repk_get h2 e2
          obtain ⟨b, rfl, hb⟩ := keyT_rep py e1
          exact .inr ⟨a, v, rfl, hv ▸ DGet.t h1 hb, G.now (d := d) g r pv⟩
  | some o =>
    obtain ⟨l, ks⟩ := o
    rw [e] at g
    simp only at g
    cases e1 : keyOf dy with
    | none => rw [e1] at g; exact g.elim
    | some k =>
      rw [e1, Option.bind_some] at g
      cases e2 : getD ks k with
      | none => rw [e2] at g; exact g.elim
      | some d =>
        rw [e2] at g
        obtain ⟨a, vs, _, rfl, _, h1, h2⟩ := dicOf_at r px e
        obtain ⟨v, hv, pv⟩ := repk_get h2 e2
        rw [keyOf_rep py e1]
        exact .inr ⟨a, v, rfl, hv ▸ DGet.k h1, G.now (d := d) g r pv⟩
open Classical in
/-- o[i] = e, o a dict or a list -/
noncomputable def pAny (x y z : D) (s : Store) : Option Store := match dicOf s x with
  | some (l, ks) => (keyOf y).bind fun k => if ks.length < sizeLine then some (s.set l (.dic (putD ks k z))) else none
  | none => match dctOf s x with
    | some (l, ks) => (keyT y).bind fun k => if ks.length < sizeLine then some (s.set l (.dct (putD ks k z))) else none
    | none => pList x y z s
theorem puts_any : PutS K (fun x y z H Q => rSetL x y z H Q ∨ rSetDic x y z H Q) pAny := by
  intro m H s s' x y z dx dy dz Q r px py pz e q
  unfold pAny at e
  cases e0 : dicOf s dx with
  | none =>
    rw [e0] at e
    simp only at e
    cases e3 : dctOf s dx with
    | none => rw [e3] at e; exact .inl (puts_list r px py pz e q)
    | some o =>
      obtain ⟨l, ks⟩ := o
      rw [e3] at e
      simp only at e
      cases e1 : keyT dy with
      | none => rw [e1] at e; cases e
      | some k =>
        rw [e1, Option.bind_some] at e
        split at e
        · rename_i hz
          cases e
          obtain ⟨a, vs, rfl, rfl, hl, h1, h2⟩ := dctOf_at r px e3
          obtain ⟨b, rfl, hb⟩ := keyT_rep py e1
          have le := le_put (o := .dT (putK vs k z)) r (List.mem_of_getElem? hl)
          refine .inr ⟨a, _, rfl, DPut.t h1 hb (by rw [← repk_len h2]; exact hz), q _ le (r.put hl ⟨_, upd_same, ?_⟩)⟩
          have h3 := repk_put (k := k) h2 pz
          exact h3.mono le
        · cases e
  | some o =>
    obtain ⟨l, ks⟩ := o
    rw [e0] at e
    simp only at e
    cases e1 : keyOf dy with
    | none => rw [e1] at e; cases e
    | some k =>
      rw [e1, Option.bind_some] at e
      split at e
      · rename_i hz
        cases e
        obtain ⟨a, vs, rfl, rfl, hl, h1, h2⟩ := dicOf_at r px e0
        rw [keyOf_rep py e1]
        have le := le_put (o := .dK (putK vs k z)) r (List.mem_of_getElem? hl)
        refine .inr ⟨a, _, rfl, DPut.k h1 (by rw [← repk_len h2]; exact hz), q _ le (r.put hl ⟨_, upd_same, ?_⟩)⟩
        have h3 := repk_put (k := k) h2 pz
        exact h3.mono le
      · cases e
end
/-- {} -/
def eDict0 : ME D := fun _ s => .ok (.loc s.length) (s ++ [.dic []])
def eDict0T : ME D := fun _ s => .ok (.loc s.length) (s ++ [.dct []])
section
variable {X : Cx} {W : WX} {pos : Pos}
theorem ce_dict0T : PE X (.Dict [] [] pos) (Te X.K X.mg W eDict0T) := PE.imp pe_dnewT fun σ H Q ⟨m, env, s, r, E, g⟩ p hp =>
  g (m ++ [p]) _ _ (le_more r hp) (r.new hp ⟨[], upd_same, .nil⟩) (.loc (len_get r))
theorem ce_dict0 : PE X (.Dict [] [] pos) (Te X.K X.mg W eDict0) := PE.imp pe_dnewK fun σ H Q ⟨m, env, s, r, E, g⟩ p hp =>
  g (m ++ [p]) _ _ (le_more r hp) (r.new hp ⟨[], upd_same, .nil⟩) (.loc (len_get r))
end
end Mi
namespace Mi
open PySem PySem.Spec PyProof.Rows L2
/-! ### equations for simp -/
@[simp] theorem dIxA_tup (xs : List D) (i : D) (s : Store) : dIxA (.tup xs) i s = dIx (.tup xs) i s := rfl
@[simp] theorem dIxA_str (z : Str) (i : D) (s : Store) : dIxA (.str z) i s = dIx (.str z) i s := rfl
theorem dIxA_loc {s : Store} {l : Nat} {xs : List D} (h : s[l]? = some (.lst xs)) (i : Int) : dIxA (.loc l) (.int i) s = (L2.atI xs i).map fun d => (d, s) := by
  have e : dicOf s (.loc l) = none := by simp [dicOf, h]
  have e2 : dctOf s (.loc l) = none := by simp [dctOf, h]
  unfold dIxA
  rw [e]
  simp only
  rw [e2]
  exact dIx_loc h i
theorem dIxA_dct {s : Store} {l : Nat} {ks : List (List Key × D)} (h : s[l]? = some (.dct ks)) {i d : D} {k : List Key} (hk : keyT i = some k) (hd : getD ks k = some d) : dIxA (.loc l) i s = some (d, s) := by
  have e : dicOf s (.loc l) = none := by simp [dicOf, h]
  have e2 : dctOf s (.loc l) = some (l, ks) := by simp [dctOf, h]
  unfold dIxA
  rw [e]
  simp only
  rw [e2]
  simp [hk, hd]
theorem pAny_dct {s : Store} {l : Nat} {ks : List (List Key × D)} (h : s[l]? = some (.dct ks)) {i : D} {k : List Key} (hk : keyT i = some k) (hz : ks.length ≤ 1000000) (z : D) : pAny (.loc l) i z s = some (s.set l (.dct (putD ks k z))) := by
  have e : dicOf s (.loc l) = none := by simp [dicOf, h]
  have e2 : dctOf s (.loc l) = some (l, ks) := by simp [dctOf, h]
  have q : ks.length < sizeLine := by rw [sizeLine_eq]; omega
  unfold pAny
  rw [e]
  simp only
  rw [e2]
  simp only [hk, Option.bind_some, if_pos q]
@[simp] theorem eDict0T_eq (env : Sl) (s : Store) : eDict0T env s = .ok (.loc s.length) (s ++ [.dct []]) := rfl
theorem dIxA_dic {s : Store} {l : Nat} {ks : List (Key × D)} (h : s[l]? = some (.dic ks)) {i d : D} {k : Key} (hk : keyOf i = some k) (hd : getD ks k = some d) : dIxA (.loc l) i s = some (d, s) := by
  have e : dicOf s (.loc l) = some (l, ks) := by simp [dicOf, h]
  unfold dIxA
  rw [e]
  simp [hk, hd]
theorem pAny_loc {s : Store} {l : Nat} {xs : List D} (h : s[l]? = some (.lst xs)) (i z : D) : pAny (.loc l) i z s = pList (.loc l) i z s := by
  have e : dicOf s (.loc l) = none := by simp [dicOf, h]
  have e2 : dctOf s (.loc l) = none := by simp [dctOf, h]
  unfold pAny
  rw [e]
  simp only
  rw [e2]
theorem pAny_dic {s : Store} {l : Nat} {ks : List (Key × D)} (h : s[l]? = some (.dic ks)) {i : D} {k : Key} (hk : keyOf i = some k) (hz : ks.length ≤ 1000000) (z : D) : pAny (.loc l) i z s = some (s.set l (.dic (putD ks k z))) := by
  have e : dicOf s (.loc l) = some (l, ks) := by simp [dicOf, h]
  have q : ks.length < sizeLine := by rw [sizeLine_eq]; omega
  unfold pAny
  rw [e]
  simp only [hk, Option.bind_some, if_pos q]
@[simp] theorem eDict0_eq (env : Sl) (s : Store) : eDict0 env s = .ok (.loc s.length) (s ++ [.dic []]) := rfl
@[simp] theorem iEnm_eq (a : ME (List D)) (env : Sl) (s : Store) : iEnm a env s = (a env s).bind fun x s => match x with
  | [.tup xs] => .ok (Itm.mk (enm xs) always) s
  | [.fl xs] => .ok (Itm.mk (enm xs) always) s
  | [.loc l] => match s[l]? with
    | some (.lst xs) => .ok (Itm.mk (enm xs) (fun s2 => s2[l]? = some (.lst xs))) s
    | _ => .no
  | _ => .no := rfl
@[simp] theorem sRaise_eq (c : Str) (ns : List Str) (a : ME (List D)) (env : Sl) (s : Store) : sRaise c ns a env s = (a env s).then env fun xs s => if xs.length = ns.length then .ex ⟨c, (ns.zip xs).reverse⟩ env s else .no := rfl
theorem dAll_loc {s : Store} {l : Nat} {bs : List Bool} (h : s[l]? = some (.lst (bs.map D.bl))) : dAll [.loc l] s = some (.bl (bs.all id), s) := by simp [dAll, lstOf, h, blsOf_map]
theorem putD_get {κ : Type} [DecidableEq κ] (ks : List (κ × D)) (k : κ) (z : D) : getD (putD ks k z) k = some z := by
  unfold putD getD
  by_cases c : (ks.any fun kv => decide (kv.1 = k)) = true
  · rw [if_pos c]
    induction ks with
    | nil => simp at c
    | cons p ks ih =>
      by_cases q : p.1 = k
      · simp [q]
      · have c' : (ks.any fun kv => decide (kv.1 = k)) = true := by simpa [q] using c
        simpa [List.find?_cons, q] using ih c'
  · rw [if_neg c, List.find?_append]
    have n : ks.find? (fun kv => decide (kv.1 = k)) = none := List.find?_eq_none.mpr fun x hx h => c (List.any_eq_true.mpr ⟨x, hx, h⟩)
    rw [n]
    simp
theorem putD_other {κ : Type} [DecidableEq κ] {k k' : κ} (ne : k' ≠ k) (ks : List (κ × D)) (z : D) : getD (putD ks k z) k' = getD ks k' := by
  unfold putD getD
  by_cases c : (ks.any fun kv => decide (kv.1 = k)) = true
  · rw [if_pos c]
    clear c
    induction ks with
    | nil => rfl
    | cons p ks ih =>
      by_cases q : p.1 = k
      · have n : ¬ p.1 = k' := fun e => ne (e.symm.trans q)
        have n2 : ¬ k = k' := fun e => ne e.symm
        simpa [List.find?_cons, q, n, n2] using ih
      · by_cases q2 : p.1 = k'
        · simp [List.find?_cons, q, q2, ne]
        · simpa [List.find?_cons, q, q2] using ih
  · rw [if_neg c, List.find?_append]
    have n : ¬ k = k' := fun e => ne e.symm
    simp [n]
theorem putD_len {κ : Type} [DecidableEq κ] (ks : List (κ × D)) (k : κ) (z : D) : (putD ks k z).length ≤ ks.length + 1 := by
  unfold putD
  split <;> simp
end Mi
namespace Mi
open PySem PySem.Spec PyProof.Rows L2
/-! ### in, not in -/
theorem un65 {k : Nat} {A : Around} (r : Room k A) : A.units + 65 < cLine := by have := r.un; omega
def flatD : D → Bool
  | .non => true
  | .bl _ => true
  | .int _ => true
  | .str _ => true
  | _ => false
def eqD : D → D → Bool
  | .non, .non => true
  | .bl a, .bl b => a == b
  | .bl a, .int b => (if a then 1 else 0) == b
  | .int a, .bl b => a == (if b then 1 else 0)
  | .int a, .int b => a == b
  | .str a, .str b => a == b
  | _, _ => false
def inFlat (x : D) (xs : List D) : Option Bool := if flatD x = true ∧ xs.all flatD = true then some (xs.any fun z => eqD z x) else none
def inDeep (x y : D) (s : Store) : Option Bool := (py1 s x).bind fun a => (py1 s y).bind fun b => match b with
  | .list ds => if (SeqAt.shaped a && SeqAt.shaped (.list ds)) = true then some (ds.any fun z => PyData.eqv z a) else none
  | _ => none
/-- x in y -/
def dInB (x y : D) (s : Store) : Option Bool := match dicOf s y with
  | some (_, ks) => (keyOf x).map fun k => (getD ks k).isSome
  | none => match dctOf s y with
    | some (_, ks) => (keyT x).map fun k => (getD ks k).isSome
    | none => match y, x with
      | .str b, .str a => some (!(Builtin.Str.occurrences b a 0 b.length 1).isEmpty)
      | y, x => match (seqOf s y).bind (inFlat x) with
        | some c => some c
        | none => inDeep x y s
def dIn (x y : D) (s : Store) : Option (D × Store) := (dInB x y s).map fun b => (.bl b, s)
def dNotIn (x y : D) (s : Store) : Option (D × Store) := (dInB x y s).map fun b => (.bl !b, s)
def rDin : R2 := fun y x H Q => ∃ a o, x = .ref a ∧ DGet H a y o ∧ Q (.bl o.isSome) H
def rDnotin : R2 := fun y x H Q => ∃ a o, x = .ref a ∧ DGet H a y o ∧ Q (.bl (!o.isSome)) H
def rSin : R2 := fun x y H Q => ∃ i j, x = .str i ∧ y = .str j ∧ Q (.bl (!(Builtin.Str.occurrences j i 0 j.length 1).isEmpty)) H
def rSnotin : R2 := fun x y H Q => ∃ i j, x = .str i ∧ y = .str j ∧ Q (.bl (!(!(Builtin.Str.occurrences j i 0 j.length 1).isEmpty))) H
theorem op_din {X : Cx} (hu : X.A.units + 65 < cLine) : OpR X (compareOp .In) rDin := by
  intro pins s σ H x y v u Q I rx ry h
  obtain ⟨a, o, rfl, g, q⟩ := h
  cases ry
  exact d_in (by omega) I g rx fun s' I' => ⟨.bl o.isSome, H, I', rfl, q⟩
theorem op_dnotin {X : Cx} (hu : X.A.units + 65 < cLine) : OpR X (compareOp .NotIn) rDnotin := by
  intro pins s σ H x y v u Q I rx ry h
  obtain ⟨a, o, rfl, g, q⟩ := h
  cases ry
  exact d_notIn (by omega) I g rx fun s' I' => ⟨.bl (!o.isSome), H, I', rfl, q⟩
def rInA (K : PySem.W.Frag) : R2 := fun x y H Q => rIn K false x y H Q ∨ rDin x y H Q ∨ rSin x y H Q ∨ rInD K x y H Q
def rNotInA (K : PySem.W.Frag) : R2 := fun x y H Q => rIn K true x y H Q ∨ rDnotin x y H Q ∨ rSnotin x y H Q ∨ rNotInD K x y H Q
theorem opA_in {X : Cx} (hu : X.A.units + 65 < cLine) : OpR X (compareOp .In) (rInA X.K) := op_in_seq.or ((op_din hu).or (op_in_str.or (op_inD hu)))
theorem opA_notin {X : Cx} (hu : X.A.units + 65 < cLine) : OpR X (compareOp .NotIn) (rNotInA X.K) := op_notIn_seq.or ((op_dnotin hu).or (op_notin_str.or (op_notInD hu)))
section
variable {K : PySem.W.Frag} {m : List Addr} {H : Hp} {s : Store}
theorem flat_rep {d : D} {v : V} (p : Rep K m H d v) (h : flatD d = true) : flatV v = true := by
  cases p <;> first | rfl | cases h
theorem eqD_rep {d e : D} {v w : V} (p : Rep K m H d v) (q : Rep K m H e w) (h : flatD d = true) (h2 : flatD e = true) : eqV v w = eqD d e := by
  cases p <;> first | (cases h; done) | (cases q <;> first | (cases h2; done) | rfl)
theorem flat_reps : ∀ {xs : List D} {vs : List V}, Reps K m H xs vs → xs.all flatD = true → vs.all flatV = true
  | _, _, .nil, _ => rfl
  | _, _, .cons h r, e => by
    rw [List.all_cons, Bool.and_eq_true] at e
    rw [List.all_cons, Bool.and_eq_true]
    exact ⟨flat_rep h e.1, flat_reps r e.2⟩
theorem in_reps {x : D} {w : V} (p : Rep K m H x w) (hx : flatD x = true) : ∀ {xs : List D} {vs : List V}, Reps K m H xs vs → xs.all flatD = true → inV w vs = xs.any fun z => eqD z x
  | _, _, .nil, _ => rfl
  | _, _, .cons h r, e => by
    rw [List.all_cons, Bool.and_eq_true] at e
    rw [List.any_cons, ← in_reps p hx r e.2, ← eqD_rep h p e.1 hx]
    rfl
theorem repk_some {κ : Type} [DecidableEq κ] {k : κ} : ∀ {ks : List (κ × D)} {vs : List (κ × V)}, RepK K m H ks vs → (valV vs k).isSome = (getD ks k).isSome
  | _, _, .nil => rfl
  | (q, x) :: ks, (_, v) :: vs, .cons p r => by
    by_cases c : q = k
    · subst c
      rw [valV_pos rfl]
      simp [getD, List.find?_cons]
    · rw [valV_neg c, repk_some r]
      simp [getD, List.find?_cons, c]
theorem inB_cases (r : Rel K m H s) {dx dy : D} {x y : V} {b : Bool} (px : Rep K m H dx x) (py : Rep K m H dy y) (e : dInB dx dy s = some b) :
    (∃ p xs, y = .ref p ∧ (SqL K H p xs ∨ SqT K H p xs) ∧ flatV x = true ∧ xs.all flatV = true ∧ inV x xs = b) ∨ (∃ a o, y = .ref a ∧ DGet H a x o ∧ o.isSome = b) ∨
      (∃ i j, x = .str i ∧ y = .str j ∧ (!(Builtin.Str.occurrences j i 0 j.length 1).isEmpty) = b) ∨ ∃ d ds, Dp K H x d ∧ Dp K H y (.list ds) ∧ SeqAt.shaped d = true ∧ SeqAt.shaped (.list ds) = true ∧ (ds.any fun z => PyData.eqv z d) = b := by
  unfold dInB at e
  cases e0 : dicOf s dy with
  | some o =>
    obtain ⟨l, ks⟩ := o
    rw [e0] at e
    simp only at e
    cases e1 : keyOf dx with
    | none => rw [e1] at e; cases e
    | some k =>
      rw [e1] at e
      cases e
      obtain ⟨a, vs, _, rfl, _, h1, h2⟩ := dicOf_at r py e0
      rw [keyOf_rep px e1]
      exact .inr (.inl ⟨a, valV vs k, rfl, DGet.k h1, repk_some h2⟩)
  | none =>
    rw [e0] at e
    simp only at e
    cases e9 : dctOf s dy with
    | some o =>
      obtain ⟨l, ks⟩ := o
      rw [e9] at e
      simp only at e
      cases e1 : keyT dx with
      | none => rw [e1] at e; cases e
      | some k =>
        rw [e1] at e
        cases e
        obtain ⟨a, vs, _, rfl, _, h1, h2⟩ := dctOf_at r py e9
        obtain ⟨b, rfl, hb⟩ := keyT_rep px e1
        exact .inr (.inl ⟨a, valV vs k, rfl, DGet.t h1 hb, repk_some h2⟩)
    | none =>
     rw [e9] at e
     simp only at e
     split at e
     · cases px; cases py
       cases e
       exact .inr (.inr (.inl ⟨_, _, rfl, rfl, rfl⟩))
     · split at e
       · rename_i c hc
         cases e
         cases e2 : seqOf s dy with
         | none => rw [e2] at hc; cases hc
         | some xs =>
           rw [e2, Option.bind_some] at hc
           unfold inFlat at hc
           split at hc
           · rename_i hf
             cases hc
             obtain ⟨a, vs, rfl, h1, h2⟩ := seqOf_sq r py e2
             exact .inl ⟨a, vs, rfl, h1, flat_rep px hf.1, flat_reps h2 hf.2, in_reps px hf.1 h2 hf.2⟩
           · cases hc
       · unfold inDeep at e
         cases q1 : py1 s dx with
         | none => rw [q1] at e; cases e
         | some a =>
           cases q2 : py1 s dy with
           | none => rw [q1, q2] at e; cases e
           | some c =>
             rw [q1, q2] at e
             simp only [Option.bind_some] at e
             split at e
             · rename_i ds
               split at e
               · rename_i hs
                 rw [Bool.and_eq_true] at hs
                 cases e
                 exact .inr (.inr (.inr ⟨a, ds, py1_dp r px q1, py1_dp r py q2, hs.1, hs.2, rfl⟩))
               · cases e
             · cases e
theorem ops_in : OpS K (rInA K) dIn := by
  intro mg W σ m H s x y dx dy Q r px py g
  unfold dIn at g
  cases e : dInB dx dy s with
  | none => rw [e] at g; exact g.elim
  | some b =>
    rw [e] at g
    have q := g.now r (.bl b)
    rcases inB_cases r px py e with ⟨p, xs, h1, h2, h3, h4, h5⟩ | ⟨a, o, h1, h2, h3⟩ | ⟨i, j, h1, h2, h3⟩ | ⟨d, ds, h1, h2, h3, h4, h5⟩
    · exact .inl ⟨p, xs, h1, h2, h3, h4, by subst h5; exact q⟩
    · exact .inr (.inl ⟨a, o, h1, h2, by subst h3; exact q⟩)
    · exact .inr (.inr (.inl ⟨i, j, h1, h2, by subst h3; exact q⟩))
    · exact .inr (.inr (.inr ⟨d, ds, h1, h2, h3, h4, by subst h5; exact q⟩))
theorem ops_notin : OpS K (rNotInA K) dNotIn := by
  intro mg W σ m H s x y dx dy Q r px py g
  unfold dNotIn at g
  cases e : dInB dx dy s with
  | none => rw [e] at g; exact g.elim
  | some b =>
    rw [e] at g
    have q := g.now r (.bl (!b))
    rcases inB_cases r px py e with ⟨p, xs, h1, h2, h3, h4, h5⟩ | ⟨a, o, h1, h2, h3⟩ | ⟨i, j, h1, h2, h3⟩ | ⟨d, ds, h1, h2, h3, h4, h5⟩
    · exact .inl ⟨p, xs, h1, h2, h3, h4, by subst h5; exact q⟩
    · exact .inr (.inl ⟨a, o, h1, h2, by subst h3; exact q⟩)
    · exact .inr (.inr (.inl ⟨i, j, h1, h2, by subst h3; exact q⟩))
    · exact .inr (.inr (.inr ⟨d, ds, h1, h2, h3, h4, by subst h5; exact q⟩))
/-! ### str(i), str(z) -/
noncomputable instance (i : Int) : Decidable (i.natAbs.log2 < 1920) := Classical.propDecidable _
noncomputable def dStr : List D → Store → Option (D × Store)
  | [.int i], s => if i.natAbs.log2 < 1920 then some (.str (toString i), s) else none
  | [.str z], s => some (.str z, s)
  | _, _ => none
def rStr : List V → Hp → VK → Prop := fun xs H Q => (∃ i, xs = [.int i] ∧ i.natAbs.log2 < 1920 ∧ Q (.str (toString i)) H) ∨ ∃ a, xs = [.str a] ∧ Q (.str a) H
theorem call_strA {X : Cx} : CallR X (.type "str") rStr := call_str_int.or SkE.call_str_str
theorem fns_str : FnS K rStr dStr := by
  intro mg W σ m H s xs ds Q r p g
  unfold dStr at g
  split at g
  · rename_i i
    obtain ⟨v, rfl, h⟩ := reps1 p
    cases h
    split at g
    · rename_i hz
      exact .inl ⟨i, rfl, hz, g.now r (.str _)⟩
    · exact g.elim
  · rename_i z
    obtain ⟨v, rfl, h⟩ := reps1 p
    cases h
    exact .inr ⟨z, rfl, g.now r (.str _)⟩
  · exact g.elim
/-! ### xs.extend(ys), ys a list or a tuple -/
end
section
open PySem.AutoSeq1
theorem list_extend_tup (l : Addr) (items : Array Value) (n : Nat) (b : Addr) (items2 : Array Value) (n2 : Nat) (dd : Option Addr) (sl : Array (Option Value)) (hs0 : ¬(!items.isEmpty && Builtin.List.listTooLong (items.size + items2.size)) = true) (hs1 : items.size ≤ sizeLine) (hs2 : items.size + items2.size ≤ sizeLine + 1) :
    Meets (Builtin.«list.extend» ⟨[.ref l, .ref b], []⟩) (fun _ R s => s.heap.get? l = some { cls := .type "list", dict := none, data := .seq items n, slots := #[] } ∧ s.heap.get? b = some { cls := .type "tuple", dict := dd, data := .seq items2 n2, slots := sl } ∧ R (.ok (.ret Value.none)) { s with heap := s.heap.update l (Obj.mapSeq fun x => x ++ items2), toks := s.toks }) :=
  .of_wp fun prog w A R s h => by
    obtain ⟨hp, g, d, tk, os⟩ := s; obtain ⟨hl, hb, h⟩ := h; have f1 := PySem.AutoSeq1.idx_int; have f2 := PySem.AutoSeq1.sub_tuple_tuple; have f3 := PySem.AutoSeq1.sub_list_list; have f4 := PySem.AutoSeq1.sub_tuple_list; have f5 := PySem.AutoSeq1.sub_list_tuple;
    have hz' : (items ++ items2).size ≤ sizeLine + 1 := by rw [Array.size_append]; exact hs2
    wp_walk using (wpAny_updateSeq hl rfl (hz := hs1) (_hz' := hz')), wpAny_loadPart' hl, wpAny_loadPart' hb; exact ⟨_, rfl, h⟩
end
def rExtT (K : PySem.W.Frag) : V → List V → Hp → VK → Prop := fun x vs H Q => ∃ l b xs zs, x = .ref l ∧ vs = [.ref b] ∧ H l = some (.lst xs) ∧ SqT K H b zs ∧ xs.length + zs.length ≤ sizeLine ∧ Q .non (upd H l (.lst (xs ++ zs)))
theorem mt_extT {X : Cx} : MtR X "list.extend" (rExtT X.K) := by
  intro pins s σ H x vs v us Q I rx rv h
  obtain ⟨l, b, xs, zs, rfl, rfl, hH, hB, hz, q⟩ := h
  cases rx
  obtain ⟨u, rfl, ru⟩ := rv.one
  cases ru
  obtain ⟨z, its, n, r, hl, e⟩ := I.lstM hH
  obtain ⟨its2, r2, ⟨⟨cls, dd, data, sl⟩, e2, hc, n2, hd⟩, hl2⟩ := I.tuple hB
  simp only at hc hd
  subst hc hd
  have hl3 := r2.length
  have hsz : its.toArray.size + its2.toArray.size ≤ sizeLine := by rw [List.size_toArray, List.size_toArray]; omega
  have hlong : ¬ (!its.toArray.isEmpty && Builtin.List.listTooLong (its.toArray.size + its2.toArray.size)) = true := by
    rw [notLongL hsz, Bool.and_false]
    exact Bool.false_ne_true
  refine call_meets F.slot_list_extend ⟨_, e, rfl⟩ F.entry_list_extend (F.args_list_extend_2 _ _)
    (list_extend_tup l its.toArray n b its2.toArray n2 dd sl hlong (by rw [List.size_toArray]; omega) (by omega)) ⟨e, e2, ?_⟩
  refine ⟨.non, _, I.lset (its' := its ++ its2) hH e (by simp) (r.append r2) ?_, rfl, q⟩
  rw [List.length_append]
  omega
theorem MtR.or' {X : Cx} {id : String} {r r' : V → List V → Hp → VK → Prop} (h : MtR X id r) (h' : MtR X id r') : MtR X id (fun x vs H Q => r x vs H Q ∨ r' x vs H Q) := by
  intro pins s σ H x vs v us Q I rx rv q
  rcases q with q | q
  · exact h pins s σ H x vs v us Q I rx rv q
  · exact h' pins s σ H x vs v us Q I rx rv q
def rExtA (K : PySem.W.Frag) : V → List V → Hp → VK → Prop := fun x vs H Q => rExtend x vs H Q ∨ rExtT K x vs H Q
theorem mt_extA {X : Cx} : MtR X "list.extend" (rExtA X.K) := MtR.or' mt_extend mt_extT
noncomputable def dExtend (x : D) (ys : List D) (s : Store) : Option (D × Store) := match x, ys with
  | .loc l, [.loc k] => match s[l]?, s[k]? with
    | some (.lst xs), some (.lst zs) => if xs.length + zs.length ≤ sizeLine then some (.non, s.set l (.lst (xs ++ zs))) else none
    | _, _ => none
  | .loc l, [.tup zs] => match s[l]? with
    | some (.lst xs) => if xs.length + zs.length ≤ sizeLine then some (.non, s.set l (.lst (xs ++ zs))) else none
    | _ => none
  | _, _ => none
section
variable {K : PySem.W.Frag}
theorem mts_extend : MtS K (rExtA K) dExtend := by
  intro mg W σ m H s x d xs ds Q r p ps g
  unfold dExtend at g
  split at g
  · rename_i l k
    obtain ⟨w, rfl, h⟩ := reps1 ps
    cases p with
    | loc hl =>
      cases h with
      | loc hk =>
        split at g
        · rename_i ys zs q q2
          split at g
          · rename_i hz
            obtain ⟨vs, h1, h2⟩ := r.list hl q
            obtain ⟨ws, h3, h4⟩ := r.list hk q2
            obtain ⟨le, r2⟩ := le_setlist r hl (h2.append h4)
            exact .inl ⟨_, _, vs, ws, rfl, rfl, h1, h3, by rw [← h2.length, ← h4.length]; exact hz, g m _ _ le r2 .non⟩
          · exact g.elim
        · exact g.elim
  · rename_i l zs
    obtain ⟨w, rfl, h⟩ := reps1 ps
    cases p with
    | loc hl =>
      obtain ⟨a, ws, rfl, h3, h4⟩ := h.sqT
      split at g
      · rename_i ys q
        split at g
        · rename_i hz
          obtain ⟨vs, h1, h2⟩ := r.list hl q
          obtain ⟨le, r2⟩ := le_setlist r hl (h2.append h4)
          exact .inr ⟨_, _, vs, ws, rfl, rfl, h1, h3, by rw [← h2.length, ← h4.length]; exact hz, g m _ _ le r2 .non⟩
        · exact g.elim
      · exact g.elim
  · exact g.elim
/-! ### xs.pop(i), xs.insert(i, x) -/
noncomputable def dPopX (x : D) (ys : List D) (s : Store) : Option (D × Store) := match x, ys with
  | .loc l, [.int i] => match s[l]? with
    | some (.lst xs) => if -(2 ^ 63) ≤ i ∧ i < 2 ^ 63 then (seqIndex? i xs.length).bind fun k => (xs[k]?).map fun y => (y, s.set l (.lst (xs.eraseIdx k))) else none
    | _ => none
  | _, _ => none
theorem mts_popX : MtS K rPopAt dPopX := by
  intro mg W σ m H s x d xs ds Q r p ps g
  unfold dPopX at g
  split at g
  · rename_i l i
    obtain ⟨w, rfl, h⟩ := reps1 ps
    cases h
    cases p with
    | loc hl =>
      split at g
      · rename_i ys q
        split at g
        · rename_i hz
          cases q1 : seqIndex? i ys.length with
          | none => rw [q1] at g; exact g.elim
          | some k =>
            rw [q1, Option.bind_some] at g
            cases q2 : ys[k]? with
            | none => rw [q2] at g; exact g.elim
            | some y =>
              rw [q2] at g
              obtain ⟨vs, h1, h2⟩ := r.list hl q
              obtain ⟨v, hv, rv⟩ := h2.get q2
              obtain ⟨le, r2⟩ := le_setlist r hl (h2.erase k)
              exact ⟨_, vs, i, k, v, rfl, rfl, h1, hz.1, hz.2, by rw [← h2.length]; exact q1, hv, g m _ _ le r2 (rv.mono le)⟩
        · exact g.elim
      · exact g.elim
  · exact g.elim
def rIns : V → List V → Hp → VK → Prop := fun x vs H Q => ∃ (l : Addr) (xs : List V) (i : Int) (y : V), x = .ref l ∧ vs = [.int i, y] ∧ H l = some (.lst xs) ∧ xs.length < sizeLine ∧ 0 ≤ i ∧ i < 2 ^ 63 ∧
    Q .non (upd H l (.lst (xs.take i.toNat ++ [y] ++ xs.drop i.toNat)))
noncomputable def dInsert (x : D) (ys : List D) (s : Store) : Option (D × Store) := match x, ys with
  | .loc l, [.int i, y] => match s[l]? with
    | some (.lst xs) => if xs.length < sizeLine ∧ 0 ≤ i ∧ i < 2 ^ 63 then some (.non, s.set l (.lst (xs.take i.toNat ++ [y] ++ xs.drop i.toNat))) else none
    | _ => none
  | _, _ => none
theorem mts_insert : MtS K rIns dInsert := by
  intro mg W σ m H s x d xs ds Q r p ps g
  unfold dInsert at g
  split at g
  · rename_i l i y
    obtain ⟨w, w2, rfl, h, hy⟩ := reps2 ps
    cases h
    cases p with
    | loc hl =>
      split at g
      · rename_i ys q
        split at g
        · rename_i hz
          obtain ⟨vs, h1, h2⟩ := r.list hl q
          obtain ⟨le, r2⟩ := le_setlist r hl (((h2.take i.toNat).append (.cons hy .nil)).append (h2.drop i.toNat))
          exact ⟨_, vs, i, w2, rfl, rfl, h1, by rw [← h2.length]; exact hz.1, hz.2.1, hz.2.2, g m _ _ le r2 .non⟩
        · exact g.elim
      · exact g.elim
  · exact g.elim
/-! ### xs.index(x): items of a list -/
noncomputable def dIndex (x : D) (ys : List D) (s : Store) : Option (D × Store) := match ys with
  | [y] => (lstOf s x).bind fun xs => if flatD y = true ∧ xs.all flatD = true then (xs.findIdx? fun z => eqD z y).map fun j => (.int (j : Nat), s) else none
  | _ => none
theorem mts_index : MtS K (rIndex K) dIndex := by
  intro mg W σ m H s x d xs ds Q r p ps g
  unfold dIndex at g
  split at g
  · rename_i y
    obtain ⟨w, rfl, h⟩ := reps1 ps
    cases e : lstOf s d with
    | none => rw [e] at g; exact g.elim
    | some zs =>
      rw [e, Option.bind_some] at g
      split at g
      · rename_i hf
        cases q : zs.findIdx? fun z => eqD z y with
        | none => rw [q] at g; exact g.elim
        | some j =>
          rw [q] at g
          obtain ⟨a, vs, rfl, h1, h2⟩ := lstOf_sq r p e
          obtain ⟨hj, q1, q2⟩ := List.findIdx?_eq_some_iff_getElem.mp q
          have fl : ∀ i (hi : i < zs.length), flatD zs[i] = true := fun i hi => List.all_eq_true.mp hf.2 _ (List.getElem_mem hi)
          obtain ⟨v, hv, rv⟩ := h2.get (List.getElem?_eq_getElem hj)
          refine ⟨a, vs, w, j, v, rfl, rfl, h1, flat_rep h hf.1, flat_reps h2 hf.2, hv, by rw [eqD_rep rv h (fl j hj) hf.1]; exact q1, fun i z hi hz => ?_, g.now r (.int _)⟩
          have hi' : i < zs.length := by omega
          obtain ⟨v', hv', rv'⟩ := h2.get (List.getElem?_eq_getElem hi')
          rw [hz] at hv'
          cases hv'
          rw [eqD_rep rv' h (fl i hi') hf.1]
          simpa using q2 i hi
      · exact g.elim
  · exact g.elim
end
/-! ### equations for simp -/
theorem any_str (x : Str) (xs : List Str) : ((xs.map D.str).any fun z => eqD z (.str x)) = decide (x ∈ xs) := by
  rw [List.any_map, Bool.eq_iff_iff, List.any_eq_true, decide_eq_true_iff]
  exact ⟨fun ⟨z, h, e⟩ => by simp [eqD] at e; subst e; exact h, fun h => ⟨x, h, by simp [eqD]⟩⟩
theorem any_int (x : Int) (xs : List Int) : ((xs.map D.int).any fun z => eqD z (.int x)) = decide (x ∈ xs) := by
  rw [List.any_map, Bool.eq_iff_iff, List.any_eq_true, decide_eq_true_iff]
  exact ⟨fun ⟨z, h, e⟩ => by simp [eqD] at e; subst e; exact h, fun h => ⟨x, h, by simp [eqD]⟩⟩
theorem flat_str (xs : List Str) : (xs.map D.str).all flatD = true := by simp [flatD]
theorem flat_int (xs : List Int) : (xs.map D.int).all flatD = true := by simp [flatD]
theorem dInB_tupS (x : Str) (xs : List Str) (s : Store) : dInB (.str x) (.tup (xs.map D.str)) s = some (decide (x ∈ xs)) := by
  have e : inFlat (.str x) (xs.map D.str) = some (decide (x ∈ xs)) := by
    unfold inFlat
    rw [if_pos ⟨rfl, flat_str xs⟩, any_str]
  simp [dInB, dicOf, dctOf, seqOf, e]
theorem dInB_tupI (x : Int) (xs : List Int) (s : Store) : dInB (.int x) (.tup (xs.map D.int)) s = some (decide (x ∈ xs)) := by
  have e : inFlat (.int x) (xs.map D.int) = some (decide (x ∈ xs)) := by
    unfold inFlat
    rw [if_pos ⟨rfl, flat_int xs⟩, any_int]
  simp [dInB, dicOf, dctOf, seqOf, e]
theorem dInB_locS {l : Nat} {xs : List Str} {s : Store} (h : s[l]? = some (.lst (xs.map D.str))) (x : Str) : dInB (.str x) (.loc l) s = some (decide (x ∈ xs)) := by
  have e : inFlat (.str x) (xs.map D.str) = some (decide (x ∈ xs)) := by
    unfold inFlat
    rw [if_pos ⟨rfl, flat_str xs⟩, any_str]
  simp [dInB, dicOf, dctOf, seqOf, lstOf, h, e]
theorem dInB_locI {l : Nat} {xs : List Int} {s : Store} (h : s[l]? = some (.lst (xs.map D.int))) (x : Int) : dInB (.int x) (.loc l) s = some (decide (x ∈ xs)) := by
  have e : inFlat (.int x) (xs.map D.int) = some (decide (x ∈ xs)) := by
    unfold inFlat
    rw [if_pos ⟨rfl, flat_int xs⟩, any_int]
  simp [dInB, dicOf, dctOf, seqOf, lstOf, h, e]
theorem dInB_dct {s : Store} {l : Nat} {ks : List (List Key × D)} (h : s[l]? = some (.dct ks)) {x : D} {k : List Key} (hk : keyT x = some k) : dInB x (.loc l) s = some (getD ks k).isSome := by
  have e : dicOf s (.loc l) = none := by simp [dicOf, h]
  have e2 : dctOf s (.loc l) = some (l, ks) := by simp [dctOf, h]
  unfold dInB
  rw [e]
  simp only
  rw [e2]
  simp [hk]
theorem dInB_dic {s : Store} {l : Nat} {ks : List (Key × D)} (h : s[l]? = some (.dic ks)) {x : D} {k : Key} (hk : keyOf x = some k) : dInB x (.loc l) s = some (getD ks k).isSome := by
  have e : dicOf s (.loc l) = some (l, ks) := by simp [dicOf, h]
  unfold dInB
  rw [e]
  simp [hk]
theorem dIn_of {x y : D} {s : Store} {b : Bool} (h : dInB x y s = some b) : dIn x y s = some (.bl b, s) := by simp [dIn, h]
theorem dNotIn_of {x y : D} {s : Store} {b : Bool} (h : dInB x y s = some b) : dNotIn x y s = some (.bl !b, s) := by simp [dNotIn, h]
theorem dExtend_tup {s : Store} {l : Nat} {xs : List D} (h : s[l]? = some (.lst xs)) (zs : List D) (hz : xs.length + zs.length ≤ 1000000) : dExtend (.loc l) [.tup zs] s = some (.non, s.set l (.lst (xs ++ zs))) := by
  have q : xs.length + zs.length ≤ sizeLine := by rw [sizeLine_eq]; omega
  simp only [dExtend, h]
  rw [if_pos q]
/-! ### loops by place -/
theorem forL_at {gd : Store → Prop} {g : D → Sl → Option Sl} {b : MS} (xs : List D) (I : Nat → Sl → Store → Prop) (Q : RS → Prop) (hg : ∀ i env s, I i env s → gd s)
    (hs : ∀ i d env s, xs[i]? = some d → I i env s → Turns (I (i + 1)) Q (turn g b d env s)) (he : ∀ env s, I xs.length env s → Q (.nx env s)) {env : Sl} {s : Store} (h : I 0 env s) : Q (forL gd g b xs env s) := by
  refine forL_rule (fun ys env s => ∃ i, i ≤ xs.length ∧ ys = xs.drop i ∧ I i env s) Q (fun ys env s ⟨i, hi, _, q⟩ => hg i env s q) (fun x ys env s ⟨i, hi, e, q⟩ => ?_) (fun env s ⟨i, hi, e, q⟩ => ?_) ⟨0, Nat.zero_le _, rfl, h⟩
  · have hx : xs[i]? = some x := by
      have := congrArg (fun l : List D => l[0]?) e
      simpa using this.symm
    have hy : ys = xs.drop (i + 1) := by
      have := congrArg List.tail e
      simpa [List.tail_drop] using this
    have hlt := (List.getElem?_eq_some_iff.mp hx).1
    have t1 := hs i x env s hx q
    cases hb : turn g b x env s with
    | nx env2 s2 => rw [hb] at t1; exact ⟨i + 1, hlt, hy, t1⟩
    | ct env2 s2 => rw [hb] at t1; exact ⟨i + 1, hlt, hy, t1⟩
    | bk env2 s2 => rw [hb] at t1; exact t1
    | rt d s2 => rw [hb] at t1; exact t1
    | ex x env2 s2 => rw [hb] at t1; exact t1
    | no => rw [hb] at t1; exact t1
  · have : i = xs.length := by
      have := congrArg List.length e
      simp at this
      omega
    subst this
    exact he env s q
theorem forL_atT {gd : Store → Prop} {g : D → Sl → Option Sl} {b : MS} (xs : List D) (I : Nat → Sl → Store → Prop) (hg : ∀ i env s, I i env s → gd s)
    (hs : ∀ i d env s, xs[i]? = some d → I i env s → Turns (I (i + 1)) (fun _ => False) (turn g b d env s)) {env : Sl} {s : Store} (h : I 0 env s) : ∃ env' s', forL gd g b xs env s = .nx env' s' ∧ I xs.length env' s' :=
  forL_at xs I (fun r => ∃ env' s', r = .nx env' s' ∧ I xs.length env' s') hg (fun i d env s hi h => by
    have z := hs i d env s hi h
    cases q : turn g b d env s with
    | nx env2 s2 => rw [q] at z; exact z
    | ct env2 s2 => rw [q] at z; exact z
    | bk env2 s2 => rw [q] at z; exact z.elim
    | rt d s2 => rw [q] at z; exact z.elim
    | ex e env2 s2 => rw [q] at z; exact z.elim
    | no => rw [q] at z; exact z.elim) (fun env s h => ⟨env, s, rfl, h⟩) h
/-- a loop of yes-no turns: it goes on, or it returns -/
theorem forL_find {gd : Store → Prop} {g : D → Sl → Option Sl} {b : MS} (xs : List D) (I : Nat → Sl → Store → Prop) (ok : Nat → Bool) (out : Nat → D) (hg : ∀ i env s, I i env s → gd s)
    (hs : ∀ i d env s, xs[i]? = some d → I i env s → if ok i = true then Turns (I (i + 1)) (fun _ => False) (turn g b d env s) else ∃ s', turn g b d env s = .rt (out i) s' ∧ ∃ env', I i env' s') {env : Sl} {s : Store} (h : I 0 env s) :
    match (List.range xs.length).find? (fun i => !ok i) with
    | none => ∃ env' s', forL gd g b xs env s = .nx env' s' ∧ I xs.length env' s'
    | some i => ∃ s' env', forL gd g b xs env s = .rt (out i) s' ∧ I i env' s' := by
  have key : ∀ n, n ≤ xs.length → (∀ j, j < n → ok j = true) → ∀ env s, I n env s → match (List.range' n (xs.length - n)).find? (fun i => !ok i) with
      | none => ∃ env' s', forL gd g b (xs.drop n) env s = .nx env' s' ∧ I xs.length env' s'
      | some i => ∃ s' env', forL gd g b (xs.drop n) env s = .rt (out i) s' ∧ I i env' s' := by
    intro n
    induction hk : xs.length - n generalizing n with
    | zero =>
      intro hn _ env s hI
      have : n = xs.length := by omega
      subst this
      simp
      rw [forL_nil env s gd (hg _ _ _ hI)]
      exact ⟨_, _, rfl, hI⟩
    | succ k ih =>
      intro hn hall env s hI
      have hlt : n < xs.length := by omega
      rw [List.drop_eq_getElem_cons hlt, forL_cons env s gd (hg _ _ _ hI), List.range'_succ]
      have z := hs n xs[n] env s (by simp [hlt]) hI
      unfold turn at z
      by_cases c : ok n = true
      · rw [if_pos c] at z
        simp only [List.find?_cons, c, Bool.not_true]
        cases e1 : g xs[n] env with
        | none => rw [e1] at z; exact z.elim
        | some env1 =>
          rw [e1] at z
          dsimp only at z ⊢
          have hall' : ∀ j, j < n + 1 → ok j = true := fun j hj => by
            rcases Nat.lt_or_ge j n with w | w
            · exact hall j w
            · have : j = n := by omega
              rw [this]; exact c
          cases q : b env1 s with
          | nx env2 s2 => rw [q] at z; exact ih (n + 1) (by omega) hlt hall' env2 s2 z
          | ct env2 s2 => rw [q] at z; exact ih (n + 1) (by omega) hlt hall' env2 s2 z
          | bk env2 s2 => rw [q] at z; exact z.elim
          | rt d s2 => rw [q] at z; exact z.elim
          | ex e env2 s2 => rw [q] at z; exact z.elim
          | no => rw [q] at z; exact z.elim
      · rw [if_neg c] at z
        obtain ⟨s', h1, env', h2⟩ := z
        have c' : ok n = false := by simpa using c
        simp only [List.find?_cons, c', Bool.not_false]
        cases e1 : g xs[n] env with
        | none => rw [e1] at h1; cases h1
        | some env1 =>
          rw [e1] at h1
          dsimp only at h1 ⊢
          rw [h1]
          exact ⟨s', env', rfl, h2⟩
  have := key 0 (Nat.zero_le _) (fun j hj => absurd hj (Nat.not_lt_zero j)) env s h
  rw [Nat.sub_zero, ← List.range_eq_range', List.drop_zero] at this
  exact this
/-- range(i, j) -/
def rng2 (lo : Int) (n : Nat) : List D := (List.range n).map fun k => .int (lo + (k : Nat))
theorem rng2_get {lo : Int} {n i : Nat} {d : D} (h : (rng2 lo n)[i]? = some d) : i < n ∧ d = .int (lo + (i : Nat)) := by
  unfold rng2 at h
  rw [List.getElem?_map] at h
  cases e : (List.range n)[i]? with
  | none => rw [e] at h; cases h
  | some k =>
    rw [e] at h
    cases h
    obtain ⟨hl, he⟩ := List.getElem?_eq_some_iff.mp e
    simp at hl he
    exact ⟨hl, by rw [he]⟩
theorem rng2_len (lo : Int) (n : Nat) : (rng2 lo n).length = n := by simp [rng2]
theorem range2_int (i j : Int) (s : Store) (h0 : 0 ≤ i) (h1 : i ≤ 1000000000) (h2 : 0 ≤ j) (h3 : j ≤ 1000000000) : rangeOf2 [.int i, .int j] s = .ok (Itm.mk (rng2 i (j - i).toNat) always) s := rangeOf2_int s i j h0 h1 h2 h3
theorem rng_get {n i : Nat} {d : D} (h : (rng n)[i]? = some d) : i < n ∧ d = .int (i : Nat) := by
  obtain ⟨a, b⟩ := rng2_get (lo := 0) (n := n) h
  exact ⟨a, by rw [b, Int.zero_add]⟩
theorem rng_len (n : Nat) : (rng n).length = n := by simp [rng]
theorem map_get {α : Type} {f : α → D} {xs : List α} {i : Nat} {d : D} (h : (xs.map f)[i]? = some d) : ∃ x, xs[i]? = some x ∧ d = f x := by
  rw [List.getElem?_map] at h
  cases e : xs[i]? with
  | none => rw [e] at h; cases h
  | some x => rw [e] at h; cases h; exact ⟨x, rfl, rfl⟩
/-- a loop that looks for one that fails, and returns r there -/
theorem forL_all {α : Type} {gd : Store → Prop} {g : D → Sl → Option Sl} {b : MS} (f : α → D) (as : List α) (I : Sl → Prop) (s : Store) (ok : α → Bool) (r : D) (hg : gd s)
    (hs : ∀ a ∈ as, ∀ env, I env → if ok a = true then ∃ env', turn g b (f a) env s = .nx env' s ∧ I env' else turn g b (f a) env s = .rt r s) {env : Sl} (h : I env) :
    if as.all ok = true then ∃ env', forL gd g b (as.map f) env s = .nx env' s ∧ I env' else forL gd g b (as.map f) env s = .rt r s := by
  induction as generalizing env with
  | nil =>
    rw [List.map_nil, forL_nil env s gd hg]
    exact ⟨_, rfl, h⟩
  | cons a as ih =>
    rw [List.map_cons, forL_cons env s gd hg]
    have z := hs a (List.mem_cons_self ..) env h
    unfold turn at z
    by_cases c : ok a = true
    · rw [if_pos c] at z
      obtain ⟨env', z1, z2⟩ := z
      have q := ih (fun a' ha' => hs a' (List.mem_cons_of_mem _ ha')) z2
      cases e1 : g (f a) env with
      | none => rw [e1] at z1; cases z1
      | some env1 =>
        rw [e1] at z1
        dsimp only at z1 ⊢
        rw [z1]
        simpa [c] using q
    · rw [if_neg c] at z
      have c' : ok a = false := by simpa using c
      cases e1 : g (f a) env with
      | none => rw [e1] at z; cases z
      | some env1 =>
        rw [e1] at z
        dsimp only at z ⊢
        rw [z]
        simp [c']
theorem app_new (s : Store) (xs : List D) (y : D) (h : xs.length ≤ 1000000) : dAppend (.loc s.length) [y] (s ++ [.lst xs]) = some (.non, s ++ [.lst (xs ++ [y])]) := by
  have q := dAppend_loc (get_new s (.lst xs)) h y
  rw [q]
  simp
theorem ty_new (s : Store) (xs : List D) : tyOk "list" (s ++ [.lst xs]) (.loc s.length) = true := tyOk_list (get_new s (.lst xs))
theorem tyN_isi {s : Store} {d : D} {t : String} (h : tyN s d = some t) (T : String) : dIsi T d s = (kitB t T).map fun b => (.bl b, s) := by simp [h]
end Mi
namespace Mi
open PySem PySem.Spec PyProof.Rows L2
/-! ### more rules for mirrors -/
theorem tryAs_ex {i : Nat} {cs : List Str} {body : MS} {suite : Nat × Nat → MS} {env env2 : Sl} {s s2 : Store} {e : Ex} {r : RS} (h : body env s = .ex e env2 s2) (h1 : e.cls ∈ cs) (h2 : e.fs ≠ [])
    (h3 : ∀ g : Nat × Nat, clr i (suite g (env2.set i (some (.exv g.1 g.2 e.cls e.fs))) s2) = r) : sTryAs i cs body suite env s = r := by
  unfold sTryAs
  rw [h]
  simp only
  rw [if_pos ⟨h1, h2, fun g => by rw [h3 g]; exact (h3 (0, 0)).symm⟩]
  exact h3 (0, 0)
/-- what stood before stands, and something new behind it -/
def Ext (s s' : Store) : Prop := ∃ r, s' = s ++ r
theorem Ext.refl (s : Store) : Ext s s := ⟨[], by simp⟩
theorem Ext.mk (s r : Store) : Ext s (s ++ r) := ⟨r, rfl⟩
theorem Ext.trans {a b c : Store} (h : Ext a b) (k : Ext b c) : Ext a c := by
  obtain ⟨r, rfl⟩ := h
  obtain ⟨t, rfl⟩ := k
  exact ⟨r ++ t, by simp⟩
theorem Ext.get {a b : Store} (h : Ext a b) {l : Nat} {c : Cell} (e : a[l]? = some c) : b[l]? = some c := by
  obtain ⟨r, rfl⟩ := h
  rw [List.getElem?_append_left (lt_of_get e)]
  exact e
theorem Ext.le {a b : Store} (h : Ext a b) : a.length ≤ b.length := by
  obtain ⟨r, rfl⟩ := h
  simp
/-- an item of a tuple or a list, by place -/
theorem ix_map {α : Type} {f : α → D} {xs : List α} {i : Int} (h0 : 0 ≤ i) (h1 : i < xs.length) : ∃ a, a ∈ xs ∧ xs[i.toNat]? = some a ∧ ∀ s, dIx (.tup (xs.map f)) (.int i) s = some (f a, s) := by
  obtain ⟨n, rfl⟩ := Int.eq_ofNat_of_zero_le h0
  have hn : n < xs.length := by omega
  refine ⟨xs[n], List.getElem_mem _, by simp [hn], fun s => ?_⟩
  rw [dIx_tup, atI_ofNat _ _ (f xs[n]) (by simp [hn])]
  rfl
theorem ixL_map {α : Type} {f : α → D} {xs : List α} {s : Store} {l : Nat} (h : s[l]? = some (.lst (xs.map f))) {i : Int} (h0 : 0 ≤ i) (h1 : i < xs.length) : ∃ a, a ∈ xs ∧ xs[i.toNat]? = some a ∧ dIx (.loc l) (.int i) s = some (f a, s) := by
  obtain ⟨n, rfl⟩ := Int.eq_ofNat_of_zero_le h0
  have hn : n < xs.length := by omega
  refine ⟨xs[n], List.getElem_mem _, by simp [hn], ?_⟩
  rw [dIx_loc h, L2.atI_nat (v := f xs[n]) (by simp [hn])]
  rfl
theorem ix_mem {xs : List D} {i : Int} (h0 : 0 ≤ i) (h1 : i < xs.length) : ∃ a, a ∈ xs ∧ ∀ s, dIx (.tup xs) (.int i) s = some (a, s) := by
  obtain ⟨n, rfl⟩ := Int.eq_ofNat_of_zero_le h0
  have hn : n < xs.length := by omega
  refine ⟨xs[n], List.getElem_mem _, fun s => ?_⟩
  rw [dIx_tup, atI_ofNat _ _ xs[n] (by simp [hn])]
  rfl
theorem ixL_mem {xs : List D} {s : Store} {l : Nat} (h : s[l]? = some (.lst xs)) {i : Int} (h0 : 0 ≤ i) (h1 : i < xs.length) : ∃ a, a ∈ xs ∧ dIx (.loc l) (.int i) s = some (a, s) := by
  obtain ⟨n, rfl⟩ := Int.eq_ofNat_of_zero_le h0
  have hn : n < xs.length := by omega
  refine ⟨xs[n], List.getElem_mem _, ?_⟩
  rw [dIx_loc h, L2.atI_nat (v := xs[n]) (by simp [hn])]
  rfl
theorem dAdd_s {a b : Str} (h : a.length + b.length ≤ 1000000) (s : Store) : dAdd (.str a) (.str b) s = some (.str (a ++ b), s) := by
  have q := le_line h
  simp only [dAdd, q, if_true]
theorem cutS1 (ws : List Str) {k : Nat} (h : k ≤ ws.length) : cutD (ws.map D.str) none (some (k : Int)) = (ws.take k).map D.str := by
  unfold cutD
  rw [HT.sIx_none, HT.sIx_nat]
  simp [Nat.min_eq_left h]
theorem cutS2 (ws : List Str) {k : Nat} (h : k + 1 ≤ ws.length) : cutD (ws.map D.str) (some ((k : Int) + 1)) none = (ws.drop (k + 1)).map D.str := by
  unfold cutD
  rw [HT.sIx_none, show ((k : Int) + 1) = ((k + 1 : Nat) : Int) by omega, HT.sIx_nat, List.length_map, Nat.min_eq_left h, ← List.map_drop]
  rw [List.take_of_length_le (by simp)]
theorem sort_strs (A : List Str) : sortOk (A.map D.str) ∧ ∃ M : List Str, sortD (A.map D.str) = M.map D.str ∧ M.length = A.length ∧ M.Perm A := by
  refine ⟨⟨fun d hd => ?_, ?_, ?_⟩, A.mergeSort fun x y => PySem.W.dataLe false pyD (D.str x) (D.str y), ?_, List.length_mergeSort _, List.mergeSort_perm _ _⟩
  · obtain ⟨x, _, rfl⟩ := List.mem_map.mp hd
    exact ⟨rfl, by show PyData.depth (.str x) ≤ 60; simp [PyData.depth]⟩
  · rw [List.map_map]
    exact PySem.W.AllAlike.of (enc := fun x => pyD (D.str x)) fun x y => by show PySem.W.alike (.str x) (.str y) = true; simp [PySem.W.alike]
  · rw [List.map_map]
    exact PySem.W.Sortable.others (enc := fun x => pyD (D.str x)) fun x => ⟨by show PyData.str x ≠ .none; simp, fun xs => by show PyData.str x ≠ .tuple xs; simp⟩
  · unfold sortD
    rw [List.map_mergeSort (r := fun x y : Str => PySem.W.dataLe false pyD (D.str x) (D.str y)) (s := PySem.W.dataLe false pyD) fun _ _ _ _ => rfl]
/-- a comprehension by place -/
theorem lcL_at {gd : Store → Prop} {g : D → Sl → Option Sl} {t : ME Bool} {e : ME D} {env : Sl} (xs : List D) (I : Nat → List D → Store → Prop) (hg : ∀ i acc s, I i acc s → gd s)
    (hs : ∀ i d acc s, xs[i]? = some d → I i acc s → Kept (I (i + 1)) acc (pick g t e d env s)) {acc : List D} {s : Store} (h : I 0 acc s) : ∃ acc' s', lcL gd g t e env xs acc s = .ok acc' s' ∧ I xs.length acc' s' := by
  obtain ⟨acc', s', h1, i, hi, e, h2⟩ := lcL_thru (gd := gd) (g := g) (t := t) (e := e) (env := env) (fun ys acc s => ∃ i, i ≤ xs.length ∧ ys = xs.drop i ∧ I i acc s) (fun _ acc s ⟨i, hi, _, q⟩ => hg i acc s q) (fun x ys acc s ⟨i, hi, e, q⟩ => by
    have hx : xs[i]? = some x := by
      have := congrArg (fun l : List D => l[0]?) e
      simpa using this.symm
    have hy : ys = xs.drop (i + 1) := by
      have := congrArg List.tail e
      simpa [List.tail_drop] using this
    have hlt := (List.getElem?_eq_some_iff.mp hx).1
    have z := hs i x acc s hx q
    cases hp : pick g t _ x env s with
    | no => rw [hp] at z; exact z
    | ex x s => rw [hp] at z; exact z
    | ok o s2 =>
      rw [hp] at z
      cases o with
      | none => exact ⟨i + 1, hlt, hy, z⟩
      | some y => exact ⟨z.1, i + 1, hlt, hy, z.2⟩) (xs := xs) ⟨0, Nat.zero_le _, rfl, h⟩
  have : i = xs.length := by
    have := congrArg List.length e
    simp at this
    omega
  subst this
  exact ⟨acc', s', h1, h2⟩
/-! ### statement by statement -/
section
variable {P : RS → Prop} {i : Nat} {a : ME D} {t : ME Bool} {f g r : MS} {env env2 : Sl} {s s' s2 : Store} {d : D}
theorem st_set (h : a env s = .ok d s') (k : P (r (env.set i (some d)) s')) : P (sSeq (sSet i a) r env s) := by
  show P (RS.bind ((a env s).then env fun d s => .nx (env.set i (some d)) s) r)
  rw [h]
  exact k
theorem st_no (h : t env s = .ok false s') (k : P (r env s')) : P (sSeq (sIf t f sNil) r env s) := by
  show P (RS.bind ((t env s).then env fun b s => if b then f env s else sNil env s) r)
  rw [h]
  exact k
theorem st_else (h : t env s = .ok false s') (h2 : g env s' = .nx env2 s2) (k : P (r env2 s2)) : P (sSeq (sIf t f g) r env s) := by
  show P (RS.bind ((t env s).then env fun b s => if b then f env s else g env s) r)
  rw [h]
  show P (RS.bind (g env s') r)
  rw [h2]
  exact k
theorem st_yes (h : t env s = .ok true s') (h2 : f env s' = .nx env2 s2) (k : P (r env2 s2)) : P (sSeq (sIf t f g) r env s) := by
  show P (RS.bind ((t env s).then env fun b s => if b then f env s else g env s) r)
  rw [h]
  show P (RS.bind (f env s') r)
  rw [h2]
  exact k
theorem st_out (h : t env s = .ok true s') (h2 : f env s' = .rt d s2) (k : P (.rt d s2)) : P (sSeq (sIf t f g) r env s) := by
  show P (RS.bind ((t env s).then env fun b s => if b then f env s else g env s) r)
  rw [h]
  show P (RS.bind (f env s') r)
  rw [h2]
  exact k
theorem st_for {it : ME Itm} {x : Itm} {gt : D → Sl → Option Sl} {b : MS} (h : it env s = .ok x s') (h2 : forL x.guard gt b x.xs env s' = .nx env2 s2) (k : P (r env2 s2)) : P (sSeq (sFor it gt b) r env s) := by
  show P (RS.bind ((it env s).then env fun i s => forL i.guard gt b i.xs env s) r)
  rw [h]
  show P (RS.bind (forL x.guard gt b x.xs env s') r)
  rw [h2]
  exact k
theorem st_expr (h : a env s = .ok d s') (k : P (r env s')) : P (sSeq (sExpr a) r env s) := by
  show P (RS.bind ((a env s).then env fun _ s => .nx env s) r)
  rw [h]
  exact k
theorem st_ret (h : a env s = .ok d s') (k : P (.rt d s')) : P (sRet a env s) := by
  show P ((a env s).then env fun d s => .rt d s)
  rw [h]
  exact k
/-- it returns True -/
def Yes (r : RS) : Prop := ∃ s, r = .rt (.bl true) s
theorem Yes.fn {N n : Nat} {b : MS} {ds : List D} {s : Store} (h : Yes (b (ds.map some ++ List.replicate (N - n) none) s)) : ∃ s', fnM N n b ds s = .ok (.bl true) s' := by
  obtain ⟨s', e⟩ := h
  exact ⟨s', by rw [fnM_eq, e]⟩
end
end Mi
namespace Mi
open PySem PySem.Spec PyProof.Rows L2
/-! ### dict comprehensions -/
section
variable {K : PySem.W.Frag} {mg : Str → Option Value} {m m1 m2 : List Addr} {H H1 H2 : Hp} {s : Store} {p : Addr}
theorem lw_sideD {vs ws : List (Key × V)} (h : H p = some (.dK vs)) : Lw K m H m (upd H p (HO.dK ws)) :=
  ⟨⟨[], by simp⟩, fun b xs q => by
    rcases q with (q | ⟨ob, q⟩) | q
    · exact .inl (.inl (by rw [upd_ne (fun z => by subst z; rw [h] at q; cases q)]; exact q))
    · exact .inl (.inr ⟨ob, by rw [upd_ne (fun z => by subst z; rw [h] at q; cases q)]; exact q⟩)
    · exact .inr q, fun b xs q => by
    rcases q with ⟨ob, q⟩ | q
    · exact .inl ⟨ob, by rw [upd_ne (fun z => by subst z; rw [h] at q; cases q)]; exact q⟩
    · exact .inr q, fun b vfs q n => ⟨by rw [upd_ne (fun z => by subst z; rw [h] at q; cases q)]; exact q, n⟩, fun b o u q => by rw [upd_ne (fun z => by subst z; rw [h] at q; cases q)]; exact q, fun b xs q => by rw [upd_ne (fun z => by subst z; rw [h] at q; cases q)]; exact q⟩
theorem Rel.sideD (r : Rel K m H s) {vs ws : List (Key × V)} (h : H p = some (.dK vs)) (n : p ∉ m) : Rel K m (upd H p (HO.dK ws)) s :=
  ⟨r.len, r.nd, fun l a c h1 h2 => (r.at_ l a c h1 h2).monoW (lw_sideD h) (upd_ne fun z => by subst z; exact n (List.mem_of_getElem? h1))⟩
theorem Le.sideD (e : Le K m H m1 H1) {vs ws : List (Key × V)} (h0 : H p = none) (h : H1 p = some (.dK vs)) : Le K m H m1 (upd H1 p (HO.dK ws)) :=
  ⟨e.pre, fun a xs q => (lw_sideD (m := m1) h).tup a xs (e.tup a xs q), fun a xs q => (lw_sideD (m := m1) h).frl a xs (e.frl a xs q), fun b o q n => by
    rw [upd_ne (fun z => by subst z; rw [h0] at q; cases q)]; exact e.fr b o q n, e.nw, fun a o u q => (lw_sideD (K := K) (m := m1) h).trk a o u (e.trk a o u q), fun a xs q => (lw_sideD (K := K) (m := m1) h).trt a xs (e.trt a xs q)⟩
theorem lw_adoptD {vs : List (Key × V)} (h : H p = some (.dK vs)) : Lw K m H (m ++ [p]) H := ⟨⟨[p], rfl⟩, fun _ _ q => q, fun _ _ q => q, fun b vfs q n => ⟨q, fun z => by
    rcases List.mem_append.mp z with z | z
    · exact n z
    · rw [List.mem_singleton.mp z, h] at q; cases q⟩, fun _ _ _ q => q, fun _ _ q => q⟩
theorem Rel.adoptD (r : Rel K m H s) {xs : List (Key × D)} {vs : List (Key × V)} (n : p ∉ m) (h : H p = some (.dK vs)) (q : RepK K m H xs vs) : Rel K (m ++ [p]) H (s ++ [Cell.dic xs]) := by
  refine ⟨by simp [r.len], ?_, fun j b d h1 h2 => ?_⟩
  · rw [List.nodup_append]
    exact ⟨r.nd, by simp, fun x hx y hy => by rw [List.mem_singleton.mp hy]; exact fun z => n (z ▸ hx)⟩
  · rcases Nat.lt_or_ge j m.length with w | w
    · rw [List.getElem?_append_left w] at h1
      rw [List.getElem?_append_left (by rw [← r.len]; exact w)] at h2
      exact (r.at_ j b d h1 h2).monoW (lw_adoptD h) rfl
    · rw [List.getElem?_append_right w] at h1
      rw [List.getElem?_append_right (by rw [← r.len]; exact w), ← r.len] at h2
      cases hk : j - m.length with
      | zero =>
        rw [hk] at h1 h2
        simp at h1 h2
        subst h1; subst h2
        exact ⟨vs, h, q.monoW (lw_adoptD h)⟩
      | succ n => rw [hk] at h1; simp at h1
end
open Classical in
noncomputable def dcL (guard : Store → Prop) (g : D → Sl → Option Sl) (t : ME Bool) (ek ev : ME D) (env : Sl) : List D → List (Key × D) → Store → R (List (Key × D))
  | [], acc, s => if guard s then .ok acc s else .no
  | x :: xs, acc, s => if guard s then (match g x env with
    | none => .no
    | some env1 => match t env1 s with
      | .ok b s1 => if b then (match ek env1 s1 with
        | .ok y s2 => match ev env1 s2 with
          | .ok z s3 => match keyOf y with
            | some k => if acc.length < sizeLine then dcL guard g t ek ev env xs (putD acc k z) s3 else .no
            | none => .no
          | _ => .no
        | _ => .no) else dcL guard g t ek ev env xs acc s1
      | _ => .no) else .no
/-- {k: v for target in iter if ..} -/
noncomputable def eDc (it : ME Itm) (vs : List Nat) (g : D → Sl → Option Sl) (t : ME Bool) (ek ev : ME D) : ME D := fun env s => (it env s).bind fun i s => (dcL i.guard g t ek ev (wipeE env vs) i.xs [] s).bind fun acc s => .ok (.loc s.length) (s ++ [.dic acc])
section
variable {X : Cx} {W : WX}
theorem dc_run {fi : ME Itm} {vs : List Nat} {gt : D → Sl → Option Sl} {ft : ME Bool} {fk fv : ME D} : ∀ σ H Q, Te X.K X.mg W (eDc fi vs gt ft fk fv) σ H Q →
    tDc (Ti X.K X.mg W fi) (GTm X.K vs gt) (Tt X.K X.mg WF ft) (Te X.K X.mg WF fk) (Te X.K X.mg WF fv) vs σ H Q := fun σ H Q h =>
  Tm.bind (k := fun env (i : Itm) s => (dcL i.guard gt ft fk fv (wipeE env vs) i.xs [] s).bind fun acc s => R.ok (D.loc s.length) (s ++ [Cell.dic acc])) h fun m1 H1 env it J s1 r1 E1 p1 g1 => by
    intro P hP
    refine ⟨fun i k H => k = it.xs.length - i ∧ i ≤ it.xs.length ∧ ∃ m2 s2 acc accV, Le X.K m1 H1 m2 H ∧ Rel X.K m2 H s2 ∧ H P = some (.dK accV) ∧ P ∉ m2 ∧ RepK X.K m2 H acc accV ∧
        G X.K X.mg (Rep X.K) W σ m1 H1 Q ((dcL it.guard gt ft fk fv (wipeE env vs) (it.xs.drop i) acc s2).bind fun acc s => R.ok (D.loc s.length) (s ++ [Cell.dic acc])),
      ⟨it.xs.length, by simp, Nat.zero_le _, m1, s1, [], [], le_new hP, r1.tmp hP, upd_same, r1.new_notin hP, .nil, g1⟩, ?_⟩
    rintro i k H2 ⟨rfl, hi, m2, s2, acc, accV, l2, r2, hD, nD, pA, g2⟩
    by_cases hlt : i < it.xs.length
    · have hx : it.xs[i]? = some it.xs[i] := by simp [hlt]
      have hd : it.xs.drop i = it.xs[i] :: it.xs.drop (i + 1) := List.drop_eq_getElem_cons hlt
      rw [hd] at g2
      unfold dcL at g2
      by_cases hgd : it.guard s2
      · simp only [hgd, if_true] at g2
        obtain ⟨hall, _⟩ := p1 m2 H2 s2 l2.w r2 hgd
        obtain ⟨hgo, hy⟩ := hall i _ hx
        refine .inr ⟨hgo, fun H' => ∃ m2 s2 acc accV, Le X.K m1 H1 m2 H' ∧ Rel X.K m2 H' s2 ∧ H' P = some (.dK accV) ∧ P ∉ m2 ∧ RepK X.K m2 H' acc accV ∧
          G X.K X.mg (Rep X.K) W σ m1 H1 Q ((dcL it.guard gt ft fk fv (wipeE env vs) (it.xs.drop (i + 1)) acc s2).bind fun acc s => R.ok (D.loc s.length) (s ++ [Cell.dic acc])),
          fun H' q => ⟨it.xs.length - (i + 1), by omega, rfl, hlt, q⟩, fun v H3 y => ?_⟩
        obtain ⟨l3, r3, p3⟩ := hy v H3 y
        cases q : gt it.xs[i] (wipeE env vs) with
        | none => simp only [q] at g2; exact g2.elim
        | some env3 =>
          simp only [q] at g2
          have l13 := l2.trans l3
          have hD3 := l3.fr P _ hD nD
          refine ⟨m2, wipeE env vs, s2, it.xs[i], env3, r3, relE_wipe (E1.mono l13) vs, p3, q, fun σ4 E4 k4 n4 => ⟨by rw [wipe_congr n4 k4, wipe_wipe], m2, env3, s2, r3, E4, ?_⟩⟩
          cases ht : ft env3 s2 with
          | no => rw [ht] at g2; exact g2.elim
          | ex x s4 => rw [ht] at g2; exact g2.elim
          | ok b s4 =>
            simp only [ht] at g2
            intro m5 H5 b' l5 r5 eb
            cases (show b = b' from eb)
            have hD5 := l5.fr P _ hD3 nD
            have nD5 : P ∉ m5 := fun z => by
              rcases l5.nw P z with w | w
              · exact nD w
              · rw [hD3] at w; cases w
            have l15 := l13.trans l5
            cases b with
            | false =>
              refine iteF ⟨m5, s4, acc, accV, l15, r5, hD5, nD5, (pA.mono l3).mono l5, ?_⟩
              simpa using g2
            | true =>
              simp only [if_true] at g2
              refine iteT ⟨m5, env3, s4, r5, E4.mono l5, ?_⟩
              cases he : fk env3 s4 with
              | no => rw [he] at g2; exact g2.elim
              | ex x s6 => rw [he] at g2; exact g2.elim
              | ok y s6 =>
                simp only [he] at g2
                intro m7 H7 yv l7 r7 p7
                have hD7 := l7.fr P _ hD5 nD5
                have nD7 : P ∉ m7 := fun z => by
                  rcases l7.nw P z with w | w
                  · exact nD5 w
                  · rw [hD5] at w; cases w
                refine ⟨m7, env3, s6, r7, (E4.mono l5).mono l7, ?_⟩
                cases hv : fv env3 s6 with
                | no => rw [hv] at g2; exact g2.elim
                | ex x s8 => rw [hv] at g2; exact g2.elim
                | ok z s8 =>
                  simp only [hv] at g2
                  intro m9 H9 zv l9 r9 p9
                  have hD9 := l9.fr P _ hD7 nD7
                  have nD9 : P ∉ m9 := fun z => by
                    rcases l9.nw P z with w | w
                    · exact nD7 w
                    · rw [hD7] at w; cases w
                  cases hk : keyOf y with
                  | none => simp only [hk] at g2; exact g2.elim
                  | some k =>
                    simp only [hk] at g2
                    by_cases hz : acc.length < sizeLine
                    · simp only [hz, if_true] at g2
                      have pA9 := (((pA.mono l3).mono l5).mono l7).mono l9
                      have pP := (repk_put (k := k) pA9 p9).monoW (lw_sideD (m := m9) (ws := putK accV k zv) hD9)
                      exact ⟨accV, k, keyOf_rep p7 hk, hD9, by rw [← repk_len pA]; exact hz, m9, s8, putD acc k z, putK accV k zv, ((l15.trans l7).trans l9).sideD hP hD9, r9.sideD hD9 nD9, upd_same, nD9, pP, g2⟩
                    · simp only [hz, if_false] at g2
                      exact g2.elim
      · simp only [hgd, if_false] at g2
        exact g2.elim
    · have e : i = it.xs.length := by omega
      subst e
      rw [List.drop_length] at g2
      unfold dcL at g2
      by_cases hgd : it.guard s2
      · simp only [hgd, if_true] at g2
        refine .inl ⟨(p1 m2 H2 s2 l2.w r2 hgd).2, ?_⟩
        exact g2 (m2 ++ [P]) H2 (.ref P) (l2.adopt hP) (r2.adoptD nD hD pA) (.loc (len_get r2))
      · simp only [hgd, if_false] at g2
        exact g2.elim
variable {ek ev tg iter c : Expr} {ifs : List Expr} {scope : Scope} {own : List (Str × Nat)} {pos : Pos} {fi : ME Itm} {gt : D → Sl → Option Sl} {ft : ME Bool} {fk fv : ME D}
theorem ce_dc (hc : X.calm = true) (hN : X.N.Nodup) (hi : PI X tg iter (Ti X.K X.mg W fi)) (ok : BlkOk X.N X.env.scope scope own)
    (hg : ∀ (s : Shared) (H : Hp) (C : Addr) (cl : List (Str × Addr)) (fp : List Addr), PG (X.blk s H scope (compEnvC scope cl C X.env) fp) tg (GTm X.K (own.map (·.2)) gt)) (ht : ∀ (s : Shared) (H : Hp) (C : Addr) (cl : List (Str × Addr)) (fp : List Addr), PTs (X.blk s H scope (compEnvC scope cl C X.env) fp) ifs (Tt X.K X.mg WF ft))
    (hk : ∀ (s : Shared) (H : Hp) (C : Addr) (cl : List (Str × Addr)) (fp : List Addr), PE (X.blk s H scope (compEnvC scope cl C X.env) fp) ek (Te X.K X.mg WF fk))
    (he : ∀ (s : Shared) (H : Hp) (C : Addr) (cl : List (Str × Addr)) (fp : List Addr), PE (X.blk s H scope (compEnvC scope cl C X.env) fp) ev (Te X.K X.mg WF fv)) (hs : ∀ x, foldedSetIterable iter X.env x = pure x := by intro _; rfl) :
    PE X (.DictComp ek ev [⟨tg, iter, ifs, 0⟩] scope pos) (Te X.K X.mg W (eDc fi (own.map (·.2)) gt ft fk fv)) := PE.imp (pe_dc hc hN hi ok hg ht hk he hs) dc_run
end
/-! ### name = {k: v for ..} on one line -/
section
variable {X : Cx} {W : WX} {kx vx tg iter : Expr} {ifs : List Expr} {sc : Scope} {own : List (Str × Nat)} {cp sp np : Pos} {z : Str} {l : Nat}
theorem sw_dict {env : Env} {gs : List Comprehension} (kind : env.scope.kind = .function) (there : env.scope.names.lookup z = some .local) (line : (np.line == cp.line) = true)
    (none_own : (sc.names.any fun (n, k) => n == z && (k == .local || k == .cell)) = false) : swapsWith (.DictComp kx vx gs sc cp) (some (.Name z np)) l env = pure true := by
  have q1 : env.kindOf z = some .local := there
  have q2 : env.blockKind = .function := by
    unfold Env.blockKind
    rw [kind]
    rfl
  unfold swapsWith
  simp only [q2, q1, none_own, Expr.pos, line]
  rfl
theorem cs_setDc {i : Nat} {fi : ME Itm} {gt : D → Sl → Option Sl} {ft : ME Bool} {fk fv : ME D} (calm : X.calm = true) (nd : X.N.Nodup) (at_ : X.N[i]? = some z) (there : X.env.scope.names.lookup z = some .local)
    (swaps : swapsWith (.DictComp kx vx [⟨tg, iter, ifs, 0⟩] sc cp) (some (.Name z np)) sp.line X.env = pure true) (pi : PI X tg iter (Ti X.K X.mg W fi)) (ok : BlkOk X.N X.env.scope sc own)
    (pg : ∀ (s : Shared) (H : Hp) (C : Addr) (cl : List (Str × Addr)) (fp : List Addr), PG (X.blk s H sc (compEnvC sc cl C X.env) fp) tg (GTm X.K (own.map (·.2)) gt))
    (pt : ∀ (s : Shared) (H : Hp) (C : Addr) (cl : List (Str × Addr)) (fp : List Addr), PTs (X.blk s H sc (compEnvC sc cl C X.env) fp) ifs (Tt X.K X.mg WF ft))
    (pk : ∀ (s : Shared) (H : Hp) (C : Addr) (cl : List (Str × Addr)) (fp : List Addr), PE (X.blk s H sc (compEnvC sc cl C X.env) fp) kx (Te X.K X.mg WF fk))
    (pv : ∀ (s : Shared) (H : Hp) (C : Addr) (cl : List (Str × Addr)) (fp : List Addr), PE (X.blk s H sc (compEnvC sc cl C X.env) fp) vx (Te X.K X.mg WF fv)) (folds : ∀ x, foldedSetIterable iter X.env x = pure x := by intro _; rfl) :
    PS X (.Assign [.Name z np] (.DictComp kx vx [⟨tg, iter, ifs, 0⟩] sc cp) sp) (Ts X.K X.mg W (sSet i (eDc fi (own.map (·.2)) gt ft fk fv))) := by
  constructor
  intro pins s σ H Dn I told
  rw [exec_Assign_Name_used _ _ _ _ swaps]
  apply wpAny_bind
  apply wpAny_standAt
  apply wpAny_bind
  show wpAny _ X.A (do
    let _ ← comprehension (.DictComp kx vx [⟨tg, iter, ifs, 0⟩] sc cp) sc X.env (firstIterPos [⟨tg, iter, ifs, 0⟩] cp) newDict false (eval iter X.env) (some (assign (.Name z np) X.env))) _ _ s
  have asked : tDc (Ti X.K X.mg W fi) (GTm X.K (own.map (·.2)) gt) (Tt X.K X.mg WF ft) (Te X.K X.mg WF fk) (Te X.K X.mg WF fv) (own.map (·.2)) σ H (fun x H1 => gName i x σ H1 Dn.nx) :=
    dc_run σ H _ (Ts.ofE (k := fun env d s => RS.nx (env.set i (some d)) s) told fun m1 H1 env d v s1 r1 E1 p1 g1 => g1 m1 _ H1 .refl r1 (relE_set E1 p1 i))
  apply wpAny_bind
  refine thn (dc_core (Qf := fun _ t => L2.SP X pins Dn .next t) calm nd I pi ok pg pt pk pv folds asked ?_) (fun _ _ q => wpAny_pure (wpAny_pure q))
  intro L C t m H2 I2 q ns fpok
  show wpAny _ _ (assign (.Name z np) X.env (.ref L)) _ _ _
  apply wpAny_assign_Name
  refine store_ok2 (v := V.ref L) I2 nd at_ (.inl there) rfl ?_ (.inr there)
  rintro t2 I3 ⟨a, but, where_⟩
  obtain ⟨g0, g1, g2, g3, g4, g5⟩ := fpok
  have away : C ≠ a := where_.elim (fun e => e.symm ▸ g1) (fun e w => g4 z a e w.symm)
  refine ⟨m, ns.sameBut but away, fun h4 but2 => ?_⟩
  exact ⟨_, H2, I3.turned (t' := t2.toks) (fun b o nb e => (but2.2 b nb).trans e) g0 g1 g3 g4 g5, q⟩
end
/-! ### x[i], x a text besides -/
def dIxZ (x i : D) (s : Store) : Option (D × Store) := match x, i with
  | .str z, .int j => if z.length ≤ 1000000 then (L2.atI z.cps.toList j).map fun c => (.str ⟨#[c]⟩, s) else none
  | .str _, _ => none
  | x, i => dIxA x i s
def rIxZ (K : PySem.W.Frag) : R2 := fun x y H Q => (rIx K x y H Q ∨ rIxDic x y H Q) ∨ rIxS x y H Q
theorem ix_Z {X : Cx} (hu : X.A.units + 64 < cLine) : IxR X (rIxZ X.K) := (ix_any hu).or ix_str
section
variable {K : PySem.W.Frag}
theorem ops_ixZ : OpS K (rIxZ K) dIxZ := by
  intro mg W σ m H s x y dx dy Q r px py g
  by_cases hz : ∃ z, dx = .str z
  · obtain ⟨z, rfl⟩ := hz
    cases px
    cases dy with
    | int j =>
      cases py
      by_cases hl : z.length ≤ 1000000
      · cases e : L2.atI z.cps.toList j with
        | none => simp [dIxZ, hl, e] at g; exact g.elim
        | some c =>
          have g' : G K mg (Rep K) W σ m H Q (.ok (.str ⟨#[c]⟩) s) := by simpa [dIxZ, hl, e] using g
          exact .inr ⟨z, j, c, rfl, rfl, le_line hl, e, g'.now r (.str _)⟩
      · simp [dIxZ, hl] at g; exact g.elim
    | _ => exact g.elim
  · have e : dIxZ dx dy s = dIxA dx dy s := by
      cases dx <;> first | rfl | exact (hz ⟨_, rfl⟩).elim
    rw [e] at g
    exact .inl (ops_ixA r px py g)
theorem dIxZ_tup (xs : List D) (i : D) (s : Store) : dIxZ (.tup xs) i s = dIx (.tup xs) i s := by cases i <;> rfl
theorem dIxZ_locA (l : Nat) (i : D) (s : Store) : dIxZ (.loc l) i s = dIxA (.loc l) i s := by cases i <;> rfl
theorem dIxZ_loc {s : Store} {l : Nat} {xs : List D} (h : s[l]? = some (.lst xs)) (i : Int) : dIxZ (.loc l) (.int i) s = dIx (.loc l) (.int i) s := by
  rw [dIxZ_locA, dIxA_loc h, dIx_loc h]
theorem dIxZ_str {z : Str} (h : z.length ≤ 1000000) (j : Int) (s : Store) : dIxZ (.str z) (.int j) s = (L2.atI z.cps.toList j).map fun c => (.str ⟨#[c]⟩, s) := by
  show (if z.length ≤ 1000000 then _ else none) = _
  rw [if_pos h]
/-! ### [x] * n -/
noncomputable def dRep (x y : D) (s : Store) : Option (D × Store) := match x, y with
  | .loc l, .int k => match s[l]? with
    | some (.lst xs) => if -(2 ^ 63) ≤ k ∧ k < 2 ^ 63 ∧ xs.length * k.toNat ≤ sizeLine then some (.loc s.length, s ++ [.lst (List.replicate k.toNat xs).flatten]) else none
    | _ => none
  | _, _ => none
theorem reps_rep {m : List Addr} {H : Hp} {xs : List D} {vs : List V} (p : Reps K m H xs vs) : ∀ n, Reps K m H (List.replicate n xs).flatten (List.replicate n vs).flatten
  | 0 => .nil
  | n + 1 => by
    rw [List.replicate_succ, List.replicate_succ, List.flatten_cons, List.flatten_cons]
    exact p.append (reps_rep p n)
theorem ops_rep : OpS K rRep dRep := by
  intro mg W σ m H s x y dx dy Q r px py g
  unfold dRep at g
  split at g
  · rename_i l k
    cases py
    cases px with
    | loc hl =>
      split at g
      · rename_i xs q
        split at g
        · rename_i hz
          obtain ⟨vs, h1, h2⟩ := r.list hl q
          refine ⟨_, k, vs, rfl, rfl, h1, hz.1, hz.2.1, by rw [← h2.length]; exact hz.2.2, fun p hp => ?_⟩
          exact g (m ++ [p]) _ _ (le_more r hp) (rel_newlist r hp (reps_rep h2 k.toNat)) (.loc (len_get r))
        · exact g.elim
      · exact g.elim
  · exact g.elim
/-! ### t.index(z), a tuple of texts -/
def strsOf : List D → Option (List Str)
  | [] => some []
  | .str z :: r => (strsOf r).map fun q => z :: q
  | _ => none
theorem strsOf_map (zs : List Str) : strsOf (zs.map D.str) = some zs := by
  induction zs with
  | nil => rfl
  | cons z zs ih => simp [strsOf, ih]
theorem strs_reps {m : List Addr} {H : Hp} : ∀ {ds : List D} {vs : List V} {zs : List Str}, Reps K m H ds vs → strsOf ds = some zs → vs = zs.map V.str
  | [], _, _, .nil, e => by cases e; rfl
  | d :: ds, _, zs, .cons h r, e => by
    cases d with
    | str z =>
      cases h
      simp only [strsOf] at e
      cases q : strsOf ds with
      | none => rw [q] at e; cases e
      | some w =>
        rw [q] at e
        cases e
        rw [List.map_cons, strs_reps r q]
    | _ => cases e
def rTix (K : PySem.W.Frag) : V → List V → Hp → VK → Prop := fun x xs H Q => ∃ p, ∃ ys : List Str, ∃ z j, x = .ref p ∧ xs = [.str z] ∧ SqT K H p (ys.map V.str) ∧ ys[j]? = some z ∧ (∀ m, m < j → ys[m]? ≠ some z) ∧ Q (.int (j : Nat)) H
theorem mt_tix {X : Cx} : MtR X "tuple.index" (rTix X.K) := mt_tup_index
def dTix (x : D) (ys : List D) (s : Store) : Option (D × Store) := match x, ys with
  | .tup xs, [.str z] => (strsOf xs).bind fun zs => (zs.findIdx? fun w => decide (w = z)).map fun j => (.int (j : Nat), s)
  | _, _ => none
theorem mts_tix : MtS K (rTix K) dTix := by
  intro mg W σ m H s x d xs ds Q r p ps g
  unfold dTix at g
  split at g
  · rename_i ys z
    obtain ⟨w, rfl, h⟩ := reps1 ps
    cases h
    obtain ⟨a, vs, rfl, h1, h2⟩ := p.sqT
    cases e : strsOf ys with
    | none => rw [e] at g; exact g.elim
    | some zs =>
      rw [e, Option.bind_some] at g
      cases q : zs.findIdx? fun w => decide (w = z) with
      | none => rw [q] at g; exact g.elim
      | some j =>
        rw [q] at g
        obtain ⟨hj, q1, q2⟩ := List.findIdx?_eq_some_iff_getElem.mp q
        have ev := strs_reps h2 e
        subst ev
        have hz : zs[j] = z := of_decide_eq_true q1
        refine ⟨a, zs, z, j, rfl, rfl, h1, by rw [List.getElem?_eq_getElem hj, hz], fun i hi w => ?_, g.now r (.int _)⟩
        have hi' : i < zs.length := by omega
        rw [List.getElem?_eq_getElem hi'] at w
        have := q2 i hi
        simp only [decide_eq_true_eq] at this
        exact this (Option.some.inj w)
  · exact g.elim
end
/-! ### list(d), d a dict -/
def keyD : Key → D
  | .inl i => .int i
  | .inr z => .str z
def rListA (K : PySem.W.Frag) : List V → Hp → VK → Prop := fun xs H Q => (∃ p ys, xs = [.ref p] ∧ (SqL K H p ys ∨ SqT K H p ys) ∧ ∀ l, H l = none → Q (.ref l) (upd H l (.lst ys))) ∨
  (∃ d kvs, xs = [V.ref d] ∧ Rd H d (.dT kvs) ∧ ∀ p bs, H p = none → IsKeys H kvs bs → Q (.ref p) (upd H p (.lst (bs.map V.ref)))) ∨
  ∃ (a : Addr) (kvs : List (Key × V)), xs = [.ref a] ∧ Rd H a (.dK kvs) ∧ ∀ p, H p = none → Q (.ref p) (upd H p (.lst (kvs.map fun kv => kV kv.1)))
theorem call_listA {X : Cx} (hc : X.calm = true) : CallR X (.type "list") (rListA X.K) := call_list_of.or ((call_list_dT hc).or (call_listD hc))
def dListA (ds : List D) (s : Store) : Option (D × Store) := match ds with
  | [x] => match dicOf s x with
    | some (_, ks) => some (.loc s.length, s ++ [.lst (ks.map fun kv => keyD kv.1)])
    | none => match dctOf s x with
      | some (_, ks) => some (.loc s.length, s ++ [.lst (ks.map fun kv => .tuw (kv.1.map keyD))])
      | none => dList [x] s
  | _ => none
section
variable {K : PySem.W.Frag} {m : List Addr} {H : Hp}
theorem keyD_rep (k : Key) : Rep K m H (keyD k) (kV k) := by
  cases k with
  | inl i => exact .int i
  | inr z => exact .str z
theorem keysD_rep : ∀ ks : List Key, Reps K m H (ks.map keyD) (ks.map kV)
  | [] => .nil
  | k :: ks => .cons (keyD_rep k) (keysD_rep ks)
theorem reps_keysK : ∀ {ks : List (Key × D)} {vs : List (Key × V)}, RepK K m H ks vs → Reps K m H (ks.map fun kv => keyD kv.1) (vs.map fun kv => kV kv.1)
  | _, _, .nil => .nil
  | _, _, .cons (k := k) _ r => .cons (keyD_rep k) (reps_keysK r)
theorem reps_keysT : ∀ {ks : List (List Key × D)} {vs : List (List Key × V)} {bs : List Addr}, RepK K m H ks vs → IsKeys H vs bs → Reps K m H (ks.map fun kv => .tuw (kv.1.map keyD)) (bs.map V.ref)
  | _, _, _, .nil, q => by cases q; exact .nil
  | _, _, _, .cons (k := k) _ r, q => by
    cases q with
    | cons h t => exact .cons (.tuw h (keysD_rep k)) (reps_keysT r t)
theorem fns_listA : FnS K (rListA K) dListA := by
  intro mg W σ m H s xs ds Q r p g
  unfold dListA at g
  split at g
  · rename_i x
    obtain ⟨v, rfl, h⟩ := reps1 p
    cases e : dicOf s x with
    | some o =>
      obtain ⟨l, ks⟩ := o
      rw [e] at g
      obtain ⟨a, vs, _, rfl, _, h1, h2⟩ := dicOf_at r h e
      refine .inr (.inr ⟨a, vs, rfl, .inl h1, fun q hq => ?_⟩)
      exact g (m ++ [q]) _ _ (le_more r hq) (rel_newlist r hq (reps_keysK h2)) (.loc (len_get r))
    | none =>
      rw [e] at g
      simp only at g
      cases e2 : dctOf s x with
      | some o =>
        obtain ⟨l, ks⟩ := o
        rw [e2] at g
        obtain ⟨a, vs, _, rfl, _, h1, h2⟩ := dctOf_at r h e2
        refine .inr (.inl ⟨a, vs, rfl, .inl h1, fun q bs hq hk => ?_⟩)
        exact g (m ++ [q]) _ _ (le_more r hq) (rel_newlist r hq (reps_keysT h2 hk)) (.loc (len_get r))
      | none =>
        rw [e2] at g
        exact .inl (fns_list r p g)
  · exact g.elim
end
/-! ### a, b = e, e a list -/
/-- a list taken apart -/
def sAsgL (n : Nat) (r : List D → Sl → Option Sl) (e : ME D) : MS := fun env s => (e env s).then env fun d s => match lstOf s d with
  | some xs => if xs.length = n then (match r xs env with | some env' => .nx env' s | none => .no) else .no
  | none => .no
section
variable {X : Cx} {W : WX} {pos : Pos} {tpos : Pos} {es : List Expr} {e : Expr} {fe : ME D}
theorem cs_asgL {k n : Nat} {r : List D → Sl → Option Sl} {vs : List Nat} (hc : X.calm = true) (he : PE X e (Te X.K X.mg W fe)) (h : PGs X es (GTs X.K vs r)) (hn : (assignEach es X.env).length = n := by rfl) (hst : (assignEach es X.env).findIdx? (·.1) = none := by rfl)
    (hs : swapsWithSole [.Tuple es k tpos] e pos.line X.env = pure false := by rfl) (hw : swappedStores [.Tuple es k tpos] e X.env = pure none := by rfl)
    (h1 : (assignEach [.Tuple es k tpos] X.env).map (·.2) = [assign (.Tuple es k tpos) X.env] := by rfl) : PS X (.Assign [.Tuple es k tpos] e pos) (Ts X.K X.mg W (sAsgL n r fe)) := PS.imp (ps_asg he (pg_lst (n := n) hc h hn hst) hs hw h1) fun Dn σ H h =>
  Ts.ofE (k := fun env d s => match lstOf s d with
  | some xs => if xs.length = n then (match r xs env with | some env' => RS.nx env' s | none => .no) else .no
  | none => .no) h fun m1 H1 env d v s1 r1 E1 p1 g1 => by
    cases q : lstOf s1 d with
    | none => simp only [q] at g1; exact g1.elim
    | some xs =>
      simp only [q] at g1
      by_cases hl : xs.length = n
      · simp only [hl, if_true] at g1
        cases q2 : r xs env with
        | none => simp only [q2] at g1; exact g1.elim
        | some env' =>
          simp only [q2] at g1
          obtain ⟨a, ws, rfl, hq, rr⟩ := lstOf_sq r1 p1 q
          exact ⟨a, ws, rfl, hq, by rw [← rr.length]; exact hl, m1, env, s1, xs, env', r1, E1, rr, q2, fun σ' E' _ _ => g1 m1 σ' H1 .refl r1 E'⟩
      · simp only [hl, if_false] at g1
        exact g1.elim
end
end Mi
namespace Mi
open PySem PySem.Spec PyProof.Rows L2
/-! ### picked places -/
def permL {α : Type} (is : List Nat) (xs : List α) : List α := is.filterMap (xs[·]?)
theorem vals_perm {xs : List V} {us : List Value} (r : Vals xs us) : ∀ is : List Nat, Vals (permL is xs) (permL is us)
  | [] => .nil
  | i :: is => by
    unfold permL
    rw [List.filterMap_cons, List.filterMap_cons]
    cases q : xs[i]? with
    | none => rw [r.none_of q]; exact vals_perm r is
    | some x =>
      obtain ⟨u, e, h⟩ := r.get q
      rw [e]
      exact .cons h (vals_perm r is)
section
variable {K : PySem.W.Frag} {m : List Addr} {H : Hp}
theorem reps_perm {xs : List D} {vs : List V} (r : Reps K m H xs vs) : ∀ is : List Nat, Reps K m H (permL is xs) (permL is vs)
  | [] => .nil
  | i :: is => by
    unfold permL
    rw [List.filterMap_cons, List.filterMap_cons]
    cases q : xs[i]? with
    | none =>
      have : vs[i]? = none := by
        have h := List.getElem?_eq_none_iff.mp q
        rw [r.length] at h
        exact List.getElem?_eq_none_iff.mpr h
      rw [this]; exact reps_perm r is
    | some x =>
      obtain ⟨u, e, h⟩ := r.get q
      rw [e]
      exact .cons h (reps_perm r is)
theorem mem_perm {α : Type} {is : List Nat} {xs : List α} {x : α} (h : x ∈ permL is xs) : x ∈ xs := by
  obtain ⟨i, _, e⟩ := List.mem_filterMap.mp h
  exact List.mem_of_getElem? e
theorem perm_length {α : Type} (is : List Nat) (xs : List α) : (permL is xs).length ≤ is.length := List.length_filterMap_le ..
end
/-! ### x[a:b:c], a list -/
def stepIs (lo hi st : Option Int) (n : Nat) : List Nat := sliceRange (sliceBounds lo hi st n).1 (sliceBounds lo hi st n).2.1 (sliceBounds lo hi st n).2.2
def tStep (K : PySem.W.Frag) (te : TE) (tl tu ts : TO) : TE := fun σ H Q => te σ H fun x H1 => tl σ H1 fun l H2 => tu σ H2 fun u H3 => ts σ H3 fun st H4 =>
  ∃ a xs, x = .ref a ∧ SqL K H4 a xs ∧ st ≠ some 0 ∧ (permL (stepIs l u st xs.length) xs).length ≤ sizeLine ∧ ∀ p, H4 p = none → Q (.ref p) (upd H4 p (.lst (permL (stepIs l u st xs.length) xs)))
theorem pe_step {X : Cx} {e : Expr} {te : TE} {tl tu ts : TO} {lo hi : Option Expr} {st : Expr} {p3 pos : Pos} (he : PE X e te) (hl : PO X lo tl) (hu : PO X hi tu) (hs : PO X (some st) ts) : PE X (.Subscript e (.Slice lo hi (some st) p3) pos) (tStep X.K te tl tu ts) := by
  refine ⟨fun pins s σ H Q I h => Subscript_ (thn (he.run pins s σ H _ I h) fun v s1 ⟨x, H1, I1, r1, q1⟩ => ?_)⟩
  refine wpAny_Slice (thn (hl.run pins s1 σ H1 _ I1 q1) fun vl s2 ⟨l, H2, I2, pl, q2⟩ => thn (hu.run pins s2 σ H2 _ I2 q2) fun vu s3 ⟨u, H3, I3, pu, q3⟩ => thn (hs.run pins s3 σ H3 _ I3 q3) fun vs s4 ⟨o, H4, I4, ps, q4⟩ => ?_)
  obtain ⟨a, xs, ex, hx, h0, hz, q⟩ := q4
  subst ex
  cases r1
  have I5 : Inv X pins σ H4 { s4 with heap := s4.heap.push { cls := .type "slice", data := .fields #[vl, vu, vs] } } := I4.kept (t' := s4.toks) fun b ob q => Heap.get?_push_of_some _ q
  show wpAny (model X.prog X.w) X.A (subscriptTail e (.Slice lo hi (some st) p3) (.ref a) (.ref s4.heap.objs.size)) (EP X pins σ Q) X.xe { s4 with heap := s4.heap.push { cls := .type "slice", data := .fields #[vl, vu, vs] } }
  obtain ⟨its, r, ht, hz2⟩ := I5.list hx
  have hlen := r.length
  refine tail_any (ops := [.ref a, .ref s4.heap.objs.size]) ht.isList.typeIs (PySem.slot_list_getitem.lookup) ?_ (by with_unfolding_all rfl)
  refine wpAny_getItem_list_slice ht.isList (Heap.IsSliceOf.new _ vl vu vs) pl pu ps h0 ?_ (by rw [List.size_toArray]; omega)
  have ep : slicePick its.toArray l u o = (permL (stepIs l u o xs.length) its).toArray := by
    unfold slicePick permL stepIs
    rw [List.size_toArray, ← hlen]
    simp
  rw [ep]
  refine ⟨.ref _, _, I5.laid (t' := s4.toks) (o := .lst (permL (stepIs l u o xs.length) xs)) (fun b ob q => Heap.get?_push_of_some _ q) (Nat.le_refl _) ?_, rfl, q _ (I5.hok.fresh (Nat.le_refl _))⟩
  exact ⟨hz, _, 0, vals_perm r _, Heap.get?_push_size _ rfl⟩
noncomputable def dStep (x : D) (lo hi st : Option Int) (s : Store) : Option (D × Store) := (lstOf s x).bind fun xs =>
  if st ≠ some 0 ∧ (permL (stepIs lo hi st xs.length) xs).length ≤ sizeLine then some (.loc s.length, s ++ [.lst (permL (stepIs lo hi st xs.length) xs)]) else none
noncomputable def eStep (a : ME D) (lo hi st : ME (Option Int)) : ME D := fun env s => (a env s).bind fun x s => (lo env s).bind fun l s => (hi env s).bind fun u s => (st env s).bind fun t s => R.of (dStep x l u t s)
section
variable {X : Cx} {W : WX} {pos p2 : Pos} {a c : Expr} {fa : ME D} {ol oh os : ME (Option Int)} {lo hi : Option Expr}
theorem ce_step (ha : PE X a (Te X.K X.mg W fa)) (hl : PO X lo (To X.K X.mg W ol)) (hu : PO X hi (To X.K X.mg W oh)) (hs : PO X (some c) (To X.K X.mg W os)) :
    PE X (.Subscript a (.Slice lo hi (some c) p2) pos) (Te X.K X.mg W (eStep fa ol oh os)) :=
  PE.imp (pe_step ha hl hu hs) fun σ H Q h => Tm.bind (k := fun env x s => (ol env s).bind fun l s => (oh env s).bind fun u s => (os env s).bind fun t s => R.of (dStep x l u t s)) h fun m1 H1 env x v s1 r1 E1 p1 g1 =>
    ⟨m1, env, s1, r1, E1, G.bind g1 fun m2 H2 l l' s2 l2 r2 p2 g2 => ⟨m2, env, s2, r2, E1.mono l2, G.bind g2 fun m3 H3 u u' s3 l3 r3 p3 g3 => ⟨m3, env, s3, r3, (E1.mono l2).mono l3, G.bind g3 fun m4 H4 t t' s4 l4 r4 p4 g4 => by
      cases (show l = l' from p2); cases (show u = u' from p3); cases (show t = t' from p4)
      have p := ((p1.mono l2).mono l3).mono l4
      unfold dStep at g4
      cases e : lstOf s4 x with
      | none => rw [e] at g4; exact g4.elim
      | some xs =>
        rw [e, Option.bind_some] at g4
        obtain ⟨b, vs, rfl, hq, rr⟩ := lstOf_sq r4 p e
        by_cases hz : t ≠ some 0 ∧ (permL (stepIs l u t xs.length) xs).length ≤ sizeLine
        · rw [if_pos hz] at g4
          have el : vs.length = xs.length := rr.length.symm
          have rp := reps_perm rr (stepIs l u t xs.length)
          refine ⟨b, vs, rfl, hq, hz.1, by rw [el, ← rp.length]; exact hz.2, fun q hq' => ?_⟩
          rw [el]
          exact g4 (m4 ++ [q]) _ _ (le_more r4 hq') (rel_newlist r4 hq' rp) (.loc (len_get r4))
        · rw [if_neg hz] at g4
          exact g4.elim⟩⟩⟩
end
/-! ### dict(zip(a, b)), two lists -/
def tDictZip (K : PySem.W.Frag) (ta : TA) : TE := fun σ H Q => ta σ H fun vs H1 => ∃ (a b : Addr) (ks : List Key) (xs : List V), vs = [.ref a, .ref b] ∧ SqL K H1 a (ks.map kV) ∧ SqL K H1 b xs ∧ ks.length = xs.length ∧ ∀ p, H1 p = none → Q (.ref p) (upd H1 p (.dK (mergeK [] (ks.zip xs))))
theorem kv_zip {P : Program} {w : World} : ∀ {ks : List Key} {xs : List V} {us ws : List Value}, Vals (ks.map kV) us → Vals xs ws → ks.length = xs.length →
    ∃ prs : List (Key × Value), KV (ks.zip xs) prs ∧ prs.length = ks.length ∧ ∀ (i : Nat) (k v : Value), us[i]? = some k → ws[i]? = some v → ∃ q, prs[i]? = some (q, v) ∧ (mixKind P w).is q k = true
  | [], _, us, ws, r, r2, e => by
    cases r
    exact ⟨[], .nil, rfl, fun i k v h => by simp at h⟩
  | k :: ks, [], _, _, _, _, e => by cases e
  | k :: ks, x :: xs, us, ws, r, r2, e => by
    rw [List.map_cons] at r
    cases r with
    | cons h t =>
      cases r2 with
      | cons h2 t2 =>
        rename_i u us' w' ws'
        obtain ⟨prs, q1, q2, q3⟩ := kv_zip (P := P) (w := w) t t2 (by simpa using e)
        refine ⟨(k, w') :: prs, .cons ⟨rfl, h2⟩ q1, by simp [q2], fun i k' v h1 h3 => ?_⟩
        cases i with
        | zero =>
          simp at h1 h3
          subst h1; subst h3
          exact ⟨k, rfl, kV_is (P := P) (w := w) h⟩
        | succ i => exact q3 i k' v (by simpa using h1) (by simpa using h3)
theorem pe_dictZip {X : Cx} {e e2 : Expr} {ta : TA} {p p2 pos q : Pos} (hg : Gl X "dict") (hm : X.mg "dict" = none) (hg2 : Gl X "zip") (hm2 : X.mg "zip" = none) (ha : PA X [e, e2] ta) (hc : X.calm = true := by rfl)
    (na : starEach [Expr.Call (.Name "zip" p2) [e, e2] [] q] X.env = (false, eval (Expr.Call (.Name "zip" p2) [e, e2] [] q) X.env) :: starEach [] X.env := by rfl)
    (hs : starEach [e, e2] X.env = (false, eval e X.env) :: starEach [e2] X.env := by rfl) (hpl : (backTo q (starEach [e2] X.env)).any (·.1) = false := by rfl) :
    PE X (.Call (.Name "dict" p) [.Call (.Name "zip" p2) [e, e2] [] q] [] pos) (tDictZip X.K ta) := by
  refine ⟨fun pins s σ H Q I h => ?_⟩
  refine Call_ (ld_blt I hg hm PyProof.Rows.boot_dict ?_)
  refine PyProof.Rows.callWith_type1 (PyProof.Rows.args_cons ?_ na) na rfl
  refine Call_ (ld_blt I hg2 hm2 PyProof.Rows.boot_zip (PyProof.Rows.callWith_type1 (thn (ha.run q pins s σ H _ I h) fun us s1 ⟨vs, H1, I1, r1, q1⟩ => ?_) hs hpl))
  obtain ⟨a, b, ks, xs, ex, hqx, hqy, hlen, q1⟩ := q1
  subst ex
  cases r1 with
  | cons r rr =>
    cases rr with
    | cons r' rr =>
      cases rr
      cases r
      cases r'
      obtain ⟨its, rv, p1, hz1⟩ := I1.list hqx
      obtain ⟨its2, rv2, p2', _⟩ := I1.list hqy
      refine call_zip_2 p1.isList p2'.isList fun h' hz hTI hTO h1 h2 hsz hk => ?_
      refine PyProof.Rows.args_nil ?_
      have I2 : Inv X pins σ H1 { s1 with heap := h' } := I1.kept (t' := s1.toks) hk
      obtain ⟨prs, d1, d2, d3⟩ := kv_zip (P := X.prog) (w := X.w) rv rv2 hlen
      have l1 : its.length = ks.length := by rw [← rv.length, List.length_map]
      have l2 : its2.length = ks.length := by rw [← rv2.length, hlen]
      have D := PySem.W.ktu_apart s1.heap.objs.size a b p1.lt p2'.lt
      refine PySem.call_dict_pairs (s := { s1 with heap := h' }) (knd := mixKind X.prog X.w) (kvs := prs) (PySem.PairArg.zip (s1.heap.objs.size + 4) (s1.heap.objs.size + 2) (s1.heap.objs.size + 3) s1.heap.objs.size (s1.heap.objs.size + 1) a b D its.toArray its2.toArray) (I2.ok.hd hc)
        ⟨hz, hTI, ⟨_, _, hTO⟩, h1, h2, p1.isList.at fun o e => hk _ _ e, p2'.isList.at fun o e => hk _ _ e⟩ ⟨?_, ?_⟩ ?_ ?_
      · simp [l1, l2, d2]
      · intro i key v ⟨e1, e2⟩
        exact d3 i key v (by simpa using e1) (by simpa using e2)
      · simp only [List.size_toArray, l1, l2, Nat.min_self]
        rw [← List.length_map (as := ks) (f := kV)]; exact hz1
      · intro h'' tk hd' hk2
        have k2 : ∀ b o, s1.heap.get? b = some o → h''.get? b = some o := fun b o e => by
          refine hk2 b o (fun z => ?_) (hk b o e)
          have lt := Heap.lt_size e
          simp only [List.mem_cons, List.not_mem_nil, or_false] at z
          rcases z with z | z | z | z
          · exact Nat.not_lt.mpr (Nat.le_add_right _ _) (z ▸ lt)
          · exact Nat.not_lt.mpr (Nat.le_add_right _ _) (z ▸ lt)
          · exact Nat.lt_irrefl _ (z ▸ lt)
          · exact Nat.not_lt.mpr (Nat.le_add_right _ _) (z ▸ lt)
        have hb : (h'.objs.size == sysModules) = false := beq_eq_false_iff_ne.mpr (Nat.ne_of_gt I2.big)
        have hle : (mergeK [] (ks.zip xs)).length ≤ sizeLine := by
          refine Nat.le_trans (length_mergeK _ []) ?_
          rw [List.length_nil, Nat.zero_add, List.length_zip, ← hlen, Nat.min_self, ← List.length_map (as := ks) (f := kV)]
          exact hz1
        have sz : s1.heap.objs.size ≤ h'.objs.size := by omega
        exact ⟨.ref h'.objs.size, upd H1 h'.objs.size (.dK (mergeK [] (ks.zip xs))), I1.laid (t' := tk) k2 sz (show ObjOk X.prog X.w _ _ _ (.dK (mergeK [] (ks.zip xs))) from ⟨hle, hb, merged [] prs, KV.merge d1 .nil, hd'⟩), rfl, q1 _ (I1.hok.fresh sz)⟩
def keysZ : List D → Option (List Key)
  | [] => some []
  | d :: ds => (keyOf d).bind fun k => (keysZ ds).map fun ks => k :: ks
def mergeD (acc : List (Key × D)) (more : List (Key × D)) : List (Key × D) := more.foldl (fun acc kv => putD acc kv.1 kv.2) acc
def dDictZip (ds : List D) (s : Store) : Option (D × Store) := match ds with
  | [x, y] => (lstOf s x).bind fun xs => (lstOf s y).bind fun ys => (keysZ xs).bind fun ks => if ks.length = ys.length then some (.loc s.length, s ++ [.dic (mergeD [] (ks.zip ys))]) else none
  | _ => none
section
variable {K : PySem.W.Frag} {m : List Addr} {H : Hp}
theorem keysZ_rep : ∀ {ds : List D} {vs : List V} {ks : List Key}, Reps K m H ds vs → keysZ ds = some ks → vs = ks.map kV
  | [], _, _, .nil, e => by cases e; rfl
  | d :: ds, _, ks, .cons h t, e => by
    unfold keysZ at e
    cases q : keyOf d with
    | none => rw [q] at e; cases e
    | some k =>
      rw [q, Option.bind_some] at e
      cases q2 : keysZ ds with
      | none => rw [q2] at e; cases e
      | some ks2 =>
        rw [q2] at e
        cases e
        rw [keyOf_rep h q, keysZ_rep t q2, List.map_cons]
theorem repk_zip : ∀ {ks : List Key} {ys : List D} {vs : List V}, Reps K m H ys vs → RepK K m H (ks.zip ys) (ks.zip vs)
  | [], _, _, _ => .nil
  | k :: ks, _, _, .nil => by rw [List.zip_nil_right, List.zip_nil_right]; exact .nil
  | k :: ks, _, _, .cons h t => by rw [List.zip_cons_cons, List.zip_cons_cons]; exact .cons h (repk_zip t)
theorem repk_merge {more : List (Key × D)} {moreV : List (Key × V)} (h : RepK K m H more moreV) : ∀ {acc : List (Key × D)} {accV : List (Key × V)}, RepK K m H acc accV → RepK K m H (mergeD acc more) (mergeK accV moreV) := by
  induction h with
  | nil => exact fun r => r
  | @cons k x v xs vs h t ih =>
    intro acc accV r
    exact ih (repk_put (k := k) r h)
end
section
variable {X : Cx} {W : WX} {pos p p2 q : Pos} {e e2 : Expr} {fs : ME (List D)}
theorem ce_dictZip (hc : X.calm = true) (hg : Gl X "dict") (hm : X.mg "dict" = none) (hg2 : Gl X "zip") (hm2 : X.mg "zip" = none) (ha : PA X [e, e2] (Ta X.K X.mg W fs))
    (na : starEach [Expr.Call (.Name "zip" p2) [e, e2] [] q] X.env = (false, eval (Expr.Call (.Name "zip" p2) [e, e2] [] q) X.env) :: starEach [] X.env := by rfl)
    (hs : starEach [e, e2] X.env = (false, eval e X.env) :: starEach [e2] X.env := by rfl) (hpl : (backTo q (starEach [e2] X.env)).any (·.1) = false := by rfl) :
    PE X (.Call (.Name "dict" p) [.Call (.Name "zip" p2) [e, e2] [] q] [] pos) (Te X.K X.mg W (eFn dDictZip fs)) :=
  PE.imp (pe_dictZip hg hm hg2 hm2 ha hc na hs hpl) fun σ H Q h => Tm.bind (k := fun env xs s => R.of (dDictZip xs s)) h fun m1 H1 env ds vs s1 r1 E1 p1 g1 => by
    unfold dDictZip at g1
    split at g1
    · rename_i x y
      obtain ⟨v, w, rfl, px, py⟩ := reps2 p1
      cases q1 : lstOf s1 x with
      | none => rw [q1] at g1; exact g1.elim
      | some xs =>
        cases q2 : lstOf s1 y with
        | none => rw [q1, Option.bind_some, q2] at g1; exact g1.elim
        | some ys =>
          cases q3 : keysZ xs with
          | none => rw [q1, Option.bind_some, q2, Option.bind_some, q3] at g1; exact g1.elim
          | some ks =>
            rw [q1, Option.bind_some, q2, Option.bind_some, q3, Option.bind_some] at g1
            by_cases hl : ks.length = ys.length
            · rw [if_pos hl] at g1
              obtain ⟨a, vx, rfl, h1, rx⟩ := lstOf_sq r1 px q1
              obtain ⟨b, vy, rfl, h2, ry⟩ := lstOf_sq r1 py q2
              have ev := keysZ_rep rx q3
              subst ev
              refine ⟨a, b, ks, vy, rfl, h1, h2, by rw [hl, ry.length], fun q hq => ?_⟩
              have rk : RepK X.K m1 H1 (mergeD [] (ks.zip ys)) (mergeK [] (ks.zip vy)) := repk_merge (repk_zip ry) .nil
              exact g1 (m1 ++ [q]) _ _ (le_more r1 hq) (r1.new hq ⟨_, upd_same, rk.mono (le_more r1 hq)⟩) (.loc (len_get r1))
            · rw [if_neg hl] at g1
              exact g1.elim
    · exact g1.elim
end
/-! ### f(k = e, ..) of keywords alone -/
def KBi (K : PySem.W.Frag) (fd : FuncData) (ps ks : List Str) (is : List Nat) : Prop := ∀ (s : Shared) (ws : List Value), K.In s.heap → ws.length = ks.length → BindsTo s fd ⟨[], ks.zip ws⟩ (ps.zip (permL is ws))
theorem kbi {K : PySem.W.Frag} {x qual : Str} {st : Stmt} {f : Addr} {fd : FuncData} {ps ks : List Str} {is : List Nat} (F : Fun K x qual st f fd)
    (h : ∀ (kV doc pm : Value) (an : Option Addr) (cdv ct : Value) (ws : List Value), ws.length = ks.length → bindArgs (PySem.W.fnOf x qual (defArgs st) (defBody st) (defScope st) .none kV doc pm an cdv ct) ⟨[], ks.zip ws⟩ = pure (ps.zip (permL is ws))) : KBi K fd ps ks is := by
  obtain ⟨oc, od, kV, doc, pm, an, cdv, ct, osl, rfl, lk, hcd⟩ := F.ex
  exact fun s ws _ hl => .of_eq (h kV doc pm an cdv ct ws hl)
def tCallKw (n : Nat) (is : List Nat) (sp : Sp) (E : L2.St → XK) (t : TA) : TE := fun σ H Q => t σ H fun zs H1 => zs.length = n ∧ sp (permL is zs) H1 Q (E σ)
section
variable {X : Cx} {CX : CXT} {k : Nat} {f : Addr} {fd : FuncData} {ps ks : List Str} {sp : Sp} {E : L2.St → XK} {x : Str} {p pos : Pos} {kws : List Keyword} {t : TA} {is : List Nat}
theorem run_fnKw {pins : List (Addr × Obj)} {σ : L2.St} {H : Hp} {s : Shared} {Q : VK} {ws : List Value} {zs : List V} (F : FnOk X.prog X.w X.K X.mg X.base CX k f fd ps sp) (hr : Room k X.A) (hb : KBi X.K fd ps ks is) (hx : PassesAt CX X σ (E σ))
    (I : Inv X pins σ H s) (r : Vals zs ws) (hl : zs.length = ks.length) (h : sp (permL is zs) H Q (E σ)) : wpAny (model X.prog X.w) X.A (call (.ref f) [] (ks.zip ws)) (EP X pins σ Q) X.xe s := by
  refine wpAny_call (codeAny_mono (F.run X.A X.stack s H ⟨[], ks.zip ws⟩ (permL is ws) (permL is zs) Q (E σ) hr I.env0 (hb s ws I.kIn (by rw [← r.length]; exact hl)) (vals_perm r is) h) fun r s' hq => ?_)
  cases r with
  | error e => exact hx pins H s e s' I hq
  | ok fl =>
    cases fl with
    | ret u => exact I.after hq
    | next => exact False.elim hq
    | brk => exact False.elim hq
    | cont => exact False.elim hq
theorem pe_callKw (F : FnOk X.prog X.w X.K X.mg X.base CX k f fd ps sp) (hr : Room k X.A) (hg : Gl X x) (hm : X.mg x = some (.ref f)) (hk : PySem.W.keepIn X.K (.ref f) = true) (hb : KBi X.K fd ps ks is) (hx : ∀ σ, PassesAt CX X σ (E σ))
    (hkw : PK X kws t) (hall : (backToKw pos (keywordEach kws X.env)).all (·.1.isSome) = true := by rfl) (hks : (backToKw pos (keywordEach kws X.env)).filterMap (·.1) = ks := by rfl)
    (hdb : (x == ("__debug__" : Str)) = false := by decide)
    (hpl : ((backTo pos (starEach [] X.env)).any (·.1) || (backToKw pos (keywordEach kws X.env)).any (·.1.isNone)) = false := by rfl) :
    PE X (.Call (.Name x p) [] kws pos) (tCallKw ks.length is sp E t) := by
  refine ⟨fun pins s σ H Q I h => ?_⟩
  refine wpAny_Call_Name_kw (ld_glob I hg hm ?_ hdb)
  refine PySem.W.callWith_KW0 (h₀ := X.base) I.ok.mod.kin hk hall (thn (hkw.run pos pins s σ H _ I h) fun ws s2 ⟨zs, H2, I2, rz, hl, q2⟩ => ⟨I2.kIn, ?_⟩) hpl
  rw [hks]
  exact run_fnKw F hr hb (hx σ) I2 rz hl q2
end
theorem PK.imp {X : Cx} {kws : List Keyword} {t t' : TA} (h : PK X kws t) (q : ∀ σ H Q, t' σ H Q → t σ H Q) : PK X kws t' := ⟨fun pos pins s σ H Q I h' => h.run pos pins s σ H Q I (q σ H Q h')⟩
section
variable {X : Cx} {W : WX} {pos kpos : Pos} {e : Expr} {fa : ME D} {fs : ME (List D)} {nm : Option Str} {kws : List Keyword}
theorem ck_nil : PK X [] (Ta X.K X.mg W aNil) := PK.imp pk_nil fun σ H Q ⟨m, env, s, r, E, g⟩ => g m H [] .refl r .nil
theorem ck_cons (ha : PE X e (Te X.K X.mg W fa)) (hr : PK X kws (Ta X.K X.mg W fs)) : PK X (⟨nm, e, kpos⟩ :: kws) (Ta X.K X.mg W (aCons fa fs)) :=
  PK.imp (pk_cons ha hr) fun σ H Q h => Tm.bind (k := fun env x s => (fs env s).bind fun xs s => R.ok (x :: xs) s) h fun m1 H1 env x v s1 r1 E1 p1 g1 =>
    ⟨m1, env, s1, r1, E1, G.bind g1 fun m2 H2 xs vs s2 l2 r2 p2 g2 => g2 m2 H2 _ .refl r2 (.cons (p1.mono l2) p2)⟩
noncomputable def eCallKw (is : List Nat) (g : List D → Store → R D) (a : ME (List D)) : ME D := fun env s => (a env s).bind fun xs s => g (permL is xs) s
theorem ce_callKw {k n : Nat} {f : Addr} {fd : FuncData} {ps ks : List Str} {x : Str} {p : Pos} {is : List Nat} {g : List D → Store → R D} (F : FnOk X.prog X.w X.K X.mg X.base (L2.CX X.prog X.w) k f fd ps (spM X.K X.mg n g)) (hr : Room k X.A) (tk : Takes X W) (hg : Gl X x) (hm : X.mg x = some (.ref f)) (hk : PySem.W.keepIn X.K (.ref f) = true) (hb : KBi X.K fd ps ks is)
    (hn : ∀ xs s env, ∀ s', fs env s = .ok xs s' → xs.length = ks.length) (hp : ∀ vs : List V, vs.length = ks.length → (permL is vs).length = n) (hkw : PK X kws (Ta X.K X.mg W fs)) (hdb : (x == ("__debug__" : Str)) = false := by decide)
    (hall : (backToKw pos (keywordEach kws X.env)).all (·.1.isSome) = true := by rfl) (hks : (backToKw pos (keywordEach kws X.env)).filterMap (·.1) = ks := by rfl)
    (hpl : ((backTo pos (starEach [] X.env)).any (·.1) || (backToKw pos (keywordEach kws X.env)).any (·.1.isNone)) = false := by rfl) :
    PE X (.Call (.Name x p) [] kws pos) (Te X.K X.mg W (eCallKw is g fs)) :=
  PE.imp (pe_callKw (E := WE W) F hr hg hm hk hb (fun σ => passAt tk σ) hkw hall hks hdb hpl) fun σ H Q h => by
    obtain ⟨m, env, s, r, E, g0⟩ := h
    refine ⟨m, env, s, r, E, ?_⟩
    unfold eCallKw at g0
    cases hf : fs env s with
    | ok xs s1 =>
      rw [hf] at g0
      intro m1 H1 vs l1 r1 p1
      have hl : vs.length = ks.length := by rw [← p1.length]; exact hn xs s env s1 hf
      refine ⟨hl, hp vs hl, m1, s1, permL is xs, r1, reps_perm p1 is, ?_⟩
      have g1 : G X.K X.mg (Rep X.K) W σ m H Q (g (permL is xs) s1) := g0
      have g2 := g1.mono l1
      cases hgx : g (permL is xs) s1 with
      | ok a s2 => rw [hgx] at g2; exact g2
      | ex x2 s2 => rw [hgx] at g2; exact g2
      | no => rw [hgx] at g2; exact g2
    | ex x s1 => rw [hf] at g0; exact g0
    | no => rw [hf] at g0; exact g0.elim
end
/-! ### z * k, a text -/
def repS (z : Str) (k : Int) : Str := ⟨(List.replicate k.toNat z.cps.toList).flatten.toArray⟩
theorem foldl_repS (its : List Nat) : ∀ (k : Nat) (acc : List Nat), List.foldl (fun x1 x2 => x1 ++ x2) acc.toArray (List.replicate k its.toArray) = (acc ++ (List.replicate k its).flatten).toArray
  | 0, acc => by simp
  | k + 1, acc => by
    rw [List.replicate_succ, List.foldl_cons, List.append_toArray, foldl_repS its k (acc ++ its), List.replicate_succ, List.flatten_cons, List.append_assoc]
theorem repS_length (z : Str) (k : Int) : (repS z k).length = k.toNat * z.length := by
  show (List.replicate k.toNat z.cps.toList).flatten.toArray.size = k.toNat * z.cps.size
  simp
def rMulS : R2 := fun x y H Q => ∃ (z : Str) (k : Int), x = .str z ∧ y = .int k ∧ 0 ≤ k ∧ k ≤ 1000000 ∧ z.length * k.toNat ≤ 1000000 ∧ Q (.str (repS z k)) H
theorem op_mulS {X : Cx} : OpR X (binaryOp .Mult) rMulS := by
  intro pins s σ H x y v u Q I rx ry h
  obtain ⟨z, k, rfl, rfl, h0, h1, hz, q⟩ := h
  obtain ⟨t, rfl⟩ := rx
  obtain ⟨t2, rfl⟩ := ry
  have hl : z.length * k.toNat ≤ sizeLine := le_line hz
  have tl : Builtin.Str.tooLong (z.length * k.toNat) = false := by
    unfold Builtin.Str.tooLong
    exact decide_eq_false (Nat.not_lt.mpr hl)
  refine PySem.P.mul_str ?_ (fun hn hk => ?_) (fun _ _ => tl) ?_
  · rw [decide_eq_false (by omega), decide_eq_false (by omega)]; rfl
  · have hk2 : (0 : Int) < k := by omega
    have e : ((2 : Int) ^ 63 - 1) / k ≥ z.length := by
      refine (Int.le_ediv_iff_mul_le hk2).mpr ?_
      have : (z.length : Int) * k ≤ 1000000 := by
        have e2 : ((z.length * k.toNat : Nat) : Int) = (z.length : Int) * k := by
          rw [Int.natCast_mul, Int.toNat_of_nonneg h0]
        rw [← e2]; omega
      omega
    omega
  · split
    · rename_i hn
      have : k = 0 := by omega
      subst this
      exact ⟨by decide, .str (repS z 0), H, I.tok _, ⟨_, rfl⟩, q⟩
    · rename_i hn
      split
      · rename_i hk
        refine ⟨.str (repS z k), H, I, ⟨t, ?_⟩, q⟩
        have : k = 1 ∨ z.length = 0 := by simpa using hk
        have e : repS z k = z := by
          rcases this with rfl | h
          · simp [repS]
          · obtain ⟨c⟩ := z
            have : c = #[] := by simpa [Str.length] using h
            subst this
            simp [repS]
        rw [e]
      · have e : (⟨(List.replicate k.toNat z.cps).foldl (· ++ ·) #[]⟩ : Str) = repS z k := by
          have := foldl_repS z.cps.toList k.toNat []
          unfold repS
          congr 1
        rw [e]
        refine ⟨?_, .str (repS z k), H, I.tok _, ⟨_, rfl⟩, q⟩
        rw [repS_length, Nat.mul_comm]
        exact hl
noncomputable def dMulS (x y : D) (s : Store) : Option (D × Store) := match x, y with
  | .str z, .int k => if 0 ≤ k ∧ k ≤ 1000000 ∧ z.length * k.toNat ≤ 1000000 then some (.str (repS z k), s) else none
  | _, _ => none
theorem ops_mulS {K : PySem.W.Frag} : OpS K rMulS dMulS := by
  intro mg W σ m H s x y dx dy Q r px py g
  unfold dMulS at g
  split at g
  · rename_i z k
    cases px; cases py
    split at g
    · rename_i hz
      exact ⟨z, k, rfl, rfl, hz.1, hz.2.1, hz.2.2, g.now r (.str _)⟩
    · exact g.elim
  · exact g.elim
theorem dMulS_str {z : Str} {k : Int} (h0 : 0 ≤ k) (h1 : k ≤ 1000000) (hz : z.length * k.toNat ≤ 1000000) (s : Store) : dMulS (.str z) (.int k) s = some (.str (repS z k), s) := if_pos ⟨h0, h1, hz⟩
end Mi
namespace Mi
open PySem PySem.Spec PyProof.Rows L2
/-! ### try: body except x as n: suite except ..: all that the body raises is x's -/
def wAsR (K : PySem.W.Frag) (c : Value) (i : Nat) (ts : Addr → Value → Option Addr → TS) (D : Ends) : WX := fun cls d σ H => PySem.W.exmOne K cls c = some true ∧
  ∀ a, H a = none → ts a cls d { nx := fun σ' H' => D.nx (σ'.set i none) H', rt := D.rt, bk := fun σ' H' => D.bk (σ'.set i none) H', ct := fun σ' H' => D.ct (σ'.set i none) H' } (σ.set i (some (.ref a))) H
section
variable {X : Cx} {x n : Str} {c : Value} {i : Nat} {body suite : List Stmt} {b₀ : Stmt} {rest : List ExceptHandler} {np pos pos' : Pos} {tb : WX → TS} {ts : Addr → Value → Option Addr → TS}
theorem ps_asR (stk : X.stack = X.env :: X.outer) (frm : X.env.frame = some X.env.locals) (nod : X.N.Nodup) (slot : X.N[i]? = some n) (loc : X.env.kindOf n = some .local) (nam : Names X x c)
    (run : ∀ (W : WX) (q : List (Addr × Obj)) (z : Value → Shared → Prop), Takes (X.tr q z) W → PassesOwn (model X.prog X.w) X.A X.env z → PSs (X.tr q z) body (tb W))
    (sui : ∀ (a : Addr) (oe : Obj) (cls : Value) (d : Option Addr) (q : List (Addr × Obj)), Zc cls d oe → (∃ vs, oe.data = .fields vs) → PSs (X.suite a ((a, oe) :: q)) (b₀ :: suite) (ts a cls d)) :
    PS X (.Try body (.ExceptHandler (some (.Name x np)) (some n) (b₀ :: suite) pos' :: rest) [] [] pos) (fun D σ H => tb (wAsR X.K c i ts D) D σ H) := by
  constructor
  intro pins st τ G Dn J0 told
  have okk := J0.ok
  have fr2 : X.A.frames = some (X.env :: X.outer) := by rw [okk.frames, stk]
  have isl : Loc X.env.scope n := .inl loc
  refine wpAny_Try_except (wpAny_mono ((run (wAsR X.K c i ts Dn) (X.pn ++ pins) (fun e s₁ => wpAny (model X.prog X.w) X.A (noteFrame e X.env) (fun _ s₂ => wpAny (model X.prog X.w) X.A (setFlight e none) (fun _ s₃ =>
    wpAny (model X.prog X.w) X.A (handleBy e X.env (.ExceptHandler (some (.Name x np)) (some n) (b₀ :: suite) pos' :: rest)) (SP X pins Dn) X.xe s₃) X.xe s₂) X.xe s₁) (fun u s' caught => ?_) PassesOwn.looking).run [] st τ G Dn (J0.toTry _) told) (fun f s1 ended => ?_) (fun e s1 z => z))
  · obtain ⟨a, B, sI, pins', τ', G', cls, d, rfl, K', nb, up, sky, na, os, ag, hb1, yes⟩ := caught
    have K1 : Inv X pins τ' G' sI := K'.ofTry okk
    have sky2 : Sky B (X.env :: X.outer) a (Zc cls d) X.env.locals s'.heap := by rw [← stk]; exact sky
    show wpAny (model X.prog X.w) X.A (noteFrame (.ref a) X.env) _ _ _
    refine Sky.land Zc.steady fr2 frm sky2 fun h3 fl3 up3 => ?_
    have K3 : Inv X pins τ' G' { s' with heap := h3 } := K1.landed nb fl3.1 (up.trans up3) os ag
    obtain ⟨oe3, vs3, he3, hz3, hd3⟩ := fl3.there
    have away : a ∉ frs (X.env :: X.outer) := by
      intro hm
      obtain ⟨_, o', e', hnf⟩ := fl3.2.2.1.mem hm
      rw [he3] at e'
      cases e'
      exact hnf _ hd3
    have nL : a ≠ X.env.locals := fun z => away (List.mem_filterMap.mpr ⟨X.env, List.mem_cons_self, by rw [frm, z]⟩)
    have nF : a ∉ X.fs := by
      intro hm
      obtain ⟨e, he, q⟩ := List.mem_filterMap.mp hm
      exact away (List.mem_filterMap.mpr ⟨e, List.mem_cons_of_mem _ he, q⟩)
    have S3 := K3.suite he3 hd3 na nL nF
    refine wpAny_handleBy_cons (codeAny_handlers_test ?_) (by intro q; cases q)
    have lookT : PySem.W.Looks (model X.prog X.w) h3 (typeOf (.ref a)) cls := fun A Q E s k q => wpAny_typeOf_ref (k _ _ he3) (by rw [hz3.1]; exact q)
    have lookM := PySem.W.exm_one (M := model X.prog X.w) K3.kIn lookT hb1
    have asks : ∀ {Q E : Value → Shared → Prop}, Q c { s' with heap := h3 } → wpAny (model X.prog X.w) (X.A.mark (some (.ref a))) (eval (.Name x np) X.env) Q E { s' with heap := h3 } := by
      intro Q E q
      obtain ⟨hg, hdbg, hm | ⟨hm, hv, hnn⟩⟩ := nam
      · exact ld_glob (X := X.suite a ((a, oe3) :: (X.pn ++ pins))) S3 hg hm q hdbg
      · exact ld_blt (X := X.suite a ((a, oe3) :: (X.pn ++ pins))) S3 hg hm hv q hnn hdbg
    refine asks (lookM.here ?_)
    refine codeAny_handlers_suite_as (HandSPX.lands_againZ fl3 fun h4 fl4 up4 => ?_)
    have K4 : Inv X pins τ' G' { s' with heap := h4 } := K1.landed nb fl4.1 ((up.trans up3).trans up4) os ag
    obtain ⟨oe4, vs4, he4, hz4, hd4⟩ := fl4.there
    have S4 := K4.suite he4 hd4 na nL nF
    refine store_ok (X := X.suite a ((a, oe4) :: (X.pn ++ pins))) (v := .ref a) S4 nod slot isl rfl (fun s5 S5 => ?_) (.inr loc)
    refine wpAny_mono ((sui a oe4 cls d (X.pn ++ pins) hz4 ⟨_, hd4⟩).run [] s5 _ G' _ S5 (yes a na)) (fun f s6 ended => ?_) (fun _ _ z => False.elim z)
    have quit : ∀ {τ6 : L2.St} {G6 : Hp} {Q : Shared → Prop}, Inv (X.suite a ((a, oe4) :: (X.pn ++ pins))) [] τ6 G6 s6 → (∀ s7, Inv X pins (τ6.set i none) G6 s7 → Q s7) →
        wpAny (model X.prog X.w) X.A (do bindName X.env n .none; unbindBehindTheSuite X.env n pos') (fun _ s7 => Q s7) X.xe s6 := fun {τ6 G6 Q} S6 hq => gone_ok (S6.unsuite okk) nod slot loc hq
    cases f with
    | next => obtain ⟨τ6, G6, S6, q6⟩ := ended; exact quit S6 fun s7 J7 => ⟨_, _, J7, q6⟩
    | brk => obtain ⟨τ6, G6, S6, q6⟩ := ended; exact quit S6 fun s7 J7 => ⟨_, _, J7, q6⟩
    | cont => obtain ⟨τ6, G6, S6, q6⟩ := ended; exact quit S6 fun s7 J7 => ⟨_, _, J7, q6⟩
    | ret u => obtain ⟨v6, τ6, G6, S6, r6, q6⟩ := ended; exact quit S6 fun s7 J7 => ⟨_, _, _, J7, r6, q6⟩
  · cases f with
    | next => obtain ⟨τ', G', J', q⟩ := ended; exact wpAny_execs_nil ⟨τ', G', J'.ofTry okk, q⟩
    | brk => obtain ⟨τ', G', J', q⟩ := ended; exact ⟨τ', G', J'.ofTry okk, q⟩
    | cont => obtain ⟨τ', G', J', q⟩ := ended; exact ⟨τ', G', J'.ofTry okk, q⟩
    | ret u => obtain ⟨v, τ', G', J', r, q⟩ := ended; exact ⟨v, τ', G', J'.ofTry okk, r, q⟩
end
section
variable {X : Cx} {W : WX} {x n : Str} {c : Value} {i : Nat} {body suite : List Stmt} {b₀ : Stmt} {rest : List ExceptHandler} {np pos pos' : Pos} {fb : MS} {fs : Nat × Nat → MS} {cs : List Str}
theorem cs_tryAsR (hs : X.stack = X.env :: X.outer) (hf : X.env.frame = some X.env.locals) (hN : X.N.Nodup) (hi : X.N[i]? = some n) (hln : X.env.kindOf n = some .local) (hc : Names X x c)
    (hcs : ∀ k ∈ cs, ∀ cls, X.mg k = some cls → PySem.W.exmOne X.K cls c = some true)
    (hb : ∀ (W : WX) (pn : List (Addr × Obj)) (xe : Value → Shared → Prop), Takes (X.tr pn xe) W → PSs (X.tr pn xe) body (Ts X.K X.mg W fb))
    (hsu : ∀ (a : Addr) (oe : Obj) (cls : Value) (d : Option Addr) (pn : List (Addr × Obj)) (g : Nat × Nat) (k : Str), Zc cls d oe → (∃ vs, oe.data = .fields vs) → g.1 = a → d = some g.2 → k ∈ cs → X.mg k = some cls →
      PSs (X.suite a ((a, oe) :: pn)) (b₀ :: suite) (Ts X.K X.mg (fun _ _ _ _ => False) (fs g))) :
    PS X (.Try body (.ExceptHandler (some (.Name x np)) (some n) (b₀ :: suite) pos' :: rest) [] [] pos) (Ts X.K X.mg W (sTryAs i cs fb fs)) :=
  PS.imp (ps_asR (i := i) (tb := fun W => Ts X.K X.mg W fb) (ts := fun a cls d => fun Dn σ H => ∃ (g : Nat × Nat) (k : Str), g.1 = a ∧ d = some g.2 ∧ k ∈ cs ∧ X.mg k = some cls ∧ Ts X.K X.mg (fun _ _ _ _ => False) (fs g) Dn σ H) hs hf hN hi hln hc
    (fun W pn xe tk _ => hb W pn xe tk) (fun a oe cls d pn hz hf => ⟨fun pins s σ H Dn I ⟨g, k, h1, h2, h3, h4, h⟩ => (hsu a oe cls d pn g k hz hf h1 h2 h3 h4).run pins s σ H Dn I h⟩)) fun Dn σ H ⟨m, env, s, r, E, q⟩ => by
    refine ⟨m, env, s, r, E, ?_⟩
    unfold sTryAs at q
    cases e : fb env s with
    | ex ex env2 s2 =>
      rw [e] at q
      simp only at q
      split at q
      · rename_i hh
        obtain ⟨h1, h2, h3⟩ := hh
        intro m' σ' H' cv dd l r' E' xr
        obtain ⟨gk, hx⟩ := xr
        rcases hx with ⟨z, _⟩ | ⟨da, vfs, ed, hd, nd, rf⟩
        · exact (h2 z).elim
        · refine ⟨hcs _ h1 _ gk, fun a ha => ⟨(a, da), ex.cls, rfl, ed, h1, gk, m', _, s2, r', relE_set E' (.exv hd nd rf : Rep X.K m' H' (.exv a da ex.cls ex.fs) (.ref a)) i, ?_⟩⟩
          rw [← h3 (a, da)] at q
          exact gs_clr (GS.mono l q)
      · exact q.elim
    | nx env2 s2 => rw [e] at q; exact q
    | rt d s2 => rw [e] at q; exact q
    | bk env2 s2 => rw [e] at q; exact q
    | ct env2 s2 => rw [e] at q; exact q
    | no => rw [e] at q; exact q.elim
end
/-! ### a module's constant -/
section
variable {X : Cx} {W : WX} {pos : Pos} {x : Str}
theorem ce_globI {n : Int} (hg : Gl X x) (h : ∃ t, X.mg x = some (.int n t)) (hdb : (x == ("__debug__" : Str)) = false := by decide) : PE X (.Name x pos) (Te X.K X.mg W (eC (.int n))) := by
  obtain ⟨t, h⟩ := h
  exact PE.imp (pe_glob (v := .int n) hg h ⟨t, rfl⟩ hdb) fun σ H Q ⟨m, env, s, r, E, g⟩ => g.now r (.int n)
theorem ce_globS {z : Str} (hg : Gl X x) (h : ∃ t, X.mg x = some (.str z t)) (hdb : (x == ("__debug__" : Str)) = false := by decide) : PE X (.Name x pos) (Te X.K X.mg W (eC (.str z))) := by
  obtain ⟨t, h⟩ := h
  exact PE.imp (pe_glob (v := .str z) hg h ⟨t, rfl⟩ hdb) fun σ H Q ⟨m, env, s, r, E, g⟩ => g.now r (.str z)
end
/-! ### f() -/
section
variable {X : Cx} {CX : CXT} {k : Nat} {f : Addr} {fd : FuncData} {sp : Sp} {E : L2.St → XK} {x : Str} {p pos : Pos}
theorem pe_callS0 (F : FnOk X.prog X.w X.K X.mg X.base CX k f fd [] sp) (hr : Room k X.A) (hg : Gl X x) (hm : X.mg x = some (.ref f)) (hk : PySem.W.keepIn X.K (.ref f) = true) (hb : Binds X.K fd [] []) (hx : ∀ σ, PassesAt CX X σ (E σ))
    (hdb : (x == ("__debug__" : Str)) = false := by decide) : PE X (.Call (.Name x p) [] [] pos) (fun σ H Q => sp [] H Q (E σ)) := by
  refine ⟨fun pins s σ H Q I q => wpAny_Call_Name_kw (ld_glob I hg hm ?_ hdb)⟩
  exact PySem.W.callWith_K0 I.kIn hk (run_fnS (us := []) F hr hb (hx σ) I .nil q)
theorem ce_call0 {W : WX} {g : List D → Store → R D} (F : FnOk X.prog X.w X.K X.mg X.base (L2.CX X.prog X.w) k f fd [] (spM X.K X.mg 0 g)) (hr : Room k X.A) (tk : Takes X W) (hg : Gl X x) (hm : X.mg x = some (.ref f)) (hk : PySem.W.keepIn X.K (.ref f) = true) (hb : Binds X.K fd [] [])
    (hdb : (x == ("__debug__" : Str)) = false := by decide) : PE X (.Call (.Name x p) [] [] pos) (Te X.K X.mg W (eCall g aNil)) :=
  PE.imp (pe_callS0 (E := WE W) F hr hg hm hk hb (fun σ => passAt tk σ) hdb) fun σ H Q ⟨m, env, s, r, E, g0⟩ => by
    have g1 : G X.K X.mg (Rep X.K) W σ m H Q (g [] s) := g0
    refine ⟨rfl, m, s, [], r, .nil, ?_⟩
    cases e : g [] s with
    | ok a s2 => rw [e] at g1; exact g1
    | ex x2 s2 => rw [e] at g1; exact g1
    | no => rw [e] at g1; exact g1
end
end Mi
namespace PySem.W
open PySem PySem.Spec PyProof.Rows
section
variable {prog : Program} {w : World} {A : Around} {E : Value → Shared → Prop} {s : Shared} {K : Frag} {x D : Addr} {ox : Obj} {od : Option Obj}
theorem mi_data {C : Addr} {nm : Str} {a g : Value} (q1 : (clsIn K C).isSome = true) (q2 : findIn K (.ref C) nm = some (some a)) (q3 : specialIn K a "__get__" = some (some g)) (q4 : takesIn K a = some true) : findObj K C od nm = some (.bind g a) := by
  cases e : clsIn K C with
  | none => rw [e] at q1; cases q1
  | some cd =>
    unfold findObj
    rw [e, Option.bind_some, q2, Option.bind_some]
    simp [q3, q4]
theorem mi_hasCls (q : hasDictIn K D = true) : (clsIn K D).isSome = true := by
  obtain ⟨cd, e, _⟩ := any_some q
  rw [e]
  rfl
theorem mi_excClass {Q : Option Value → Shared → Prop} (ga : findIn K (.ref D) "__getattribute__" = some (some (.builtin "BaseException.__getattribute__"))) (gg : findIn K (.ref D) "__getattr__" = some none) (sb : subIn K (.ref D) (.type "BaseException") = some true)
    (hd : hasDictIn K D = true) (fc : findIn K (.ref D) "__class__" = some (some (.builtin "object.__class__"))) (sg : specialIn K (.builtin "object.__class__") "__get__" = some (some (.builtin "getset_descriptor.__get__")))
    (tk : takesIn K (.builtin "object.__class__") = some true) (mo : mroIn K D (.type "object") = some true) (inn : K.In s.heap) (inst : InstAt s.heap x ox D od) (done : Q (some (.ref D)) { s with toks := s.toks + 1 }) :
    wpAny (model prog w) A (getAttr? (.ref x) "__class__") Q E s := by
  have found : findObj K D od "__class__" = some (.bind (.builtin "getset_descriptor.__get__") (.builtin "object.__class__")) := mi_data (mi_hasCls hd) fc sg tk
  obtain ⟨hp, gn, dr, t, os⟩ := s
  have lT := inst.type (M := model prog w)
  have lA := looks_findIn (M := model prog w) inn ga
  have lG := looks_findIn (M := model prog w) inn gg
  have lF := looks_find (M := model prog w) inn inst found
  have isE : Looks (model prog w) hp (isInstance (.ref x) (.type "BaseException")) true := lT.andThen (looks_subIn inn sb)
  have neq : (Value.builtin "BaseException.__getattribute__" == Value.builtin "object.__getattribute__") = false := by decide +kernel
  unfold getAttr? getAttrBy? getAttrBy
  refine wpAny_bind (wpAny_mkText (wpAny_bind (wpAny_attempt (wpAny_holding (wpAny_bind (lT.at (wpAny_bind (lA.at ?_))))))))
  show wpAny _ _ (if (onTheHeap (Value.ref D) && Value.builtin "BaseException.__getattribute__" == Value.builtin "object.__getattribute__") = true then _ else _) _ _ _
  rw [if_neg (by rw [neq, Bool.and_false]; exact Bool.false_ne_true)]
  unfold getAttrByItsOwn hookBefore
  refine wpAny_bind ?_
  rw [if_pos (show onTheHeap (Value.ref D) = true by rfl)]
  refine lG.at (wpAny_bind (wpAny_attempt (wpAny_holding ?_)))
  unfold callGetattribute
  rw [if_neg (show ¬ (false && onTheHeap (Value.builtin "BaseException.__getattribute__")) = true from Bool.false_ne_true)]
  unfold boundAndCalled
  rw [PySem.F.excAttr_ValueError.ga.bind (.ref x)]
  refine wpAny_bind (wpAny_pure (?_ : wpAny _ _ (call (.builtin "BaseException.__getattribute__") [.ref x, .str "__class__" t]) _ _ _))
  refine wpAny_call (codeAny_call_builtin PySem.F.excAttr_ValueError.ga.plain PySem.F.entry_bexc_ga (@check_slot (model prog w) _ _ ⟨hp, gn, dr, t + 1, os⟩ "BaseException.__getattribute__" "BaseException" "__getattribute__" (.ref x) [.str "__class__" t] [] _
    (by decide +kernel) (by decide +kernel) isE (PySem.F.args_bexc_ga (.ref x) (.str "__class__" t)) ?_))
  unfold Builtin.«object.__getattribute__»
  refine wpAny_bind (wpAny_of_eq (a := ((Value.ref x : Value), [Value.str "__class__" t])) (by first | rfl | (simp only [slotArgs]; rfl)) (wpAny_bind (wpAny_pure (wpAny_bind (lT.at (wpAny_bind (lF.at ?_)))))))
  show wpAny _ _ (holding [Value.builtin "object.__class__"] (call (.builtin "getset_descriptor.__get__") [.builtin "object.__class__", .ref x, .ref D]) >>= ret) _ _ _
  refine wpAny_bind (wpAny_holding (wpAny_call (class_get (s := ⟨hp, gn, dr, t + 1, os⟩) (ox := ox) (od := od) inn inst mo (wpAny_pure ?_))))
  show wpAny _ _ (handedOut (.ref D)) _ _ _
  rw [handedOut_of (v := .ref D) rfl]
  first
    | exact wpAny_pure (wpAny_pure done)
    | exact wpAny_pure done
    | exact wpAny_pure (wpAny_bind (wpAny_pure (wpAny_pure done)))
theorem mi_kitExc (ga : findIn K (.ref D) "__getattribute__" = some (some (.builtin "BaseException.__getattribute__"))) (gg : findIn K (.ref D) "__getattr__" = some none) (sb : subIn K (.ref D) (.type "BaseException") = some true)
    (hd : hasDictIn K D = true) (fc : findIn K (.ref D) "__class__" = some (some (.builtin "object.__class__"))) (sg : specialIn K (.builtin "object.__class__") "__get__" = some (some (.builtin "getset_descriptor.__get__")))
    (tk : takesIn K (.builtin "object.__class__") = some true) (mo : mroIn K D (.type "object") = some true) : KitX K (.ref x) (.ref D) (fun h => InstAt h x ox D od) where
  ty := fun _ _ _ q => q.type
  it := fun _ _ inn _ => by
    have q := mi_hasCls hd
    unfold clsIn at q
    split at q
    · rename_i c1 d1 e1 f1 there
      intro A1 Q1 E1 s1 k1 q1
      unfold isType loadHead
      exact wpAny_bind (wpAny_loadPart (k1 _ _ (inn _ _ there)) (wpAny_pure q1))
    · cases q
  ne := fun h tp dd its n sl inn htp => by
    have q := mi_hasCls hd
    refine Bool.eq_false_iff.mpr fun z => ?_
    obtain rfl : D = tp := Value.ref.inj (beq_iff_eq.mp z)
    unfold clsIn at q
    split at q
    · rename_i c1 d1 e1 f1 there
      have := (inn _ _ there).symm.trans htp
      cases this
    · cases q
  ca := fun inn q done => mi_excClass ga gg sb hd fc sg tk mo inn q done
end
end PySem.W
namespace Mi
open PySem PySem.Spec PyProof.Rows L2
/-! ### isinstance(n, C), isinstance(n, (C, ..)) of the exception that a suite holds -/
def eIsE (g : Nat × Nat) (i : Nat) (c : Str) (b : Bool) : ME D := fun env s => match env[i]? with
  | some (some (.exv a dd cl fs)) => if a = g.1 ∧ dd = g.2 ∧ cl = c then .ok (.bl b) s else .no
  | _ => .no
section
variable {X : Cx} {W : WX} {a : Addr} {oe : Obj} {cls : Value} {d : Option Addr} {pn : List (Addr × Obj)} {pos p p2 p3 : Pos} {n c1 : Str} {i : Nat} {g : Nat × Nat}
theorem inst_of {C : Addr} {pins : List (Addr × Obj)} {σ : L2.St} {H : Hp} {s : Shared} {dd : Addr} {fs : List (Str × V)} (hz : Zc (.ref C) d oe) (hf : ∃ vs, oe.data = .fields vs) (ed : d = some dd) (I : Inv (X.suite a ((a, oe) :: pn)) pins σ H s) (hd : H dd = some (.xd fs)) : ∃ od, PySem.W.InstAt s.heap a oe C (some od) := by
  subst ed
  obtain ⟨ha, _⟩ := I.pin (a, oe) (List.mem_append_left _ List.mem_cons_self)
  obtain ⟨vs, hv⟩ := hf
  obtain ⟨mA, hns, hr⟩ := (I.hok dd _ hd : ObjOk X.prog X.w H s.heap dd (.xd fs))
  obtain ⟨od, ho, _⟩ := lookIn_ns hns
  exact ⟨od, ha, hz.1, by unfold PySem.W.notCls; rw [hv] <;> rfl, by rw [hz.2]; exact ho⟩
theorem held_at {m : List Addr} {H : Hp} {env : Sl} {σ : L2.St} {s : Store} {c : Str} {b : Bool} {Q : VK} (E : RelE X.K m H env σ) (q : G X.K X.mg (Rep X.K) W σ m H Q (eIsE g i c b env s)) (r : Rel X.K m H s) :
    ∃ fs, σ[i]? = some (some (.ref g.1)) ∧ H g.2 = some (.xd fs) ∧ Q (.bl b) H := by
  unfold eIsE at q
  cases e1 : env[i]? with
  | none => rw [e1] at q; exact q.elim
  | some o =>
    cases o with
    | none => rw [e1] at q; exact q.elim
    | some x =>
      rw [e1] at q
      cases x with
      | exv a' dd cl fs =>
        simp only at q
        split at q
        · rename_i hh
          obtain ⟨h1, h2, h3⟩ := hh
          obtain ⟨v, hv, pr⟩ := E.2 i _ e1
          cases pr with
          | exv h n' rf => exact ⟨_, by rw [← h1]; exact hv, by rw [← h2]; exact h, G.now q r (.bl b)⟩
        · exact q.elim
      | _ => exact q.elim
theorem ce_isE1 {c : Str} {C D : Addr} {b : Bool} (ec : cls = .ref D) (T : ExcC X.K D) (hz : Zc cls d oe) (hf : ∃ vs, oe.data = .fields vs) (g1 : g.1 = a) (g2 : d = some g.2)
    (hg : Gl X "isinstance") (hm : X.mg "isinstance" = none) (hgC : Gl X c1) (mC : X.mg c1 = some (.ref C)) (kit : PySem.W.kitOne X.K (.ref D) (.ref C) = some b) (he : PE (X.suite a ((a, oe) :: pn)) (.Name n p) (tVar i)) (hdb : (c1 == ("__debug__" : Str)) = false := by decide)
    (hs1 : starEach [.Name n p, .Name c1 p2] X.env = (false, eval (.Name n p) X.env) :: starEach [.Name c1 p2] X.env := by rfl) (hs2 : starEach [.Name c1 p2] X.env = (false, eval (.Name c1 p2) X.env) :: starEach [] X.env := by rfl)
    (hpl : (backTo pos (starEach [.Name c1 p2] X.env)).any (·.1) = false := by rfl) :
    PE (X.suite a ((a, oe) :: pn)) (.Call (.Name "isinstance" p3) [.Name n p, .Name c1 p2] [] pos) (Te X.K X.mg W (eIsE g i c b)) := by
  subst ec
  refine ⟨fun pins s σ H Q I ⟨m, env, st, r, E, q⟩ => ?_⟩
  obtain ⟨fs, hσ, hd, hq⟩ := held_at E q r
  refine wpAny_Call_Name_kw (ld_blt (X := X.suite a ((a, oe) :: pn)) I hg hm PyProof.Rows.boot_isinstance ?_ (by decide) (by decide))
  refine PyProof.Rows.callWith_builtin1 (M := model X.prog X.w) (env := X.env) ?_ hs1 hpl
  rw [hs1]
  show wpAny _ _ (spliced ((false, eval (.Name n p) X.env) :: backTo pos (starEach [.Name c1 p2] X.env))) _ _ s
  refine Calls.spliced_cons (thn (he.run pins s σ H (fun x H1 => x = .ref g.1 ∧ H1 = H) I ⟨.ref g.1, hσ, rfl, rfl⟩) fun u s1 ⟨x, H1, I1, r1, ex, eH⟩ => ?_)
  subst ex eH
  obtain rfl : u = Value.ref g.1 := r1
  rw [hs2]
  show wpAny _ _ (spliced ((false, eval (.Name c1 p2) X.env) :: backTo pos (starEach [] X.env))) _ _ s1
  refine Calls.spliced_cons (ld_glob (X := X.suite a ((a, oe) :: pn)) I1 hgC mC (Calls.spliced_nil ?_) hdb)
  obtain ⟨od, inst⟩ := inst_of hz hf g2 I1 hd
  rw [← g1] at inst
  exact PySem.W.kia_one (PySem.W.mi_kitExc T.hg T.hk T.hs T.hd T.ha T.hn T.ht T.hm) I1.kIn inst kit (fun z => nomatch z) fun tk => ⟨.bl b, H1, I1.tok tk, rfl, hq⟩
theorem ce_isEm {k : Nat} {tpos : Pos} {e0 : Expr} {es : List Expr} {Cs : List Addr} {c : Str} {D : Addr} {b : Bool} (ec : cls = .ref D) (T : ExcC X.K D) (hz : Zc cls d oe) (hf : ∃ vs, oe.data = .fields vs) (g1 : g.1 = a) (g2 : d = some g.2)
    (hg : Gl X "isinstance") (hm : X.mg "isinstance" = none) (hes : PA (X.suite a ((a, oe) :: pn)) (e0 :: es) (fun σ H Q => Q (Cs.map V.ref) H)) (hl : Cs.length ≤ 1000) (kit : PySem.W.kitAny X.K (.ref D) (Cs.map Value.ref) = some b) (he : PE (X.suite a ((a, oe) :: pn)) (.Name n p) (tVar i))
    (hs1 : starEach [.Name n p, .Tuple (e0 :: es) k tpos] X.env = (false, eval (.Name n p) X.env) :: starEach [.Tuple (e0 :: es) k tpos] X.env := by rfl) (hs2 : starEach [.Tuple (e0 :: es) k tpos] X.env = (false, eval (.Tuple (e0 :: es) k tpos) X.env) :: starEach [] X.env := by rfl)
    (hpl : (backTo pos (starEach [.Tuple (e0 :: es) k tpos] X.env)).any (·.1) = false := by rfl) :
    PE (X.suite a ((a, oe) :: pn)) (.Call (.Name "isinstance" p3) [.Name n p, .Tuple (e0 :: es) k tpos] [] pos) (Te X.K X.mg W (eIsE g i c b)) := by
  subst ec
  refine ⟨fun pins s σ H Q I ⟨m, env, st, r, E, q⟩ => ?_⟩
  obtain ⟨fs, hσ, hd, hq⟩ := held_at E q r
  refine wpAny_Call_Name_kw (ld_blt (X := X.suite a ((a, oe) :: pn)) I hg hm PyProof.Rows.boot_isinstance ?_ (by decide) (by decide))
  refine PyProof.Rows.callWith_builtin1 (M := model X.prog X.w) (env := X.env) ?_ hs1 hpl
  rw [hs1]
  show wpAny _ _ (spliced ((false, eval (.Name n p) X.env) :: backTo pos (starEach [.Tuple (e0 :: es) k tpos] X.env))) _ _ s
  refine Calls.spliced_cons (thn (he.run pins s σ H (fun x H1 => x = .ref g.1 ∧ H1 = H) I ⟨.ref g.1, hσ, rfl, rfl⟩) fun u s1 ⟨x, H1, I1, r1, ex, eH⟩ => ?_)
  subst ex eH
  obtain rfl : u = Value.ref g.1 := r1
  rw [hs2]
  show wpAny _ _ (spliced ((false, eval (.Tuple (e0 :: es) k tpos) X.env) :: backTo pos (starEach [] X.env))) _ _ s1
  refine Calls.spliced_cons (wpAny_Tuple_spliced (thn (hes.run tpos pins s1 σ H1 (fun ys H' => ys = Cs.map V.ref ∧ H' = H1) I1 ⟨rfl, rfl⟩) fun us s2 ⟨ys, H2, I2, r2, ey, eH⟩ => ?_))
  subst ey eH
  have eu := refs_at r2
  subst eu
  refine ⟨by rw [List.length_map]; exact le_line (Nat.le_trans hl (by decide)), Calls.spliced_nil ?_⟩
  have I3 := I2.kept (h' := s2.heap.push { cls := .type "tuple", data := .seq (Cs.map Value.ref).toArray }) (t' := s2.toks) fun b ob q => Heap.get?_push_of_some _ q
  obtain ⟨od, inst⟩ := inst_of hz hf g2 I3 hd
  rw [← g1] at inst
  exact PySem.W.kia_tup (its := Cs.map Value.ref) (PySem.W.mi_kitExc T.hg T.hk T.hs T.hd T.ha T.hn T.ht T.hm) I3.kIn inst (Heap.get?_push_size _ rfl) kit (fun z => nomatch z) fun tk => ⟨.bl b, H2, I3.tok tk, rfl, hq⟩
end
end Mi
namespace Mi
open PySem PySem.Spec PyProof.Rows L2
/-! ### z.m(a), z a text -/
def eM1 (g : D → List D → Store → Option (D × Store)) (o a : ME D) : ME D := fun env s => (o env s).bind fun x s => match x with
  | .str z => (a env s).bind fun y s => R.of (g (.str z) [y] s)
  | _ => .no
section
variable {X : Cx} {W : WX} {apos pos : Pos} {o e : Expr} {fo fe : ME D}
theorem ce_m1 {id : String} {name : Str} {r : V → List V → Hp → VK → Prop} {g : D → List D → Store → Option (D × Store)} (slot : Slot "str" name id) (ty : typeOf (.builtin id) = pure (.type "method_descriptor")) (rule : MtR X id r) (hsd : MtS X.K r g) (ho : PE X o (Te X.K X.mg W fo)) (he : PE X e (Te X.K X.mg W fe))
    (hs : starEach [e] X.env = [(false, eval e X.env)] := by rfl) (hbase : attributeBase o name X.env (eval o X.env) = eval o X.env := by rfl) (hline : (apos.endLine == pos.line) = true := by rfl) :
    PE X (.Call (.Attribute o name apos) [e] [] pos) (Te X.K X.mg W (eM1 g fo fe)) :=
  PE.imp (pe_m1 slot ty rule ho he hs hbase hline) fun σ H Q h => Tm.bind (k := fun env (x : D) s => match x with
  | .str z => (fe env s).bind fun y s => R.of (g (.str z) [y] s)
  | _ => .no) h fun m1 H1 env x v s1 r1 E1 p1 g1 => by
    cases x with
    | str z =>
      cases p1
      exact ⟨⟨z, rfl⟩, m1, env, s1, r1, E1, G.bind g1 fun m2 H2 y vy s2 l2 r2 p2 g2 => hsd r2 (.str z) (.cons p2 .nil) g2⟩
    | _ => exact g1.elim
end
section
variable {K : PySem.W.Frag}
def dSplit (x : D) (ys : List D) (s : Store) : Option (D × Store) := match x, ys with
  | .str a, [.str b] => if b.length ≠ 0 ∧ a.length ≤ 1000000 then some (.loc s.length, s ++ [.lst ((Txt.split a b).map D.str)]) else none
  | _, _ => none
theorem reps_strs {m : List Addr} {H : Hp} : ∀ zs : List Str, Reps K m H (zs.map D.str) (zs.map V.str)
  | [] => .nil
  | z :: zs => .cons (.str z) (reps_strs zs)
theorem mts_split : MtS K (fun x xs H Q => ∃ a b, x = V.str a ∧ xs = [V.str b] ∧ (b.length == 0) = false ∧ a.length + 2 ≤ sizeLine ∧ rNewStrs (Txt.split a b) H Q) dSplit := by
  intro mg W σ m H s x d xs ds Q r p ps g
  unfold dSplit at g
  split at g
  · rename_i a b
    obtain ⟨w, rfl, h⟩ := reps1 ps
    cases h
    cases p
    split at g
    · rename_i hz
      refine ⟨a, b, rfl, rfl, by simpa using hz.1, by rw [sizeLine_eq]; omega, fun q hq => ?_⟩
      exact g (m ++ [q]) _ _ (le_more r hq) (rel_newlist r hq (reps_strs _)) (.loc (len_get r))
    · exact g.elim
  · exact g.elim
def dStarts (x : D) (ys : List D) (s : Store) : Option (D × Store) := match x, ys with
  | .str a, [.str b] => some (.bl (Txt.startswith a b), s)
  | _, _ => none
theorem mts_starts : MtS K (fun x xs H Q => ∃ a b, x = V.str a ∧ xs = [V.str b] ∧ Q (.bl (Txt.startswith a b)) H) dStarts := by
  intro mg W σ m H s x d xs ds Q r p ps g
  unfold dStarts at g
  split at g
  · rename_i a b
    obtain ⟨w, rfl, h⟩ := reps1 ps
    cases h
    cases p
    exact ⟨a, b, rfl, rfl, g.now r (.bl _)⟩
  · exact g.elim
noncomputable def dJoin (x : D) (ys : List D) (s : Store) : Option (D × Store) := match x, ys with
  | .str a, [y] => (seqOf s y).bind fun xs => (strsOf xs).bind fun zs => if (zs.map (·.length)).sum + zs.length * a.length ≤ 1000000 then some (.str (Txt.join a zs), s) else none
  | _, _ => none
theorem mts_join : MtS K (fun x xs H Q => ∃ a p, ∃ ys : List Str, x = V.str a ∧ xs = [V.ref p] ∧ (SqL K H p (ys.map V.str) ∨ SqT K H p (ys.map V.str)) ∧ (ys.map (·.length)).sum + ys.length * a.length ≤ 16777216 ∧ Q (.str (Txt.join a ys)) H) dJoin := by
  intro mg W σ m H s x d xs ds Q r p ps g
  unfold dJoin at g
  split at g
  · rename_i a y
    obtain ⟨w, rfl, h⟩ := reps1 ps
    cases p
    cases e : seqOf s y with
    | none => rw [e] at g; exact g.elim
    | some zs =>
      rw [e, Option.bind_some] at g
      cases q : strsOf zs with
      | none => rw [q] at g; exact g.elim
      | some ss =>
        rw [q, Option.bind_some] at g
        split at g
        · rename_i hz
          obtain ⟨b, vs, rfl, h1, h2⟩ := seqOf_sq r h e
          have ev := strs_reps h2 q
          subst ev
          exact ⟨a, b, ss, rfl, rfl, h1, by omega, g.now r (.str _)⟩
        · exact g.elim
  · exact g.elim
/-! ### z[a:b], a text besides -/
noncomputable def dSlZ (x : D) (lo hi : Option Int) (s : Store) : Option (D × Store) := match x with
  | .str z => if z.length ≤ 1000000 then some (.str (cutS z lo hi), s) else none
  | x => dSl x lo hi s
theorem sl_Z {X : Cx} : SlR X (fun x lo hi H Q => rSlLT X.K x lo hi H Q ∨ rSlS x lo hi H Q) := sl_LT.or sl_str
theorem sls_Z : SlS K (fun x lo hi H Q => rSlLT K x lo hi H Q ∨ rSlS x lo hi H Q) dSlZ := by
  intro mg W σ m H s x d lo hi Q r p g
  by_cases hz : ∃ z, d = .str z
  · obtain ⟨z, rfl⟩ := hz
    cases p
    by_cases hl : z.length ≤ 1000000
    · have e : dSlZ (.str z) lo hi s = some (.str (cutS z lo hi), s) := if_pos hl
      rw [e] at g
      exact .inr ⟨z, rfl, le_line hl, G.now g r (.str _)⟩
    · have e : dSlZ (.str z) lo hi s = none := if_neg hl
      rw [e] at g
      exact g.elim
  · have e : dSlZ d lo hi s = dSl d lo hi s := by
      cases d <;> first | rfl | exact (hz ⟨_, rfl⟩).elim
    rw [e] at g
    exact .inl (sls_LT r p g)
@[simp] theorem dSlZ_tup (xs : List D) (lo hi : Option Int) (s : Store) : dSlZ (.tup xs) lo hi s = dSl (.tup xs) lo hi s := rfl
@[simp] theorem dSlZ_fl (xs : List D) (lo hi : Option Int) (s : Store) : dSlZ (.fl xs) lo hi s = dSl (.fl xs) lo hi s := rfl
@[simp] theorem dSlZ_loc (l : Nat) (lo hi : Option Int) (s : Store) : dSlZ (.loc l) lo hi s = dSl (.loc l) lo hi s := rfl
theorem dSlZ_str {z : Str} (h : z.length ≤ 1000000) (lo hi : Option Int) (s : Store) : dSlZ (.str z) lo hi s = some (.str (cutS z lo hi), s) := if_pos h
/-! ### int(z), a text besides -/
noncomputable def dIntZ : List D → Store → Option (D × Store)
  | [.str a], s => if a.length ≤ 640 then (PySem.intText? a).map fun n => (.int n, s) else none
  | ds, s => dInt ds s
def rIntS : List V → Hp → VK → Prop := fun xs H Q => ∃ a n, xs = [V.str a] ∧ PySem.intText? a = some n ∧ a.length ≤ 640 ∧ Q (.int n) H
theorem call_intZ {X : Cx} : CallR X (.type "int") (fun xs H Q => ((∃ i, xs = [V.int i] ∧ Q (.int i) H) ∨ ∃ k, xs = [V.bl k] ∧ Q (.int (if k then 1 else 0)) H) ∨ rIntS xs H Q) := call_int1.or call_int_str
theorem fns_intZ : FnS K (fun xs H Q => ((∃ i, xs = [V.int i] ∧ Q (.int i) H) ∨ ∃ k, xs = [V.bl k] ∧ Q (.int (if k then 1 else 0)) H) ∨ rIntS xs H Q) dIntZ := by
  intro mg W σ m H s xs ds Q r p g
  by_cases hz : ∃ z, ds = [.str z]
  · obtain ⟨z, rfl⟩ := hz
    obtain ⟨w, rfl, h⟩ := reps1 p
    cases h
    simp only [dIntZ] at g
    split at g
    · rename_i hl
      cases e : PySem.intText? z with
      | none => rw [e] at g; exact g.elim
      | some n =>
        rw [e] at g
        exact .inr ⟨z, n, rfl, e, hl, G.now g r (.int n)⟩
    · exact g.elim
  · have e : dIntZ ds s = dInt ds s := by
      unfold dIntZ
      split
      · exact (hz ⟨_, rfl⟩).elim
      · rfl
    rw [e] at g
    exact .inl (fns_int r p g)
@[simp] theorem dIntZ_int (i : Int) (s : Store) : dIntZ [.int i] s = some (.int i, s) := rfl
@[simp] theorem dIntZ_bl (i : Bool) (s : Store) : dIntZ [.bl i] s = some (.int (if i then 1 else 0), s) := rfl
theorem dIntZ_str {z : Str} (h : z.length ≤ 640) {n : Int} (e : PySem.intText? z = some n) (s : Store) : dIntZ [.str z] s = some (.int n, s) := by
  simp only [dIntZ, if_pos h, e]
  rfl
end
/-! ### f'..' -/
noncomputable def eFmt (a : ME D) : ME D := fun env s => (a env s).bind fun x s => match x with
  | .str z => if z.length ≤ 1000000 then .ok (.str z) s else .no
  | .int i => if i.natAbs.log2 < 1920 then .ok (.str (toString i)) s else .no
  | _ => .no
noncomputable def eJs : List (ME D) → Str → Sl → Store → R Str
  | [], acc, _, s => .ok acc s
  | f :: fs, acc, env, s => (f env s).bind fun x s => match x with
    | .str y => if (acc ++ y).length ≤ 1000000 then eJs fs (acc ++ y) env s else .no
    | _ => .no
noncomputable def eFs (fs : List (ME D)) : ME D := fun env s => (eJs fs Str.empty env s).bind fun z s => .ok (.str z) s
section
variable {X : Cx} {W : WX} {pos : Pos} {e : Expr} {fa : ME D}
theorem ce_fmt (he : PE X e (Te X.K X.mg W fa)) : PE X (.FormattedValue e (-1) none pos) (Te X.K X.mg W (eFmt fa)) :=
  PE.imp (pe_fmt he) fun σ H Q h => Tm.bind (k := fun _ (x : D) s => match x with
  | .str z => if z.length ≤ 1000000 then R.ok (D.str z) s else .no
  | .int i => if i.natAbs.log2 < 1920 then .ok (.str (toString i)) s else .no
  | _ => .no) h fun m1 H1 env x v s1 r1 E1 p1 g1 => by
    cases x with
    | str z =>
      cases p1
      simp only at g1
      split at g1
      · rename_i hz; exact .inl ⟨z, rfl, le_line hz, g1.now r1 (.str _)⟩
      · exact g1.elim
    | int i =>
      cases p1
      simp only at g1
      split at g1
      · rename_i hz; exact .inr ⟨i, rfl, hz, g1.now r1 (.str _)⟩
      · exact g1.elim
    | _ => exact g1.elim
inductive PJs (X : Cx) (W : WX) : List Expr → List (ME D) → Prop where
  | nil : PJs X W [] []
  | cons {e : Expr} {f : ME D} {es : List Expr} {fs : List (ME D)} (h : PE X e (Te X.K X.mg W f)) (r : PJs X W es fs) : PJs X W (e :: es) (f :: fs)
theorem PJs.pj {es : List Expr} {fs : List (ME D)} (h : PJs X W es fs) : PJ X es (fs.map fun f => Te X.K X.mg W f) := by
  induction h with
  | nil => exact .nil
  | cons h _ ih => exact .cons h ih
theorem js_run (mg : Str → Option Value) : ∀ (fs : List (ME D)) (acc : Str) (σ : L2.St) (H : Hp) (Q : Str → Hp → Prop), Tm X.K X.mg (fun _ _ (a b : Str) => a = b) W (fun env s => eJs fs acc env s) σ H Q → tJs (fs.map fun f => Te X.K X.mg W f) acc σ H Q
  | [], acc, σ, H, Q, ⟨m, env, s, r, E, g⟩ => g m H acc .refl r rfl
  | f :: fs, acc, σ, H, Q, h => Tm.bind (k := fun env (x : D) s => match x with
    | .str y => if (acc ++ y).length ≤ 1000000 then eJs fs (acc ++ y) env s else .no
    | _ => .no) h fun m1 H1 env x v s1 r1 E1 p1 g1 => by
      cases x with
      | str y =>
        cases p1
        simp only at g1
        split at g1
        · rename_i hz
          exact ⟨y, rfl, le_line hz, js_run mg fs (acc ++ y) σ H1 Q ⟨m1, env, s1, r1, E1, g1⟩⟩
        · exact g1.elim
      | _ => exact g1.elim
theorem ce_fs {v1 v2 : Expr} {rest : List Expr} {fs : List (ME D)} (h : PJs X W (v1 :: v2 :: rest) fs) : PE X (.JoinedStr (v1 :: v2 :: rest) pos) (Te X.K X.mg W (eFs fs)) :=
  PE.imp (pe_joined h.pj) fun σ H Q h => js_run X.mg fs Str.empty σ H _ (Tm.bind (k := fun _ (z : Str) s => R.ok (D.str z) s) h fun m1 H1 env a b s1 r1 E1 p1 g1 => by
    cases (show a = b from p1)
    exact g1.now r1 (.str _))
@[simp] theorem eFmt_eq (a : ME D) (env : Sl) (s : Store) : eFmt a env s = (a env s).bind fun x s => match x with
  | .str z => if z.length ≤ 1000000 then .ok (.str z) s else .no
  | .int i => if i.natAbs.log2 < 1920 then .ok (.str (toString i)) s else .no
  | _ => .no := rfl
@[simp] theorem eJs_nil (acc : Str) (env : Sl) (s : Store) : eJs [] acc env s = .ok acc s := rfl
@[simp] theorem eJs_cons (f : ME D) (fs : List (ME D)) (acc : Str) (env : Sl) (s : Store) : eJs (f :: fs) acc env s = (f env s).bind fun x s => match x with
  | .str y => if (acc ++ y).length ≤ 1000000 then eJs fs (acc ++ y) env s else .no
  | _ => .no := rfl
@[simp] theorem eFs_eq (fs : List (ME D)) (env : Sl) (s : Store) : eFs fs env s = (eJs fs Str.empty env s).bind fun z s => .ok (.str z) s := rfl
end
@[simp] theorem eM1_eq (g : D → List D → Store → Option (D × Store)) (o a : ME D) (env : Sl) (s : Store) : eM1 g o a env s = (o env s).bind fun x s => match x with
  | .str z => (a env s).bind fun y s => R.of (g (.str z) [y] s)
  | _ => .no := rfl
theorem dSplit_str {a b : Str} (h : b.length ≠ 0) (hz : a.length ≤ 1000000) (s : Store) : dSplit (.str a) [.str b] s = some (.loc s.length, s ++ [.lst ((Txt.split a b).map D.str)]) := if_pos ⟨h, hz⟩
@[simp] theorem dStarts_str (a b : Str) (s : Store) : dStarts (.str a) [.str b] s = some (.bl (Txt.startswith a b), s) := rfl
theorem hcl1 {mg : Str → Option Value} {c k : Str} {C : Addr} {cls : Value} (g : mg c = some (.ref C)) (h3 : k ∈ [c]) (h4 : mg k = some cls) : cls = .ref C := by
  rw [List.mem_singleton.mp h3, g] at h4
  cases h4
  rfl
end Mi
namespace Mi
open PySem PySem.Spec PyProof.Rows L2
/-! ### z.endswith(a) -/
section
variable {K : PySem.W.Frag}
def dEnds (x : D) (ys : List D) (s : Store) : Option (D × Store) := match x, ys with
  | .str a, [.str b] => some (.bl (Txt.endswith a b), s)
  | _, _ => none
theorem mts_ends : MtS K (fun x xs H Q => ∃ a b, x = V.str a ∧ xs = [V.str b] ∧ Q (.bl (Txt.endswith a b)) H) dEnds := by
  intro mg W σ m H s x d xs ds Q r p ps g
  unfold dEnds at g
  split at g
  · rename_i a b
    obtain ⟨w, rfl, h⟩ := reps1 ps
    cases h
    cases p
    exact ⟨a, b, rfl, rfl, g.now r (.bl _)⟩
  · exact g.elim
@[simp] theorem dEnds_str (a b : Str) (s : Store) : dEnds (.str a) [.str b] s = some (.bl (Txt.endswith a b), s) := rfl
end
end Mi
namespace Mi
open PySem PySem.Spec PyProof.Rows L2
/-! ### what must hold of an end: rules that go forward -/
def WR {α : Type} (r : R α) (K : α → Store → Prop) (E : Ex → Store → Prop) : Prop := match r with
  | .ok a s => K a s
  | .ex e s => E e s
  | .no => False
def WO (o : Option (D × Store)) (K : D → Store → Prop) : Prop := match o with
  | some x => K x.1 x.2
  | none => False
/-- a branch -/
def WI (b : Bool) (A B : Prop) : Prop := (b = true → A) ∧ (b = false → B)
/-- a value that is a bool -/
def WB (x : D) (k : Bool → Prop) : Prop := match x with
  | .bl b => k b
  | _ => False
/-- what comes behind a statement -/
def Bd (P : RS → Prop) (g : MS) : RS → Prop := fun r => P (r.bind g)
/-- a def's end -/
def Fin (K : D → Store → Prop) (E : Ex → Store → Prop) : RS → Prop
  | .rt d s => K d s
  | .nx _ s => K .non s
  | .ex e _ s => E e s
  | _ => False
def NoE : Ex → Store → Prop := fun _ _ => False
/-! #### stores by their known cells -/
abbrev Hs := List (Nat × (Cell → Prop))
def Has (s : Store) (R : Hs) : Prop := (R.map (·.1)).Nodup ∧ ∀ x ∈ R, ∃ c, s[x.1]? = some c ∧ x.2 c
def Is (c : Cell) : Cell → Prop := fun d => d = c
abbrev Ls (xs : List D) : Cell → Prop := Is (.lst xs)
section
variable {s s' : Store} {R : Hs} {l p : Nat} {P Q : Cell → Prop} {c : Cell} {xs : List D}
theorem Has.nil : Has s [] := ⟨by simp, by simp⟩
theorem Has.get (H : Has s R) (h : (l, P) ∈ R) : ∃ c, s[l]? = some c ∧ P c := H.2 _ h
theorem Has.is (H : Has s R) (h : (l, Is c) ∈ R) : s[l]? = some c := by
  obtain ⟨d, e, q⟩ := H.get h
  rw [e, (show d = c from q)]
theorem Has.lst (H : Has s R) (h : (l, Ls xs) ∈ R) : s[l]? = some (.lst xs) := H.is h
theorem Has.lt (H : Has s R) (h : (l, P) ∈ R) : l < s.length := by
  obtain ⟨d, e, q⟩ := H.get h
  exact lt_of_get e
theorem Has.push (H : Has s R) (hP : P c) : Has (s ++ [c]) ((s.length, P) :: R) := by
  refine ⟨?_, fun x hx => ?_⟩
  · rw [List.map_cons, List.nodup_cons]
    refine ⟨fun h => ?_, H.1⟩
    obtain ⟨x, hx, e⟩ := List.mem_map.mp h
    obtain ⟨d, q, _⟩ := H.2 x hx
    have := lt_of_get q
    omega
  · rcases List.mem_cons.mp hx with rfl | hx
    · exact ⟨c, get_new s c, hP⟩
    · obtain ⟨d, q, r⟩ := H.2 x hx
      exact ⟨d, by rw [List.getElem?_append_left (lt_of_get q)]; exact q, r⟩
theorem Has.new (H : Has s R) (c : Cell) : Has (s ++ [c]) ((s.length, Is c) :: R) := H.push rfl
theorem Has.ext (H : Has s R) (x : Ext s s') : Has s' R := ⟨H.1, fun y hy => let ⟨c, a, b⟩ := H.2 y hy; ⟨c, x.get a, b⟩⟩
theorem Has.app (H : Has s R) (r : Store) : Has (s ++ r) R := H.ext ⟨r, rfl⟩
theorem Has.put (H : Has s R) (i : Nat) (h : R[i]? = some (l, P)) (hQ : Q c) : Has (s.set l c) (R.set i (l, Q)) := by
  have hi : i < R.length := (List.getElem?_eq_some_iff.mp h).1
  have hg : R[i] = (l, P) := (List.getElem?_eq_some_iff.mp h).2
  have hm : (l, P) ∈ R := List.mem_of_getElem? h
  have e : (R.set i (l, Q)).map (·.1) = R.map (·.1) := by
    apply List.ext_getElem?
    intro j
    rw [List.getElem?_map, List.getElem?_map, List.getElem?_set]
    by_cases c : i = j
    · subst c
      rw [if_pos rfl, if_pos hi, h]
      rfl
    · rw [if_neg c]
  refine ⟨by rw [e]; exact H.1, fun x hx => ?_⟩
  obtain ⟨j, hj, ej⟩ := List.getElem_of_mem hx
  rw [List.length_set] at hj
  rw [List.getElem_set] at ej
  by_cases q : i = j
  · rw [if_pos q] at ej
    subst ej
    obtain ⟨d, e1, _⟩ := H.get hm
    exact ⟨c, get_set e1, hQ⟩
  · rw [if_neg q] at ej
    subst ej
    obtain ⟨d, e1, e2⟩ := H.2 _ (List.getElem_mem hj)
    refine ⟨d, ?_, e2⟩
    rw [List.getElem?_set_ne]
    · exact e1
    · intro z
      have nd := List.pairwise_iff_getElem.mp H.1
      have a1 : (R.map (·.1))[i]'(by simpa using hi) = l := by simp [hg]
      have a2 : (R.map (·.1))[j]'(by simpa using hj) = l := by simp [z]
      rcases Nat.lt_or_ge i j with w | w
      · exact nd i j (by simpa using hi) (by simpa using hj) w (a1.trans a2.symm)
      · exact nd j i (by simpa using hj) (by simpa using hi) (by omega) (a2.trans a1.symm)
theorem Has.drop {x : Nat × (Cell → Prop)} (H : Has s (x :: R)) : Has s R := ⟨by have := H.1; rw [List.map_cons, List.nodup_cons] at this; exact this.2, fun y hy => H.2 y (List.mem_cons_of_mem _ hy)⟩
theorem Has.kp (H : Has s R) (k : Kp p s s') (hm : (p, P) ∈ R) (hP : ∃ c, s'[p]? = some c ∧ P c) : Has s' R := ⟨H.1, fun x hx => by
  by_cases q : x.1 = p
  · have : x = (p, P) := by
      obtain ⟨i, hi, e1⟩ := List.getElem_of_mem hx
      obtain ⟨j, hj, e2⟩ := List.getElem_of_mem hm
      by_cases z : i = j
      · subst z; rw [← e1, ← e2]
      · exfalso
        have nd := List.pairwise_iff_getElem.mp H.1
        have a1 : (R.map (·.1))[i]'(by simpa using hi) = p := by simp [e1, q]
        have a2 : (R.map (·.1))[j]'(by simpa using hj) = p := by simp [e2]
        rcases Nat.lt_or_ge i j with w | w
        · exact nd i j (by simpa using hi) (by simpa using hj) w (a1.trans a2.symm)
        · exact nd j i (by simpa using hj) (by simpa using hi) (by omega) (a2.trans a1.symm)
    subst this
    exact hP
  · obtain ⟨c, e1, e2⟩ := H.2 x hx
    exact ⟨c, by rw [k.2 x.1 (lt_of_get e1) q]; exact e1, e2⟩⟩
theorem Has.same (H : Has s R) (h : ∀ l, l < s.length → s'[l]? = s[l]?) : Has s' R := ⟨H.1, fun x hx => let ⟨c, a, b⟩ := H.2 x hx; ⟨c, by rw [h x.1 (lt_of_get a)]; exact a, b⟩⟩
theorem Has.weak {R' : Hs} (H : Has s R) (h : R'.Sublist R) : Has s R' := ⟨(h.map (·.1)).nodup H.1, fun y hy => H.2 y (h.subset hy)⟩
theorem Has.perm {R' : Hs} (H : Has s R) (h : R.Perm R') : Has s R' := ⟨(h.map (·.1)).nodup H.1, fun y hy => H.2 y (h.mem_iff.mpr hy)⟩
inductive Wk : Hs → Hs → Prop where
  | refl {R : Hs} : Wk R R
  | cons {l : Nat} {P Q : Cell → Prop} {R R' : Hs} (h : ∀ c, P c → Q c) (r : Wk R R') : Wk ((l, P) :: R) ((l, Q) :: R')
theorem Wk.fst {R R' : Hs} (w : Wk R R') : R'.map (·.1) = R.map (·.1) := by
  induction w with
  | refl => rfl
  | cons h r ih => rw [List.map_cons, List.map_cons, ih]
theorem Wk.mem {R R' : Hs} (w : Wk R R') : ∀ y ∈ R', ∃ P, (y.1, P) ∈ R ∧ ∀ c, P c → y.2 c := by
  induction w with
  | refl => exact fun y hy => ⟨y.2, hy, fun _ h => h⟩
  | cons h r ih =>
    intro y hy
    rcases List.mem_cons.mp hy with rfl | hy
    · exact ⟨_, List.mem_cons_self, h⟩
    · obtain ⟨P, h1, h2⟩ := ih y hy
      exact ⟨P, List.mem_cons_of_mem _ h1, h2⟩
theorem Has.wk {R' : Hs} (H : Has s R) (w : Wk R R') : Has s R' := ⟨by rw [w.fst]; exact H.1, fun y hy => by
  obtain ⟨P, h1, h2⟩ := w.mem y hy
  obtain ⟨c, e, q⟩ := H.get h1
  exact ⟨c, e, h2 c q⟩⟩
/-- a list, whatever it holds -/
def IsL : Cell → Prop := fun c => ∃ xs, c = .lst xs
theorem toL : ∀ c, Ls xs c → IsL c := fun c h => ⟨xs, h⟩
theorem Has.swap {x y : Nat × (Cell → Prop)} (H : Has s (x :: y :: R)) : Has s (y :: x :: R) := H.perm (List.Perm.swap ..)
end
section
variable {α β : Type} {K : D → Store → Prop} {KB : Bool → Store → Prop} {KL : List D → Store → Prop} {KI : Itm → Store → Prop} {KO : Option Int → Store → Prop} {E : Ex → Store → Prop} {env env2 : Sl} {s s' : Store} {a b c : ME D} {as : ME (List D)} {t u : ME Bool} {d x : D} {P : RS → Prop} {f g h : MS} {A B : Prop} {q : Prop} {Z : Hs}
theorem wr_go {Kk : α → Store → Prop} {r : R α} (h : WR r Kk E) : WR r Kk E := h
theorem wi_go {b : Bool} (h : WI b A B) : WI b A B := h
theorem bd_go {r : RS} (h : Bd P g r) : Bd P g r := h
theorem wr_ok {Kk : α → Store → Prop} {v : α} (h : Kk v s) : WR (.ok v s) Kk E := h
theorem wr_eq {Kk : α → Store → Prop} {r : R α} {v : α} (e : r = .ok v s) (h : Kk v s) : WR r Kk E := by rw [e]; exact h
theorem wr_bind {Kk : β → Store → Prop} {r : R α} {k : α → Store → R β} (h : WR r (fun a s => WR (k a s) Kk E) E) : WR (r.bind k) Kk E := by cases r <;> exact h
theorem wr_of {o : Option (D × Store)} (h : WO o K) : WR (R.of o) K E := by
  cases o with
  | none => exact False.elim h
  | some x => exact h
theorem wr_mono {Kk Kk' : α → Store → Prop} {E E' : Ex → Store → Prop} {r : R α} (h : WR r Kk E) (k : ∀ a s, Kk a s → Kk' a s) (e : ∀ x s, E x s → E' x s) : WR r Kk' E' := by
  cases r with
  | ok a s => exact k a s h
  | ex x s => exact e x s h
  | no => exact h
theorem wr_out {Kk : α → Store → Prop} {r : R α} (h : WR r Kk NoE) : ∃ v s, r = .ok v s ∧ Kk v s := by
  cases r with
  | ok a s => exact ⟨a, s, rfl, h⟩
  | ex x s => exact False.elim h
  | no => exact False.elim h
theorem wr_in {Kk : α → Store → Prop} {r : R α} (h : ∃ v s, r = .ok v s ∧ Kk v s) : WR r Kk E := by
  obtain ⟨v, s, rfl, h⟩ := h
  exact h
theorem wo_eq {o : Option (D × Store)} (e : o = some (d, s)) (h : K d s) : WO o K := by rw [e]; exact h
theorem wo_out {o : Option (D × Store)} (h : WO o K) : ∃ d s, o = some (d, s) ∧ K d s := by
  cases o with
  | none => exact False.elim h
  | some x => exact ⟨x.1, x.2, rfl, h⟩
/-! #### branches -/
theorem wi_t (h : A) : WI true A B := ⟨fun _ => h, fun e => by cases e⟩
theorem wi_f (h : B) : WI false A B := ⟨(fun e => by cases e), fun _ => h⟩
theorem wi_d [Decidable q] (h : q → A) (h2 : ¬ q → B) : WI (decide q) A B := ⟨fun e => h (of_decide_eq_true e), fun e => h2 (of_decide_eq_false e)⟩
theorem wi_so {b : Bool} (e : b = true) (h : A) : WI b A B := ⟨fun _ => h, fun z => by rw [e] at z; cases z⟩
theorem wi_un {b : Bool} (e : b = false) (h : B) : WI b A B := ⟨(fun z => by rw [e] at z; cases z), fun _ => h⟩
theorem wi_n {b : Bool} (h : WI b B A) : WI (!b) A B := ⟨fun e => h.2 (by simpa using e), fun e => h.1 (by simpa using e)⟩
theorem wi_b {b : Bool} (h : b = true → A) (h2 : b = false → B) : WI b A B := ⟨h, h2⟩
theorem wi_yes [Decidable q] (h : q) (h2 : A) : WI (decide q) A B := wi_d (fun _ => h2) (fun n => (n h).elim)
theorem wi_no [Decidable q] (h : ¬ q) (h2 : B) : WI (decide q) A B := wi_d (fun n => (h n).elim) (fun _ => h2)
theorem wi_and {b c : Bool} (h : WI b (WI c A B) B) : WI (b && c) A B := by
  cases b
  · exact wi_f (h.2 rfl)
  · exact h.1 rfl
theorem wi_or {b c : Bool} (h : WI b A (WI c A B)) : WI (b || c) A B := by
  cases b
  · exact h.2 rfl
  · exact wi_t (h.1 rfl)
theorem wi_same (b : Bool) (h : A) : WI b A A := ⟨fun _ => h, fun _ => h⟩
theorem wi_if {b : Bool} {r : R α} {r2 : R α} {Kk : α → Store → Prop} (h : WI b (WR r Kk E) (WR r2 Kk E)) : WR (if b = true then r else r2) Kk E := by
  cases b
  · exact h.2 rfl
  · exact h.1 rfl
/-! #### expressions -/
theorem w_C (h : K d s) : WR (eC d env s) K E := h
theorem w_V {i : Nat} (e : env[i]? = some (some d)) (h : K d s) : WR (eV i env s) K E := by unfold eV; rw [e]; exact h
theorem w_V0 {r : Sl} (h : K d s) : WR (eV 0 (some d :: r) s) K E := h
theorem w_V1 {x0 : Option D} {r : Sl} (h : K d s) : WR (eV 1 (x0 :: some d :: r) s) K E := h
theorem w_V2 {x0 x1 : Option D} {r : Sl} (h : K d s) : WR (eV 2 (x0 :: x1 :: some d :: r) s) K E := h
theorem w_V3 {x0 x1 x2 : Option D} {r : Sl} (h : K d s) : WR (eV 3 (x0 :: x1 :: x2 :: some d :: r) s) K E := h
theorem w_V4 {x0 x1 x2 x3 : Option D} {r : Sl} (h : K d s) : WR (eV 4 (x0 :: x1 :: x2 :: x3 :: some d :: r) s) K E := h
theorem w_V5 {x0 x1 x2 x3 x4 : Option D} {r : Sl} (h : K d s) : WR (eV 5 (x0 :: x1 :: x2 :: x3 :: x4 :: some d :: r) s) K E := h
theorem w_V6 {x0 x1 x2 x3 x4 x5 : Option D} {r : Sl} (h : K d s) : WR (eV 6 (x0 :: x1 :: x2 :: x3 :: x4 :: x5 :: some d :: r) s) K E := h
theorem w_V7 {x0 x1 x2 x3 x4 x5 x6 : Option D} {r : Sl} (h : K d s) : WR (eV 7 (x0 :: x1 :: x2 :: x3 :: x4 :: x5 :: x6 :: some d :: r) s) K E := h
theorem w_V8 {x0 x1 x2 x3 x4 x5 x6 x7 : Option D} {r : Sl} (h : K d s) : WR (eV 8 (x0 :: x1 :: x2 :: x3 :: x4 :: x5 :: x6 :: x7 :: some d :: r) s) K E := h
theorem w_V9 {x0 x1 x2 x3 x4 x5 x6 x7 x8 : Option D} {r : Sl} (h : K d s) : WR (eV 9 (x0 :: x1 :: x2 :: x3 :: x4 :: x5 :: x6 :: x7 :: x8 :: some d :: r) s) K E := h
theorem w_V10 {x0 x1 x2 x3 x4 x5 x6 x7 x8 x9 : Option D} {r : Sl} (h : K d s) : WR (eV 10 (x0 :: x1 :: x2 :: x3 :: x4 :: x5 :: x6 :: x7 :: x8 :: x9 :: some d :: r) s) K E := h
theorem w_V11 {x0 x1 x2 x3 x4 x5 x6 x7 x8 x9 x10 : Option D} {r : Sl} (h : K d s) : WR (eV 11 (x0 :: x1 :: x2 :: x3 :: x4 :: x5 :: x6 :: x7 :: x8 :: x9 :: x10 :: some d :: r) s) K E := h
theorem w_V12 {x0 x1 x2 x3 x4 x5 x6 x7 x8 x9 x10 x11 : Option D} {r : Sl} (h : K d s) : WR (eV 12 (x0 :: x1 :: x2 :: x3 :: x4 :: x5 :: x6 :: x7 :: x8 :: x9 :: x10 :: x11 :: some d :: r) s) K E := h
theorem w_V13 {x0 x1 x2 x3 x4 x5 x6 x7 x8 x9 x10 x11 x12 : Option D} {r : Sl} (h : K d s) : WR (eV 13 (x0 :: x1 :: x2 :: x3 :: x4 :: x5 :: x6 :: x7 :: x8 :: x9 :: x10 :: x11 :: x12 :: some d :: r) s) K E := h
theorem w_V14 {x0 x1 x2 x3 x4 x5 x6 x7 x8 x9 x10 x11 x12 x13 : Option D} {r : Sl} (h : K d s) : WR (eV 14 (x0 :: x1 :: x2 :: x3 :: x4 :: x5 :: x6 :: x7 :: x8 :: x9 :: x10 :: x11 :: x12 :: x13 :: some d :: r) s) K E := h
theorem w_V15 {x0 x1 x2 x3 x4 x5 x6 x7 x8 x9 x10 x11 x12 x13 x14 : Option D} {r : Sl} (h : K d s) : WR (eV 15 (x0 :: x1 :: x2 :: x3 :: x4 :: x5 :: x6 :: x7 :: x8 :: x9 :: x10 :: x11 :: x12 :: x13 :: x14 :: some d :: r) s) K E := h
theorem w_V16 {x0 x1 x2 x3 x4 x5 x6 x7 x8 x9 x10 x11 x12 x13 x14 x15 : Option D} {r : Sl} (h : K d s) : WR (eV 16 (x0 :: x1 :: x2 :: x3 :: x4 :: x5 :: x6 :: x7 :: x8 :: x9 :: x10 :: x11 :: x12 :: x13 :: x14 :: x15 :: some d :: r) s) K E := h
theorem w_V17 {x0 x1 x2 x3 x4 x5 x6 x7 x8 x9 x10 x11 x12 x13 x14 x15 x16 : Option D} {r : Sl} (h : K d s) : WR (eV 17 (x0 :: x1 :: x2 :: x3 :: x4 :: x5 :: x6 :: x7 :: x8 :: x9 :: x10 :: x11 :: x12 :: x13 :: x14 :: x15 :: x16 :: some d :: r) s) K E := h
theorem w_V18 {x0 x1 x2 x3 x4 x5 x6 x7 x8 x9 x10 x11 x12 x13 x14 x15 x16 x17 : Option D} {r : Sl} (h : K d s) : WR (eV 18 (x0 :: x1 :: x2 :: x3 :: x4 :: x5 :: x6 :: x7 :: x8 :: x9 :: x10 :: x11 :: x12 :: x13 :: x14 :: x15 :: x16 :: x17 :: some d :: r) s) K E := h
theorem w_V19 {x0 x1 x2 x3 x4 x5 x6 x7 x8 x9 x10 x11 x12 x13 x14 x15 x16 x17 x18 : Option D} {r : Sl} (h : K d s) : WR (eV 19 (x0 :: x1 :: x2 :: x3 :: x4 :: x5 :: x6 :: x7 :: x8 :: x9 :: x10 :: x11 :: x12 :: x13 :: x14 :: x15 :: x16 :: x17 :: x18 :: some d :: r) s) K E := h
theorem w_V20 {x0 x1 x2 x3 x4 x5 x6 x7 x8 x9 x10 x11 x12 x13 x14 x15 x16 x17 x18 x19 : Option D} {r : Sl} (h : K d s) : WR (eV 20 (x0 :: x1 :: x2 :: x3 :: x4 :: x5 :: x6 :: x7 :: x8 :: x9 :: x10 :: x11 :: x12 :: x13 :: x14 :: x15 :: x16 :: x17 :: x18 :: x19 :: some d :: r) s) K E := h
theorem w_V21 {x0 x1 x2 x3 x4 x5 x6 x7 x8 x9 x10 x11 x12 x13 x14 x15 x16 x17 x18 x19 x20 : Option D} {r : Sl} (h : K d s) : WR (eV 21 (x0 :: x1 :: x2 :: x3 :: x4 :: x5 :: x6 :: x7 :: x8 :: x9 :: x10 :: x11 :: x12 :: x13 :: x14 :: x15 :: x16 :: x17 :: x18 :: x19 :: x20 :: some d :: r) s) K E := h
theorem w_V22 {x0 x1 x2 x3 x4 x5 x6 x7 x8 x9 x10 x11 x12 x13 x14 x15 x16 x17 x18 x19 x20 x21 : Option D} {r : Sl} (h : K d s) : WR (eV 22 (x0 :: x1 :: x2 :: x3 :: x4 :: x5 :: x6 :: x7 :: x8 :: x9 :: x10 :: x11 :: x12 :: x13 :: x14 :: x15 :: x16 :: x17 :: x18 :: x19 :: x20 :: x21 :: some d :: r) s) K E := h
theorem w_V23 {x0 x1 x2 x3 x4 x5 x6 x7 x8 x9 x10 x11 x12 x13 x14 x15 x16 x17 x18 x19 x20 x21 x22 : Option D} {r : Sl} (h : K d s) : WR (eV 23 (x0 :: x1 :: x2 :: x3 :: x4 :: x5 :: x6 :: x7 :: x8 :: x9 :: x10 :: x11 :: x12 :: x13 :: x14 :: x15 :: x16 :: x17 :: x18 :: x19 :: x20 :: x21 :: x22 :: some d :: r) s) K E := h
theorem w_V24 {x0 x1 x2 x3 x4 x5 x6 x7 x8 x9 x10 x11 x12 x13 x14 x15 x16 x17 x18 x19 x20 x21 x22 x23 : Option D} {r : Sl} (h : K d s) : WR (eV 24 (x0 :: x1 :: x2 :: x3 :: x4 :: x5 :: x6 :: x7 :: x8 :: x9 :: x10 :: x11 :: x12 :: x13 :: x14 :: x15 :: x16 :: x17 :: x18 :: x19 :: x20 :: x21 :: x22 :: x23 :: some d :: r) s) K E := h
theorem w_V25 {x0 x1 x2 x3 x4 x5 x6 x7 x8 x9 x10 x11 x12 x13 x14 x15 x16 x17 x18 x19 x20 x21 x22 x23 x24 : Option D} {r : Sl} (h : K d s) : WR (eV 25 (x0 :: x1 :: x2 :: x3 :: x4 :: x5 :: x6 :: x7 :: x8 :: x9 :: x10 :: x11 :: x12 :: x13 :: x14 :: x15 :: x16 :: x17 :: x18 :: x19 :: x20 :: x21 :: x22 :: x23 :: x24 :: some d :: r) s) K E := h
theorem w_V26 {x0 x1 x2 x3 x4 x5 x6 x7 x8 x9 x10 x11 x12 x13 x14 x15 x16 x17 x18 x19 x20 x21 x22 x23 x24 x25 : Option D} {r : Sl} (h : K d s) : WR (eV 26 (x0 :: x1 :: x2 :: x3 :: x4 :: x5 :: x6 :: x7 :: x8 :: x9 :: x10 :: x11 :: x12 :: x13 :: x14 :: x15 :: x16 :: x17 :: x18 :: x19 :: x20 :: x21 :: x22 :: x23 :: x24 :: x25 :: some d :: r) s) K E := h
theorem w_V27 {x0 x1 x2 x3 x4 x5 x6 x7 x8 x9 x10 x11 x12 x13 x14 x15 x16 x17 x18 x19 x20 x21 x22 x23 x24 x25 x26 : Option D} {r : Sl} (h : K d s) : WR (eV 27 (x0 :: x1 :: x2 :: x3 :: x4 :: x5 :: x6 :: x7 :: x8 :: x9 :: x10 :: x11 :: x12 :: x13 :: x14 :: x15 :: x16 :: x17 :: x18 :: x19 :: x20 :: x21 :: x22 :: x23 :: x24 :: x25 :: x26 :: some d :: r) s) K E := h
theorem w_V28 {x0 x1 x2 x3 x4 x5 x6 x7 x8 x9 x10 x11 x12 x13 x14 x15 x16 x17 x18 x19 x20 x21 x22 x23 x24 x25 x26 x27 : Option D} {r : Sl} (h : K d s) : WR (eV 28 (x0 :: x1 :: x2 :: x3 :: x4 :: x5 :: x6 :: x7 :: x8 :: x9 :: x10 :: x11 :: x12 :: x13 :: x14 :: x15 :: x16 :: x17 :: x18 :: x19 :: x20 :: x21 :: x22 :: x23 :: x24 :: x25 :: x26 :: x27 :: some d :: r) s) K E := h
theorem w_V29 {x0 x1 x2 x3 x4 x5 x6 x7 x8 x9 x10 x11 x12 x13 x14 x15 x16 x17 x18 x19 x20 x21 x22 x23 x24 x25 x26 x27 x28 : Option D} {r : Sl} (h : K d s) : WR (eV 29 (x0 :: x1 :: x2 :: x3 :: x4 :: x5 :: x6 :: x7 :: x8 :: x9 :: x10 :: x11 :: x12 :: x13 :: x14 :: x15 :: x16 :: x17 :: x18 :: x19 :: x20 :: x21 :: x22 :: x23 :: x24 :: x25 :: x26 :: x27 :: x28 :: some d :: r) s) K E := h
theorem w_V30 {x0 x1 x2 x3 x4 x5 x6 x7 x8 x9 x10 x11 x12 x13 x14 x15 x16 x17 x18 x19 x20 x21 x22 x23 x24 x25 x26 x27 x28 x29 : Option D} {r : Sl} (h : K d s) : WR (eV 30 (x0 :: x1 :: x2 :: x3 :: x4 :: x5 :: x6 :: x7 :: x8 :: x9 :: x10 :: x11 :: x12 :: x13 :: x14 :: x15 :: x16 :: x17 :: x18 :: x19 :: x20 :: x21 :: x22 :: x23 :: x24 :: x25 :: x26 :: x27 :: x28 :: x29 :: some d :: r) s) K E := h
theorem w_V31 {x0 x1 x2 x3 x4 x5 x6 x7 x8 x9 x10 x11 x12 x13 x14 x15 x16 x17 x18 x19 x20 x21 x22 x23 x24 x25 x26 x27 x28 x29 x30 : Option D} {r : Sl} (h : K d s) : WR (eV 31 (x0 :: x1 :: x2 :: x3 :: x4 :: x5 :: x6 :: x7 :: x8 :: x9 :: x10 :: x11 :: x12 :: x13 :: x14 :: x15 :: x16 :: x17 :: x18 :: x19 :: x20 :: x21 :: x22 :: x23 :: x24 :: x25 :: x26 :: x27 :: x28 :: x29 :: x30 :: some d :: r) s) K E := h
theorem w_Vg {i : Nat} (h : WR (eV i env s) K E) : WR (eV i env s) K E := h
theorem w_e2 {g : D → D → Store → Option (D × Store)} (h : WR (a env s) (fun x s => WR (b env s) (fun y s => WO (g x y s) K) E) E) : WR (e2 g a b env s) K E :=
  wr_bind (wr_mono h (fun _ _ h => wr_bind (wr_mono h (fun _ _ h => wr_of h) fun _ _ h => h)) fun _ _ h => h)
theorem w_e1 {g : D → Store → Option (D × Store)} (h : WR (a env s) (fun x s => WO (g x s) K) E) : WR (e1 g a env s) K E :=
  wr_bind (wr_mono h (fun _ _ h => wr_of h) fun _ _ h => h)
theorem w_nil (h : KL [] s) : WR (aNil env s) KL E := h
theorem w_cons (h : WR (a env s) (fun x s => WR (as env s) (fun xs s => KL (x :: xs) s) E) E) : WR (aCons a as env s) KL E :=
  wr_bind (wr_mono h (fun _ _ h => wr_bind (wr_mono h (fun _ _ h => h) fun _ _ h => h)) fun _ _ h => h)
theorem w_fn {g : List D → Store → Option (D × Store)} (h : WR (as env s) (fun xs s => WO (g xs s) K) E) : WR (eFn g as env s) K E :=
  wr_bind (wr_mono h (fun _ _ h => wr_of h) fun _ _ h => h)
/-- a tuple that is written -/
def TupK (xs : List D) (s : Store) (K : D → Store → Prop) : Prop := xs.length ≤ 1000000 ∧ K (.tup xs) s
theorem tupk {xs : List D} (hz : xs.length ≤ 1000000) (h : K (.tup xs) s) : TupK xs s K := ⟨hz, h⟩
theorem w_tup (h : WR (as env s) (fun xs s => TupK xs s K) E) : WR (eTup as env s) K E :=
  wr_bind (wr_mono h (fun _ _ h => by
    show WR (if _ then _ else _) K E
    rw [if_pos (le_line h.1)]
    exact h.2) fun _ _ h => h)
/-- a list that is written: a new cell -/
def NewL (xs : List D) (s : Store) (K : D → Store → Prop) : Prop := xs.length ≤ 1000000 ∧ K (.loc s.length) (s ++ [.lst xs])
theorem w_lst (h : WR (as env s) (fun xs s => NewL xs s K) E) : WR (eLst as env s) K E :=
  wr_bind (wr_mono h (fun _ _ h => by
    show WR (if _ then _ else _) K E
    rw [if_pos (le_line h.1)]
    exact h.2) fun _ _ h => h)
theorem newl {xs : List D} (H : Has s Z) (hz : xs.length ≤ 1000000) (h : ∀ l s', s.length ≤ l → Has s' ((l, Ls xs) :: Z) → K (.loc l) s') : NewL xs s K := ⟨hz, h _ _ (Nat.le_refl _) (H.new _)⟩
theorem w_call {m : List D → Store → R D} (h : WR (as env s) (fun xs s => WR (m xs s) K E) E) : WR (eCall m as env s) K E := wr_bind h
theorem w_tV (h : WR (a env s) (fun x s => WB x fun b => KB b s) E) : WR (tV a env s) KB E :=
  wr_bind (wr_mono h (fun x _ h => by cases x <;> first | exact h | exact False.elim h) fun _ _ h => h)
theorem wb {b : Bool} {k : Bool → Prop} (h : k b) : WB (.bl b) k := h
def TruK (x : D) (s : Store) (KB : Bool → Store → Prop) : Prop := ∃ b, dTru s x = some b ∧ KB b s
theorem w_tru (h : WR (a env s) (fun x s => TruK x s KB) E) : WR (tTru a env s) KB E :=
  wr_bind (wr_mono h (fun x _ ⟨b, e, h⟩ => by rw [e]; exact h) fun _ _ h => h)
theorem tru {b : Bool} (e : dTru s x = some b) (h : KB b s) : TruK x s KB := ⟨b, e, h⟩
theorem tru_b {b : Bool} (h : KB b s) : TruK (.bl b) s KB := ⟨b, rfl, h⟩
theorem tru_n (h : KB false s) : TruK .non s KB := ⟨_, rfl, h⟩
theorem tru_i {i : Int} (h : KB (i != 0) s) : TruK (.int i) s KB := ⟨_, rfl, h⟩
theorem tru_t {xs : List D} (h : KB (!xs.isEmpty) s) : TruK (.tup xs) s KB := ⟨_, rfl, h⟩
theorem tru_l {xs : List D} {l : Nat} {Z : Hs} (H : Has s Z) (hm : (l, Ls xs) ∈ Z) (h : KB (!xs.isEmpty) s) : TruK (.loc l) s KB := ⟨_, dTru_loc (H.lst hm), h⟩
theorem w_and (h : WR (t env s) (fun b s => WI b (WR (u env s) KB E) (KB false s)) E) : WR (tAnd t u env s) KB E :=
  wr_bind (wr_mono h (fun b _ h => wi_if (⟨h.1, h.2⟩ : WI b _ _)) fun _ _ h => h)
theorem w_or (h : WR (t env s) (fun b s => WI b (KB true s) (WR (u env s) KB E)) E) : WR (tOr t u env s) KB E :=
  wr_bind (wr_mono h (fun b _ h => wi_if (⟨h.1, h.2⟩ : WI b _ _)) fun _ _ h => h)
theorem w_not (h : WR (t env s) (fun b s => KB (!b) s) E) : WR (tNot t env s) KB E :=
  wr_bind (wr_mono h (fun b _ h => h) fun _ _ h => h)
theorem w_tT (h : KB true s) : WR (tT env s) KB E := h
theorem w_eif (h : WR (t env s) (fun b s => WI b (WR (a env s) K E) (WR (c env s) K E)) E) : WR (eIf t a c env s) K E :=
  wr_bind (wr_mono h (fun b _ h => wi_if h) fun _ _ h => h)
theorem w_eAnd (h : WR (a env s) (fun x s => WB x fun k => WI k (WR (b env s) K E) (K (.bl false) s)) E) : WR (eAnd a b env s) K E :=
  wr_bind (wr_mono h (fun x _ h => by cases x <;> first | exact False.elim h | (rename_i k; cases k; (· exact h.2 rfl); (· exact h.1 rfl))) fun _ _ h => h)
theorem w_eOr (h : WR (a env s) (fun x s => WB x fun k => WI k (K (.bl true) s) (WR (b env s) K E)) E) : WR (eOr a b env s) K E :=
  wr_bind (wr_mono h (fun x _ h => by cases x <;> first | exact False.elim h | (rename_i k; cases k; (· exact h.2 rfl); (· exact h.1 rfl))) fun _ _ h => h)
theorem w_eNot (h : WR (a env s) (fun x s => WB x fun k => K (.bl !k) s) E) : WR (eNot a env s) K E :=
  wr_bind (wr_mono h (fun x _ h => by cases x <;> first | exact False.elim h | exact h) fun _ _ h => h)
theorem w_chain {g g' : D → D → Store → Option (D × Store)} (h : WR (a env s) (fun x s => WR (b env s) (fun y s => WO (g x y s) fun z s => WB z fun k => WI k (WR (c env s) (fun w s => WO (g' y w s) K) E) (K (.bl false) s)) E) E) : WR (eChain g g' a b c env s) K E :=
  wr_bind (wr_mono h (fun x _ h => wr_bind (wr_mono h (fun y _ h => wr_bind (wr_mono (wr_of h) (fun z _ h => by
    cases z <;> first | exact False.elim h | (rename_i k; cases k; (· exact h.2 rfl); (· exact wr_bind (wr_mono (h.1 rfl) (fun _ _ h => wr_of h) fun _ _ h => h)))) fun _ _ h => h)) fun _ _ h => h)) fun _ _ h => h)
def MtK (T : String) (x : D) (s : Store) (A : Prop) : Prop := tyOk T s x = true ∧ A
theorem mt_lst {xs : List D} {l : Nat} {Z : Hs} (H : Has s Z) (hm : (l, Ls xs) ∈ Z) (h : A) : MtK "list" (.loc l) s A := ⟨tyOk_list (H.lst hm), h⟩
theorem mt_str {z : Str} (h : A) : MtK "str" (.str z) s A := ⟨rfl, h⟩
theorem w_mt {T : String} {g : D → List D → Store → Option (D × Store)} (h : WR (a env s) (fun x s => MtK T x s (WR (as env s) (fun xs s => WO (g x xs s) K) E)) E) : WR (eMt T g a as env s) K E :=
  wr_bind (wr_mono h (fun x _ h => by rw [if_pos h.1]; exact wr_bind (wr_mono h.2 (fun _ _ h => wr_of h) fun _ _ h => h)) fun _ _ h => h)
theorem w_mt0 {T : String} {g : D → List D → Store → Option (D × Store)} (h : WR (a env s) (fun x s => MtK T x s (WO (g x [] s) K)) E) : WR (eMt0 T g a env s) K E :=
  wr_bind (wr_mono h (fun x _ h => by rw [if_pos h.1]; exact wr_of h.2) fun _ _ h => h)
theorem w_oN (h : KO none s) : WR (oNone env s) KO E := h
def OiK (x : D) (s : Store) (KO : Option Int → Store → Prop) : Prop := ∃ i, x = .int i ∧ KO (some i) s
theorem w_oS (h : WR (a env s) (fun x s => OiK x s KO) E) : WR (oSome a env s) KO E :=
  wr_bind (wr_mono h (fun x _ ⟨i, e, h⟩ => by subst e; exact h) fun _ _ h => h)
theorem oi {i : Int} (h : KO (some i) s) : OiK (.int i) s KO := ⟨i, rfl, h⟩
theorem w_sl {g : D → Option Int → Option Int → Store → Option (D × Store)} {lo hi : ME (Option Int)} (h : WR (a env s) (fun x s => WR (lo env s) (fun l s => WR (hi env s) (fun u s => WO (g x l u s) K) E) E) E) : WR (eSl g a lo hi env s) K E :=
  wr_bind (wr_mono h (fun _ _ h => wr_bind (wr_mono h (fun _ _ h => wr_bind (wr_mono h (fun _ _ h => wr_of h) fun _ _ h => h)) fun _ _ h => h)) fun _ _ h => h)
/-! #### statements -/
theorem w_seq (h : Bd P g (f env s)) : P (sSeq f g env s) := h
theorem bd_nx (h : P (g env s)) : Bd P g (.nx env s) := h
theorem bd_rt (h : P (.rt d s)) : Bd P g (.rt d s) := h
theorem bd_ct (h : P (.ct env s)) : Bd P g (.ct env s) := h
theorem bd_bk (h : P (.bk env s)) : Bd P g (.bk env s) := h
theorem bd_ex {e : Ex} (h : P (.ex e env s)) : Bd P g (.ex e env s) := h
/-- it goes on -/
def Nx (Q : Sl → Store → Prop) : RS → Prop
  | .nx env s => Q env s
  | _ => False
theorem nx_nx {Q : Sl → Store → Prop} (h : Q env s) : Nx Q (.nx env s) := h
theorem bd_cut {r : RS} (Q : Sl → Store → Prop) (h : Nx Q r) (k : ∀ env s, Q env s → P (g env s)) : Bd P g r := by
  cases r with
  | nx env s => exact k env s h
  | _ => exact False.elim h
theorem w_then {r : R α} {k : α → Store → RS} (h : WR r (fun a s => P (k a s)) (fun e s => P (.ex e env s))) : P (r.then env k) := by
  cases r with
  | ok a s => exact h
  | ex x s => exact h
  | no => exact False.elim h
theorem w_sNil (h : P (.nx env s)) : P (sNil env s) := h
theorem w_set {i : Nat} (h : WR (a env s) (fun d s => P (.nx (env.set i (some d)) s)) (fun e s => P (.ex e env s))) : P (sSet i a env s) := w_then h
def AsgK (gt : D → Sl → Option Sl) (d : D) (env : Sl) (s : Store) (P : RS → Prop) : Prop := ∃ env', gt d env = some env' ∧ P (.nx env' s)
theorem asg {gt : D → Sl → Option Sl} (e : gt d env = some env2) (h : P (.nx env2 s)) : AsgK gt d env s P := ⟨_, e, h⟩
theorem w_asg {gt : D → Sl → Option Sl} (h : WR (a env s) (fun d s => AsgK gt d env s P) (fun e s => P (.ex e env s))) : P (sAsg gt a env s) :=
  w_then (wr_mono h (fun d _ ⟨env', e, h⟩ => by rw [e]; exact h) fun _ _ h => h)
def AsgLK (n : Nat) (r : List D → Sl → Option Sl) (d : D) (env : Sl) (s : Store) (P : RS → Prop) : Prop := ∃ xs env', lstOf s d = some xs ∧ xs.length = n ∧ r xs env = some env' ∧ P (.nx env' s)
theorem asgL {n : Nat} {r : List D → Sl → Option Sl} {xs : List D} {l : Nat} {Z : Hs} (H : Has s Z) (hm : (l, Ls xs) ∈ Z) (hl : xs.length = n) (e : r xs env = some env2) (h : P (.nx env2 s)) : AsgLK n r (.loc l) env s P := ⟨xs, env2, by simp [lstOf, H.lst hm], hl, e, h⟩
theorem w_asgL {n : Nat} {r : List D → Sl → Option Sl} (h : WR (a env s) (fun d s => AsgLK n r d env s P) (fun e s => P (.ex e env s))) : P (sAsgL n r a env s) :=
  w_then (wr_mono h (fun d _ ⟨xs, env', e, hl, e2, h⟩ => by simp only [e, hl, if_true, e2]; exact h) fun _ _ h => h)
theorem w_if (h : WR (t env s) (fun b s => WI b (P (f env s)) (P (g env s))) (fun e s => P (.ex e env s))) : P (sIf t f g env s) :=
  w_then (wr_mono h (fun b _ h => by cases b; (· exact h.2 rfl); (· exact h.1 rfl)) fun _ _ h => h)
theorem w_ret (h : WR (a env s) (fun d s => P (.rt d s)) (fun e s => P (.ex e env s))) : P (sRet a env s) := w_then h
theorem w_retN (h : P (.rt .non s)) : P (sRetN env s) := h
theorem w_expr (h : WR (a env s) (fun _ s => P (.nx env s)) (fun e s => P (.ex e env s))) : P (sExpr a env s) := w_then h
theorem w_brk (h : P (.bk env s)) : P (sBrk env s) := h
theorem w_cnt (h : P (.ct env s)) : P (sCnt env s) := h
def PutK (gp : D → D → D → Store → Option Store) (x y d : D) (env : Sl) (s : Store) (P : RS → Prop) : Prop := ∃ s', gp x y d s = some s' ∧ P (.nx env s')
theorem putk {gp : D → D → D → Store → Option Store} {y : D} {s'' : Store} (e : gp x y d s = some s'') (h : P (.nx env s'')) : PutK gp x y d env s P := ⟨_, e, h⟩
theorem w_put {gp : D → D → D → Store → Option Store} (h : WR (c env s) (fun d s => WR (a env s) (fun x s => WR (b env s) (fun y s => PutK gp x y d env s P) (fun e s => P (.ex e env s))) (fun e s => P (.ex e env s))) (fun e s => P (.ex e env s))) : P (sPut gp a b c env s) :=
  w_then (wr_mono h (fun _ _ h => w_then (wr_mono h (fun _ _ h => w_then (wr_mono h (fun _ _ ⟨s', e, h⟩ => by rw [e]; exact h) fun _ _ h => h)) fun _ _ h => h)) fun _ _ h => h)
theorem w_augg {i : Nat} {gp : D → D → Store → Option (D × Store)} (h : P (sAug i gp a env s)) : P (sAug i gp a env s) := h
theorem w_aug {i : Nat} {gp : D → D → Store → Option (D × Store)} (e : env[i]? = some (some x)) (h : WR (a env s) (fun y s => WO (gp x y s) fun z s => P (.nx (env.set i (some z)) s)) (fun e s => P (.ex e env s))) : P (sAug i gp a env s) := by
  rw [sAug_eq, e]
  exact w_then (wr_mono h (fun y s h => by
    obtain ⟨d, s2, e, h⟩ := wo_out h
    rw [e]
    exact h) fun _ _ h => h)
theorem w_raise {c : Str} {ns : List Str} (h : WR (as env s) (fun xs s => xs.length = ns.length ∧ P (.ex ⟨c, (ns.zip xs).reverse⟩ env s)) (fun e s => P (.ex e env s))) : P (sRaise c ns as env s) :=
  w_then (wr_mono h (fun xs _ h => by rw [if_pos h.1]; exact h.2) fun _ _ h => h)
theorem w_for {it : ME Itm} {gt : D → Sl → Option Sl} (h : WR (it env s) (fun i s => P (forL i.guard gt f i.xs env s)) (fun e s => P (.ex e env s))) : P (sFor it gt f env s) := w_then h
theorem fin_rt (h : K d s) : Fin K E (.rt d s) := h
theorem fin_nx (h : K .non s) : Fin K E (.nx env s) := h
theorem fin_ex {e : Ex} (h : E e s) : Fin K E (.ex e env s) := h
theorem w_fnM {N n : Nat} {ds : List D} (h : Fin K E (f (ds.map some ++ List.replicate (N - n) none) s)) : WR (fnM N n f ds s) K E := by
  rw [fnM_eq]
  cases e : f (ds.map some ++ List.replicate (N - n) none) s <;> rw [e] at h <;> exact h
theorem tn_nx {I : Sl → Store → Prop} (h : I env s) : Turns I P (.nx env s) := h
theorem tn_ct {I : Sl → Store → Prop} (h : I env s) : Turns I P (.ct env s) := h
theorem tn_bk {I : Sl → Store → Prop} (h : P (.nx env s)) : Turns I P (.bk env s) := h
theorem tn_rt {I : Sl → Store → Prop} (h : P (.rt d s)) : Turns I P (.rt d s) := h
theorem tn_ex {I : Sl → Store → Prop} {e : Ex} (h : P (.ex e env s)) : Turns I P (.ex e env s) := h
/-! #### what is gone through -/
def SeqK (x : D) (s : Store) (KI : Itm → Store → Prop) : Prop := ∃ xs gd, (∀ env, iSeq (eC x) env s = .ok (Itm.mk xs gd) s) ∧ KI (Itm.mk xs gd) s
theorem w_iSeq (h : WR (a env s) (fun x s => SeqK x s KI) E) : WR (iSeq a env s) KI E :=
  wr_bind (wr_mono h (fun x s ⟨xs, gd, e, h⟩ => wr_eq (e env) h) fun _ _ h => h)
theorem is_tup {xs : List D} (h : KI (Itm.mk xs always) s) : SeqK (.tup xs) s KI := ⟨_, _, fun _ => rfl, h⟩
theorem is_fl {xs : List D} (h : KI (Itm.mk xs always) s) : SeqK (.fl xs) s KI := ⟨_, _, fun _ => rfl, h⟩
theorem is_str {z : Str} (h : KI (Itm.mk (z.cps.toList.map fun c => .str ⟨#[c]⟩) always) s) : SeqK (.str z) s KI := ⟨_, _, fun _ => rfl, h⟩
theorem is_lst {xs : List D} {l : Nat} (g : s[l]? = some (.lst xs)) (h : KI (Itm.mk xs fun s2 => s2[l]? = some (.lst xs)) s) : SeqK (.loc l) s KI := ⟨_, _, fun _ => by simp [iSeq, eC, g], h⟩
theorem is_lstH {xs : List D} {l : Nat} {Z : Hs} (H : Has s Z) (hm : (l, Ls xs) ∈ Z) (h : KI (Itm.mk xs fun s2 => s2[l]? = some (.lst xs)) s) : SeqK (.loc l) s KI := is_lst (H.lst hm) h
def RngK (xs : List D) (s : Store) (KI : Itm → Store → Prop) : Prop := ∃ n : Nat, xs = [.int (n : Int)] ∧ n ≤ 1000000 ∧ KI (Itm.mk (rng n) always) s
theorem w_rng (h : WR (as env s) (fun xs s => RngK xs s KI) E) : WR (iRange1 as env s) KI E := by
  rw [iRange1_eq]
  exact wr_bind (wr_mono h (fun xs s ⟨n, e, hn, h⟩ => by
    subst e
    rw [rangeOf_int s (n : Int) (by omega) (by omega)]
    rw [Int.toNat_natCast]
    exact h) fun _ _ h => h)
theorem rg {n : Nat} {i : Int} (e : i = (n : Int)) (hn : n ≤ 1000000) (h : KI (Itm.mk (rng n) always) s) : RngK [.int i] s KI := ⟨n, by rw [e], hn, h⟩
def Rng2K (xs : List D) (s : Store) (KI : Itm → Store → Prop) : Prop := ∃ (lo : Int) (n : Nat), xs = [.int lo, .int (lo + (n : Int))] ∧ 0 ≤ lo ∧ lo ≤ 1000000 ∧ n ≤ 1000000 ∧ KI (Itm.mk (rng2 lo n) always) s
theorem w_rng2 (h : WR (as env s) (fun xs s => Rng2K xs s KI) E) : WR (iRange2 as env s) KI E := by
  rw [iRange2_eq]
  exact wr_bind (wr_mono h (fun xs s ⟨lo, n, e, h0, h1, hn, h⟩ => by
    subst e
    rw [range2_int lo (lo + n) s (by omega) (by omega) (by omega) (by omega)]
    rw [show lo + (n : Int) - lo = (n : Int) by omega, Int.toNat_natCast]
    exact h) fun _ _ h => h)
theorem rg2 {n : Nat} {i j : Int} (e : j = i + (n : Int)) (h0 : 0 ≤ i) (h1 : i ≤ 1000000) (hn : n ≤ 1000000) (h : KI (Itm.mk (rng2 i n) always) s) : Rng2K [.int i, .int j] s KI := ⟨i, n, by rw [e], h0, h1, hn, h⟩
/-! #### loops -/
theorem w_forA {gd : Store → Prop} {gt : D → Sl → Option Sl} {xs : List D} (I : Nat → Sl → Store → Prop) (h0 : I 0 env s) (hg : ∀ i env s, I i env s → gd s)
    (hs : ∀ i d env s, xs[i]? = some d → I i env s → Turns (I (i + 1)) P (turn gt f d env s)) (he : ∀ env s, I xs.length env s → P (.nx env s)) : P (forL gd gt f xs env s) :=
  forL_at xs I P hg hs he h0
theorem w_forN {i0 n : Nat} (I : Nat → Sl → Store → Prop) (h0 : I 0 env s)
    (hs : ∀ i env s, i < n → I i env s → Turns (I (i + 1)) P (f (env.set i0 (some (.int (i : Nat)))) s)) (he : ∀ env s, I n env s → P (.nx env s)) : P (forL always (gN i0) f (rng n) env s) :=
  forL_at (rng n) I P (fun _ _ _ _ => trivial) (fun i d env s hd hi => by
    obtain ⟨h1, rfl⟩ := rng_get hd
    exact hs i env s h1 hi) (fun env s h => he env s (by rw [rng_len] at h; exact h)) h0
/-! #### comprehensions -/
theorem w_lc {it : ME Itm} {vs : List Nat} {gt : D → Sl → Option Sl} (h : WR (it env s) (fun i s => WR (lcL i.guard gt t a (wipeE env vs) i.xs [] s) (fun acc s => K (.loc s.length) (s ++ [.lst acc])) E) E) : WR (eLc it vs gt t a env s) K E :=
  wr_bind (wr_mono h (fun _ _ h => wr_bind h) fun _ _ h => h)
/-- one item -/
def Pk (gt : D → Sl → Option Sl) (t : ME Bool) (a : ME D) (x : D) (env : Sl) (s : Store) (yes : D → Store → Prop) (no : Store → Prop) : Prop := match gt x env with
  | none => False
  | some env1 => WR (t env1 s) (fun b s => WI b (WR (a env1 s) yes NoE) (no s)) NoE
theorem pk_gN {i : Nat} {yes : D → Store → Prop} {no : Store → Prop} (h : WR (t (env.set i (some x)) s) (fun b s => WI b (WR (a (env.set i (some x)) s) yes NoE) (no s)) NoE) : Pk (gN i) t a x env s yes no := h
theorem w_lcA {gd : Store → Prop} {gt : D → Sl → Option Sl} {xs : List D} (I : Nat → List D → Store → Prop) (h0 : I 0 [] s) (hz : xs.length ≤ 1000000) (hg : ∀ i acc s, I i acc s → gd s)
    (hs : ∀ i d acc s, xs[i]? = some d → acc.length ≤ i → I i acc s → Pk gt t a d env s (fun y s => I (i + 1) (acc ++ [y]) s) (fun s => I (i + 1) acc s)) (he : ∀ acc s, acc.length ≤ xs.length → I xs.length acc s → KL acc s) : WR (lcL gd gt t a env xs [] s) KL E := by
  obtain ⟨acc', s', e, hl, hi⟩ := lcL_at (gd := gd) (g := gt) (t := t) (e := a) (env := env) xs (fun i acc s => (acc.length ≤ i ∧ i ≤ xs.length) ∧ I i acc s) (fun i acc s h => hg i acc s h.2) (fun i d acc s hd ⟨hl, hi⟩ => by
    have hlt := (List.getElem?_eq_some_iff.mp hd).1
    have q := hs i d acc s hd hl.1 hi
    unfold Pk at q
    unfold pick
    cases e1 : gt d env with
    | none => rw [e1] at q; exact q.elim
    | some env1 =>
      rw [e1] at q
      dsimp only at q ⊢
      cases e2 : t env1 s with
      | no => rw [e2] at q; exact q.elim
      | ex x s => rw [e2] at q; exact q.elim
      | ok b s2 =>
        rw [e2] at q
        cases b with
        | false => exact ⟨⟨by omega, by omega⟩, q.2 rfl⟩
        | true =>
          have q := q.1 rfl
          simp only [R.bind_ok, if_true]
          cases e3 : a env1 s2 with
          | no => rw [e3] at q; exact q.elim
          | ex x s => rw [e3] at q; exact q.elim
          | ok y s3 =>
            rw [e3] at q
            exact ⟨by omega, ⟨by simp; omega, by omega⟩, q⟩) (acc := []) (s := s) ⟨⟨Nat.le_refl _, Nat.zero_le _⟩, h0⟩
  exact wr_eq e (he acc' s' hl.1 hi)
/-! #### values -/
theorem wo_go {o : Option (D × Store)} (h : WO o K) : WO o K := h
theorem wo_some (h : K d s) : WO (some (d, s)) K := h
theorem o_mul {i j : Int} (h : (-(2 ^ 64) < i ∧ i < 2 ^ 64) ∨ (-(2 ^ 64) < j ∧ j < 2 ^ 64)) (k : K (.int (i * j)) s) : WO (dMul (.int i) (.int j) s) K := wo_eq (dMul_int i j s h) k
theorem o_div {i j : Int} (h : 0 < j ∧ j < 1073741824) (k : K (.int (i / j)) s) : WO (dDiv (.int i) (.int j) s) K := wo_eq (dDiv_int i j s h) k
theorem o_mod {i j : Int} (h : 0 < j) (k : K (.int (i % j)) s) : WO (dMod (.int i) (.int j) s) K := wo_eq (dMod_int i j s h) k
theorem o_pow {i j : Int} (h : 0 ≤ j ∧ j ≤ 1000000 ∧ i.natAbs < 2 ^ 64) (k : K (.int (i ^ j.toNat)) s) : WO (dPow (.int i) (.int j) s) K := wo_eq (dPow_int i j s h) k
theorem o_max {i j : Int} (k : K (.int (max i j)) s) : WO (dMax2 [.int i, .int j] s) K := wo_eq (dMax2_max i j s) k
theorem o_min {i j : Int} (k : K (.int (min i j)) s) : WO (dMin2 [.int i, .int j] s) K := wo_eq (dMin2_min i j s) k
theorem o_is {T : String} {b : Bool} (e : dIsi T x s = some (.bl b, s)) (k : K (.bl b) s) : WO (dIsi T x s) K := wo_eq e k
/-- an item of a tuple -/
theorem o_ixT {xs : List D} {i : Int} (e : L2.atI xs i = some d) (k : K d s) : WO (dIx (.tup xs) (.int i) s) K := wo_eq (by rw [dIx_tup, e]; rfl) k
theorem o_ixA {xs : List D} {i : Int} (e : L2.atI xs i = some d) (k : K d s) : WO (dIxA (.tup xs) (.int i) s) K := wo_eq (by rw [dIxA_tup, dIx_tup, e]; rfl) k
theorem o_ixL {xs : List D} {l : Nat} {i : Int} (H : Has s Z) (hm : (l, Ls xs) ∈ Z) (e : L2.atI xs i = some d) (k : K d s) : WO (dIx (.loc l) (.int i) s) K := wo_eq (by rw [dIx_loc (H.lst hm), e]; rfl) k
theorem o_ixTm {xs : List D} {i : Int} (h0 : 0 ≤ i) (h1 : i < xs.length) (k : ∀ d ∈ xs, xs[i.toNat]? = some d → K d s) : WO (dIx (.tup xs) (.int i) s) K := by
  obtain ⟨n, rfl⟩ := Int.eq_ofNat_of_zero_le h0
  have hn : n < xs.length := by omega
  exact o_ixT (L2.atI_nat (v := xs[n]) (by simp [hn])) (k _ (List.getElem_mem _) (by simp [hn]))
theorem o_ixLm {xs : List D} {l : Nat} {i : Int} (H : Has s Z) (hm : (l, Ls xs) ∈ Z) (h0 : 0 ≤ i) (h1 : i < xs.length) (k : ∀ d ∈ xs, xs[i.toNat]? = some d → K d s) : WO (dIx (.loc l) (.int i) s) K := by
  obtain ⟨n, rfl⟩ := Int.eq_ofNat_of_zero_le h0
  have hn : n < xs.length := by omega
  exact o_ixL H hm (L2.atI_nat (v := xs[n]) (by simp [hn])) (k _ (List.getElem_mem _) (by simp [hn]))
theorem o_lenL {xs : List D} {l : Nat} (H : Has s Z) (hm : (l, Ls xs) ∈ Z) (k : K (.int xs.length) s) : WO (dLen [.loc l] s) K := wo_eq (dLen_loc (H.lst hm)) k
theorem o_lenT {xs : List D} (k : K (.int xs.length) s) : WO (dLen [.tup xs] s) K := k
theorem o_tupL {xs : List D} {l : Nat} (H : Has s Z) (hm : (l, Ls xs) ∈ Z) (k : K (.tup xs) s) : WO (dTuple [.loc l] s) K := wo_eq (dTuple_loc (H.lst hm)) k
theorem o_sumL {ns : List Int} {l : Nat} (H : Has s Z) (hm : (l, Ls (ns.map D.int)) ∈ Z) (k : K (.int ns.sum) s) : WO (dSum [.loc l] s) K := wo_eq (dSum_loc (H.lst hm)) k
theorem o_app {xs : List D} {l : Nat} {y : D} (H : Has s Z) (i : Nat) (hi : Z[i]? = some (l, Ls xs)) (hz : xs.length ≤ 1000000) (k : ∀ s', Has s' (Z.set i (l, Ls (xs ++ [y]))) → K .non s') : WO (dAppend (.loc l) [y] s) K :=
  wo_eq (dAppend_loc (H.lst (List.mem_of_getElem? hi)) hz y) (k _ (H.put i hi rfl))
theorem o_pop {xs : List D} {l : Nat} {y : D} (H : Has s Z) (i : Nat) (hi : Z[i]? = some (l, Ls (xs ++ [y]))) (k : ∀ s', Has s' (Z.set i (l, Ls xs)) → K y s') : WO (dPop (.loc l) [] s) K :=
  wo_eq (dPop_loc (H.lst (List.mem_of_getElem? hi))) (k _ (H.put i hi rfl))
theorem o_addL {xs ys : List D} {l k : Nat} (H : Has s Z) (hm : (l, Ls xs) ∈ Z) (hn : (k, Ls ys) ∈ Z) (hz : xs.length + ys.length ≤ 1000000) (q : ∀ l s', s.length ≤ l → Has s' ((l, Ls (xs ++ ys)) :: Z) → K (.loc l) s') : WO (dAdd (.loc l) (.loc k) s) K :=
  wo_eq (dAdd_loc (H.lst hm) (H.lst hn) hz) (q _ _ (Nat.le_refl _) (H.new _))
theorem o_addT {xs ys : List D} (hz : xs.length + ys.length ≤ 1000000) (q : K (.tup (xs ++ ys)) s) : WO (dAdd (.tup xs) (.tup ys) s) K := wo_eq (dAdd_tup hz) q
theorem o_slT {xs : List D} {lo hi : Option Int} (q : K (.tup (cutD xs lo hi)) s) : WO (dSlZ (.tup xs) lo hi s) K := q
theorem o_slL {xs : List D} {l : Nat} {lo hi : Option Int} (H : Has s Z) (hm : (l, Ls xs) ∈ Z) (q : ∀ k s', s.length ≤ k → Has s' ((k, Ls (cutD xs lo hi)) :: Z) → K (.loc k) s') : WO (dSlZ (.loc l) lo hi s) K :=
  wo_eq (by rw [dSlZ_loc]; simp [dSl, lstOf, H.lst hm]) (q _ _ (Nat.le_refl _) (H.new _))
theorem o_listT {xs : List D} (H : Has s Z) (q : ∀ l s', s.length ≤ l → Has s' ((l, Ls xs) :: Z) → K (.loc l) s') : WO (dList [.tup xs] s) K := q _ _ (Nat.le_refl _) (H.new _)
theorem o_listL {xs : List D} {l : Nat} (H : Has s Z) (hm : (l, Ls xs) ∈ Z) (q : ∀ l s', s.length ≤ l → Has s' ((l, Ls xs) :: Z) → K (.loc l) s') : WO (dList [.loc l] s) K := wo_eq (by simp [dList, seqOf, lstOf, H.lst hm]) (q _ _ (Nat.le_refl _) (H.new _))
theorem ty_lst {xs : List D} {l : Nat} (H : Has s Z) (hm : (l, Ls xs) ∈ Z) : tyOk "list" s (.loc l) = true := tyOk_list (H.lst hm)
end
end Mi
namespace Mi
open PySem PySem.Spec PyProof.Rows L2
/-! ### bits -/
section
variable {K : PySem.W.Frag}
noncomputable def dShl := dI fun i j => if CPow i j then some (.int (i * 2 ^ j.toNat)) else none
theorem ops_shl : OpS K (rI CPow fun i j => .int (i * 2 ^ j.toNat)) dShl := ops_dI fun i j d h => by
  split at h
  · cases h; exact ⟨by assumption, fun _ _ => .int _⟩
  · cases h
noncomputable def dShr := dI fun i j => if 0 ≤ j then some (.int (i / 2 ^ j.toNat)) else none
theorem ops_shr : OpS K (rI (fun _ j => 0 ≤ j) fun i j => .int (i / 2 ^ j.toNat)) dShr := ops_dI fun i j d h => by
  split at h
  · cases h; exact ⟨by assumption, fun _ _ => .int _⟩
  · cases h
def dBand := dI fun i j => some (.int (Builtin.bitAnd i j))
theorem ops_band : OpS K (rI0 fun i j => .int (Builtin.bitAnd i j)) dBand := ops_dI0 fun _ _ _ _ => .int _
def dBor := dI fun i j => some (.int (Builtin.bitOr i j))
theorem ops_bor : OpS K (rI0 fun i j => .int (Builtin.bitOr i j)) dBor := ops_dI0 fun _ _ _ _ => .int _
def dBxor := dI fun i j => some (.int (Builtin.bitXor i j))
theorem ops_bxor : OpS K (rI0 fun i j => .int (Builtin.bitXor i j)) dBxor := ops_dI0 fun _ _ _ _ => .int _
end
/-! ### zip(a, b), two tuples or two lists -/
def zipD (xs ys : List D) : List D := (xs.zip ys).map fun p => .tuw [p.1, p.2]
theorem zip_len (xs ys : List D) : (zipD xs ys).length = min xs.length ys.length := by simp [zipD]
theorem zip_get {xs ys : List D} {i : Nat} {d : D} (h : (zipD xs ys)[i]? = some d) : ∃ x y, xs[i]? = some x ∧ ys[i]? = some y ∧ d = .tuw [x, y] := by
  unfold zipD at h
  rw [List.getElem?_map] at h
  cases e : (xs.zip ys)[i]? with
  | none => rw [e] at h; cases h
  | some p =>
    rw [e] at h
    cases h
    obtain ⟨h1, h2⟩ := List.getElem?_zip_eq_some.mp e
    exact ⟨p.1, p.2, h1, h2, rfl⟩
def iZip (a : ME (List D)) : ME Itm := fun env s => (a env s).bind fun x s => match x with
  | [.tup xs, .tup ys] => .ok (Itm.mk (zipD xs ys) always) s
  | [x, y] => match lstOf s x, lstOf s y with
    | some xs, some ys => .ok (Itm.mk (zipD xs ys) (fun s2 => lstOf s2 x = some xs ∧ lstOf s2 y = some ys)) s
    | _, _ => .no
  | _ => .no
section
variable {K : PySem.W.Frag} {m : List Addr} {H : Hp}
theorem zip_turn {m2 : List Addr} {H2 H3 : Hp} {s2 : Store} {v x1 y1 : V} {x y : D} (r2 : Rel K m2 H2 s2) (hx : Rep K m2 H2 x x1) (hy : Rep K m2 H2 y y1) {T : Addr} (ev : v = .ref T) (hT : H2 T = none) (h3 : H3 = upd H2 T (.tup [x1, y1])) :
    Le K m2 H2 m2 H3 ∧ Rel K m2 H3 s2 ∧ Rep K m2 H3 (.tuw [x, y]) v := by
  subst ev h3
  exact ⟨le_new hT, r2.tmp hT, rep_newtuw hT (.cons hx (.cons hy .nil))⟩
theorem itr_zipT {xs ys : List D} {vs ws : List V} {a b : Addr} (h : SqT K H a vs) (h' : SqT K H b ws) (p : Reps K m H xs vs) (p' : Reps K m H ys ws) : ItR K m H ⟨zipD xs ys, always⟩ (RZ.ItzT K a b) := fun m2 H2 s2 l2 r2 g => by
  have hq : SqT K H2 a vs := l2.tup a vs h
  have hq' : SqT K H2 b ws := l2.tup b ws h'
  have h2 := p.monoW l2
  have h2' := p'.monoW l2
  refine ⟨fun i d e => ?_, ⟨vs, ws, hq, hq', by
    show vs.length ≤ (zipD xs ys).length ∨ ws.length ≤ (zipD xs ys).length
    rw [zip_len, ← h2.length, ← h2'.length]
    omega⟩⟩
  obtain ⟨x, y, hx, hy, rfl⟩ := zip_get e
  obtain ⟨v, hv, rv⟩ := h2.get hx
  obtain ⟨v', hv', rv'⟩ := h2'.get hy
  refine ⟨⟨vs, ws, v, v', hq, hq', hv, hv'⟩, fun w H3 yl => ?_⟩
  obtain ⟨T, z, z', ev, hT, h3, y1, y2⟩ := yl
  have e1 := y1 vs hq
  have e2 := y2 ws hq'
  rw [hv] at e1
  rw [hv'] at e2
  cases e1
  cases e2
  exact zip_turn r2 rv rv' ev hT h3
theorem itr_zipL {x y : D} {xs ys : List D} {a b : Addr} (hx : ∀ m2 H2 s2, Lw K m H m2 H2 → Rel K m2 H2 s2 → lstOf s2 x = some xs → ∃ vs, SqL K H2 a vs ∧ Reps K m2 H2 xs vs) (hy : ∀ m2 H2 s2, Lw K m H m2 H2 → Rel K m2 H2 s2 → lstOf s2 y = some ys → ∃ vs, SqL K H2 b vs ∧ Reps K m2 H2 ys vs) : ItR K m H ⟨zipD xs ys, fun s2 => lstOf s2 x = some xs ∧ lstOf s2 y = some ys⟩ (Itz K a b) := fun m2 H2 s2 l2 r2 g => by
  obtain ⟨vs, hq, h2⟩ := hx m2 H2 s2 l2 r2 g.1
  obtain ⟨ws, hq', h2'⟩ := hy m2 H2 s2 l2 r2 g.2
  refine ⟨fun i d e => ?_, ⟨vs, ws, hq, hq', by
    show vs.length ≤ (zipD xs ys).length ∨ ws.length ≤ (zipD xs ys).length
    rw [zip_len, ← h2.length, ← h2'.length]
    omega⟩⟩
  obtain ⟨x, y, hx, hy, rfl⟩ := zip_get e
  obtain ⟨v, hv, rv⟩ := h2.get hx
  obtain ⟨v', hv', rv'⟩ := h2'.get hy
  refine ⟨⟨vs, ws, v, v', hq, hq', hv, hv'⟩, fun w H3 yl => ?_⟩
  obtain ⟨T, z, z', ev, hT, h3, y1, y2⟩ := yl
  have e1 := y1 vs hq
  have e2 := y2 ws hq'
  rw [hv] at e1
  rw [hv'] at e2
  cases e1
  cases e2
  exact zip_turn r2 rv rv' ev hT h3
end
/-- a list at its address, later too -/
theorem lst_addr {K : PySem.W.Frag} {m : List Addr} {H : Hp} {s : Store} {x : D} {v : V} {xs : List D} (r : Rel K m H s) (p : Rep K m H x v) (e : lstOf s x = some xs) : ∃ a vs, v = .ref a ∧ SqL K H a vs ∧ Reps K m H xs vs ∧ ∀ m2 H2 s2, Lw K m H m2 H2 → Rel K m2 H2 s2 → lstOf s2 x = some xs → ∃ vs, SqL K H2 a vs ∧ Reps K m2 H2 xs vs := by
  obtain ⟨a, vs, rfl, hq, rr⟩ := lstOf_sq r p e
  refine ⟨a, vs, rfl, hq, rr, fun m2 H2 s2 l2 r2 e2 => ?_⟩
  obtain ⟨b, ws, eb, hq2, rr2⟩ := lstOf_sq r2 (p.monoW l2) e2
  cases eb
  exact ⟨ws, hq2, rr2⟩
section
variable {X : Cx} {W : WX} {e e2 : Expr} {p pos tpos : Pos} {elts : List Expr} {kk : Nat} {fs : ME (List D)}
theorem ci_zip (hg : Gl X "zip") (hm : X.mg "zip" = none) (ha : PA X [e, e2] (Ta X.K X.mg W fs)) (hs : starEach [e, e2] X.env = (false, eval e X.env) :: starEach [e2] X.env := by rfl) (hpl : (backTo pos (starEach [e2] X.env)).any (·.1) = false := by rfl) :
    PI X (.Tuple elts kk tpos) (.Call (.Name "zip" p) [e, e2] [] pos) (Ti X.K X.mg W (iZip fs)) := PI.imp (RZ.pi_zipA hg hm ha hs hpl) fun σ H Rw h =>
  Tm.bind (k := fun _ (x : List D) s => match x with
  | [.tup xs, .tup ys] => R.ok (Itm.mk (zipD xs ys) always) s
  | [x, y] => match lstOf s x, lstOf s y with
    | some xs, some ys => R.ok (Itm.mk (zipD xs ys) (fun s2 => lstOf s2 x = some xs ∧ lstOf s2 y = some ys)) s
    | _, _ => R.no
  | _ => R.no) h fun m1 H1 env x vs s1 r1 E1 p1 g1 => by
    split at g1
    · obtain ⟨v, w, rfl, h1, h2⟩ := reps2 p1
      obtain ⟨a, vs, rfl, hq, rr⟩ := h1.sqT
      obtain ⟨b, ws, rfl, hq', rr'⟩ := h2.sqT
      exact ⟨a, b, vs, ws, rfl, .inr ⟨hq, hq', g1 m1 H1 _ .refl r1 (itr_zipT hq hq' rr rr')⟩⟩
    · obtain ⟨v, w, rfl, h1, h2⟩ := reps2 p1
      split at g1
      · rename_i xs ys q1 q2
        obtain ⟨a, vs, rfl, hq, rr, hx⟩ := lst_addr r1 h1 q1
        obtain ⟨b, ws, rfl, hq', rr', hy⟩ := lst_addr r1 h2 q2
        exact ⟨a, b, vs, ws, rfl, .inl ⟨hq, hq', g1 m1 H1 _ .refl r1 (itr_zipL hx hy)⟩⟩
      · exact g1.elim
    · exact g1.elim
end
/-! ### x in CONST, a module's tuple of texts -/
def dInC (neg : Bool) (cs : List Str) (x : D) (s : Store) : Option (D × Store) := match x with
  | .str z => some (.bl (if neg then !decide (z ∈ cs) else decide (z ∈ cs)), s)
  | _ => none
/-- a module's tuple of texts -/
def ConT (K : PySem.W.Frag) (mg : Str → Option Value) (x : Str) (cs : List Str) : Prop := ∃ a, mg x = some (.ref a) ∧ ∀ H, SqT K H a (cs.map V.str)
theorem inV_strs (z : Str) : ∀ cs : List Str, inV (.str z) (cs.map V.str) = decide (z ∈ cs)
  | [] => rfl
  | c :: cs => by
    have ih := inV_strs z cs
    unfold inV at ih ⊢
    rw [List.map_cons, List.any_cons, ih]
    by_cases h : c = z
    · subst h; simp [eqV]
    · have : ¬ z = c := fun e => h e.symm
      simp [eqV, h, this]
theorem flat_strsV (cs : List Str) : (cs.map V.str).all flatV = true := by
  induction cs with
  | nil => rfl
  | cons c cs ih => rw [List.map_cons, List.all_cons, ih]; rfl
section
variable {X : Cx} {W : WX} {pos p : Pos} {a : Expr} {fa : ME D} {x : Str} {cs : List Str}
theorem ce_inC (hg : Gl X x) (hc : ConT X.K X.mg x cs) (ha : PE X a (Te X.K X.mg W fa)) (hdb : (x == ("__debug__" : Str)) = false := by decide) : PE X (.Compare a [.In] [.Name x p] pos) (Te X.K X.mg W (e1 (dInC false cs) fa)) := by
  obtain ⟨ca, hm, hq⟩ := hc
  refine PE.imp (pe_cmpR op_in_seq ha (pe_glob (v := .ref ca) hg hm rfl hdb) (by with_unfolding_all rfl)) fun σ H Q h => ?_
  exact Tm.bind (k := fun _ (x : D) s => R.of (dInC false cs x s)) h fun m1 H1 env x v s1 r1 E1 p1 g1 => by
    cases x with
    | str z =>
      cases p1
      refine ⟨ca, cs.map V.str, rfl, .inr (hq H1), rfl, flat_strsV cs, ?_⟩
      rw [inV_strs]
      exact G.now (d := D.bl (decide (z ∈ cs))) g1 r1 (.bl _)
    | _ => exact g1.elim
theorem ce_notinC (hg : Gl X x) (hc : ConT X.K X.mg x cs) (ha : PE X a (Te X.K X.mg W fa)) (hdb : (x == ("__debug__" : Str)) = false := by decide) : PE X (.Compare a [.NotIn] [.Name x p] pos) (Te X.K X.mg W (e1 (dInC true cs) fa)) := by
  obtain ⟨ca, hm, hq⟩ := hc
  refine PE.imp (pe_cmpR op_notIn_seq ha (pe_glob (v := .ref ca) hg hm rfl hdb) (by with_unfolding_all rfl)) fun σ H Q h => ?_
  exact Tm.bind (k := fun _ (x : D) s => R.of (dInC true cs x s)) h fun m1 H1 env x v s1 r1 E1 p1 g1 => by
    cases x with
    | str z =>
      cases p1
      refine ⟨ca, cs.map V.str, rfl, .inr (hq H1), rfl, flat_strsV cs, ?_⟩
      rw [inV_strs]
      exact G.now (d := D.bl (!decide (z ∈ cs))) g1 r1 (.bl _)
    | _ => exact g1.elim
end
end Mi
namespace Mi
open PySem PySem.Spec PyProof.Rows L2
/-! ### z.m(), z a text -/
def eM0 (g : D → List D → Store → Option (D × Store)) (o : ME D) : ME D := fun env s => (o env s).bind fun x s => match x with
  | .str z => R.of (g (.str z) [] s)
  | _ => .no
section
variable {X : Cx} {W : WX} {apos pos : Pos} {o : Expr} {fo : ME D}
theorem ce_m0 {id : String} {name : Str} {r : V → List V → Hp → VK → Prop} {g : D → List D → Store → Option (D × Store)} (slot : Slot "str" name id) (ty : typeOf (.builtin id) = pure (.type "method_descriptor")) (rule : MtR X id r) (hsd : MtS X.K r g) (ho : PE X o (Te X.K X.mg W fo))
    (hbase : attributeBase o name X.env (eval o X.env) = eval o X.env := by rfl) (hline : (apos.endLine == pos.line) = true := by rfl) :
    PE X (.Call (.Attribute o name apos) [] [] pos) (Te X.K X.mg W (eM0 g fo)) :=
  PE.imp (pe_m0 slot ty rule ho hbase hline) fun σ H Q h => Tm.bind (k := fun env (x : D) s => match x with
  | .str z => R.of (g (.str z) [] s)
  | _ => .no) h fun m1 H1 env x v s1 r1 E1 p1 g1 => by
    cases x with
    | str z =>
      cases p1
      exact ⟨⟨z, rfl⟩, hsd r1 (.str z) .nil g1⟩
    | _ => exact g1.elim
end
section
variable {K : PySem.W.Frag}
def dIsdigit (x : D) (ys : List D) (s : Store) : Option (D × Store) := match x, ys with
  | .str a, [] => some (.bl (Txt.isdigit a), s)
  | _, _ => none
theorem mts_isdigit : MtS K (fun x xs H Q => ∃ a, x = V.str a ∧ xs = [] ∧ True ∧ Q (.bl (Txt.isdigit a)) H) dIsdigit := by
  intro mg W σ m H s x d xs ds Q r p ps g
  unfold dIsdigit at g
  split at g
  · cases ps
    cases p
    exact ⟨_, rfl, rfl, trivial, g.now r (.bl _)⟩
  · exact g.elim
def dUpper (x : D) (ys : List D) (s : Store) : Option (D × Store) := match x, ys with
  | .str a, [] => if a.length ≤ 5592405 then some (.str (Txt.upper a), s) else none
  | _, _ => none
theorem mts_upper : MtS K (fun x xs H Q => ∃ a, x = V.str a ∧ xs = [] ∧ a.length ≤ 5592405 ∧ Q (.str (Txt.upper a)) H) dUpper := by
  intro mg W σ m H s x d xs ds Q r p ps g
  unfold dUpper at g
  split at g
  · cases ps
    cases p
    split at g
    · rename_i hz
      exact ⟨_, rfl, rfl, hz, g.now r (.str _)⟩
    · exact g.elim
  · exact g.elim
def dRstrip (x : D) (ys : List D) (s : Store) : Option (D × Store) := match x, ys with
  | .str a, [.str b] => if a.length ≤ 1000000 then some (.str (Txt.rstripChars a b), s) else none
  | _, _ => none
theorem mts_rstrip : MtS K (fun x xs H Q => ∃ a b, x = V.str a ∧ xs = [V.str b] ∧ a.length ≤ sizeLine ∧ Q (.str (Txt.rstripChars a b)) H) dRstrip := by
  intro mg W σ m H s x d xs ds Q r p ps g
  unfold dRstrip at g
  split at g
  · obtain ⟨w, rfl, h⟩ := reps1 ps
    cases h
    cases p
    split at g
    · rename_i hz
      exact ⟨_, _, rfl, rfl, le_line hz, g.now r (.str _)⟩
    · exact g.elim
  · exact g.elim
end
/-! ### comb(a, b), brought from math -/
section
variable {X : Cx}
def rComb : List V → Hp → VK → Prop := fun vs H Q => ∃ a b : Int, vs = [V.int a, V.int b] ∧ 0 ≤ a ∧ 0 ≤ b ∧ a ≤ 18000 ∧ Q (.int (PySem.W.mcComb a b)) H
theorem cr_comb : CallR X (.builtin "math.comb") rComb := by
  intro pins s σ H vs us Q I r h
  obtain ⟨a, b, rfl, h0, h1, h2, q⟩ := h
  cases r with
  | cons ra rr =>
    cases rr with
    | cons rb rr =>
      cases rr
      obtain ⟨t, rfl⟩ := ra
      obtain ⟨u, rfl⟩ := rb
      exact PySem.W.mc_comb h0 h1 (by omega) (.inr h2) fun _ => ⟨.int (PySem.W.mcComb a b), H, I.tok _, ⟨_, rfl⟩, q⟩
end
def dComb : List D → Store → Option (D × Store)
  | [.int a, .int b], s => if 0 ≤ a ∧ 0 ≤ b ∧ a ≤ 18000 then some (.int (PySem.W.mcComb a b), s) else none
  | _, _ => none
theorem fns_comb {K : PySem.W.Frag} : FnS K rComb dComb := by
  intro mg W σ m H s xs ds Q r p g
  unfold dComb at g
  split at g
  · obtain ⟨v, w, rfl, h1, h2⟩ := reps2 p
    cases h1; cases h2
    split at g
    · rename_i hz
      exact ⟨_, _, rfl, hz.1, hz.2.1, hz.2.2, g.now r (.int _)⟩
    · exact g.elim
  · exact g.elim
section
variable {X : Cx} {W : WX} {x : Str} {id : String} {p pos : Pos} {e : Expr} {es : List Expr} {t : TA} {r : List V → Hp → VK → Prop}
theorem pe_callG (hc : CallR X (.builtin id) r) (hg : Gl X x) (hm : X.mg x = some (.builtin id)) (ha : PA X (e :: es) t) (hdb : (x == ("__debug__" : Str)) = false := by decide)
    (he : starEach (e :: es) X.env = (false, eval e X.env) :: starEach es X.env := by rfl) (hpl : (backTo pos (starEach es X.env)).any (·.1) = false := by rfl) : PE X (.Call (.Name x p) (e :: es) [] pos) (tCB r t) := by
  refine ⟨fun pins s σ H Q I h => ?_⟩
  refine wpAny_Call_Name_kw (ld_glob I hg hm ?_ hdb)
  exact PyProof.Rows.callWith_builtin1 (thn (ha.run pos pins s σ H _ I h) fun us s1 ⟨vs, H1, I1, r1, q1⟩ => hc pins s1 σ H1 vs us Q I1 r1 q1) he hpl
theorem ce_callG {g : List D → Store → Option (D × Store)} {fs : ME (List D)} (hc : CallR X (.builtin id) r) (hs : FnS X.K r g) (hg : Gl X x) (hm : X.mg x = some (.builtin id)) (ha : PA X (e :: es) (Ta X.K X.mg W fs)) (hdb : (x == ("__debug__" : Str)) = false := by decide)
    (he : starEach (e :: es) X.env = (false, eval e X.env) :: starEach es X.env := by rfl) (hpl : (backTo pos (starEach es X.env)).any (·.1) = false := by rfl) : PE X (.Call (.Name x p) (e :: es) [] pos) (Te X.K X.mg W (eFn g fs)) :=
  PE.imp (pe_callG hc hg hm ha hdb he hpl) fun σ H Q h => Tm.bind (k := fun env (xs : List D) s => R.of (g xs s)) h fun m1 H1 env xs vs s1 r1 E1 p1 g1 => hs r1 p1 g1
end
/-! ### a, b = x, y with plain names -/
def sPar (i j : Nat) (a b : ME D) : MS := fun env s => (a env s).then env fun x s => (b env s).then env fun y s => .nx ((env.set i (some x)).set j (some y)) s
section
variable {X : Cx} {W : WX} {x y : Str} {a b : Expr} {fa fb : ME D} {px py pt pos : Pos} {i j kt k2 : Nat} {pt2 : Pos}
theorem cs_par (hc : X.calm = true) (hN : X.N.Nodup) (hi : X.N[i]? = some x) (hj : X.N[j]? = some y) (hij : i ≠ j)
    (hx : X.env.scope.names.lookup x = some .local) (hy : X.env.scope.names.lookup y = some .local) (ha : PE X a (Te X.K X.mg W fa)) (hb : PE X b (Te X.K X.mg W fb))
    (hsa : starEach [a, b] X.env = (false, eval a X.env) :: starEach [b] X.env := by rfl) (hsb : starEach [b] X.env = (false, eval b X.env) :: starEach [] X.env := by rfl)
    (hw : swappedStores [.Tuple [.Name x px, .Name y py] kt pt] (.Tuple [a, b] k2 pt2) X.env = pure (some [x, y]) := by rfl)
    (hs : swapsWithSole [.Tuple [.Name x px, .Name y py] kt pt] (.Tuple [a, b] k2 pt2) pos.line X.env = pure false := by rfl) :
    PS X (.Assign [.Tuple [.Name x px, .Name y py] kt pt] (.Tuple [a, b] k2 pt2) pos) (Ts X.K X.mg W (sPar i j fa fb)) :=
  PS.imp (ps_par hc hN hi hj hij hx hy (pa_cons ha (pa_cons hb pa_nil hsb) hsa) hw hs) fun Dn σ H h => Ts.ofE (k := fun env x s => (fb env s).then env fun y s => .nx ((env.set i (some x)).set j (some y)) s) h fun m1 H1 env x v s1 r1 E1 p1 g1 => by
    refine ⟨m1, env, s1, r1, E1, GS.ofE E1 g1 fun m2 H2 y w s2 l2 r2 p2 g2 => ?_⟩
    exact ⟨v, w, rfl, g2 m2 _ H2 .refl r2 (relE_set (relE_set (E1.mono l2) (p1.mono l2) i) p2 j)⟩
end
/-! ### [e for x in a for y in b] -/
open Classical in
noncomputable def lc2 (guard : Store → Prop) (g : D → Sl → Option Sl) (t : ME Bool) (it1 : ME Itm) (vs1 : List Nat) (g1 : D → Sl → Option Sl) (t1 : ME Bool) (e : ME D) (env : Sl) : List D → List D → Store → R (List D)
  | [], acc, s => if guard s then .ok acc s else .no
  | x :: xs, acc, s => if guard s then (match g x env with
    | none => .no
    | some env1 => match t env1 s with
      | .ok b s1 => if b then (match it1 env1 s1 with
        | .ok i s2 => match lcL i.guard g1 t1 e (wipeE env1 vs1) i.xs acc s2 with
          | .ok acc' s3 => lc2 guard g t it1 vs1 g1 t1 e env xs acc' s3
          | _ => .no
        | _ => .no) else lc2 guard g t it1 vs1 g1 t1 e env xs acc s1
      | _ => .no) else .no
noncomputable def eLc2 (it : ME Itm) (vs : List Nat) (g : D → Sl → Option Sl) (t : ME Bool) (it1 : ME Itm) (vs1 : List Nat) (g1 : D → Sl → Option Sl) (t1 : ME Bool) (e : ME D) : ME D := fun env s => (it env s).bind fun i s => (lc2 i.guard g t it1 vs1 g1 t1 e (wipeE env vs) i.xs [] s).bind fun acc s => .ok (.loc s.length) (s ++ [.lst acc])
section
variable {X : Cx} {W : WX}
theorem lw_trans {K : PySem.W.Frag} {m m1 m2 : List Addr} {H H1 H2 : Hp} (e : Lw K m H m1 H1) (f : Lw K m1 H1 m2 H2) : Lw K m H m2 H2 :=
  ⟨by obtain ⟨r, rfl⟩ := e.pre; obtain ⟨r2, rfl⟩ := f.pre; exact ⟨r ++ r2, by simp⟩, fun a xs h => f.tup a xs (e.tup a xs h), fun a xs h => f.frl a xs (e.frl a xs h), fun b v h n => f.xd b v (e.xd b v h n).1 (e.xd b v h n).2, fun a o u h => f.trk a o u (e.trk a o u h), fun a xs h => f.trt a xs (e.trt a xs h)⟩
theorem gtm_more {K : PySem.W.Frag} {us vs : List Nat} {g : D → Sl → Option Sl} (hv : ∀ i ∈ us, i ∈ vs) : ∀ v σ H Q, GTm K vs g v σ H Q → GTm K us g v σ H Q := fun v σ H Q ⟨m, env, s, d, env', r, E, p, e, q⟩ =>
  ⟨m, env, s, d, env', r, E, p, e, fun σ' E' k n => q σ' E' (fun i hi => k i fun z => hi (hv i z)) n⟩
theorem lc2_run {fi fi1 : ME Itm} {vs vs1 : List Nat} {gt gt1 : D → Sl → Option Sl} {ft ft1 : ME Bool} {fe : ME D} : ∀ σ H Q, Te X.K X.mg W (eLc2 fi vs gt ft fi1 vs1 gt1 ft1 fe) σ H Q →
    tLc2 (Ti X.K X.mg W fi) (GTm X.K vs gt) (Tt X.K X.mg WF ft) (Ti X.K X.mg WF fi1) (GTm X.K vs1 gt1) (Tt X.K X.mg WF ft1) (Te X.K X.mg WF fe) vs vs1 σ H Q := fun σ H Q h =>
  Tm.bind (k := fun env (i : Itm) s => (lc2 i.guard gt ft fi1 vs1 gt1 ft1 fe (wipeE env vs) i.xs [] s).bind fun acc s => R.ok (D.loc s.length) (s ++ [Cell.lst acc])) h fun m1 H1 env it J s1 r1 E1 p1 g1 => by
    intro P hP
    let Go : Nat → Hp → Prop := fun i H => ∃ m2 s2 acc accV, Le X.K m1 H1 m2 H ∧ Rel X.K m2 H s2 ∧ H P = some (.lst accV) ∧ P ∉ m2 ∧ Reps X.K m2 H acc accV ∧
        G X.K X.mg (Rep X.K) W σ m1 H1 Q ((lc2 it.guard gt ft fi1 vs1 gt1 ft1 fe (wipeE env vs) (it.xs.drop i) acc s2).bind fun acc s => R.ok (D.loc s.length) (s ++ [Cell.lst acc]))
    refine ⟨fun i k H => k = it.xs.length - i ∧ i ≤ it.xs.length ∧ Go i H,
      ⟨it.xs.length, by simp, Nat.zero_le _, m1, s1, [], [], le_new hP, r1.tmp hP, upd_same, r1.new_notin hP, .nil, g1⟩, ?_⟩
    rintro i k H2 ⟨rfl, hi, m2, s2, acc, accV, l2, r2, hD, nD, pA, g2⟩
    by_cases hlt : i < it.xs.length
    · have hx : it.xs[i]? = some it.xs[i] := by simp [hlt]
      have hd : it.xs.drop i = it.xs[i] :: it.xs.drop (i + 1) := List.drop_eq_getElem_cons hlt
      rw [hd] at g2
      unfold lc2 at g2
      by_cases hgd : it.guard s2
      · simp only [hgd, if_true] at g2
        obtain ⟨hall, _⟩ := p1 m2 H2 s2 l2.w r2 hgd
        obtain ⟨hgo, hy⟩ := hall i _ hx
        refine .inr ⟨hgo, fun H' => Go (i + 1) H', fun H' q => ⟨it.xs.length - (i + 1), by omega, rfl, hlt, q⟩, fun v H3 y => ?_⟩
        obtain ⟨l3, r3, p3⟩ := hy v H3 y
        cases q : gt it.xs[i] (wipeE env vs) with
        | none => simp only [q] at g2; exact g2.elim
        | some env3 =>
          simp only [q] at g2
          have l13 := l2.trans l3
          have hD3 := l3.fr P _ hD nD
          refine ⟨m2, wipeE env vs, s2, it.xs[i], env3, r3, relE_wipe (E1.mono l13) vs, p3, q, fun σ4 E4 k4 n4 => ⟨by rw [wipe_congr n4 k4, wipe_wipe], m2, env3, s2, r3, E4, ?_⟩⟩
          cases ht : ft env3 s2 with
          | no => rw [ht] at g2; exact g2.elim
          | ex x s4 => rw [ht] at g2; exact g2.elim
          | ok b s4 =>
            simp only [ht] at g2
            intro m5 H5 b' l5 r5 eb
            cases (show b = b' from eb)
            have hD5 := l5.fr P _ hD3 nD
            have nD5 : P ∉ m5 := fun z => by
              rcases l5.nw P z with w | w
              · exact nD w
              · rw [hD3] at w; cases w
            have l15 := l13.trans l5
            have pA5 := (pA.mono l3).mono l5
            cases b with
            | false =>
              refine iteF ⟨m5, s4, acc, accV, l15, r5, hD5, nD5, pA5, ?_⟩
              simpa using g2
            | true =>
              simp only [if_true] at g2
              refine iteT ⟨m5, env3, s4, r5, E4.mono l5, ?_⟩
              cases hi1 : fi1 env3 s4 with
              | no => rw [hi1] at g2; exact g2.elim
              | ex x s6 => rw [hi1] at g2; exact g2.elim
              | ok it2 s6 =>
                simp only [hi1] at g2
                intro m6 H6 J1 l6 r6 p6
                have hD6 := l6.fr P _ hD5 nD5
                have nD6 : P ∉ m6 := fun z => by
                  rcases l6.nw P z with w | w
                  · exact nD5 w
                  · rw [hD5] at w; cases w
                have l16 := l15.trans l6
                have E6 := (E4.mono l5).mono l6
                let Gi : Nat → Hp → Prop := fun j H => ∃ m7 s7 acc7 accV7, Lw X.K m6 H6 m7 H ∧ Le X.K m1 H1 m7 H ∧ Rel X.K m7 H s7 ∧ H P = some (.lst accV7) ∧ P ∉ m7 ∧ Reps X.K m7 H acc7 accV7 ∧
                  G X.K X.mg (Rep X.K) W σ m1 H1 Q ((match lcL it2.guard gt1 ft1 fe (wipeE env3 vs1) (it2.xs.drop j) acc7 s7 with
                    | .ok acc' s3 => lc2 it.guard gt ft fi1 vs1 gt1 ft1 fe (wipeE env vs) (it.xs.drop (i + 1)) acc' s3
                    | _ => .no).bind fun acc s => R.ok (D.loc s.length) (s ++ [Cell.lst acc]))
                refine ⟨fun j k H => k = it2.xs.length - j ∧ j ≤ it2.xs.length ∧ Gi j H, ⟨it2.xs.length, by simp, Nat.zero_le _, m6, s6, acc, accV, Le.refl.w, l16, r6, hD6, nD6, pA5.mono l6, g2⟩, ?_⟩
                rintro j k7 H7 ⟨rfl, hj, m7, s7, acc7, accV7, l7, l17, r7, hD7, nD7, pA7, g7⟩
                by_cases hlt1 : j < it2.xs.length
                · have hx1 : it2.xs[j]? = some it2.xs[j] := by simp [hlt1]
                  have hd1 : it2.xs.drop j = it2.xs[j] :: it2.xs.drop (j + 1) := List.drop_eq_getElem_cons hlt1
                  rw [hd1] at g7
                  unfold lcL at g7
                  by_cases hgd1 : it2.guard s7
                  · simp only [hgd1, if_true] at g7
                    obtain ⟨hall1, _⟩ := p6 m7 H7 s7 l7 r7 hgd1
                    obtain ⟨hgo1, hy1⟩ := hall1 j _ hx1
                    refine .inr ⟨hgo1, fun H' => Gi (j + 1) H', fun H' q => ⟨it2.xs.length - (j + 1), by omega, rfl, hlt1, q⟩, fun v8 H8 y8 => ?_⟩
                    obtain ⟨l8, r8, p8⟩ := hy1 v8 H8 y8
                    cases q8 : gt1 it2.xs[j] (wipeE env3 vs1) with
                    | none => simp only [q8] at g7; exact g7.elim
                    | some env8 =>
                      simp only [q8] at g7
                      have l78 := lw_trans l7 l8.w
                      have l18 := l17.trans l8
                      have hD8 := l8.fr P _ hD7 nD7
                      refine ⟨m7, wipeE env3 vs1, s7, it2.xs[j], env8, r8, relE_wipe (E6.monoW l78) vs1, p8, q8, fun σ9 E9 k9 n9 => ⟨by rw [wipe_congr n9 k9, wipe_wipe], m7, env8, s7, r8, E9, ?_⟩⟩
                      cases ht1 : ft1 env8 s7 with
                      | no => rw [ht1] at g7; exact g7.elim
                      | ex x s4 => rw [ht1] at g7; exact g7.elim
                      | ok b s9 =>
                        simp only [ht1] at g7
                        intro m10 H10 b' l10 r10 eb
                        cases (show b = b' from eb)
                        have hD10 := l10.fr P _ hD8 nD7
                        have nD10 : P ∉ m10 := fun z => by
                          rcases l10.nw P z with w | w
                          · exact nD7 w
                          · rw [hD8] at w; cases w
                        have l710 := lw_trans l78 l10.w
                        have l110 := l18.trans l10
                        have pA10 := (pA7.mono l8).mono l10
                        cases b with
                        | false =>
                          refine iteF ⟨m10, s9, acc7, accV7, l710, l110, r10, hD10, nD10, pA10, ?_⟩
                          simpa using g7
                        | true =>
                          simp only [if_true] at g7
                          refine iteT ⟨m10, env8, s9, r10, E9.mono l10, ?_⟩
                          cases he : fe env8 s9 with
                          | no => rw [he] at g7; exact g7.elim
                          | ex x s6 => rw [he] at g7; exact g7.elim
                          | ok y s11 =>
                            simp only [he] at g7
                            by_cases hz : acc7.length < sizeLine
                            · simp only [hz, if_true] at g7
                              intro m11 H11 yv l11 r11 p11
                              have hD11 := l11.fr P _ hD10 nD10
                              have nD11 : P ∉ m11 := fun z => by
                                rcases l11.nw P z with w | w
                                · exact nD10 w
                                · rw [hD10] at w; cases w
                              have pA11 := pA10.mono l11
                              exact ⟨accV7, hD11, by rw [← pA7.length]; exact hz, m11, s11, acc7 ++ [y], accV7 ++ [yv], lw_trans (lw_trans l710 l11.w) (lw_side hD11), (l110.trans l11).side hP hD11, r11.side hD11 nD11, upd_same, nD11,
                                (pA11.monoW (lw_side hD11)).append (.cons (p11.monoW (lw_side hD11)) .nil), g7⟩
                            · simp only [hz, if_false] at g7
                              exact g7.elim
                  · simp only [hgd1, if_false] at g7
                    exact g7.elim
                · have e : j = it2.xs.length := by omega
                  subst e
                  rw [List.drop_length] at g7
                  unfold lcL at g7
                  by_cases hgd1 : it2.guard s7
                  · simp only [hgd1, if_true] at g7
                    exact .inl ⟨(p6 m7 H7 s7 l7 r7 hgd1).2, m7, s7, acc7, accV7, l17, r7, hD7, nD7, pA7, g7⟩
                  · simp only [hgd1, if_false] at g7
                    exact g7.elim
      · simp only [hgd, if_false] at g2
        exact g2.elim
    · have e : i = it.xs.length := by omega
      subst e
      rw [List.drop_length] at g2
      unfold lc2 at g2
      by_cases hgd : it.guard s2
      · simp only [hgd, if_true] at g2
        refine .inl ⟨(p1 m2 H2 s2 l2.w r2 hgd).2, ?_⟩
        exact g2 (m2 ++ [P]) H2 (.ref P) (l2.adopt hP) (r2.adopt nD hD pA) (.loc (len_get r2))
      · simp only [hgd, if_false] at g2
        exact g2.elim
variable {elt tg iter tg1 iter1 : Expr} {ifs ifs1 : List Expr} {scope : Scope} {own : List (Str × Nat)} {pos : Pos} {fi fi1 : ME Itm} {us vs1 : List Nat} {gt gt1 : D → Sl → Option Sl} {ft ft1 : ME Bool} {fe : ME D}
theorem ce_lc2 (hc : X.calm = true) (hN : X.N.Nodup) (hi : PI X tg iter (Ti X.K X.mg W fi)) (ok : BlkOk X.N X.env.scope scope own) (hv : ∀ i ∈ vs1, i ∈ own.map (·.2)) (hu : ∀ i ∈ us, i ∈ own.map (·.2))
    (hg : ∀ (s : Shared) (H : Hp) (C : Addr) (cl : List (Str × Addr)) (fp : List Addr), PG (X.blk s H scope (compEnvC scope cl C X.env) fp) tg (GTm X.K us gt)) (ht : ∀ (s : Shared) (H : Hp) (C : Addr) (cl : List (Str × Addr)) (fp : List Addr), PTs (X.blk s H scope (compEnvC scope cl C X.env) fp) ifs (Tt X.K X.mg WF ft))
    (hi1 : ∀ (s : Shared) (H : Hp) (C : Addr) (cl : List (Str × Addr)) (fp : List Addr), PI (X.blk s H scope (compEnvC scope cl C X.env) fp) tg1 iter1 (Ti X.K X.mg WF fi1))
    (hg1 : ∀ (s : Shared) (H : Hp) (C : Addr) (cl : List (Str × Addr)) (fp : List Addr), PG (X.blk s H scope (compEnvC scope cl C X.env) fp) tg1 (GTm X.K vs1 gt1)) (ht1 : ∀ (s : Shared) (H : Hp) (C : Addr) (cl : List (Str × Addr)) (fp : List Addr), PTs (X.blk s H scope (compEnvC scope cl C X.env) fp) ifs1 (Tt X.K X.mg WF ft1))
    (he : ∀ (s : Shared) (H : Hp) (C : Addr) (cl : List (Str × Addr)) (fp : List Addr), PE (X.blk s H scope (compEnvC scope cl C X.env) fp) elt (Te X.K X.mg WF fe)) (hs : ∀ x, foldedSetIterable iter X.env x = pure x := by intro _; rfl) (hs1 : ∀ env x, foldedSetIterable iter1 env x = pure x := by intro _ _; rfl) :
    PE X (.ListComp elt [⟨tg, iter, ifs, 0⟩, ⟨tg1, iter1, ifs1, 0⟩] scope pos) (Te X.K X.mg W (eLc2 fi (own.map (·.2)) gt ft fi1 vs1 gt1 ft1 fe)) :=
  PE.imp (pe_lc2 hc hN hi ok hv (fun s H C cl fp => PG.imp (hg s H C cl fp) (gtm_more hu)) ht hi1 hg1 ht1 he hs hs1) lc2_run
theorem cs_setLc2 {i : Nat} {y : Str} {py spos : Pos} (hc : X.calm = true) (hN : X.N.Nodup) (hy : X.N[i]? = some y) (hyl : X.env.scope.names.lookup y = some .local)
    (hsw : swapsWith (.ListComp elt [⟨tg, iter, ifs, 0⟩, ⟨tg1, iter1, ifs1, 0⟩] scope pos) (some (.Name y py)) spos.line X.env = pure true) (hi : PI X tg iter (Ti X.K X.mg W fi)) (ok : BlkOk X.N X.env.scope scope own) (hv : ∀ i ∈ vs1, i ∈ own.map (·.2)) (hu : ∀ i ∈ us, i ∈ own.map (·.2))
    (hg : ∀ (s : Shared) (H : Hp) (C : Addr) (cl : List (Str × Addr)) (fp : List Addr), PG (X.blk s H scope (compEnvC scope cl C X.env) fp) tg (GTm X.K us gt)) (ht : ∀ (s : Shared) (H : Hp) (C : Addr) (cl : List (Str × Addr)) (fp : List Addr), PTs (X.blk s H scope (compEnvC scope cl C X.env) fp) ifs (Tt X.K X.mg WF ft))
    (hi1 : ∀ (s : Shared) (H : Hp) (C : Addr) (cl : List (Str × Addr)) (fp : List Addr), PI (X.blk s H scope (compEnvC scope cl C X.env) fp) tg1 iter1 (Ti X.K X.mg WF fi1))
    (hg1 : ∀ (s : Shared) (H : Hp) (C : Addr) (cl : List (Str × Addr)) (fp : List Addr), PG (X.blk s H scope (compEnvC scope cl C X.env) fp) tg1 (GTm X.K vs1 gt1)) (ht1 : ∀ (s : Shared) (H : Hp) (C : Addr) (cl : List (Str × Addr)) (fp : List Addr), PTs (X.blk s H scope (compEnvC scope cl C X.env) fp) ifs1 (Tt X.K X.mg WF ft1))
    (he : ∀ (s : Shared) (H : Hp) (C : Addr) (cl : List (Str × Addr)) (fp : List Addr), PE (X.blk s H scope (compEnvC scope cl C X.env) fp) elt (Te X.K X.mg WF fe)) (hs : ∀ x, foldedSetIterable iter X.env x = pure x := by intro _; rfl) (hs1 : ∀ env x, foldedSetIterable iter1 env x = pure x := by intro _ _; rfl) :
    PS X (.Assign [.Name y py] (.ListComp elt [⟨tg, iter, ifs, 0⟩, ⟨tg1, iter1, ifs1, 0⟩] scope pos) spos) (Ts X.K X.mg W (sSet i (eLc2 fi (own.map (·.2)) gt ft fi1 vs1 gt1 ft1 fe))) :=
  PS.imp (ps_setLc2 (i := i) hc hN hy hyl hsw hi ok hv (fun s H C cl fp => PG.imp (hg s H C cl fp) (gtm_more hu)) ht hi1 hg1 ht1 he hs hs1) fun Dn σ H h =>
  lc2_run σ H _ (Ts.ofE (k := fun env d s => RS.nx (env.set i (some d)) s) h fun m1 H1 env d v s1 r1 E1 p1 g1 => g1 m1 _ H1 .refl r1 (relE_set E1 p1 i))
end
end Mi
/-! sorted(set(xs)), xs a list of ints: fewer than 64 distinct ones -/
namespace Mi
open PySem PySem.Spec PyProof.Rows L2
section
variable {P : Program} {w : World} {A : Around} {E : Value → Shared → Prop} {s : Shared}
/-- the object of an empty set -/
abbrev so0 (w : World) : Obj := { cls := .type "set", dict := none, data := .set #[] 0 (.fresh 0 0 (!w.params.followText "set-order")) }
set_option maxHeartbeats 3200000 in
theorem set_lst {l : Addr} {us : Array Value} (ns : List Int) {Q : Value → Shared → Prop} (hA : A.handled = none) (hL : s.heap.IsList l us) (hI : IntsAre us.toList ns) (hB : ns.length + 1 < scanBound)
    (kQ : ∀ (g : Heap) (tk c : Nat), SetR w g s.heap.objs.size (fun j => decide (j ∈ ns)) c → c ≤ ns.length → (∀ b o, s.heap.get? b = some o → g.get? b = some o) → Q (.ref s.heap.objs.size) { s with heap := g, toks := tk }) :
    wpAny (model P w) A (call (.type "set") [.ref l]) Q E s := by
  have hz : us.size = ns.length := by have q := IntsAre.length hI; rw [Array.length_toList] at q; exact q
  obtain ⟨c, tl, hm⟩ := F.called_set.mro
  have f1 := F.called_set.made; have f2 := F.called_set.sub; have f3 := F.called_set.notType
  have f4 := F.called_set.canCreate; have f5 := F.typeCall_set_1 (.ref l)
  refine wpAny_call (codeAny_of_tree ?_); show wpAny _ _ (callAny (.type "set") _) _ _ _
  refine wpAny_pure ⟨Code.quiet_builtin _ (by decide +kernel), codeAny_builtin F.entry_type_call ?_⟩; rw [Around.under_plain (weight_type_call_type "set" [.ref l] []) rfl]
  repeat (any_goals (first | assumption | wp_step))
  refine codeAny_mono (code_set_led1 (.ref l) (E := E) (Q₁ := fun v s1 => v = .ref s.heap.objs.size ∧ s1 = { s with heap := s.heap.push (so0 w) }) ⟨rfl, rfl⟩) fun r s1 q => ?_
  match r, q with
  | .error e, q => exact q
  | .ok (.ret v), q =>
    obtain ⟨rfl, rfl⟩ := q
    have gS : (s.heap.push (so0 w)).get? s.heap.objs.size = some (so0 w) := Heap.get?_push_size _ rfl
    have tS : Shared.TypeIs { s with heap := s.heap.push (so0 w) } (.ref s.heap.objs.size) "set" := ⟨_, gS, rfl⟩
    have f6 := F.called_set.init.lookup; have f7 := F.called_set.init.bind (.ref s.heap.objs.size)
    repeat (any_goals (first | assumption | wp_step))
    refine codeAny_mono (codeAny_call_builtin (R := wants (fun r s2 => r = .none ∧ ∃ g tk c, s2 = { s with heap := g, toks := tk } ∧ SetR w g s.heap.objs.size (fun j => decide (j ∈ ns)) c ∧ c ≤ ns.length ∧ (∀ b o, s.heap.get? b = some o → g.get? b = some o)) E)
      F.called_set.init.plain F.entry_set_init (check_set_init_1 tS ?_)) fun r2 s2 q2 => ?_
    · obtain ⟨⟨oc, od, odt, os⟩, go, hc, nl, hd⟩ := hL
      dsimp only at hc hd; subst hc; subst hd
      have gl : (s.heap.push (so0 w)).get? l = some { cls := .type "list", dict := od, data := .seq us nl, slots := os } := Heap.get?_push_of_some _ go
      have f8 := F.sub_list_set; have f9 := F.sub_list_frozenset
      have f10 : (Value.type "list" == Value.type "dict") = false := by decide
      have lL : (s.heap.push (so0 w)).IsList l us := ⟨_, gl, rfl, nl, rfl⟩
      unfold Builtin.«set.__init__» noKeywords Builtin.Frozenset.updateFrom; generalize eI : pyIter = PI
      wp_walk
      subst eI
      refine wpAny_pyIter_list lL ?_; refine wpAny_bind (wpAny_runValue ?_)
      have lt : l < s.heap.objs.size := Heap.lt_size go
      have hA3 : A.in1.in1.in1.handled = none := by simp [hA]
      have nI : l ≠ (s.heap.push (so0 w)).objs.size := by rw [Heap.size_push]; exact Nat.ne_of_lt (Nat.lt_succ_of_lt lt)
      have nS : s.heap.objs.size ∉ [(s.heap.push (so0 w)).objs.size, l] := by rw [Heap.size_push]; simp only [List.mem_cons, List.not_mem_nil, or_false, not_or]; exact ⟨Nat.ne_of_lt (Nat.lt_succ_self _), Nat.ne_of_gt lt⟩
      refine set_update_ints ((Walks.list hA3 _ l nI us).toS) s.heap.objs.size nS ns hz hB (fun i v hv => ?_) (us.size - 0) 0 _ (by omega) (Nat.zero_le _) ⟨⟨_, Heap.get?_push_size _ rfl, rfl, rfl⟩, (lL.push _)⟩
        ⟨0, Nat.le_refl 0, setR_new_at (Heap.get?_push_of_some _ gS)⟩ fun s' c' mv hc' R' => ?_
      · have hi : i < ns.length := by rw [← hz]; exact (Array.getElem?_eq_some_iff.mp hv).1
        obtain ⟨t, e⟩ := PyProof.Rows.IntsAre.int_at hI i v (by rw [Array.getElem?_toList]; exact hv)
        exact ⟨ns[i], t, List.getElem?_eq_getElem hi, by rw [e, List.getD_eq_getElem?_getD, List.getElem?_eq_getElem hi] <;> rfl⟩
      · obtain ⟨g, g2, d2, tk2, o2⟩ := s'
        obtain rfl : g2 = s.gens := mv.gens
        obtain rfl : d2 = s.drawn := mv.drawn
        obtain rfl : o2 = s.os := mv.os
        show wpAny _ _ _ _ _ _; refine wpAny_pure ?_
        show wpAny _ _ (ret Value.none) _ _ _; rw [hz] at hc'
        refine wpAny_pure ⟨rfl, g, tk2, c', rfl, R', hc', fun b o e => ?_⟩
        have lb : b < s.heap.objs.size := Heap.lt_size e
        exact mv.heap b o (by rw [Heap.size_push]; simp only [List.mem_cons, List.not_mem_nil, or_false, not_or]; exact ⟨Nat.ne_of_lt lb, Nat.ne_of_lt (Nat.lt_succ_of_lt lb)⟩) (Heap.get?_push_of_some _ (Heap.get?_push_of_some _ e))
    · match r2, q2 with
      | .error e, q2 => exact q2
      | .ok (.ret v), q2 =>
        obtain ⟨rfl, g, tk, c', rfl, R', hc', k'⟩ := q2
        repeat (any_goals (first | assumption | wp_step))
        exact kQ _ _ _ R' hc' k'
end
/-- the ints of a list, ascending and each once -/
def intsD : List D → Option (List Int)
  | [] => some []
  | .int k :: r => (intsD r).map (k :: ·)
  | _ :: _ => none
theorem intsD_eq : ∀ {ds : List D} {ns : List Int}, intsD ds = some ns → ds = ns.map D.int
  | [], _, e => by cases e; rfl
  | .int k :: r, _, e => by
    unfold intsD at e
    cases q : intsD r with
    | none => rw [q] at e; cases e
    | some ns => rw [q] at e; cases e; rw [intsD_eq q]; rfl
theorem intsD_map : ∀ ns : List Int, intsD (ns.map D.int) = some ns
  | [] => rfl
  | k :: r => by show (intsD (r.map D.int)).map (k :: ·) = _; rw [intsD_map r]; rfl
/-- insertion, no int twice -/
def insI (k : Int) : List Int → List Int
  | [] => [k]
  | x :: r => if k < x then k :: x :: r else if k = x then x :: r else x :: insI k r
def setI (ns : List Int) : List Int := ns.foldr insI []
theorem insI_mem {k j : Int} : ∀ {l : List Int}, j ∈ insI k l ↔ j = k ∨ j ∈ l
  | [] => by simp [insI]
  | x :: r => by
    unfold insI
    split
    · simp
    · split
      · rename_i e; subst e; simp
      · simp [insI_mem (l := r)]
        constructor
        · rintro (h | h | h) <;> simp [h]
        · rintro (h | h | h) <;> simp [h]
theorem insI_asc {k : Int} : ∀ {l : List Int}, l.Pairwise (· < ·) → (insI k l).Pairwise (· < ·)
  | [], _ => by simp [insI]
  | x :: r, h => by
    obtain ⟨h1, h2⟩ := List.pairwise_cons.mp h
    unfold insI
    split
    · rename_i q
      exact List.pairwise_cons.mpr ⟨fun y hy => by
        rcases List.mem_cons.mp hy with e | e
        · rw [e]; exact q
        · exact Int.lt_trans q (h1 y e), h⟩
    · split
      · exact h
      · refine List.pairwise_cons.mpr ⟨fun y hy => ?_, insI_asc h2⟩
        rcases insI_mem.mp hy with e | e
        · rw [e]; omega
        · exact h1 y e
theorem setI_mem {j : Int} : ∀ {ns : List Int}, j ∈ setI ns ↔ j ∈ ns
  | [] => by simp [setI]
  | k :: r => by
    show j ∈ insI k (setI r) ↔ _
    rw [insI_mem, setI_mem (ns := r)]; simp
theorem setI_asc : ∀ {ns : List Int}, (setI ns).Pairwise (· < ·)
  | [] => by simp [setI]
  | k :: r => insI_asc (setI_asc (ns := r))
/-- two ascending lists of the same ints are one -/
theorem asc_uniq : ∀ {a b : List Int}, a.Pairwise (· < ·) → b.Pairwise (· < ·) → (∀ k, k ∈ a ↔ k ∈ b) → a = b
  | [], [], _, _, _ => rfl
  | [], y :: s, _, _, h => by have := (h y).mpr (by simp); simp at this
  | x :: r, [], _, _, h => by have := (h x).mp (by simp); simp at this
  | x :: r, y :: s, ha, hb, h => by
    obtain ⟨a1, a2⟩ := List.pairwise_cons.mp ha
    obtain ⟨b1, b2⟩ := List.pairwise_cons.mp hb
    have e : x = y := by
      have h1 := (h x).mp (by simp)
      have h2 := (h y).mpr (by simp)
      rcases List.mem_cons.mp h1 with q | q
      · exact q
      · rcases List.mem_cons.mp h2 with q2 | q2
        · exact q2.symm
        · have := a1 _ q2; have := b1 _ q; omega
    subst e
    rw [asc_uniq a2 b2 fun k => ⟨fun hk => by
      have := (h k).mp (by simp [hk])
      rcases List.mem_cons.mp this with q | q
      · have := a1 _ hk; omega
      · exact q, fun hk => by
      have := (h k).mpr (by simp [hk])
      rcases List.mem_cons.mp this with q | q
      · have := b1 _ hk; omega
      · exact q⟩]
/-- sorted(set(x)) -/
def dSortSet (x : D) (s : Store) : Option (D × Store) := (lstOf s x).bind fun ds => (intsD ds).bind fun ns => if ns.length < 64 then some (.loc s.length, s ++ [.lst ((setI ns).map D.int)]) else none
def tSortSet (K : PySem.W.Frag) (ta : TE) : TE := fun σ H Q => ta σ H fun x H1 => ∃ (l : Addr) (ns : List Int), x = .ref l ∧ SqL K H1 l (ns.map V.int) ∧ ns.length < 64 ∧ ∀ p, H1 p = none → Q (.ref p) (upd H1 p (.lst ((setI ns).map V.int)))
section
variable {X : Cx} {W : WX} {a : Expr} {ta : TE} {fa : ME D} {p p2 q pos : Pos}
theorem pe_sortSet (hc : X.calm = true) (hg : Gl X "sorted") (hm : X.mg "sorted" = none) (hg2 : Gl X "set") (hm2 : X.mg "set" = none) (ha : PE X a ta)
    (na : starEach [a] X.env = (false, eval a X.env) :: starEach [] X.env := by rfl) : PE X (.Call (.Name "sorted" p) [.Call (.Name "set" p2) [a] [] q] [] pos) (tSortSet X.K ta) := by
  refine ⟨fun pins s σ H Q I h => ?_⟩
  refine Call_ (ld_blt I hg hm boot_sorted ?_)
  refine PyProof.Rows.callWith_builtin1 (PyProof.Rows.args_cons ?_ rfl) rfl rfl
  refine Call_ (ld_blt I hg2 hm2 boot_set (PyProof.Rows.callWith_type1 (PyProof.Rows.args_cons (thn (ha.run pins s σ H _ I h) fun v s1 ⟨x, H1, I1, r1, q1⟩ => PyProof.Rows.args_nil ?_) na) na rfl))
  obtain ⟨l, ns, rfl, hq, hn, q1⟩ := q1
  cases r1
  obtain ⟨its, rv, pl, hz⟩ := I1.list hq
  have hd := I1.ok.hd hc
  refine set_lst ns hd pl.isList (by simpa using ints_of_vals rv) (by unfold scanBound; omega) fun g tk c R hcn k => ?_
  refine PyProof.Rows.args_nil ?_
  have I2 : Inv X pins σ H1 { s1 with heap := g, toks := tk } := I1.kept k
  refine sorted_set R hd (by omega) fun s' p out c2 ms k2 g2 o2 hp hgp hi hs hmm hl => ?_
  have e : ms = setI ns := asc_uniq hs setI_asc fun j => by rw [hmm, setI_mem, decide_eq_true_eq]
  subst e
  have hle : s1.heap.objs.size ≤ p := Nat.le_trans (by
    obtain ⟨o, _, _, _, ho, _⟩ := R
    exact Nat.le_of_lt (Heap.lt_size ho)) hp
  have hn2 : H1 p = none := I2.hok.fresh hp
  have hlen : ((setI ns).map V.int).length ≤ sizeLine := by rw [List.length_map, hl, sizeLine_eq]; omega
  have J : Inv X pins σ (upd H1 p (.lst ((setI ns).map V.int))) { ({ s1 with heap := g, toks := tk } : Shared) with heap := s'.heap, gens := s'.gens, drawn := s'.drawn, toks := s'.toks } :=
    I2.call (ch := []) (Un.laid k2 hp hn2) (I2.hok.laid k2 hp ⟨hlen, out.toList, c2, vals_of_ints hi, hgp⟩) (by rw [g2]; exact I2.bare) (fun _ z => nomatch z)
  have e : s' = { s1 with heap := s'.heap, gens := s'.gens, drawn := s'.drawn, toks := s'.toks } := by
    cases s'; cases s1; cases o2; rfl
  rw [e]
  exact ⟨.ref p, _, J, rfl, q1 p hn2⟩
theorem reps_intsI {K : PySem.W.Frag} {m : List Addr} {H : Hp} : ∀ {ns : List Int} {vs : List V}, Reps K m H (ns.map D.int) vs → vs = ns.map V.int
  | [], _, .nil => rfl
  | k :: r, _, .cons h t => by cases h; rw [reps_intsI t]; rfl
theorem reps_intsJ {K : PySem.W.Frag} {m : List Addr} {H : Hp} : ∀ ns : List Int, Reps K m H (ns.map D.int) (ns.map V.int)
  | [] => .nil
  | k :: r => .cons (.int k) (reps_intsJ r)
theorem ce_sortSet (hc : X.calm = true) (hg : Gl X "sorted") (hm : X.mg "sorted" = none) (hg2 : Gl X "set") (hm2 : X.mg "set" = none) (ha : PE X a (Te X.K X.mg W fa))
    (na : starEach [a] X.env = (false, eval a X.env) :: starEach [] X.env := by rfl) : PE X (.Call (.Name "sorted" p) [.Call (.Name "set" p2) [a] [] q] [] pos) (Te X.K X.mg W (e1 dSortSet fa)) :=
  PE.imp (pe_sortSet hc hg hm hg2 hm2 ha na) fun σ H Q h => Tm.bind (k := fun _ (x : D) s => R.of (dSortSet x s)) h fun m1 H1 env x v s1 r1 E1 p1 g1 => by
    cases q : lstOf s1 x with
    | none => rw [show dSortSet x s1 = none by unfold dSortSet; rw [q]; rfl] at g1; exact g1.elim
    | some ds =>
      cases q2 : intsD ds with
      | none => rw [show dSortSet x s1 = none by unfold dSortSet; rw [q, Option.bind_some, q2]; rfl] at g1; exact g1.elim
      | some ns =>
        by_cases h64 : ns.length < 64
        · rw [show dSortSet x s1 = some (.loc s1.length, s1 ++ [.lst ((setI ns).map D.int)]) by unfold dSortSet; rw [q, Option.bind_some, q2, Option.bind_some, if_pos h64]] at g1
          obtain ⟨a, vs, rfl, hq, rr⟩ := lstOf_sq r1 p1 q
          rw [intsD_eq q2] at rr
          rw [reps_intsI rr] at hq
          exact ⟨a, ns, rfl, hq, h64, fun p hp => g1 (m1 ++ [p]) _ _ (le_more r1 hp) (rel_newlist r1 hp (reps_intsJ _)) (.loc (len_get r1))⟩
        · rw [show dSortSet x s1 = none by unfold dSortSet; rw [q, Option.bind_some, q2, Option.bind_some, if_neg h64]] at g1; exact g1.elim
end
end Mi
namespace Mi
open PySem PySem.Spec PyProof.Rows L2
/-- a def that gives nothing: the foot of a recursion's levels -/
theorem okNo {P : Program} {w : World} {K : PySem.W.Frag} {mg : Str → Option Value} {base : Heap} {k n : Nat} {f : Addr} {fd : FuncData} {ps : List Str} : FnOk P w K mg base (L2.CX P w) k f fd ps (spM K mg n fun _ _ => .no) :=
  ⟨fun _ _ _ _ h => by obtain ⟨_, m, s, ds, r, p, g⟩ := h; exact g.elim, fun _ _ _ _ _ _ _ _ _ _ _ _ _ h => by obtain ⟨_, m, s, ds, r, p, g⟩ := h; exact g.elim⟩
/-- a comprehension within a comprehension: its names are told anew -/
def envK (sc : Scope) : Env := { scope := sc, locals := 0, globals := 0, cells := [] }
theorem blkOk_in {N : List Str} {own : List (Str × Nat)} {sc sc1 scope : Scope} {env : Env} (h : blkC N (relabel sc1 (envK sc)) scope own = true) (he : env.scope = sc := by rfl) : BlkOk N (relabel sc1 env) scope own := by
  subst he
  exact blkOk_by h
/-! ### sorted of a list, a tuple, or a dict with ints as keys -/
def intKs : List (Key × D) → Option (List Int)
  | [] => some []
  | (.inl k, _) :: r => (intKs r).map (k :: ·)
  | _ :: _ => none
theorem intKs_eq : ∀ {ds : List (Key × D)} {ns : List Int}, intKs ds = some ns → ds.map (·.1) = ns.map Sum.inl
  | [], _, e => by cases e; rfl
  | (.inl k, d) :: r, _, e => by
    unfold intKs at e
    cases q : intKs r with
    | none => rw [q] at e; cases e
    | some ns => rw [q] at e; cases e; rw [List.map_cons, List.map_cons, intKs_eq q]
  | (.inr z, d) :: r, _, e => by cases e
open Classical in
noncomputable def dSortedD (ds : List D) (s : Store) : Option (D × Store) := match ds with
  | [x] => match dicOf s x with
    | some (_, ks) => (intKs ks).bind fun ns => if ns.Nodup ∧ ns.length < 64 then some (.loc s.length, s ++ [.lst ((setI ns).map D.int)]) else none
    | none => dSorted [x] s
  | _ => none
def rSortD (K : PySem.W.Frag) : List V → Hp → VK → Prop := fun xs H Q => rSortB K xs H Q ∨ ∃ (a : Addr) (kvs : List (Key × V)) (ks : List Int), xs = [.ref a] ∧ Rd H a (.dK kvs) ∧ kvs.map (·.1) = ks.map Sum.inl ∧ ks.length < 64 ∧
    ∀ (ys : List Int) (p : Addr), ys.Perm ks → ys.Pairwise (· ≤ ·) → H p = none → Q (.ref p) (upd H p (.lst (ys.map V.int)))
theorem call_sortD {X : Cx} (hc : X.calm = true) (hu : X.A.units + 64 < cLine) : CallR X (.builtin "sorted") (rSortD X.K) := (cr_sortedB hu).or (call_sortedDI hc)
theorem repk_fst {K : PySem.W.Frag} {m : List Addr} {H : Hp} : ∀ {ks : List (Key × D)} {vs : List (Key × V)}, RepK K m H ks vs → vs.map (·.1) = ks.map (·.1)
  | _, _, .nil => rfl
  | _, _, .cons (k := k) _ r => by rw [List.map_cons, List.map_cons, repk_fst r]
theorem fns_sortD {K : PySem.W.Frag} : FnS K (rSortD K) dSortedD := by
  intro mg W σ m H s xs ds Q r p g
  unfold dSortedD at g
  split at g
  · rename_i x
    obtain ⟨v, rfl, h⟩ := reps1 p
    cases e : dicOf s x with
    | some o =>
      obtain ⟨l, ks⟩ := o
      rw [e] at g
      simp only at g
      cases e2 : intKs ks with
      | none => rw [e2] at g; exact g.elim
      | some ns =>
        rw [e2, Option.bind_some] at g
        split at g
        · rename_i c
          obtain ⟨a, vs, _, rfl, _, h1, h2⟩ := dicOf_at r h e
          refine .inr ⟨a, vs, ns, rfl, .inl h1, (repk_fst h2).trans (intKs_eq e2), c.2, fun ys q hp hs hq => ?_⟩
          have hd : ys.Nodup := hp.nodup_iff.mpr c.1
          have ha : ys.Pairwise (· < ·) := (hs.and hd).imp fun h => by have := h.1; have := h.2; omega
          have ey : ys = setI ns := asc_uniq ha setI_asc fun k => by rw [setI_mem]; exact hp.mem_iff
          rw [ey]
          exact g (m ++ [q]) _ _ (le_more r hq) (rel_newlist r hq (reps_intsJ _)) (.loc (len_get r))
        · exact g.elim
    | none =>
      rw [e] at g
      exact .inl (fns_sorted r p g)
  · exact g.elim
end Mi
namespace Mi
open PySem PySem.Spec PyProof.Rows L2
/-! ### o[i], u[j] = a, b -/
noncomputable def put2K (g : D → D → D → Store → Option Store) (o1 i1 o2 i2 : ME D) (env : Sl) (d : D) (s : Store) : RS := match d with
  | .tup [d1, d2] => (o1 env s).then env fun x s => (i1 env s).then env fun y s => match g x y d1 s with
    | some s' => (o2 env s').then env fun x2 s => (i2 env s).then env fun y2 s => match g x2 y2 d2 s with
      | some s2 => .nx env s2
      | none => .no
    | none => .no
  | _ => .no
noncomputable def sPut2 (g : D → D → D → Store → Option Store) (o1 i1 o2 i2 fe : ME D) : MS := fun env s => (fe env s).then env (put2K g o1 i1 o2 i2 env)
section
variable {X : Cx} {W : WX} {e o i u j : Expr} {fe fo fi fu fj : ME D} {p1 p2 pt : Pos} {k : Nat}
theorem cs_put2 {t : TSet} {g : D → D → D → Store → Option Store} (hc : X.calm = true) (he : PE X e (Te X.K X.mg W fe)) (ho : PE X o (Te X.K X.mg W fo)) (hi : PE X i (Te X.K X.mg W fi)) (hu : PE X u (Te X.K X.mg W fu)) (hj : PE X j (Te X.K X.mg W fj)) (hs : PSet X t) (hp : PutS X.K t g)
    (ha : ∀ v, assign (.Subscript o i p1) X.env v = (do
      let ov ← holding [v] (eval o X.env)
      let iv ← holding [v, ov] (eval i X.env)
      standAt p1
      holding [v, ov, iv] (setItem ov iv v)
      release [v, ov, iv] []) := by intro _; rfl)
    (ha2 : ∀ v, assign (.Subscript u j p2) X.env v = (do
      let ov ← holding [v] (eval u X.env)
      let iv ← holding [v, ov] (eval j X.env)
      standAt p2
      holding [v, ov, iv] (setItem ov iv v)
      release [v, ov, iv] []) := by intro _; rfl) {pos' : Pos} (hs1 : swapsWithSole [.Tuple [.Subscript o i p1, .Subscript u j p2] k pt] e pos'.line X.env = pure false := by rfl) (hw : swappedStores [.Tuple [.Subscript o i p1, .Subscript u j p2] k pt] e X.env = pure none := by rfl)
    (h1 : (assignEach [.Tuple [.Subscript o i p1, .Subscript u j p2] k pt] X.env).map (·.2) = [assign (.Tuple [.Subscript o i p1, .Subscript u j p2] k pt) X.env] := by rfl)
    (hn : (assignEach [.Subscript o i p1, .Subscript u j p2] X.env).length = 2 := by rfl) (hst : (assignEach [.Subscript o i p1, .Subscript u j p2] X.env).findIdx? (·.1) = none := by rfl)
    (hx : (assignEach [.Subscript o i p1, .Subscript u j p2] X.env).map (·.2) = assign (.Subscript o i p1) X.env :: (assignEach [.Subscript u j p2] X.env).map (·.2) := by rfl)
    (hy : (assignEach [.Subscript u j p2] X.env).map (·.2) = assign (.Subscript u j p2) X.env :: (assignEach [] X.env).map (·.2) := by rfl) :
    PS X (.Assign [.Tuple [.Subscript o i p1, .Subscript u j p2] k pt] e pos') (Ts X.K X.mg W (sPut2 g fo fi fu fj fe)) :=
  PS.imp (ps_asg he (pg_tup (n := 2) hc (pgs_cons (pg_sub ho hi hs ha) (pgs_cons (pg_sub hu hj hs ha2) pgs_nil hy) hx) hn hst) hs1 hw h1) fun Dn σ H h =>
    Ts.ofE (k := put2K g fo fi fu fj) h fun m1 H1 env d v s1 r1 E1 p1 g1 => by
      unfold put2K at g1
      split at g1
      · rename_i d1 d2
        obtain ⟨a, vs, rfl, hq, rr⟩ := p1.sqT
        obtain ⟨v1, v2, rfl, q1, q2⟩ := reps2 rr
        refine ⟨a, _, rfl, hq, rfl, v1, [v2], rfl, ?_⟩
        refine ⟨m1, env, s1, r1, E1, GS.ofE E1 g1 fun m2 H2 x vx s2 l2 r2 p2 g2 => ⟨m2, env, s2, r2, E1.mono l2, GS.ofE (E1.mono l2) g2 fun m3 H3 y vy s3 l3 r3 p3 g3 => ?_⟩⟩
        cases q : g x y d1 s3 with
        | none => simp only [q] at g3; exact g3.elim
        | some s' =>
          simp only [q] at g3
          have E3 := (E1.mono l2).mono l3
          refine hp r3 (p2.mono l3) p3 ((q1.mono l2).mono l3) q fun H4 l4 r4 => ?_
          refine ⟨v2, [], rfl, ?_⟩
          have E4 := E3.mono l4
          refine ⟨m3, env, s', r4, E4, GS.ofE E4 (g3.mono l4) fun m5 H5 x2 vx2 s5 l5 r5 p5 g5 => ⟨m5, env, s5, r5, E4.mono l5, GS.ofE (E4.mono l5) g5 fun m6 H6 y2 vy2 s6 l6 r6 p6 g6 => ?_⟩⟩
          cases q' : g x2 y2 d2 s6 with
          | none => simp only [q'] at g6; exact g6.elim
          | some s'' =>
            simp only [q'] at g6
            refine hp r6 (p5.mono l6) p6 (((((q2.mono l2).mono l3).mono l4).mono l5).mono l6) q' fun H7 l7 r7 => ?_
            exact ⟨rfl, g6 m6 _ H7 l7 r7 (((E4.mono l5).mono l6).mono l7)⟩
      · exact g1.elim
end
section
variable {X : Cx} {W : WX} {a : Addr} {oe : Obj} {cls : Value} {d : Option Addr} {pn : List (Addr × Obj)} {pos p p2 p3 : Pos} {n c1 : Str} {i : Nat} {g : Nat × Nat}
theorem ce_isEv {c : Str} {T1 : String} {D : Addr} {b : Bool} (ec : cls = .ref D) (T : ExcC X.K D) (hz : Zc cls d oe) (hf : ∃ vs, oe.data = .fields vs) (g1 : g.1 = a) (g2 : d = some g.2)
    (hg : Gl X "isinstance") (hm : X.mg "isinstance" = none) (hgC : Gl X c1) (mC : X.mg c1 = none) (hv : bootBuiltins c1 = some (.type T1)) (kit : PySem.W.kitOne X.K (.ref D) (.type T1) = some b) (he : PE (X.suite a ((a, oe) :: pn)) (.Name n p) (tVar i)) (hn1 : c1 ≠ "__name__" := by decide) (hdb : (c1 == ("__debug__" : Str)) = false := by decide)
    (hs1 : starEach [.Name n p, .Name c1 p2] X.env = (false, eval (.Name n p) X.env) :: starEach [.Name c1 p2] X.env := by rfl) (hs2 : starEach [.Name c1 p2] X.env = (false, eval (.Name c1 p2) X.env) :: starEach [] X.env := by rfl)
    (hpl : (backTo pos (starEach [.Name c1 p2] X.env)).any (·.1) = false := by rfl) :
    PE (X.suite a ((a, oe) :: pn)) (.Call (.Name "isinstance" p3) [.Name n p, .Name c1 p2] [] pos) (Te X.K X.mg W (eIsE g i c b)) := by
  subst ec
  refine ⟨fun pins s σ H Q I ⟨m, env, st, r, E, q⟩ => ?_⟩
  obtain ⟨fs, hσ, hd, hq⟩ := held_at E q r
  refine wpAny_Call_Name_kw (ld_blt (X := X.suite a ((a, oe) :: pn)) I hg hm PyProof.Rows.boot_isinstance ?_ (by decide) (by decide))
  refine PyProof.Rows.callWith_builtin1 (M := model X.prog X.w) (env := X.env) ?_ hs1 hpl
  rw [hs1]
  show wpAny _ _ (spliced ((false, eval (.Name n p) X.env) :: backTo pos (starEach [.Name c1 p2] X.env))) _ _ s
  refine Calls.spliced_cons (thn (he.run pins s σ H (fun x H1 => x = .ref g.1 ∧ H1 = H) I ⟨.ref g.1, hσ, rfl, rfl⟩) fun u s1 ⟨x, H1, I1, r1, ex, eH⟩ => ?_)
  subst ex eH
  obtain rfl : u = Value.ref g.1 := r1
  rw [hs2]
  show wpAny _ _ (spliced ((false, eval (.Name c1 p2) X.env) :: backTo pos (starEach [] X.env))) _ _ s1
  refine Calls.spliced_cons (ld_blt (X := X.suite a ((a, oe) :: pn)) I1 hgC mC hv (Calls.spliced_nil ?_) hn1 hdb)
  obtain ⟨od, inst⟩ := inst_of hz hf g2 I1 hd
  rw [← g1] at inst
  exact PySem.W.kia_one (PySem.W.mi_kitExc T.hg T.hk T.hs T.hd T.ha T.hn T.ht T.hm) I1.kIn inst kit (fun z => nomatch z) fun tk => ⟨.bl b, H1, I1.tok tk, rfl, hq⟩
end
end Mi
/-! enumerate(xs, start=1) -/
namespace Mi
open PySem PySem.Spec PyProof.Rows L2
theorem enumS_made {v : Value} {o : Obj} {t : Tok} {Hh : Heap → Prop} (B : Begins v o Hh) :
    Meets (Builtin.«enumerate.__new__» ⟨[.type "enumerate", v], [("start", .int 1 t)]⟩) (fun _ R s => Hh s.heap ∧
      R (.ok (.ret (.ref (s.heap.push o).objs.size))) { s with heap := (s.heap.push o).push { cls := .type "enumerate", data := .fields #[.none, .bool false, .ref s.heap.objs.size, rawInt 1, .none, .none] } }) :=
  .of_wp fun prog w A R s h => by
    obtain ⟨hp, g, d, tk, os⟩ := s
    obtain ⟨h1, h⟩ := h
    have hsub := sub_enumerate
    have it : ∀ {A' : Around} {E : Value → Shared → Prop} {Q : Value → Shared → Prop}, Q (.ref hp.objs.size) ⟨hp.push o, g, d, tk, os⟩ → wpAny (model prog w) A' (pyIter v) Q E ⟨hp, g, d, tk, os⟩ := fun q => B.iter prog w _ _ ⟨hp, g, d, tk, os⟩ _ h1 q
    wp_walk using it
    refine wpAny_stack_any fun st => wpAny_pure ?_
    split
    · rename_i c _ _ _ _ _
      cases (c == Value.type "enumerate")
      · wp_walk using it
        exact ⟨_, rfl, h⟩
      · wp_walk using it
        exact ⟨_, rfl, h⟩
    · wp_walk using it
      exact ⟨_, rfl, h⟩
theorem tc : ∀ (v : Value) (t : Tok), checkTypeCall "enumerate" ⟨[v], [("start", .int 1 t)]⟩ = pure () := fun v t => by rfl
theorem nc : ∀ (v : Value) (t : Tok), checkBuiltinCall "enumerate.__new__" ⟨[.type "enumerate", v], [("start", .int 1 t)]⟩ = pure () := fun v t => by kernel_rfl
theorem ic : ∀ (v x : Value) (t : Tok), argsOk "object.__init__" ⟨[x, v], [("start", .int 1 t)]⟩ := fun v x t => by rfl
section
variable {prog : Program} {w : World} {A : Around} {E : Value → Shared → Prop} {s : Shared}
/-- a type's call with keywords: made by its own __new__, object.__init__ behind it -/
theorem typeKw {T newId : String} {Bn : Builtin} {xs : List Value} {kw : List (Str × Value)} {S : PySem.Spec} {Q : Value → Shared → Prop} (ft : TypeCalled T newId "object.__init__") (hne : (some newId != some "object.__new__") = true)
    (a1 : checkTypeCall T ⟨xs, kw⟩ = pure ()) (a2 : checkBuiltinCall newId ⟨.type T :: xs, kw⟩ = pure ()) (a3 : ∀ x, argsOk "object.__init__" ⟨x :: xs, kw⟩) (en : entryFor table newId = some Bn) (mt : Meets (Bn ⟨.type T :: xs, kw⟩) S)
    (im : ∀ self, Meets (Builtin.«object.__init__» ⟨self :: xs, kw⟩) (fun _ R s => s.TypeIs self T ∧ R (.ok (.ret .none)) s)) (sp : S A.in1 (wants (fun v s1 => s1.TypeIs v T ∧ Q v s1) E) s) : wpAny (model prog w) A (call (.type T) xs kw) Q E s := by
  obtain ⟨c, tl, b1⟩ := ft.mro
  have b2 := ft.made; have b3 := ft.sub; have b4 := ft.notType; have b5 := ft.canCreate
  refine wpAny_call (codeAny_of_tree ?_); show wpAny _ _ (callAny (.type T) _) _ _ _
  refine wpAny_pure ⟨Code.quiet_builtin _ (by decide +kernel), codeAny_builtin PySem.F.entry_type_call ?_⟩; rw [Around.under_plain (weight_type_call_type T xs kw) (units_type_call_type T xs kw)]
  repeat (any_goals (first | assumption | wp_step))
  refine codeAny_mono (codeAny_call_builtin ft.plain en (wpAny_of_eq a2 (mt prog w A.in1 _ s sp))) fun r s1 q => ?_
  match r, q with
  | .error e, q => exact q
  | .ok (.ret v), q =>
    obtain ⟨hT, q⟩ := q
    have b6 := ft.init.lookup; have b7 := ft.init.bind v
    repeat (any_goals (first | assumption | wp_step))
    refine codeAny_mono (codeAny_call_builtin (R := wants (fun r s2 => r = .none ∧ Q v s2) E) ft.init.plain PySem.F.entry_object_init (ft.init.check _ _ _ _ _ _ _ _ hT (a3 v) (im v prog w A.in1 _ s1 ⟨hT, rfl, q⟩))) fun r2 s2 q2 => ?_
    match r2, q2 with
    | .error e, q2 => exact q2
    | .ok (.ret x), q2 =>
      obtain ⟨rfl, q2⟩ := q2
      repeat (any_goals (first | assumption | wp_step))
end
theorem init_kw (v : Value) (k : Tok) (self : Value) : Meets (Builtin.«object.__init__» ⟨self :: [v], [("start", .int 1 k)]⟩) (fun _ R s => s.TypeIs self "enumerate" ∧ R (.ok (.ret .none)) s) := by
  refine Meets.of_wp fun prog w A R s hs => ?_
  obtain ⟨hT, hq⟩ := hs
  have b1 := F.called_enumerate.init.lookup
  have b2 := F.called_enumerate.made
  have b3 : (some "enumerate.__new__" != some "object.__new__") = true := by decide
  repeat (any_goals (first | assumption | wp_step))
  all_goals exact ⟨_, rfl, hq⟩
section
variable {prog : Program} {w : World} {A : Around} {E : Value → Shared → Prop} {s : Shared}
theorem enumS_call {v : Value} {k : Tok} {o : Obj} {Hh : Heap → Prop} {R : Value → Shared → Prop} (B : Begins v o Hh) (h1 : Hh s.heap)
    (q : ∀ h', IsEnum h' (s.heap.objs.size + 1) s.heap.objs.size 1 .none → h'.get? s.heap.objs.size = some o → (∀ b o, s.heap.get? b = some o → h'.get? b = some o) → R (.ref (s.heap.objs.size + 1)) { s with heap := h' }) :
    wpAny (model prog w) A (call (.type "enumerate") [v] [("start", .int 1 k)]) R E s := by
  refine typeKw F.called_enumerate (by decide) (tc _ _) (nc _ _) (fun x => ic _ _ _) F.entry_enumerate_new (enumS_made B) (init_kw v k) ⟨h1, ?_⟩
  have hz : (s.heap.push o).objs.size = s.heap.objs.size + 1 := Heap.size_push ..
  show _ ∧ _
  rw [hz]
  have he : IsEnum ((s.heap.push o).push { cls := .type "enumerate", data := .fields #[.none, .bool false, .ref s.heap.objs.size, rawInt 1, .none, .none] }) (s.heap.objs.size + 1) s.heap.objs.size 1 .none := by
    have := Heap.get?_push_size (s.heap.push o) (o := { cls := .type "enumerate", data := .fields #[.none, .bool false, .ref s.heap.objs.size, rawInt 1, .none, .none] }) rfl
    rw [hz] at this
    exact this
  exact ⟨⟨_, he, rfl⟩, q _ he (Heap.get?_push_of_some _ (Heap.get?_push_size _ B.free)) fun b o x => Heap.get?_push_of_some _ (Heap.get?_push_of_some _ x)⟩
end
/-- the list at a, each item in a new pair behind its place told from 1 -/
def Its (K : PySem.W.Frag) (a : Addr) : It :=
  ⟨fun i H => ∃ (xs : List V) (x : V), SqL K H a xs ∧ xs[i]? = some x, fun i H v H' => ∃ T x, v = .ref T ∧ H T = none ∧ H' = upd H T (.tup [.int ((i + 1 : Nat) : Int), x]) ∧ ∀ xs, SqL K H a xs → xs[i]? = some x, fun i H => ∃ xs : List V, SqL K H a xs ∧ xs.length = i⟩
theorem draws_up {prog : Program} {w : World} {A : Around} {it : Addr} {fp : List Addr} {n : Nat} {P : Nat → Value → Prop} {St : Nat → Heap → Prop} (D : Draws prog w A it fp n P St) : Draws prog w A it fp (n + 1) (fun i x => ∃ j, i = j + 1 ∧ P j x) (fun i h => ∃ j, i = j + 1 ∧ St j h) where
  live := fun i h ⟨j, e, st⟩ => D.live j h st
  frame := fun i h h' ⟨j, e, st⟩ hk => ⟨j, e, D.frame j h h' st hk⟩
  item := fun i s Q E hi ⟨j, e, st⟩ hQ => D.item j s Q E (by omega) st fun x h' tk p st' sb => hQ x h' tk ⟨j, e, p⟩ ⟨j + 1, by omega, st'⟩ sb
  done := fun s Q E ⟨j, e, st⟩ hE => by
    have : j = n := by omega
    subst this
    exact D.done s Q E st hE
theorem turn_enumS {P : Program} {w : World} {K : PySem.W.Frag} {elts : List Expr} {kk : Nat} {tpos : Pos} (a e it : Addr) :
    Turn P w K (.Tuple elts kk tpos) (Its K a) [e, it] e (fun i h => (∃ old, IsEnum h e it ((i + 1 : Nat) : Int) old) ∧ h.IsListIter it a i ∧ e ≠ it) where
  mem := by simp
  obj := fun i h st b hb => by
    obtain ⟨⟨old, he⟩, ⟨o, ho, hc, hd⟩, _⟩ := st
    rcases (by simpa using hb : b = e ∨ b = it) with z | z
    · rw [z]; exact ⟨_, he, fun v q => nomatch q⟩
    · rw [z]; exact ⟨o, ho, fun v q => by rw [hd] at q; cases q⟩
  keep := fun i h h' st k => let ⟨⟨old, he⟩, hi, hne⟩ := st; ⟨⟨old, k e (by simp) _ he⟩, hi.at fun o q => k it (by simp) o q, hne⟩
  item := by
    intro X hP hw hK hc i pins s σ H E I hf st hg
    subst hP hw hK
    obtain ⟨⟨old, he⟩, hit, hne⟩ := st
    obtain ⟨xs, x, hq, hx⟩ := hg
    obtain ⟨its, rv, p, hz⟩ := I.list hq
    obtain ⟨u, hu, ru⟩ := rv.get hx
    have hel : e < s.heap.objs.size := Heap.lt_size he
    have hil : it < s.heap.objs.size := by obtain ⟨_, q, _⟩ := hit; exact Heap.lt_size q
    have ait : a ≠ it := fun z => by
      obtain ⟨o1, q1, c1, _⟩ := p.isList
      obtain ⟨o2, q2, c2, _⟩ := hit
      rw [z] at q1
      rw [q1] at q2
      cases q2
      rw [c1] at c2
      exact absurd (Value.type.inj c2) (by decide)
    have ea : e ≠ a := fun z => by
      obtain ⟨o1, q1, c1, _⟩ := p.isList
      have he' := he
      unfold IsEnum at he'
      rw [z, q1] at he'
      cases he'
      exact absurd (Value.type.inj c1) (by decide)
    refine wpAny_pyNext_enum_itemD (i := i + 1) (draws_up (Draws.list (A := X.A.in1) (I.ok.hd hc) it a ait its.toArray)) he ⟨i, rfl, hit, p.isList⟩ (by have := (List.getElem?_eq_some_iff.mp hu).1; simpa using this) hne (by simp [hne, ea]) fun x' h' tk hP ho hst' hT hsz hk => ?_
    obtain ⟨j, ej, hP⟩ := hP
    have ej' : i = j := by omega
    subst ej'
    obtain ⟨j2, ej2, hst'⟩ := hst'
    have ej3 : i + 1 = j2 := by omega
    subst ej3
    have ex : x' = u := by
      have hP' : its.toArray[i]? = some x' := hP
      rw [List.getElem?_toArray, hu] at hP'
      cases hP'
      rfl
    subst ex
    refine ⟨_, rfl, wpAny_letOwnedTupleGo_enum (s := { s with heap := h', toks := tk + 1 }) ho fun h'' he' sb => ?_⟩
    have hT2 : h''.get? s.heap.objs.size = some { cls := .type "tuple", data := .seq #[.int ((i + 1 : Nat) : Int) tk, x'] } := (sb.2 _ (Nat.ne_of_gt hel)).trans hT
    have new : ObjOk X.prog X.w (upd H s.heap.objs.size (.tup [.int ((i + 1 : Nat) : Int), x])) h'' s.heap.objs.size (.tup [.int ((i + 1 : Nat) : Int), x]) :=
      ⟨by show 2 ≤ sizeLine; decide, [.int ((i + 1 : Nat) : Int) tk, x'], .cons ⟨_, rfl⟩ (.cons ru .nil), ⟨_, hT2, rfl, _, rfl⟩⟩
    have I1 : Inv X pins σ (upd H s.heap.objs.size (.tup [.int ((i + 1 : Nat) : Int), x])) { s with heap := h'', toks := tk + 1 } :=
      I.turnedNew (ch := [e, it]) (fun b ob hb q => (sb.2 b (fun z => hb (by simp [z]))).trans (hk b ob (fun z => hb (by simp [z])) (fun z => hb (by simp [z])) q)) hf (Nat.le_refl _) new
    refine ⟨.ref s.heap.objs.size, _, I1, rfl, ⟨_, x, rfl, I.hok.fresh (Nat.le_refl _), rfl, fun ys hy => by rw [I.list_inj hy hq]; exact hx⟩, ⟨⟨x', ?_⟩, hst'.1.at fun o q => (sb.2 it (Ne.symm hne)).trans q, hne⟩, fun b hb => ?_⟩
    · have e1 : ((i + 1 + 1 : Nat) : Int) = ((i + 1 : Nat) : Int) + 1 := by omega
      rw [e1]; exact he'
    · have hb' : b < s.heap.objs.size := by
        rcases (by simpa using hb : b = e ∨ b = it) with z | z
        · rw [z]; exact hel
        · rw [z]; exact hil
      rw [upd_ne (Nat.ne_of_lt hb')]
      exact (hf b hb).1
  done := by
    intro X hP hw hK hc i pins s σ H E I hf st hg
    subst hP hw hK
    obtain ⟨⟨old, he⟩, hit, hne⟩ := st
    obtain ⟨xs, hq, hx⟩ := hg
    obtain ⟨its, rv, p, hz⟩ := I.list hq
    obtain ⟨f0, f1, f2, f3, f4, f5⟩ := hf it (by simp)
    have hl := rv.length
    have ait : a ≠ it := fun z => by
      obtain ⟨o1, q1, c1, _⟩ := p.isList
      obtain ⟨o2, q2, c2, _⟩ := hit
      rw [z] at q1
      rw [q1] at q2
      cases q2
      rw [c1] at c2
      exact absurd (Value.type.inj c2) (by decide)
    have en : its.toArray.size = i := by rw [List.size_toArray]; omega
    exact wpAny_pyNext_enum_endD (Draws.list (A := X.A.in1) (I.ok.hd hc) it a ait its.toArray) he ⟨by rw [en]; exact hit, p.isList⟩ fun h' eb => ⟨rfl, I.turned (t' := s.toks) (fun b o hb q => eb b o hb q) f0 f1 f3 f4 f5⟩
  self := fun A i s Q E st h => let ⟨⟨_, he⟩, _⟩ := st; wpAny_pyIter_enum he h
theorem callTypeK {M : Model} {A : Around} {E : Value → Shared → Prop} {s : Shared} {pos : Pos} {T : String} {xs : List (Bool × Sem Value)} {kws : List (Option Str × Sem Value)} {Q : Value → Shared → Prop} (h1 : xs.any (·.1) = false) (h2 : kws.any (·.1.isNone) = false)
    (h : wpAny M A (evalArgs (.type T) true xs kws) (fun a s1 => wpAny M A (call (.type T) a.pos a.kw) Q E s1) E s) : wpAny M A (callWith pos (.type T) [] xs kws) Q E s := by
  unfold callWith
  refine wpAny_bind (wpAny_holding (wpAny_mono h (fun a s1 q => wpAny_bind (wpAny_standAt ?_)) fun _ _ x => x))
  simp only [h1, h2, Bool.or_false]; refine wpAny_bind (wpAny_pure ?_)
  exact wpAny_bind (wpAny_mono q (fun r s2 q2 => wpAny_bind (wpAny_holding (wpAny_point (wpAny_pure q2)))) fun _ _ x => x)
/-- enumerate(xs, start=1), xs a list -/
def iEnumS (K : PySem.W.Frag) (ta : TA) : TI := fun σ H R => ta σ H fun vs H1 => ∃ a, vs = [.ref a] ∧ (∃ xs, SqL K H1 a xs) ∧ R (Its K a) H1
section
variable {X : Cx} {e : Expr} {ta : TA} {p pos tpos p1 : Pos} {k1 : Nat} {elts : List Expr} {kk : Nat} {kws : List Keyword}
theorem pi_enumS (hg : Gl X "enumerate") (hm : X.mg "enumerate" = none) (ha : PA X [e] ta) (hk : PK X kws (fun σ H Q => Q [.int 1] H))
    (he : backTo pos (starEach [e] X.env) = (false, eval e X.env) :: backTo pos (starEach [] X.env) := by rfl) (hpl : (backTo pos (starEach [e] X.env)).any (·.1) = false := by rfl)
    (hall : (backToKw pos (keywordEach kws X.env)).all (·.1.isSome) = true := by rfl) (hnone : (backToKw pos (keywordEach kws X.env)).any (·.1.isNone) = false := by rfl) (hks : (backToKw pos (keywordEach kws X.env)).filterMap (·.1) = [("start" : Str)] := by rfl) :
    PI X (.Tuple elts kk tpos) (.Call (.Name "enumerate" p) [e] kws pos) (iEnumS X.K ta) := by
  refine ⟨fun pins s σ H R I h => ?_⟩
  refine wpAny_Call_Name_kw (ld_blt I hg hm boot_enumerate ?_)
  refine callTypeK hpl hnone ?_
  have hA := ha.run pos pins s σ H _ I h
  rw [he] at hA ⊢
  refine PyProof.Rows.evalArgs_kwB hall (thn hA fun us s1 ⟨vs, H1, I1, r1, a, ex, ⟨xs, hq⟩, q⟩ => thn (hk.run pos pins s1 σ H1 (fun zs H2 => zs = [.int 1] ∧ H2 = H1) I1 ⟨rfl, rfl⟩) fun ws s2 ⟨zs, H2, I2, r2, ez, eH⟩ => ?_)
  rw [hks]
  subst ex ez eH
  cases r1 with
  | cons r rr =>
    cases rr
    cases r
    cases r2 with
    | cons r2 rr2 =>
      cases rr2
      obtain ⟨k, rfl⟩ := r2
      have fp : ∀ b ∈ [s2.heap.objs.size + 1, s2.heap.objs.size], FpOk X pins H2 b := fun b hb => by
        have hle : s2.heap.objs.size ≤ b := by
          rcases (by simpa using hb : b = s2.heap.objs.size + 1 ∨ b = s2.heap.objs.size) with z | z
          · rw [z]; exact Nat.le_add_right _ _
          · rw [z]; exact Nat.le_refl _
        exact I2.fpOk hle (I2.hok.fresh hle)
      obtain ⟨its, rv, p', hz⟩ := I2.list hq
      refine enumS_call (begins_list a its.toArray) p'.isList fun h' he hit hk => wpAny_pyIter_enum he ?_
      exact ⟨s2.heap.objs.size + 1, [s2.heap.objs.size + 1, s2.heap.objs.size], _, _, H2, rfl, I2.kept (t' := s2.toks) hk, turn_enumS a (s2.heap.objs.size + 1) s2.heap.objs.size, ⟨⟨.none, he⟩, ⟨_, hit, rfl, rfl⟩, Nat.succ_ne_self _⟩, fp, q⟩
end
end Mi
namespace Mi
open PySem PySem.Spec PyProof.Rows L2
def enmS (xs : List D) : List D := xs.mapIdx fun i x => .tuw [.int ((i + 1 : Nat) : Int), x]
theorem enmS_len (xs : List D) : (enmS xs).length = xs.length := by simp [enmS]
theorem enmS_get {xs : List D} {i : Nat} {d : D} (h : (enmS xs)[i]? = some d) : ∃ x, xs[i]? = some x ∧ d = .tuw [.int ((i + 1 : Nat) : Int), x] := by
  unfold enmS at h
  rw [List.getElem?_mapIdx] at h
  cases e : xs[i]? with
  | none => rw [e] at h; cases h
  | some x => rw [e] at h; exact ⟨x, rfl, (Option.some.inj h).symm⟩
def iEnmS (a : ME (List D)) : ME Itm := fun env s => (a env s).bind fun x s => match x with
  | [.loc l] => match s[l]? with
    | some (.lst xs) => .ok (Itm.mk (enmS xs) (fun s2 => s2[l]? = some (.lst xs))) s
    | _ => .no
  | _ => .no
section
variable {K : PySem.W.Frag} {m : List Addr} {H : Hp}
theorem enmS_turn {m2 : List Addr} {H2 H3 : Hp} {s2 : Store} {v : V} {k : Int} {i : Nat} {x : D} {xs : List D} {vs : List V} (r2 : Rel K m2 H2 s2) (h : Reps K m2 H2 xs vs) (e : xs[i]? = some x) {T : Addr} {y : V} (ev : v = .ref T) (hT : H2 T = none) (h3 : H3 = upd H2 T (.tup [.int k, y])) (hy : vs[i]? = some y) :
    Le K m2 H2 m2 H3 ∧ Rel K m2 H3 s2 ∧ Rep K m2 H3 (.tuw [.int k, x]) v := by
  subst ev h3
  obtain ⟨w, hw, rw'⟩ := h.get e
  rw [hw] at hy
  cases hy
  exact ⟨le_new hT, r2.tmp hT, rep_newtuw hT (.cons (.int k) (.cons rw' .nil))⟩
theorem itr_enumS {l : Nat} {xs : List D} {a : Addr} (h : m[l]? = some a) : ItR K m H ⟨enmS xs, fun s2 => s2[l]? = some (.lst xs)⟩ (Its K a) := fun m2 H2 s2 l2 r2 g => by
  have g' : s2[l]? = some (.lst xs) := g
  obtain ⟨vs, h1, h2⟩ := r2.list (l2.get h) g'
  have hq : SqL K H2 a vs := .inl (.inl h1)
  refine ⟨fun i d e => ?_, ⟨vs, hq, by rw [← h2.length]; exact (enmS_len xs).symm⟩⟩
  obtain ⟨x, hx, rfl⟩ := enmS_get e
  obtain ⟨v, hv, rv⟩ := h2.get hx
  refine ⟨⟨vs, v, hq, hv⟩, fun w H3 y => ?_⟩
  obtain ⟨T, z, ev, hT, h3, y⟩ := y
  exact enmS_turn r2 h2 hx ev hT h3 (y vs hq)
end
section
variable {X : Cx} {W : WX} {e : Expr} {p pos tpos p1 kp : Pos} {k1 : Nat} {elts : List Expr} {kk : Nat} {fs : ME (List D)}
theorem ci_enumS {v1 : Expr} (hg : Gl X "enumerate") (hm : X.mg "enumerate" = none) (ha : PA X [e] (Ta X.K X.mg W fs)) (h1 : PE X v1 (fun _ H Q => Q (.int 1) H))
    (he : backTo pos (starEach [e] X.env) = (false, eval e X.env) :: backTo pos (starEach [] X.env) := by rfl) (hpl : (backTo pos (starEach [e] X.env)).any (·.1) = false := by rfl)
    (hall : (backToKw pos (keywordEach [⟨some "start", v1, kp⟩] X.env)).all (·.1.isSome) = true := by rfl) (hnone : (backToKw pos (keywordEach [⟨some "start", v1, kp⟩] X.env)).any (·.1.isNone) = false := by rfl) (hks : (backToKw pos (keywordEach [⟨some "start", v1, kp⟩] X.env)).filterMap (·.1) = [("start" : Str)] := by rfl) :
    PI X (.Tuple elts kk tpos) (.Call (.Name "enumerate" p) [e] [⟨some "start", v1, kp⟩] pos) (Ti X.K X.mg W (iEnmS fs)) := PI.imp (pi_enumS hg hm ha (pk_cons h1 pk_nil) he hpl hall hnone hks) fun σ H Rw h =>
  Tm.bind (k := fun _ (x : List D) s => match x with
  | [.loc l] => match s[l]? with
    | some (.lst xs) => R.ok (Itm.mk (enmS xs) (fun s2 => s2[l]? = some (.lst xs))) s
    | _ => R.no
  | _ => R.no) h fun m1 H1 env x vs s1 r1 E1 p1 g1 => by
    split at g1
    · obtain ⟨v, rfl, h1⟩ := reps1 p1
      cases h1 with
      | loc hl =>
        split at g1
        · rename_i q
          obtain ⟨vs, h1, h2⟩ := r1.list hl q
          exact ⟨_, rfl, ⟨vs, .inl (.inl h1)⟩, g1 m1 H1 _ .refl r1 (itr_enumS hl)⟩
        · exact g1.elim
    · exact g1.elim
end
end Mi
namespace Mi
open PySem PySem.Spec PyProof.Rows L2
/-! ### not x, any x -/
noncomputable def eNotT (a : ME D) : ME D := fun env s => (a env s).bind fun x s => match dTru s x with
  | some b => .ok (.bl !b) s
  | none => .no
section
variable {X : Cx} {W : WX} {pos : Pos} {a : Expr} {fa : ME D}
theorem ce_notT (ha : PE X a (Te X.K X.mg W fa)) : PE X (.UnaryOp .Not a pos) (Te X.K X.mg W (eNotT fa)) :=
  PE.imp (pe_notT ha) fun σ H Q h => Tm.bind (k := fun _ (x : D) s => match dTru s x with | some b => R.ok (D.bl !b) s | none => R.no) h fun m1 H1 env x v s1 r1 E1 p1 g1 => by
    cases q : dTru s1 x with
    | none => rw [q] at g1; exact g1.elim
    | some k => rw [q] at g1; exact ⟨k, dTru_ok r1 p1 q, g1.now r1 (.bl _)⟩
end
section
variable {K : D → Store → Prop} {E : Ex → Store → Prop} {env : Sl} {s : Store} {a : ME D}
theorem w_notT (h : WR (a env s) (fun x s => TruK x s fun b s => K (.bl !b) s) E) : WR (eNotT a env s) K E :=
  wr_bind (wr_mono h (fun x s ⟨b, e, h⟩ => by rw [e]; exact h) fun _ _ h => h)
end
end Mi
namespace Mi
open PySem PySem.Spec PyProof.Rows L2
/-! ### t.index(x), a tuple that is made at run time -/
theorem tupS_is {X : Cx} {pins : List (Addr × Obj)} {σ : L2.St} {H : Hp} {s : Shared} {x : V} {v : Value} {a : Addr} {vs : List V} (I : Inv X pins σ H s) (r : RelV x v) (hx : x = .ref a) (ty : TupS H a vs) :
    s.TypeIs v "tuple" ∧ ∀ a, v = .ref a → ∃ ob, s.heap.get? a = some ob ∧ ob.dict = none := by
  subst hx
  cases r
  obtain ⟨o, h1, h2, h3⟩ := ty
  obtain ⟨h4, _⟩ := I.hok a _ h3
  exact ⟨⟨o, h4, h1⟩, fun b e => by cases e; exact ⟨o, h4, h2⟩⟩
section
variable {X : Cx} {W : WX} {o e : Expr} {es : List Expr} {to : TE} {t : TA} {name : Str} {apos cpos : Pos} {id : String} {r : V → List V → Hp → VK → Prop}
def tBMT (r : V → List V → Hp → VK → Prop) (to : TE) (t : TA) : TE := fun σ H Q => to σ H fun x H1 => (∃ a vs, x = .ref a ∧ TupS H1 a vs) ∧ t σ H1 fun xs H2 => r x xs H2 Q
theorem pe_bmT (pa : PlainAttrs "tuple") (slot : Slot "tuple" name id) (hty : typeOf (.builtin id) = pure (.type "method_descriptor")) (hm : MtR X id r) (ho : PE X o to) (ha : PA X (e :: es) t)
    (hbase : attributeBase o name X.env (eval o X.env) = eval o X.env := by rfl)
    (hfew : ((backTo cpos (starEach (e :: es) X.env)).all (fun x => !x.1) && (backToKw cpos (keywordEach [] X.env)).all (fun x => x.1.isSome)
      && decide ((e :: es).length + ([] : List Keyword).length + (if ([] : List Keyword).isEmpty then 0 else 1) < 30)) = true := by rfl)
    (hline : (apos.endLine == cpos.line) = true := by rfl) (hs : starEach (e :: es) X.env = (false, eval e X.env) :: starEach es X.env := by rfl) (hplain : (backTo cpos (starEach es X.env)).any (·.1) = false := by rfl) :
    PE X (.Call (.Attribute o name apos) (e :: es) [] cpos) (tBMT r to t) := by
  refine ⟨fun pins s σ H Q I h => ?_⟩
  refine wpAny_Call_method_late hbase hfew hline rfl (thn (ho.run pins s σ H _ I h) fun v s1 ⟨x, H1, I1, r1, ⟨a, vs, hx, ty⟩, q1⟩ => ?_)
  obtain ⟨h1, h2⟩ := tupS_is I1 r1 hx ty
  refine ⟨"tuple", id, pa, slot, hty, h1, h2, ?_⟩
  have hA := ha.run cpos pins s1 σ H1 _ I1 q1
  rw [hs] at hA ⊢
  refine Calls.callWith_builtin (by show (false || (backTo cpos (starEach es X.env)).any (·.1)) = false; rw [hplain] <;> rfl) (Calls.evalArgs_plain ?_)
  exact thn hA fun us s2 ⟨vs, H2, I2, r2, q2⟩ => hm pins s2 σ H2 x vs v us Q I2 r1 r2 q2
def isT : D → Bool
  | .tup _ => true
  | _ => false
def eMtT (g : D → List D → Store → Option (D × Store)) (a : ME D) (fs : ME (List D)) : ME D := fun env s => (a env s).bind fun x s => if isT x = true then (fs env s).bind fun xs s => R.of (g x xs s) else .no
@[simp] theorem eMtT_eq (g : D → List D → Store → Option (D × Store)) (a : ME D) (fs : ME (List D)) (env : Sl) (s : Store) : eMtT g a fs env s = (a env s).bind fun x s => if isT x = true then (fs env s).bind fun xs s => R.of (g x xs s) else .no := rfl
variable {g : D → List D → Store → Option (D × Store)} {fo : ME D} {fs : ME (List D)}
theorem ce_bmT (pa : PlainAttrs "tuple") (slot : Slot "tuple" name id) (hty : typeOf (.builtin id) = pure (.type "method_descriptor")) (hm : MtR X id r) (hs : MtS X.K r g) (ho : PE X o (Te X.K X.mg W fo)) (ha : PA X (e :: es) (Ta X.K X.mg W fs))
    (hbase : attributeBase o name X.env (eval o X.env) = eval o X.env := by rfl)
    (hfew : ((backTo cpos (starEach (e :: es) X.env)).all (fun x => !x.1) && (backToKw cpos (keywordEach [] X.env)).all (fun x => x.1.isSome)
      && decide ((e :: es).length + ([] : List Keyword).length + (if ([] : List Keyword).isEmpty then 0 else 1) < 30)) = true := by rfl)
    (hline : (apos.endLine == cpos.line) = true := by rfl) (hst : starEach (e :: es) X.env = (false, eval e X.env) :: starEach es X.env := by rfl) (hplain : (backTo cpos (starEach es X.env)).any (·.1) = false := by rfl) :
    PE X (.Call (.Attribute o name apos) (e :: es) [] cpos) (Te X.K X.mg W (eMtT g fo fs)) :=
  PE.imp (pe_bmT pa slot hty hm ho ha hbase hfew hline hst hplain) fun σ H Q h => Tm.bind (k := fun env x s => if isT x = true then (fs env s).bind fun xs s => R.of (g x xs s) else R.no) h fun m1 H1 env x v s1 r1 E1 p1 g1 => by
    cases x with
    | tup ys =>
      have g1 : G X.K X.mg (Rep X.K) W _ m1 H1 _ ((fs env s1).bind fun xs s => R.of (g (.tup ys) xs s)) := g1
      refine ⟨?_, ⟨m1, env, s1, r1, E1, G.bind g1 fun m2 H2 xs vs s2 l2 r2 p2 g2 => hs r2 (p1.mono l2) p2 g2⟩⟩
      cases p1 with
      | tup h _ => exact ⟨_, _, rfl, h⟩
    | _ => exact g1.elim
end
end Mi
namespace Mi
open PySem PySem.Spec PyProof.Rows L2
/-! ### forward rules for laws with dicts -/
section
variable {α β : Type} {K : D → Store → Prop} {KI : Itm → Store → Prop} {E : Ex → Store → Prop} {env : Sl} {s s' : Store} {a b c : ME D} {as : ME (List D)} {t u : ME Bool} {d x y : D} {P : RS → Prop} {Z : Hs} {l : Nat} {xs : List D} {ks : List (Key × D)} {k : Key} {i : Int}
theorem o_ixATm (h0 : 0 ≤ i) (h1 : i < xs.length) (k : ∀ d ∈ xs, xs[i.toNat]? = some d → K d s) : WO (dIxA (.tup xs) (.int i) s) K := by
  rw [dIxA_tup]
  exact o_ixTm h0 h1 k
theorem o_ixAL (H : Has s Z) (hm : (l, Ls xs) ∈ Z) (e : L2.atI xs i = some d) (k : K d s) : WO (dIxA (.loc l) (.int i) s) K := wo_eq (by rw [dIxA_loc (H.lst hm), e]; rfl) k
theorem o_ixALm (H : Has s Z) (hm : (l, Ls xs) ∈ Z) (h0 : 0 ≤ i) (h1 : i < xs.length) (k : ∀ d ∈ xs, xs[i.toNat]? = some d → K d s) : WO (dIxA (.loc l) (.int i) s) K := by
  obtain ⟨n, rfl⟩ := Int.eq_ofNat_of_zero_le h0
  have hn : n < xs.length := by omega
  exact o_ixAL H hm (L2.atI_nat (v := xs[n]) (by simp [hn])) (k _ (List.getElem_mem _) (by simp [hn]))
theorem o_ixAD (H : Has s Z) (hm : (l, Is (.dic ks)) ∈ Z) (hk : keyOf x = some k) (hd : getD ks k = some d) (q : K d s) : WO (dIxA (.loc l) x s) K := wo_eq (dIxA_dic (H.is hm) hk hd) q
theorem o_notD (H : Has s Z) (hm : (l, Is (.dic ks)) ∈ Z) (hk : keyOf x = some k) (q : K (.bl (!(getD ks k).isSome)) s) : WO (dNotIn x (.loc l) s) K := wo_eq (by simp [dNotIn, dInB, dicOf, H.is hm, hk]) q
theorem pk_dic (H : Has s Z) (i : Nat) (hi : Z[i]? = some (l, Is (.dic ks))) (hk : keyOf x = some k) (hz : ks.length ≤ 1000000) (q : ∀ s', Has s' (Z.set i (l, Is (.dic (putD ks k y)))) → P (.nx env s')) : PutK pAny (.loc l) x y env s P :=
  putk (pAny_dic (H.is (List.mem_of_getElem? hi)) hk hz y) (q _ (H.put i hi rfl))
theorem Has.keep {Q : Cell → Prop} {c : Cell} (H : Has s Z) (hm : (l, Q) ∈ Z) (hc : Q c) : Has (s.set l c) Z := by
  obtain ⟨j, hj, e⟩ := List.getElem_of_mem hm
  have hg : Z[j]? = some (l, Q) := by rw [List.getElem?_eq_getElem hj, e]
  have := H.put j hg hc
  rwa [show Z.set j (l, Q) = Z by
    apply List.ext_getElem?
    intro n
    rw [List.getElem?_set]
    by_cases q : j = n
    · subst q; rw [if_pos rfl, if_pos hj, hg]
    · rw [if_neg q]] at this
theorem pk_keep {Q : Cell → Prop} {j : Nat} (H : Has s Z) (hm : (l, Q) ∈ Z) (hs : s[l]? = some (.lst xs)) (hj : j < xs.length) (hc : Q (.lst (xs.set j y))) (q : ∀ s', Has s' Z → s'[l]? = some (.lst (xs.set j y)) → P (.nx env s')) : PutK pAny (.loc l) (.int (j : Nat)) y env s P :=
  putk (s'' := s.set l (.lst (xs.set j y))) (by
    rw [pAny_loc hs]
    simp only [pList, hs]
    have : ixN xs.length (j : Int) = some j := by unfold ixN; simp; omega
    rw [this]
    rfl) (q _ (H.keep hm hc) (get_set hs))
theorem o_slA {lo hi : Option Int} (q : K (.tup (cutD xs lo hi)) s) : WO (dSl (.tup xs) lo hi s) K := q
theorem o_slAL {lo hi : Option Int} (H : Has s Z) (hm : (l, Ls xs) ∈ Z) (q : ∀ k s', s.length ≤ k → Has s' ((k, Ls (cutD xs lo hi)) :: Z) → K (.loc k) s') : WO (dSl (.loc l) lo hi s) K :=
  wo_eq (by simp [dSl, lstOf, H.lst hm]) (q _ _ (Nat.le_refl _) (H.new _))
theorem o_listAT (H : Has s Z) (q : ∀ l s', s.length ≤ l → Has s' ((l, Ls xs) :: Z) → K (.loc l) s') : WO (dListA [.tup xs] s) K := q _ _ (Nat.le_refl _) (H.new _)
theorem w_dict0 (H : Has s Z) (h : ∀ l s', s.length ≤ l → Has s' ((l, Is (.dic [])) :: Z) → K (.loc l) s') : WR (eDict0 env s) K E := h _ _ (Nat.le_refl _) (H.new _)
def EnmK (xs : List D) (s : Store) (KI : Itm → Store → Prop) : Prop := ∃ ys, xs = [.tup ys] ∧ KI (Itm.mk (enm ys) always) s
theorem w_enm (h : WR (as env s) (fun xs s => EnmK xs s KI) E) : WR (iEnm as env s) KI E := by
  rw [iEnm_eq]
  exact wr_bind (wr_mono h (fun xs s ⟨ys, e, h⟩ => by subst e; exact h) fun _ _ h => h)
theorem enmk {ys : List D} (h : KI (Itm.mk (enm ys) always) s) : EnmK [.tup ys] s KI := ⟨ys, rfl, h⟩
theorem w_dc {it : ME Itm} {vs : List Nat} {gt : D → Sl → Option Sl} (h : WR (it env s) (fun i s => WR (dcL i.guard gt t a b (wipeE env vs) i.xs [] s) (fun acc s => K (.loc s.length) (s ++ [.dic acc])) E) E) : WR (eDc it vs gt t a b env s) K E :=
  wr_bind (wr_mono h (fun _ _ h => wr_bind h) fun _ _ h => h)
end
/-! ### texts -/
abbrev cp (z : Str) : List Nat := z.cps.toList
theorem cp_inj {x y : Str} (h : cp x = cp y) : x = y := PySem.W.str_of_cps h
def Tk (z : Str) : Prop := ∀ c ∈ cp z, c < 1000
theorem tk_ok {z : Str} (h : Tk z) : PyData.strOk z = true := by
  unfold PyData.strOk
  rw [← Array.all_toList]
  exact List.all_eq_true.mpr fun c hc => by have := h c hc; simp; omega
theorem pysS : ∀ ws : List Str, pys0 (ws.map D.str) = some (ws.map PyData.str)
  | [] => rfl
  | x :: r => by rw [List.map_cons, pys0, py0, pysS r]; rfl
theorem layS : ∀ ws : List Str, (∀ w ∈ ws, Tk w) → PyData.canLayAll0 (ws.map PyData.str) = true ∧ PyData.depthAll (ws.map PyData.str) = 0
  | [], _ => ⟨by simp [PyData.canLayAll0], by simp [PyData.depthAll]⟩
  | x :: r, h => by
    obtain ⟨a, b⟩ := layS r fun y hy => h y (by simp [hy])
    constructor
    · simp [PyData.canLayAll0, PyData.canLay0, tk_ok (h x (by simp)), a]
    · simp [PyData.depthAll, PyData.depth, b]
theorem eqvS : ∀ A B : List Str, PyData.eqvAll (A.map PyData.str) (B.map PyData.str) = decide (A = B)
  | [], [] => by simp [PyData.eqvAll]
  | [], _ :: _ => by simp [PyData.eqvAll]
  | _ :: _, [] => by simp [PyData.eqvAll]
  | a :: A, b :: B => by
    have ih := eqvS A B
    simp [PyData.eqvAll, PyData.eqv, ih, Bool.beq_eq_decide_eq]
theorem shS {ws : List Str} (h : ∀ w ∈ ws, Tk w) : SeqAt.shaped (.list (ws.map PyData.str)) = true := by
  obtain ⟨a, b⟩ := layS ws h
  simp [SeqAt.shaped, PyData.canLay0, PyData.depth, a, b]
/-- two lists of texts -/
theorem ne_strs {s : Store} {l k : Nat} {A B : List Str} (h : s[l]? = some (.lst (A.map D.str))) (h2 : s[k]? = some (.lst (B.map D.str))) (hA : ∀ w ∈ A, Tk w) (hB : ∀ w ∈ B, Tk w) : dNe (.loc l) (.loc k) s = some (.bl (!decide (A = B)), s) := by
  have h1 : py1 s (.loc l) = some (.list (A.map PyData.str)) := by simp [py1, h, pysS]
  have h3 : py1 s (.loc k) = some (.list (B.map PyData.str)) := by simp [py1, h2, pysS]
  have h6 : PyData.eqv (.list (A.map PyData.str)) (.list (B.map PyData.str)) = decide (A = B) := by rw [PyData.eqv]; exact eqvS A B
  have h7 : dScal (.loc l) (.loc k) = none := rfl
  simp [dNe, dEqB, h7, h1, h3, shS hA, shS hB, h6]
/-- rows of texts -/
abbrev rowD (r : List Str) : D := .tup (r.map D.str)
theorem pysR : ∀ L : List (List Str), pys0 (L.map rowD) = some (L.map fun r => PyData.tuple (r.map PyData.str))
  | [] => rfl
  | r :: L => by rw [List.map_cons, pys0, py0, pysS r, pysR L]; rfl
theorem layR : ∀ L : List (List Str), (∀ r ∈ L, ∀ w ∈ r, Tk w) → PyData.canLayAll0 (L.map fun r => PyData.tuple (r.map PyData.str)) = true ∧ PyData.depthAll (L.map fun r => PyData.tuple (r.map PyData.str)) ≤ 1
  | [], _ => ⟨by simp [PyData.canLayAll0], by simp [PyData.depthAll]⟩
  | r :: L, h => by
    obtain ⟨a, b⟩ := layR L fun y hy => h y (by simp [hy])
    obtain ⟨a2, b2⟩ := layS r (h r (by simp))
    constructor
    · simp [PyData.canLayAll0, PyData.canLay0, a, a2]
    · simp [PyData.depthAll, PyData.depth, b2]
      omega
theorem eq_none {s : Store} {L : List (List Str)} (h : ∀ r ∈ L, ∀ w ∈ r, Tk w) : dEq (.tup (L.map rowD)) (.tup []) s = some (.bl L.isEmpty, s) := by
  obtain ⟨a, b⟩ := layR L h
  have h1 : py1 s (.tup (L.map rowD)) = some (.tuple (L.map fun r => PyData.tuple (r.map PyData.str))) := by simp [py1, py0, pysR]
  have h3 : py1 s (.tup []) = some (.tuple []) := by simp [py1, py0, pys0]
  have h4 : SeqAt.shaped (.tuple (L.map fun r => PyData.tuple (r.map PyData.str))) = true := by
    simp [SeqAt.shaped, PyData.canLay0, PyData.depth, a]
    omega
  have h5 : SeqAt.shaped (.tuple []) = true := by decide +kernel
  have h6 : PyData.eqv (.tuple (L.map fun r => PyData.tuple (r.map PyData.str))) (.tuple []) = L.isEmpty := by
    cases L <;> simp [PyData.eqv, PyData.eqvAll]
  have h7 : dScal (.tup (L.map rowD)) (.tup []) = none := rfl
  simp [dEq, dEqB, h7, h1, h3, h4, h5, h6]
/-! ### sorted texts -/
noncomputable def srtZ (A : List Str) : List Str := A.mergeSort fun x y => decide (cp x ≤ cp y)
theorem srtZ_ok (A : List Str) : sortOk (A.map D.str) ∧ sortD (A.map D.str) = (srtZ A).map D.str := by
  refine ⟨(sort_strs A).1, ?_⟩
  unfold sortD srtZ
  have e := PySem.W.dataLe_str (fun x : Str => x)
  have e2 : (fun x y : Str => decide (cp x ≤ cp y)) = fun x y : Str => PySem.W.dataLe false pyD (D.str x) (D.str y) := by
    funext x y
    exact (congrFun (congrFun e x) y).symm
  rw [e2, List.map_mergeSort (r := fun x y : Str => PySem.W.dataLe false pyD (D.str x) (D.str y)) (s := PySem.W.dataLe false pyD) fun _ _ _ _ => rfl]
theorem srtZ_perm (A : List Str) : (srtZ A).Perm A := List.mergeSort_perm _ _
theorem srtZ_pw (A : List Str) : (srtZ A).Pairwise fun x y => cp x ≤ cp y :=
  (List.pairwise_mergeSort (le := fun x y : Str => decide (cp x ≤ cp y)) (fun a b c h1 h2 => by simp at h1 h2 ⊢; exact List.le_trans h1 h2) (fun a b => by simp; exact List.le_total _ _) A).imp fun {a b} h => by simpa using h
theorem srtZ_eq {A B : List Str} : srtZ A = srtZ B ↔ A.Perm B := by
  constructor
  · intro h
    exact (srtZ_perm A).symm.trans (h ▸ srtZ_perm B)
  · intro h
    exact List.Perm.eq_of_pairwise (le := fun x y => cp x ≤ cp y) (fun a b _ _ h1 h2 => cp_inj (List.le_antisymm h1 h2)) (srtZ_pw A) (srtZ_pw B) ((srtZ_perm A).trans (h.trans (srtZ_perm B).symm))
theorem srtZ_fix {A : List Str} (nd : A.Nodup) : A = srtZ A ↔ A.Pairwise fun x y => cp x < cp y := by
  constructor
  · intro h
    have p := srtZ_pw A
    rw [← h] at p
    refine (p.and nd).imp fun {a b} ⟨h1, h2⟩ => ?_
    rcases Classical.em (cp a < cp b) with q | q
    · exact q
    · exact absurd (cp_inj (List.le_antisymm h1 (List.not_lt.mp q))) h2
  · intro h
    refine (List.mergeSort_of_pairwise (le := fun x y : Str => decide (cp x ≤ cp y)) (h.imp fun {a b} q => ?_)).symm
    exact decide_eq_true (List.not_lt.mp fun z => List.lt_irrefl (cp a) (List.lt_trans q z))
section
variable {K : D → Store → Prop} {s : Store} {xs : List D} {i : Int} {z : Str}
theorem o_iT1 (k : K (.bl true) s) : WO (dIsi "tuple" (.tup xs) s) K := wo_eq rfl k
theorem o_iT2 (k : K (.bl false) s) : WO (dIsi "tuple" (.int i) s) K := wo_eq rfl k
theorem o_iT3 (k : K (.bl false) s) : WO (dIsi "tuple" (.str z) s) K := wo_eq rfl k
theorem o_iS1 (k : K (.bl true) s) : WO (dIsi "str" (.str z) s) K := wo_eq rfl k
theorem o_iS2 (k : K (.bl false) s) : WO (dIsi "str" (.int i) s) K := wo_eq rfl k
theorem o_iS3 (k : K (.bl false) s) : WO (dIsi "str" (.tup xs) s) K := wo_eq rfl k
theorem o_iI1 (k : K (.bl true) s) : WO (dIsi "int" (.int i) s) K := wo_eq rfl k
theorem o_iI2 (k : K (.bl false) s) : WO (dIsi "int" (.str z) s) K := wo_eq rfl k
theorem o_iI3 (k : K (.bl false) s) : WO (dIsi "int" (.tup xs) s) K := wo_eq rfl k
theorem o_iB1 (k : K (.bl false) s) : WO (dIsi "bool" (.int i) s) K := wo_eq rfl k
end
end Mi
namespace Mi
open PySem PySem.Spec PyProof.Rows L2
/-! ### forward rules for laws over texts -/
section
variable {α β : Type} {K : D → Store → Prop} {KI : Itm → Store → Prop} {KS : Str → Store → Prop} {E : Ex → Store → Prop} {env : Sl} {s s' : Store} {a b o : ME D} {as : ME (List D)} {t u : ME Bool} {d x y : D} {P : RS → Prop} {Z : Hs} {l k : Nat} {xs ys : List D} {i j : Int} {z w : Str} {f g h : MS}
theorem o_ixZT (e : L2.atI xs i = some d) (k : K d s) : WO (dIxZ (.tup xs) (.int i) s) K := by
  rw [dIxZ_tup]
  exact o_ixT e k
theorem o_ixZTm (h0 : 0 ≤ i) (h1 : i < xs.length) (k : ∀ d ∈ xs, xs[i.toNat]? = some d → K d s) : WO (dIxZ (.tup xs) (.int i) s) K := by
  rw [dIxZ_tup]
  exact o_ixTm h0 h1 k
theorem o_ixZL (H : Has s Z) (hm : (l, Ls xs) ∈ Z) (e : L2.atI xs i = some d) (k : K d s) : WO (dIxZ (.loc l) (.int i) s) K := by
  rw [dIxZ_loc (H.lst hm)]
  exact o_ixL H hm e k
theorem o_ixZLm (H : Has s Z) (hm : (l, Ls xs) ∈ Z) (h0 : 0 ≤ i) (h1 : i < xs.length) (k : ∀ d ∈ xs, xs[i.toNat]? = some d → K d s) : WO (dIxZ (.loc l) (.int i) s) K := by
  rw [dIxZ_loc (H.lst hm)]
  exact o_ixLm H hm h0 h1 k
/-- the last item -/
theorem o_ixZLe (H : Has s Z) (hm : (l, Ls (xs ++ [d])) ∈ Z) (k : K d s) : WO (dIxZ (.loc l) (.int (-1)) s) K := by
  refine o_ixZL H hm ?_ k
  unfold L2.atI
  have : L2.ixN (xs ++ [d]).length (-1) = some xs.length := by
    unfold L2.ixN
    simp
    omega
  rw [this]
  simp
/-- a sign of a text -/
theorem o_ixZS (hz : z.length ≤ 1000000) (h0 : 0 ≤ i) (h1 : i < (cp z).length) (k : ∀ c, (cp z)[i.toNat]? = some c → K (.str ⟨#[c]⟩) s) : WO (dIxZ (.str z) (.int i) s) K := by
  obtain ⟨n, rfl⟩ := Int.eq_ofNat_of_zero_le h0
  have hn : n < (cp z).length := by omega
  refine wo_eq (d := .str ⟨#[(cp z)[n]]⟩) ?_ (k _ (by simp [hn]))
  rw [dIxZ_str hz, L2.atI_nat (v := (cp z)[n]) (by simp [hn])]
  rfl
theorem o_adds (h : z.length + w.length ≤ 1000000) (k : K (.str (z ++ w)) s) : WO (dAdd (.str z) (.str w) s) K := wo_eq (dAdd_s h s) k
theorem o_ext (H : Has s Z) (i : Nat) (hi : Z[i]? = some (l, Ls xs)) (hm : (k, Ls ys) ∈ Z) (hz : xs.length + ys.length ≤ 1000000) (q : ∀ s', Has s' (Z.set i (l, Ls (xs ++ ys))) → K .non s') : WO (dExtend (.loc l) [.loc k] s) K :=
  wo_eq (d := .non) (s := s.set l (.lst (xs ++ ys))) (by
    simp only [dExtend, H.lst (List.mem_of_getElem? hi), H.lst hm]
    rw [if_pos (le_line hz)]) (q _ (H.put i hi rfl))
theorem o_extT (H : Has s Z) (i : Nat) (hi : Z[i]? = some (l, Ls xs)) (hz : xs.length + ys.length ≤ 1000000) (q : ∀ s', Has s' (Z.set i (l, Ls (xs ++ ys))) → K .non s') : WO (dExtend (.loc l) [.tup ys] s) K :=
  wo_eq (d := .non) (s := s.set l (.lst (xs ++ ys))) (by
    simp only [dExtend, H.lst (List.mem_of_getElem? hi)]
    rw [if_pos (le_line hz)]) (q _ (H.put i hi rfl))
theorem w_m1g {G : D → List D → Store → Option (D × Store)} {z : Str} (h : WR (o env s) (fun x s => x = .str z ∧ WR (a env s) (fun y s => WO (G (.str z) [y] s) K) E) E) : WR (eM1 G o a env s) K E :=
  wr_bind (wr_mono h (fun x _ ⟨e, h⟩ => by subst e; exact wr_bind (wr_mono h (fun _ _ h => wr_of h) fun _ _ h => h)) fun _ _ h => h)
theorem w_m0g {G : D → List D → Store → Option (D × Store)} {z : Str} (h : WR (o env s) (fun x s => x = .str z ∧ WO (G (.str z) [] s) K) E) : WR (eM0 G o env s) K E :=
  wr_bind (wr_mono h (fun x _ ⟨e, h⟩ => by subst e; exact wr_of h) fun _ _ h => h)
/-- what a format shows -/
def FmtK (x : D) (s : Store) (K : D → Store → Prop) : Prop := (∃ z, x = .str z ∧ z.length ≤ 1000000 ∧ K (.str z) s) ∨ ∃ i : Int, x = .int i ∧ i.natAbs.log2 < 1920 ∧ K (.str (toString i)) s
theorem w_fmt (h : WR (a env s) (fun x s => FmtK x s K) E) : WR (eFmt a env s) K E :=
  wr_bind (wr_mono h (fun x _ h => by
    rcases h with ⟨z, rfl, hz, q⟩ | ⟨i, rfl, hi, q⟩
    · show WR (if _ then _ else _) K E
      rw [if_pos hz]
      exact q
    · show WR (if _ then _ else _) K E
      rw [if_pos hi]
      exact q) fun _ _ h => h)
theorem fm_s (hz : z.length ≤ 1000000) (q : K (.str z) s) : FmtK (.str z) s K := .inl ⟨z, rfl, hz, q⟩
theorem fm_i (hi : i.natAbs.log2 < 1920) (q : K (.str (toString i)) s) : FmtK (.int i) s K := .inr ⟨i, rfl, hi, q⟩
theorem w_jsn (q : KS z s) : WR (eJs [] z env s) KS E := q
theorem w_jsc {fs : List (ME D)} (q : WR (a env s) (fun x s => ∃ y, x = .str y ∧ (z ++ y).length ≤ 1000000 ∧ WR (eJs fs (z ++ y) env s) KS E) E) : WR (eJs (a :: fs) z env s) KS E :=
  wr_bind (wr_mono q (fun x s ⟨y, e, hz, h⟩ => by
    subst e
    show WR (if _ then _ else _) KS E
    rw [if_pos hz]
    exact h) fun _ _ h => h)
theorem w_fs {fs : List (ME D)} (q : WR (eJs fs Str.empty env s) (fun z s => K (.str z) s) E) : WR (eFs fs env s) K E := wr_bind q
def EnmSK (xs : List D) (s : Store) (KI : Itm → Store → Prop) : Prop := ∃ l ys, xs = [.loc l] ∧ s[l]? = some (.lst ys) ∧ KI (Itm.mk (enmS ys) fun s2 => s2[l]? = some (.lst ys)) s
theorem w_enmS (h : WR (as env s) (fun xs s => EnmSK xs s KI) E) : WR (iEnmS as env s) KI E :=
  wr_bind (wr_mono h (fun xs s ⟨l, ys, e, q, h⟩ => by
    subst e
    simp only [q]
    exact h) fun _ _ h => h)
theorem enmsk (H : Has s Z) (hm : (l, Ls ys) ∈ Z) (h : KI (Itm.mk (enmS ys) fun s2 => s2[l]? = some (.lst ys)) s) : EnmSK [.loc l] s KI := ⟨l, ys, rfl, H.lst hm, h⟩
def ZipK (zs : List D) (s : Store) (KI : Itm → Store → Prop) : Prop := ∃ l k xs ys, zs = [.loc l, .loc k] ∧ s[l]? = some (.lst xs) ∧ s[k]? = some (.lst ys) ∧ KI (Itm.mk (zipD xs ys) fun s2 => lstOf s2 (.loc l) = some xs ∧ lstOf s2 (.loc k) = some ys) s
theorem w_zip (h : WR (as env s) (fun xs s => ZipK xs s KI) E) : WR (iZip as env s) KI E :=
  wr_bind (wr_mono h (fun xs s ⟨l, k, xs', ys, e, q, q2, h⟩ => by
    subst e
    have e1 : lstOf s (.loc l) = some xs' := by simp [lstOf, q]
    have e2 : lstOf s (.loc k) = some ys := by simp [lstOf, q2]
    simp only [e1, e2]
    exact h) fun _ _ h => h)
theorem zipk (H : Has s Z) (hm : (l, Ls xs) ∈ Z) (hn : (k, Ls ys) ∈ Z) (h : KI (Itm.mk (zipD xs ys) fun s2 => lstOf s2 (.loc l) = some xs ∧ lstOf s2 (.loc k) = some ys) s) : ZipK [.loc l, .loc k] s KI := ⟨l, k, xs, ys, rfl, H.lst hm, H.lst hn, h⟩
/-- a while by an invariant that falls -/
theorem w_while (I : Nat → Sl → Store → Prop) (no : ¬ P .no) {n : Nat} (h0 : I n env s) (hs : ∀ n env s, I n env s → WR (t env s) (fun b s' => WI b (Turns (fun env s => ∃ m, m < n ∧ I m env s) P (f env s')) (P (.nx env s'))) NoE) : P (sWhile t f env s) :=
  while_rule I P no (fun n env s h => by
    have q := hs n env s h
    cases e : t env s with
    | no => rw [e] at q; exact q.elim
    | ex x s => rw [e] at q; exact q.elim
    | ok b s' =>
      rw [e] at q
      cases b with
      | false => exact .inl ⟨s', rfl, q.2 rfl⟩
      | true => exact .inr ⟨s', rfl, q.1 rfl⟩) h0
end
end Mi
namespace Law
open PySem PySem.Spec PyProof.Rows L2 Mi
/-! ### the text -/
def topS (i : Nat) : Stmt := PySem.Challenge.pw_beforeinall_k13_ways_and_orders.main.body.getD i (.Pass ⟨0, 0, 0, 0⟩)
abbrev s_way_of : Stmt := topS 1
abbrev s_plain_record : Stmt := topS 2
abbrev s_is_plain : Stmt := topS 3
abbrev s_order_settles : Stmt := topS 4
abbrev s_is_order : Stmt := topS 5
abbrev s_is_strict : Stmt := topS 6
abbrev s_d_law_tape : Stmt := topS 8
abbrev s_d_law_draw : Stmt := topS 9
abbrev s_d_law_names : Stmt := topS 10
abbrev s_d_law_shuffled : Stmt := topS 11
abbrev s_d_law_dates : Stmt := topS 12
abbrev s_d_law_base : Stmt := topS 13
abbrev s_d_law_others : Stmt := topS 14
abbrev s_d_law_loop : Stmt := topS 15
abbrev s_d_law_due : Stmt := topS 16
abbrev s_d_law_told : Stmt := topS 17
abbrev s_d_law_ways : Stmt := topS 18
abbrev s_d_law_plain : Stmt := topS 19
abbrev s_d_law_forward : Stmt := topS 20
abbrev s_d_law_frame : Stmt := topS 21
abbrev s_d_law_orders : Stmt := topS 22
abbrev s_d_law_wide : Stmt := topS 23
abbrev s_law : Stmt := topS 24
theorem sc_way_of : FnScope ["book", "kinds", "_", "record"] ["book"] (defScope s_way_of) := ⟨rfl, rfl, rfl, by decide +kernel, rfl, by decide +kernel, by decide +kernel⟩
theorem sc_plain_record : FnScope ["record"] ["record"] (defScope s_plain_record) := ⟨rfl, rfl, rfl, by decide +kernel, rfl, by decide +kernel, by decide +kernel⟩
theorem sc_is_plain : FnScope ["book", "_", "record"] ["book"] (defScope s_is_plain) := ⟨rfl, rfl, rfl, by decide +kernel, rfl, by decide +kernel, by decide +kernel⟩
theorem sc_order_settles : FnScope ["book", "levels", "_", "moved", "record", "least", "deed"] ["book"] (defScope s_order_settles) := ⟨rfl, rfl, rfl, by decide +kernel, rfl, by decide +kernel, by decide +kernel⟩
theorem sc_is_order : FnScope ["book", "first", "last", "deeds", "entries", "widest", "_", "record"] ["book"] (defScope s_is_order) := ⟨rfl, rfl, rfl, by decide +kernel, rfl, by decide +kernel, by decide +kernel⟩
theorem sc_is_strict : FnScope ["book", "_", "record"] ["book"] (defScope s_is_strict) := ⟨rfl, rfl, rfl, by decide +kernel, rfl, by decide +kernel, by decide +kernel⟩
theorem sc_d_law_tape : FnScope ["script", "state", "great", "cell", "number"] ["script"] (defScope s_d_law_tape) := ⟨rfl, rfl, rfl, by decide +kernel, rfl, by decide +kernel, by decide +kernel⟩
theorem sc_d_law_draw : FnScope ["tape", "many", "rest", "mixed"] ["tape", "many"] (defScope s_d_law_draw) := ⟨rfl, rfl, rfl, by decide +kernel, rfl, by decide +kernel, by decide +kernel⟩
theorem sc_d_law_names : FnScope ["tape", "many", "letters", "names", "number", "at", "name"] ["tape", "many"] (defScope s_d_law_names) := ⟨rfl, rfl, rfl, by decide +kernel, rfl, by decide +kernel, by decide +kernel⟩
theorem sc_d_law_shuffled : FnScope ["tape", "row", "rest", "out", "turn"] ["tape", "row"] (defScope s_d_law_shuffled) := ⟨rfl, rfl, rfl, by decide +kernel, rfl, by decide +kernel, by decide +kernel⟩
theorem sc_d_law_dates : FnScope ["tape", "first", "last", "pick", "many", "at", "out", "turn", "low"] ["tape", "first", "last"] (defScope s_d_law_dates) := ⟨rfl, rfl, rfl, by decide +kernel, rfl, by decide +kernel, by decide +kernel⟩
theorem sc_d_law_base : FnScope ["tape", "first", "last", "deeds", "many", "rows", "turn", "at", "to", "record"] ["tape", "first", "last", "deeds", "many"] (defScope s_d_law_base) := ⟨rfl, rfl, rfl, by decide +kernel, rfl, by decide +kernel, by decide +kernel⟩
theorem sc_d_law_others : FnScope ["tape", "first", "last", "deeds", "out", "kind", "at", "parts", "turn", "to", "one", "sides"] ["tape", "first", "last", "deeds"] (defScope s_d_law_others) := ⟨rfl, rfl, rfl, by decide +kernel, rfl, by decide +kernel, by decide +kernel⟩
theorem sc_d_law_loop : FnScope ["deeds", "gaps", "height", "turn", "moved", "at", "to", "least"] ["deeds", "gaps"] (defScope s_d_law_loop) := ⟨rfl, rfl, rfl, by decide +kernel, rfl, by decide +kernel, by decide +kernel⟩
theorem sc_d_law_due : FnScope ["book", "first", "last", "deeds", "entries", "digger", "record", "kinds", "way", "plain", "order", "strict", "gaps", "most", "row"] ["book"] (defScope s_d_law_due) := ⟨rfl, rfl, rfl, by decide +kernel, rfl, by decide +kernel, by decide +kernel⟩
theorem sc_d_law_told : FnScope ["book", "wanted", "due", "way", "told", "at"] ["book", "wanted"] (defScope s_d_law_told) := ⟨rfl, rfl, rfl, by decide +kernel, rfl, by decide +kernel, by decide +kernel⟩
theorem sc_d_law_ways : FnScope ["tape", "first", "last", "deeds", "many", "base", "others", "mask", "entries", "at"] ["tape", "first", "last", "deeds", "many"] (defScope s_d_law_ways) := ⟨rfl, rfl, rfl, by decide +kernel, rfl, by decide +kernel, by decide +kernel⟩
theorem sc_d_law_plain : FnScope ["tape", "first", "last", "deeds", "many", "entries", "digger", "record", "worse", "at", "more"] ["tape", "first", "last", "deeds", "many"] (defScope s_d_law_plain) := ⟨rfl, rfl, rfl, by decide +kernel, rfl, by decide +kernel, by decide +kernel⟩
theorem sc_d_law_forward : FnScope ["tape", "deeds", "many", "low", "high", "row", "entries", "turn", "at", "to"] ["tape", "deeds", "many", "low", "high"] (defScope s_d_law_forward) := ⟨rfl, rfl, rfl, by decide +kernel, rfl, by decide +kernel, by decide +kernel⟩
theorem sc_d_law_frame : FnScope ["tape", "deeds", "entries", "wider", "most", "first", "need", "digger", "record"] ["tape", "deeds", "entries", "wider"] (defScope s_d_law_frame) := ⟨rfl, rfl, rfl, by decide +kernel, rfl, by decide +kernel, by decide +kernel⟩
theorem sc_d_law_orders : FnScope ["tape", "deeds", "low", "high", "many", "wide", "less", "row", "entries", "strict", "wider", "at", "to", "least", "back", "pair", "below", "whole", "digger", "record"] ["tape", "deeds", "low", "high", "many"] (defScope s_d_law_orders) := ⟨rfl, rfl, rfl, by decide +kernel, rfl, by decide +kernel, by decide +kernel⟩
theorem sc_d_law_wide : FnScope ["tape", "deeds", "row", "entries", "at", "book", "last", "record", "due"] ["tape"] (defScope s_d_law_wide) := ⟨rfl, rfl, rfl, by decide +kernel, rfl, by decide +kernel, by decide +kernel⟩
theorem sc_law : FnScope ["script", "tape", "deeds", "first", "last", "many", "low"] ["script"] (defScope s_law) := ⟨rfl, rfl, rfl, by decide +kernel, rfl, by decide +kernel, by decide +kernel⟩
/-! ### what the top has left -/
structure Fx (K : PySem.W.Frag) (mg : Str → Option Value) where
  a_way_of : Addr
  d_way_of : FuncData
  F_way_of : Fun K "way_of" "way_of" s_way_of a_way_of d_way_of
  g_way_of : mg "way_of" = some (.ref a_way_of)
  a_plain_record : Addr
  d_plain_record : FuncData
  F_plain_record : Fun K "plain_record" "plain_record" s_plain_record a_plain_record d_plain_record
  g_plain_record : mg "plain_record" = some (.ref a_plain_record)
  a_is_plain : Addr
  d_is_plain : FuncData
  F_is_plain : Fun K "is_plain" "is_plain" s_is_plain a_is_plain d_is_plain
  g_is_plain : mg "is_plain" = some (.ref a_is_plain)
  a_order_settles : Addr
  d_order_settles : FuncData
  F_order_settles : Fun K "order_settles" "order_settles" s_order_settles a_order_settles d_order_settles
  g_order_settles : mg "order_settles" = some (.ref a_order_settles)
  a_is_order : Addr
  d_is_order : FuncData
  F_is_order : Fun K "is_order" "is_order" s_is_order a_is_order d_is_order
  g_is_order : mg "is_order" = some (.ref a_is_order)
  a_is_strict : Addr
  d_is_strict : FuncData
  F_is_strict : Fun K "is_strict" "is_strict" s_is_strict a_is_strict d_is_strict
  g_is_strict : mg "is_strict" = some (.ref a_is_strict)
  a_d_law_tape : Addr
  d_d_law_tape : FuncData
  F_d_law_tape : Fun K "_law_tape" "_law_tape" s_d_law_tape a_d_law_tape d_d_law_tape
  g_d_law_tape : mg "_law_tape" = some (.ref a_d_law_tape)
  a_d_law_draw : Addr
  d_d_law_draw : FuncData
  F_d_law_draw : Fun K "_law_draw" "_law_draw" s_d_law_draw a_d_law_draw d_d_law_draw
  g_d_law_draw : mg "_law_draw" = some (.ref a_d_law_draw)
  a_d_law_names : Addr
  d_d_law_names : FuncData
  F_d_law_names : Fun K "_law_names" "_law_names" s_d_law_names a_d_law_names d_d_law_names
  g_d_law_names : mg "_law_names" = some (.ref a_d_law_names)
  a_d_law_shuffled : Addr
  d_d_law_shuffled : FuncData
  F_d_law_shuffled : Fun K "_law_shuffled" "_law_shuffled" s_d_law_shuffled a_d_law_shuffled d_d_law_shuffled
  g_d_law_shuffled : mg "_law_shuffled" = some (.ref a_d_law_shuffled)
  a_d_law_dates : Addr
  d_d_law_dates : FuncData
  F_d_law_dates : Fun K "_law_dates" "_law_dates" s_d_law_dates a_d_law_dates d_d_law_dates
  g_d_law_dates : mg "_law_dates" = some (.ref a_d_law_dates)
  a_d_law_base : Addr
  d_d_law_base : FuncData
  F_d_law_base : Fun K "_law_base" "_law_base" s_d_law_base a_d_law_base d_d_law_base
  g_d_law_base : mg "_law_base" = some (.ref a_d_law_base)
  a_d_law_others : Addr
  d_d_law_others : FuncData
  F_d_law_others : Fun K "_law_others" "_law_others" s_d_law_others a_d_law_others d_d_law_others
  g_d_law_others : mg "_law_others" = some (.ref a_d_law_others)
  a_d_law_loop : Addr
  d_d_law_loop : FuncData
  F_d_law_loop : Fun K "_law_loop" "_law_loop" s_d_law_loop a_d_law_loop d_d_law_loop
  g_d_law_loop : mg "_law_loop" = some (.ref a_d_law_loop)
  a_d_law_due : Addr
  d_d_law_due : FuncData
  F_d_law_due : Fun K "_law_due" "_law_due" s_d_law_due a_d_law_due d_d_law_due
  g_d_law_due : mg "_law_due" = some (.ref a_d_law_due)
  a_d_law_told : Addr
  d_d_law_told : FuncData
  F_d_law_told : Fun K "_law_told" "_law_told" s_d_law_told a_d_law_told d_d_law_told
  g_d_law_told : mg "_law_told" = some (.ref a_d_law_told)
  a_d_law_ways : Addr
  d_d_law_ways : FuncData
  F_d_law_ways : Fun K "_law_ways" "_law_ways" s_d_law_ways a_d_law_ways d_d_law_ways
  g_d_law_ways : mg "_law_ways" = some (.ref a_d_law_ways)
  a_d_law_plain : Addr
  d_d_law_plain : FuncData
  F_d_law_plain : Fun K "_law_plain" "_law_plain" s_d_law_plain a_d_law_plain d_d_law_plain
  g_d_law_plain : mg "_law_plain" = some (.ref a_d_law_plain)
  a_d_law_forward : Addr
  d_d_law_forward : FuncData
  F_d_law_forward : Fun K "_law_forward" "_law_forward" s_d_law_forward a_d_law_forward d_d_law_forward
  g_d_law_forward : mg "_law_forward" = some (.ref a_d_law_forward)
  a_d_law_frame : Addr
  d_d_law_frame : FuncData
  F_d_law_frame : Fun K "_law_frame" "_law_frame" s_d_law_frame a_d_law_frame d_d_law_frame
  g_d_law_frame : mg "_law_frame" = some (.ref a_d_law_frame)
  a_d_law_orders : Addr
  d_d_law_orders : FuncData
  F_d_law_orders : Fun K "_law_orders" "_law_orders" s_d_law_orders a_d_law_orders d_d_law_orders
  g_d_law_orders : mg "_law_orders" = some (.ref a_d_law_orders)
  a_d_law_wide : Addr
  d_d_law_wide : FuncData
  F_d_law_wide : Fun K "_law_wide" "_law_wide" s_d_law_wide a_d_law_wide d_d_law_wide
  g_d_law_wide : mg "_law_wide" = some (.ref a_d_law_wide)
  a_law : Addr
  d_law : FuncData
  F_law : Fun K "law" "law" s_law a_law d_law
  g_law : mg "law" = some (.ref a_law)
  b_all : mg "all" = none
  b_bool : mg "bool" = none
  b_int : mg "int" = none
  b_isinstance : mg "isinstance" = none
  b_len : mg "len" = none
  b_list : mg "list" = none
  b_max : mg "max" = none
  b_range : mg "range" = none
  b_sorted : mg "sorted" = none
  b_str : mg "str" = none
  b_tuple : mg "tuple" = none
variable {P : Program} {w : World} {K : PySem.W.Frag} {mg : Str → Option Value} {base : Heap}
theorem bd_way_of (X : Fx K mg) : Binds K X.d_way_of ["book"] [] := X.F_way_of.binds (ps := ["book"]) fun _ _ _ _ _ _ us hl => match us, hl with | [_], _ => rfl
theorem bd_plain_record (X : Fx K mg) : Binds K X.d_plain_record ["record"] [] := X.F_plain_record.binds (ps := ["record"]) fun _ _ _ _ _ _ us hl => match us, hl with | [_], _ => rfl
theorem bd_is_plain (X : Fx K mg) : Binds K X.d_is_plain ["book"] [] := X.F_is_plain.binds (ps := ["book"]) fun _ _ _ _ _ _ us hl => match us, hl with | [_], _ => rfl
theorem bd_order_settles (X : Fx K mg) : Binds K X.d_order_settles ["book"] [] := X.F_order_settles.binds (ps := ["book"]) fun _ _ _ _ _ _ us hl => match us, hl with | [_], _ => rfl
theorem bd_is_order (X : Fx K mg) : Binds K X.d_is_order ["book"] [] := X.F_is_order.binds (ps := ["book"]) fun _ _ _ _ _ _ us hl => match us, hl with | [_], _ => rfl
theorem bd_is_strict (X : Fx K mg) : Binds K X.d_is_strict ["book"] [] := X.F_is_strict.binds (ps := ["book"]) fun _ _ _ _ _ _ us hl => match us, hl with | [_], _ => rfl
theorem bd_d_law_tape (X : Fx K mg) : Binds K X.d_d_law_tape ["script"] [] := X.F_d_law_tape.binds (ps := ["script"]) fun _ _ _ _ _ _ us hl => match us, hl with | [_], _ => rfl
theorem bd_d_law_draw (X : Fx K mg) : Binds K X.d_d_law_draw ["tape", "many"] [] := X.F_d_law_draw.binds (ps := ["tape", "many"]) fun _ _ _ _ _ _ us hl => match us, hl with | [_, _], _ => rfl
theorem bd_d_law_names (X : Fx K mg) : Binds K X.d_d_law_names ["tape", "many"] [] := X.F_d_law_names.binds (ps := ["tape", "many"]) fun _ _ _ _ _ _ us hl => match us, hl with | [_, _], _ => rfl
theorem bd_d_law_shuffled (X : Fx K mg) : Binds K X.d_d_law_shuffled ["tape", "row"] [] := X.F_d_law_shuffled.binds (ps := ["tape", "row"]) fun _ _ _ _ _ _ us hl => match us, hl with | [_, _], _ => rfl
theorem bd_d_law_dates (X : Fx K mg) : Binds K X.d_d_law_dates ["tape", "first", "last"] [] := X.F_d_law_dates.binds (ps := ["tape", "first", "last"]) fun _ _ _ _ _ _ us hl => match us, hl with | [_, _, _], _ => rfl
theorem bd_d_law_base (X : Fx K mg) : Binds K X.d_d_law_base ["tape", "first", "last", "deeds", "many"] [] := X.F_d_law_base.binds (ps := ["tape", "first", "last", "deeds", "many"]) fun _ _ _ _ _ _ us hl => match us, hl with | [_, _, _, _, _], _ => rfl
theorem bd_d_law_others (X : Fx K mg) : Binds K X.d_d_law_others ["tape", "first", "last", "deeds"] [] := X.F_d_law_others.binds (ps := ["tape", "first", "last", "deeds"]) fun _ _ _ _ _ _ us hl => match us, hl with | [_, _, _, _], _ => rfl
theorem bd_d_law_loop (X : Fx K mg) : Binds K X.d_d_law_loop ["deeds", "gaps"] [] := X.F_d_law_loop.binds (ps := ["deeds", "gaps"]) fun _ _ _ _ _ _ us hl => match us, hl with | [_, _], _ => rfl
theorem bd_d_law_due (X : Fx K mg) : Binds K X.d_d_law_due ["book"] [] := X.F_d_law_due.binds (ps := ["book"]) fun _ _ _ _ _ _ us hl => match us, hl with | [_], _ => rfl
theorem bd_d_law_told (X : Fx K mg) : Binds K X.d_d_law_told ["book", "wanted"] [] := X.F_d_law_told.binds (ps := ["book", "wanted"]) fun _ _ _ _ _ _ us hl => match us, hl with | [_, _], _ => rfl
theorem bd_d_law_ways (X : Fx K mg) : Binds K X.d_d_law_ways ["tape", "first", "last", "deeds", "many"] [] := X.F_d_law_ways.binds (ps := ["tape", "first", "last", "deeds", "many"]) fun _ _ _ _ _ _ us hl => match us, hl with | [_, _, _, _, _], _ => rfl
theorem bd_d_law_plain (X : Fx K mg) : Binds K X.d_d_law_plain ["tape", "first", "last", "deeds", "many"] [] := X.F_d_law_plain.binds (ps := ["tape", "first", "last", "deeds", "many"]) fun _ _ _ _ _ _ us hl => match us, hl with | [_, _, _, _, _], _ => rfl
theorem bd_d_law_forward (X : Fx K mg) : Binds K X.d_d_law_forward ["tape", "deeds", "many", "low", "high"] [] := X.F_d_law_forward.binds (ps := ["tape", "deeds", "many", "low", "high"]) fun _ _ _ _ _ _ us hl => match us, hl with | [_, _, _, _, _], _ => rfl
theorem bd_d_law_frame (X : Fx K mg) : Binds K X.d_d_law_frame ["tape", "deeds", "entries", "wider"] [] := X.F_d_law_frame.binds (ps := ["tape", "deeds", "entries", "wider"]) fun _ _ _ _ _ _ us hl => match us, hl with | [_, _, _, _], _ => rfl
theorem bd_d_law_orders (X : Fx K mg) : Binds K X.d_d_law_orders ["tape", "deeds", "low", "high", "many"] [] := X.F_d_law_orders.binds (ps := ["tape", "deeds", "low", "high", "many"]) fun _ _ _ _ _ _ us hl => match us, hl with | [_, _, _, _, _], _ => rfl
theorem bd_d_law_wide (X : Fx K mg) : Binds K X.d_d_law_wide ["tape"] [] := X.F_d_law_wide.binds (ps := ["tape"]) fun _ _ _ _ _ _ us hl => match us, hl with | [_], _ => rfl
theorem bd_law (X : Fx K mg) : Binds K X.d_law ["script"] [] := X.F_law.binds (ps := ["script"]) fun _ _ _ _ _ _ us hl => match us, hl with | [_], _ => rfl
/-! ### mirrors and derivations -/
noncomputable def le_way_of_1 : ME D := e2 dIxZ (eV 3) (eC (.int 0))
noncomputable def b_way_of : MS := sSeq (sSet 1 (eLc (iSeq (e2 dIxZ (eV 0) (eC (.int 3)))) [2, 3] (gT 2 (gsC (gN 2) (gsC (gN 3) (gsN)))) (tT) (le_way_of_1)))
  (sSeq (sIf (tOr (tV (e2 dIn (eC (.str "one")) (eV 1))) (tAnd (tV (e2 dIn (eC (.str "under")) (eV 1))) (tV (e2 dIn (eC (.str "over")) (eV 1))))) (sRet (eC (.str "mixed"))) (sNil))
  (sSeq (sIf (tV (e2 dIn (eC (.str "under")) (eV 1))) (sRet (eC (.str "ante"))) (sNil))
  (sSeq (sIf (tV (e2 dIn (eC (.str "over")) (eV 1))) (sRet (eC (.str "post"))) (sNil))
  (sRet (eC (.str "both"))))))
noncomputable def m_way_of : List D → Store → R D := fnM 4 1 b_way_of
theorem ok_way_of (X : Fx K mg) : FnOk P w K mg base (L2.CX P w) 1 X.a_way_of X.d_way_of ["book"] (spM K mg 1 m_way_of) :=
  okM (k := 0) X.F_way_of sc_way_of rfl fun cdv A outer s H E hr tk =>
    (css_cons (cs_setLc (i := 1) (own := [("_", 2), ("record", 3)]) rfl sc_way_of.nd rfl rfl (sw_true rfl rfl rfl (by decide +kernel)) (ci_seq (ce_ix (ix_Z hr.units) ops_ixZ (ce_v 0) (ce_int) (fun _ _ => rfl))) (blkOk_by (N := ["book", "kinds", "_", "record"]) (sc := defScope s_way_of) (by decide +kernel)) (fun _ _ _ _ _ => cg_tup (n := 2) rfl (cgs_cons (us := [2, 3]) (cg_name (i := 2) sc_way_of.nd rfl (by first | exact Or.inl rfl | exact Or.inr rfl)) (cgs_cons (us := [3]) (cg_name (i := 3) sc_way_of.nd rfl (by first | exact Or.inl rfl | exact Or.inr rfl)) (cgs_nil (vs := []))))) (fun _ _ _ _ _ => cts_nil) (fun _ _ _ _ _ => ce_ix (ix_Z hr.units) ops_ixZ (ce_v 3) (ce_int) (fun _ _ => rfl)))
    (css_cons (cs_if (PW.pt (cw_or (ct_cmp (opA_in (un65 hr)) ops_in (ce_str) (ce_v 1) (by with_unfolding_all rfl)) (cw_or1 (PW.pt (cw_and (ct_cmp (opA_in (un65 hr)) ops_in (ce_str) (ce_v 1) (by with_unfolding_all rfl)) (cw_and1 (ct_cmp (opA_in (un65 hr)) ops_in (ce_str) (ce_v 1) (by with_unfolding_all rfl)))))))) (css_one (cs_ret (ce_str))) (css_nil))
    (css_cons (cs_if (ct_cmp (opA_in (un65 hr)) ops_in (ce_str) (ce_v 1) (by with_unfolding_all rfl)) (css_one (cs_ret (ce_str))) (css_nil))
    (css_cons (cs_if (ct_cmp (opA_in (un65 hr)) ops_in (ce_str) (ce_v 1) (by with_unfolding_all rfl)) (css_one (cs_ret (ce_str))) (css_nil))
    (css_one (cs_ret (ce_str)))))) :
      PSs _ _ (Ts _ _ _ b_way_of))
noncomputable def b_plain_record : MS := sRet (eOr (e2 dEq (e2 dIxZ (eV 0) (eC (.int 0))) (eC (.str "gap"))) (eAnd (e2 dEq (e2 dIxZ (eV 0) (eC (.int 0))) (eC (.str "years"))) (e2 dEq (eFn dLen (aCons (e2 dIxZ (eV 0) (eC (.int 2))) (aNil))) (eC (.int 1)))))
noncomputable def m_plain_record : List D → Store → R D := fnM 1 1 b_plain_record
theorem ok_plain_record (X : Fx K mg) : FnOk P w K mg base (L2.CX P w) 1 X.a_plain_record X.d_plain_record ["record"] (spM K mg 1 m_plain_record) :=
  okM (k := 0) X.F_plain_record sc_plain_record rfl fun cdv A outer s H E hr tk =>
    (css_one (cs_ret (ce_or (ce_cmp (opA_eq hr.units) ops_eq (ce_ix (ix_Z hr.units) ops_ixZ (ce_v 0) (ce_int) (fun _ _ => rfl)) (ce_str) (nomark _)) (ce_one (ce_and (ce_cmp (opA_eq hr.units) ops_eq (ce_ix (ix_Z hr.units) ops_ixZ (ce_v 0) (ce_int) (fun _ _ => rfl)) (ce_str) (nomark _)) (ce_one (ce_cmp (opA_eq hr.units) ops_eq (ce_callB call_len fns_len (by rfl) X.b_len (by decide +kernel) (ca_cons (ce_ix (ix_Z hr.units) ops_ixZ (ce_v 0) (ce_int) (fun _ _ => rfl)) (ca_nil))) (ce_int) (nomark _))))))) :
      PSs _ _ (Ts _ _ _ b_plain_record))
noncomputable def bl_order_settles_1 : MS := sSeq (sSet 5 (e2 dAdd (e2 dIxZ (eV 1) (e2 dIxZ (eV 4) (eC (.int 1)))) (e2 dIxZ (eV 4) (eC (.int 3)))))
  (sIf (tV (e2 dLt (e2 dIxZ (eV 1) (e2 dIxZ (eV 4) (eC (.int 2)))) (eV 5))) (sSeq (sPut pAny (eV 1) (e2 dIxZ (eV 4) (eC (.int 2))) (eV 5))
  (sSet 3 (eC (.bl true)))) (sNil))
noncomputable def bl_order_settles_2 : MS := sSeq (sSet 3 (eC (.bl false)))
  (sSeq (sFor (iSeq (e2 dIxZ (eV 0) (eC (.int 3)))) (gT 2 (gsC (gN 2) (gsC (gN 4) (gsN)))) (bl_order_settles_1))
  (sIf (tNot (tTru (eV 3))) (sRet (eC (.bl true))) (sNil)))
noncomputable def le_order_settles_3 : ME D := eC (.int 0)
noncomputable def ke_order_settles_4 : ME D := eV 6
noncomputable def b_order_settles : MS := sSeq (sSet 1 (eDc (iSeq (e2 dIxZ (eV 0) (eC (.int 2)))) [6] (gN 6) (tT) (ke_order_settles_4) (le_order_settles_3)))
  (sSeq (sFor (iRange1 (aCons (e2 dAdd (eFn dLen (aCons (e2 dIxZ (eV 0) (eC (.int 2))) (aNil))) (eC (.int 1))) (aNil))) (gN 2) (bl_order_settles_2))
  (sRet (eC (.bl false))))
noncomputable def m_order_settles : List D → Store → R D := fnM 7 1 b_order_settles
theorem ok_order_settles (X : Fx K mg) : FnOk P w K mg base (L2.CX P w) 1 X.a_order_settles X.d_order_settles ["book"] (spM K mg 1 m_order_settles) :=
  okM (k := 0) X.F_order_settles sc_order_settles rfl fun cdv A outer s H E hr tk =>
    (css_cons (cs_setDc (i := 1) (own := [("deed", 6)]) rfl sc_order_settles.nd rfl rfl (sw_dict rfl rfl rfl (by decide +kernel)) (ci_seq (ce_ix (ix_Z hr.units) ops_ixZ (ce_v 0) (ce_int) (fun _ _ => rfl))) (blkOk_by (N := ["book", "levels", "_", "moved", "record", "least", "deed"]) (sc := defScope s_order_settles) (by decide +kernel)) (fun _ _ _ _ _ => cg_name (i := 6) sc_order_settles.nd rfl (by first | exact Or.inl rfl | exact Or.inr rfl)) (fun _ _ _ _ _ => cts_nil) (fun _ _ _ _ _ => ce_v 6) (fun _ _ _ _ _ => ce_int))
    (css_cons (cs_for (passes_of rfl) rfl (ci_range1 (by rfl) X.b_range (ca_cons (ce_op op_addA ops_add (ce_callB call_len fns_len (by rfl) X.b_len (by decide +kernel) (ca_cons (ce_ix (ix_Z hr.units) ops_ixZ (ce_v 0) (ce_int) (fun _ _ => rfl)) (ca_nil))) (ce_int)) (ca_nil))) (cg_name (i := 2) sc_order_settles.nd rfl (by first | exact Or.inl rfl | exact Or.inr rfl)) (css_cons (cs_set (j := 3) sc_order_settles.nd rfl (Or.inl rfl) (ce_bl))
    (css_cons (cs_for (passes_of rfl) rfl (ci_seq (ce_ix (ix_Z hr.units) ops_ixZ (ce_v 0) (ce_int) (fun _ _ => rfl))) (cg_tup (n := 2) rfl (cgs_cons (us := [2, 4]) (cg_name (i := 2) sc_order_settles.nd rfl (by first | exact Or.inl rfl | exact Or.inr rfl)) (cgs_cons (us := [4]) (cg_name (i := 4) sc_order_settles.nd rfl (by first | exact Or.inl rfl | exact Or.inr rfl)) (cgs_nil (vs := []))))) (css_cons (cs_set (j := 5) sc_order_settles.nd rfl (Or.inl rfl) (ce_op op_addA ops_add (ce_ix (ix_Z hr.units) ops_ixZ (ce_v 1) (ce_ix (ix_Z hr.units) ops_ixZ (ce_v 4) (ce_int) (fun _ _ => rfl)) (fun _ _ => rfl)) (ce_ix (ix_Z hr.units) ops_ixZ (ce_v 4) (ce_int) (fun _ _ => rfl))))
    (css_one (cs_if (ct_cmp opA_lt ops_lt (ce_ix (ix_Z hr.units) ops_ixZ (ce_v 1) (ce_ix (ix_Z hr.units) ops_ixZ (ce_v 4) (ce_int) (fun _ _ => rfl)) (fun _ _ => rfl)) (ce_v 5) (nomark _)) (css_cons (cs_put (ce_v 5) (ce_v 1) (ce_ix (ix_Z hr.units) ops_ixZ (ce_v 4) (ce_int) (fun _ _ => rfl)) (set_any hr.units) puts_any)
    (css_one (cs_set (j := 3) sc_order_settles.nd rfl (Or.inl rfl) (ce_bl)))) (css_nil)))))
    (css_one (cs_if (ct_not (ct_tru (ce_v 3))) (css_one (cs_ret (ce_bl))) (css_nil))))))
    (css_one (cs_ret (ce_bl)))) :
      PSs _ _ (Ts _ _ _ b_order_settles))
noncomputable def bl_d_law_tape_1 : MS := sSeq (sSet 4 (eFn dInt (aCons (eV 3) (aNil))))
  (sSeq (sIf (tV (e2 dLt (eV 4) (eC (.int 0)))) (sSet 4 (e2 dSub (eC (.int 3)) (e2 dMul (eC (.int 2)) (eV 4)))) (sNil))
  (sSeq (sSet 1 (e2 dMod (eFn dInt (aCons (e2 dAdd (e2 dAdd (e2 dMul (eV 1) (eC (.int 5237))) (eV 4)) (eC (.int 29))) (aNil))) (eC (.int 2147483563))))
  (sIf (tV (e2 dGe (eV 4) (e2 dPow (eC (.int 10)) (eC (.int 18))))) (sExpr (eMt "list" dAppend (eV 2) (aCons (eV 4) (aNil)))) (sNil))))
noncomputable def b_d_law_tape : MS := sSeq (sSet 1 (eC (.int 4007)))
  (sSeq (sSet 2 (eLst (aNil)))
  (sSeq (sFor (iSeq (eV 0)) (gN 3) (bl_d_law_tape_1))
  (sRet (e2 dAdd (eLst (aCons (eV 1) (aNil))) (eV 2)))))
noncomputable def m_d_law_tape : List D → Store → R D := fnM 5 1 b_d_law_tape
theorem ok_d_law_tape (X : Fx K mg) : FnOk P w K mg base (L2.CX P w) 1 X.a_d_law_tape X.d_d_law_tape ["script"] (spM K mg 1 m_d_law_tape) :=
  okM (k := 0) X.F_d_law_tape sc_d_law_tape rfl fun cdv A outer s H E hr tk =>
    (css_cons (cs_set (j := 1) sc_d_law_tape.nd rfl (Or.inl rfl) (ce_int))
    (css_cons (cs_set (j := 2) sc_d_law_tape.nd rfl (Or.inl rfl) (ce_lst (ca_nil)))
    (css_cons (cs_for (passes_of rfl) rfl (ci_seq (ce_v 0)) (cg_name (i := 3) sc_d_law_tape.nd rfl (by first | exact Or.inl rfl | exact Or.inr rfl)) (css_cons (cs_set (j := 4) sc_d_law_tape.nd rfl (Or.inl rfl) (ce_callTy call_int1 fns_int (by rfl) X.b_int (by decide +kernel) (ca_cons (ce_v 3) (ca_nil))))
    (css_cons (cs_if (ct_cmp opA_lt ops_lt (ce_v 4) (ce_int) (nomark _)) (css_one (cs_set (j := 4) sc_d_law_tape.nd rfl (Or.inl rfl) (ce_op op_sub ops_sub (ce_int) (ce_op op_mul ops_mul (ce_int) (ce_v 4))))) (css_nil))
    (css_cons (cs_set (j := 1) sc_d_law_tape.nd rfl (Or.inl rfl) (ce_op op_mod ops_mod (ce_callTy call_int1 fns_int (by rfl) X.b_int (by decide +kernel) (ca_cons (ce_op op_addA ops_add (ce_op op_addA ops_add (ce_op op_mul ops_mul (ce_v 1) (ce_int)) (ce_v 4)) (ce_int)) (ca_nil))) (ce_int)))
    (css_one (cs_if (ct_cmp opA_ge ops_ge (ce_v 4) (ce_op op_pow ops_pow (ce_int) (ce_int)) (nomark _)) (css_one (cs_expr (ce_bm PySem.F.plainAttrs_list PySem.F.slot_list_append PySem.F.type_list_append mt_append mts_append (ce_v 2) (ca_cons (ce_v 4) (ca_nil))))) (css_nil)))))))
    (css_one (cs_ret (ce_op op_addA ops_add (ce_lst (ca_cons (ce_v 1) (ca_nil))) (ce_v 2)))))) :
      PSs _ _ (Ts _ _ _ b_d_law_tape))
noncomputable def b_d_law_draw : MS := sSeq (sIf (tV (e2 dLt (eV 1) (eC (.int 2)))) (sRet (eC (.int 0))) (sNil))
  (sSeq (sIf (tV (e2 dGt (eFn dLen (aCons (eV 0) (aNil))) (eC (.int 1)))) (sSeq (sSet 2 (e2 dIxZ (eV 0) (eC (.int 1))))
  (sSeq (sPut pAny (eV 0) (eC (.int 1)) (e2 dDiv (eV 2) (eV 1)))
  (sSeq (sIf (tV (e2 dEq (e2 dIxZ (eV 0) (eC (.int 1))) (eC (.int 0)))) (sExpr (eMt "list" dPopX (eV 0) (aCons (eC (.int 1)) (aNil)))) (sNil))
  (sRet (e2 dMod (eFn dInt (aCons (eV 2) (aNil))) (eV 1)))))) (sNil))
  (sSeq (sPut pAny (eV 0) (eC (.int 0)) (e2 dMod (eFn dInt (aCons (e2 dAdd (e2 dMul (e2 dIxZ (eV 0) (eC (.int 0))) (eC (.int 40014))) (eC (.int 307))) (aNil))) (eC (.int 2147483563))))
  (sSeq (sSet 3 (e2 dMod (eFn dInt (aCons (e2 dMul (e2 dIxZ (eV 0) (eC (.int 0))) (eC (.int 1283))) (aNil))) (eC (.int 2147483549))))
  (sRet (e2 dMod (eFn dInt (aCons (e2 dDiv (eV 3) (eC (.int 37))) (aNil))) (eV 1))))))
noncomputable def m_d_law_draw : List D → Store → R D := fnM 4 2 b_d_law_draw
theorem ok_d_law_draw (X : Fx K mg) : FnOk P w K mg base (L2.CX P w) 1 X.a_d_law_draw X.d_d_law_draw ["tape", "many"] (spM K mg 2 m_d_law_draw) :=
  okM (k := 0) X.F_d_law_draw sc_d_law_draw rfl fun cdv A outer s H E hr tk =>
    (css_cons (cs_if (ct_cmp opA_lt ops_lt (ce_v 1) (ce_int) (nomark _)) (css_one (cs_ret (ce_int))) (css_nil))
    (css_cons (cs_if (ct_cmp opA_gt ops_gt (ce_callB call_len fns_len (by rfl) X.b_len (by decide +kernel) (ca_cons (ce_v 0) (ca_nil))) (ce_int) (nomark _)) (css_cons (cs_set (j := 2) sc_d_law_draw.nd rfl (Or.inl rfl) (ce_ix (ix_Z hr.units) ops_ixZ (ce_v 0) (ce_int) (fun _ _ => rfl)))
    (css_cons (cs_put (ce_op op_fdiv ops_div (ce_v 2) (ce_v 1)) (ce_v 0) (ce_int) (set_any hr.units) puts_any)
    (css_cons (cs_if (ct_cmp (opA_eq hr.units) ops_eq (ce_ix (ix_Z hr.units) ops_ixZ (ce_v 0) (ce_int) (fun _ _ => rfl)) (ce_int) (nomark _)) (css_one (cs_expr (ce_bm PySem.F.plainAttrs_list PySem.F.slot_list_pop PySem.F.type_list_pop mt_popAt mts_popX (ce_v 0) (ca_cons (ce_int) (ca_nil))))) (css_nil))
    (css_one (cs_ret (ce_op op_mod ops_mod (ce_callTy call_int1 fns_int (by rfl) X.b_int (by decide +kernel) (ca_cons (ce_v 2) (ca_nil))) (ce_v 1))))))) (css_nil))
    (css_cons (cs_put (ce_op op_mod ops_mod (ce_callTy call_int1 fns_int (by rfl) X.b_int (by decide +kernel) (ca_cons (ce_op op_addA ops_add (ce_op op_mul ops_mul (ce_ix (ix_Z hr.units) ops_ixZ (ce_v 0) (ce_int) (fun _ _ => rfl)) (ce_int)) (ce_int)) (ca_nil))) (ce_int)) (ce_v 0) (ce_int) (set_any hr.units) puts_any)
    (css_cons (cs_set (j := 3) sc_d_law_draw.nd rfl (Or.inl rfl) (ce_op op_mod ops_mod (ce_callTy call_int1 fns_int (by rfl) X.b_int (by decide +kernel) (ca_cons (ce_op op_mul ops_mul (ce_ix (ix_Z hr.units) ops_ixZ (ce_v 0) (ce_int) (fun _ _ => rfl)) (ce_int)) (ca_nil))) (ce_int)))
    (css_one (cs_ret (ce_op op_mod ops_mod (ce_callTy call_int1 fns_int (by rfl) X.b_int (by decide +kernel) (ca_cons (ce_op op_fdiv ops_div (ce_v 3) (ce_int)) (ca_nil))) (ce_v 1))))))) :
      PSs _ _ (Ts _ _ _ b_d_law_draw))
noncomputable def bl_d_law_loop_1 : MS := sIf (tV (e2 dGt (e2 dAdd (e2 dIxZ (eV 2) (eV 5)) (eV 7)) (e2 dIxZ (eV 2) (eV 6)))) (sSeq (sPut pAny (eV 2) (eV 6) (e2 dAdd (e2 dIxZ (eV 2) (eV 5)) (eV 7)))
  (sSet 4 (eC (.bl true)))) (sNil)
noncomputable def bl_d_law_loop_2 : MS := sSeq (sSet 4 (eC (.bl false)))
  (sSeq (sFor (iSeq (eV 1)) (gT 3 (gsC (gN 5) (gsC (gN 6) (gsC (gN 7) (gsN))))) (bl_d_law_loop_1))
  (sIf (tNot (tTru (eV 4))) (sRet (eC (.bl false))) (sNil)))
noncomputable def b_d_law_loop : MS := sSeq (sSet 2 (e2 dRep (eLst (aCons (eC (.int 0)) (aNil))) (eFn dLen (aCons (eV 0) (aNil)))))
  (sSeq (sFor (iRange1 (aCons (e2 dAdd (eFn dLen (aCons (eV 0) (aNil))) (eC (.int 1))) (aNil))) (gN 3) (bl_d_law_loop_2))
  (sRet (eC (.bl true))))
noncomputable def m_d_law_loop : List D → Store → R D := fnM 8 2 b_d_law_loop
theorem ok_d_law_loop (X : Fx K mg) : FnOk P w K mg base (L2.CX P w) 1 X.a_d_law_loop X.d_d_law_loop ["deeds", "gaps"] (spM K mg 2 m_d_law_loop) :=
  okM (k := 0) X.F_d_law_loop sc_d_law_loop rfl fun cdv A outer s H E hr tk =>
    (css_cons (cs_set (j := 2) sc_d_law_loop.nd rfl (Or.inl rfl) (ce_op op_rep ops_rep (ce_lst (ca_cons (ce_int) (ca_nil))) (ce_callB call_len fns_len (by rfl) X.b_len (by decide +kernel) (ca_cons (ce_v 0) (ca_nil)))))
    (css_cons (cs_for (passes_of rfl) rfl (ci_range1 (by rfl) X.b_range (ca_cons (ce_op op_addA ops_add (ce_callB call_len fns_len (by rfl) X.b_len (by decide +kernel) (ca_cons (ce_v 0) (ca_nil))) (ce_int)) (ca_nil))) (cg_name (i := 3) sc_d_law_loop.nd rfl (by first | exact Or.inl rfl | exact Or.inr rfl)) (css_cons (cs_set (j := 4) sc_d_law_loop.nd rfl (Or.inl rfl) (ce_bl))
    (css_cons (cs_for (passes_of rfl) rfl (ci_seq (ce_v 1)) (cg_tup (n := 3) rfl (cgs_cons (us := [5, 6, 7]) (cg_name (i := 5) sc_d_law_loop.nd rfl (by first | exact Or.inl rfl | exact Or.inr rfl)) (cgs_cons (us := [6, 7]) (cg_name (i := 6) sc_d_law_loop.nd rfl (by first | exact Or.inl rfl | exact Or.inr rfl)) (cgs_cons (us := [7]) (cg_name (i := 7) sc_d_law_loop.nd rfl (by first | exact Or.inl rfl | exact Or.inr rfl)) (cgs_nil (vs := [])))))) (css_one (cs_if (ct_cmp opA_gt ops_gt (ce_op op_addA ops_add (ce_ix (ix_Z hr.units) ops_ixZ (ce_v 2) (ce_v 5) (fun _ _ => rfl)) (ce_v 7)) (ce_ix (ix_Z hr.units) ops_ixZ (ce_v 2) (ce_v 6) (fun _ _ => rfl)) (nomark _)) (css_cons (cs_put (ce_op op_addA ops_add (ce_ix (ix_Z hr.units) ops_ixZ (ce_v 2) (ce_v 5) (fun _ _ => rfl)) (ce_v 7)) (ce_v 2) (ce_v 6) (set_any hr.units) puts_any)
    (css_one (cs_set (j := 4) sc_d_law_loop.nd rfl (Or.inl rfl) (ce_bl)))) (css_nil))))
    (css_one (cs_if (ct_not (ct_tru (ce_v 4))) (css_one (cs_ret (ce_bl))) (css_nil))))))
    (css_one (cs_ret (ce_bl)))) :
      PSs _ _ (Ts _ _ _ b_d_law_loop))
noncomputable def le_is_plain_1 : ME D := eCall m_plain_record (aCons (eV 2) (aNil))
noncomputable def b_is_plain : MS := sRet (eFn dAll (aCons (eLc (iSeq (e2 dIxZ (eV 0) (eC (.int 3)))) [1, 2] (gT 2 (gsC (gN 1) (gsC (gN 2) (gsN)))) (tT) (le_is_plain_1)) (aNil)))
noncomputable def m_is_plain : List D → Store → R D := fnM 3 1 b_is_plain
theorem ok_is_plain (X : Fx K mg) : FnOk P w K mg base (L2.CX P w) 2 X.a_is_plain X.d_is_plain ["book"] (spM K mg 1 m_is_plain) :=
  okM (k := 1) X.F_is_plain sc_is_plain rfl fun cdv A outer s H E hr tk =>
    (css_one (cs_ret (ce_callB (cr_all rfl) fns_all (by rfl) X.b_all (by decide +kernel) (ca_cons (ce_lc (own := [("_", 1), ("record", 2)]) rfl sc_is_plain.nd (ci_seq (ce_ix (ix_Z hr.units) ops_ixZ (ce_v 0) (ce_int) (fun _ _ => rfl))) (blkOk_by (N := ["book", "_", "record"]) (sc := defScope s_is_plain) (by decide +kernel)) (fun _ _ _ _ _ => cg_tup (n := 2) rfl (cgs_cons (us := [1, 2]) (cg_name (i := 1) sc_is_plain.nd rfl (by first | exact Or.inl rfl | exact Or.inr rfl)) (cgs_cons (us := [2]) (cg_name (i := 2) sc_is_plain.nd rfl (by first | exact Or.inl rfl | exact Or.inr rfl)) (cgs_nil (vs := []))))) (fun _ _ _ _ _ => cts_nil) (fun _ _ _ _ _ => ce_call (n := 1) (ok_plain_record X) (hr.mono (by decide)) takes0 (by rfl) X.g_plain_record X.F_plain_record.kp (bd_plain_record X) (an_cons an_nil) (ca_cons (ce_v 2) (ca_nil)))) (ca_nil)))) :
      PSs _ _ (Ts _ _ _ b_is_plain))
noncomputable def bl_is_order_1 : MS := sSeq (sIf (tOr (tV (e2 dNe (e2 dIxZ (eV 7) (eC (.int 0))) (eC (.str "gap")))) (tV (e2 dLt (e2 dIxZ (eV 7) (eC (.int 3))) (eC (.int 0))))) (sRet (eC (.bl false))) (sNil))
  (sSet 5 (eFn dMax2 (aCons (eV 5) (aCons (e2 dIxZ (eV 7) (eC (.int 3))) (aNil)))))
noncomputable def b_is_order : MS := sSeq (sAsg (gT 4 (gsC (gN 1) (gsC (gN 2) (gsC (gN 3) (gsC (gN 4) (gsN)))))) (eV 0))
  (sSeq (sSet 5 (eC (.int 1)))
  (sSeq (sFor (iSeq (eV 4)) (gT 2 (gsC (gN 6) (gsC (gN 7) (gsN)))) (bl_is_order_1))
  (sSeq (sIf (tV (e2 dLt (e2 dSub (eV 2) (eV 1)) (e2 dAdd (e2 dMul (e2 dMul (eC (.int 2)) (eFn dLen (aCons (eV 3) (aNil)))) (eV 5)) (eC (.int 1))))) (sRet (eC (.bl false))) (sNil))
  (sRet (eCall m_order_settles (aCons (eV 0) (aNil)))))))
noncomputable def m_is_order : List D → Store → R D := fnM 8 1 b_is_order
theorem ok_is_order (X : Fx K mg) : FnOk P w K mg base (L2.CX P w) 2 X.a_is_order X.d_is_order ["book"] (spM K mg 1 m_is_order) :=
  okM (k := 1) X.F_is_order sc_is_order rfl fun cdv A outer s H E hr tk =>
    (css_cons (cs_asg (ce_v 0) (cg_tup (n := 4) rfl (cgs_cons (us := [1, 2, 3, 4]) (cg_name (i := 1) sc_is_order.nd rfl (by first | exact Or.inl rfl | exact Or.inr rfl)) (cgs_cons (us := [2, 3, 4]) (cg_name (i := 2) sc_is_order.nd rfl (by first | exact Or.inl rfl | exact Or.inr rfl)) (cgs_cons (us := [3, 4]) (cg_name (i := 3) sc_is_order.nd rfl (by first | exact Or.inl rfl | exact Or.inr rfl)) (cgs_cons (us := [4]) (cg_name (i := 4) sc_is_order.nd rfl (by first | exact Or.inl rfl | exact Or.inr rfl)) (cgs_nil (vs := []))))))))
    (css_cons (cs_set (j := 5) sc_is_order.nd rfl (Or.inl rfl) (ce_int))
    (css_cons (cs_for (passes_of rfl) rfl (ci_seq (ce_v 4)) (cg_tup (n := 2) rfl (cgs_cons (us := [6, 7]) (cg_name (i := 6) sc_is_order.nd rfl (by first | exact Or.inl rfl | exact Or.inr rfl)) (cgs_cons (us := [7]) (cg_name (i := 7) sc_is_order.nd rfl (by first | exact Or.inl rfl | exact Or.inr rfl)) (cgs_nil (vs := []))))) (css_cons (cs_if (PW.pt (cw_or (ct_cmp (opA_ne hr.units) ops_ne (ce_ix (ix_Z hr.units) ops_ixZ (ce_v 7) (ce_int) (fun _ _ => rfl)) (ce_str) (nomark _)) (cw_or1 (ct_cmp opA_lt ops_lt (ce_ix (ix_Z hr.units) ops_ixZ (ce_v 7) (ce_int) (fun _ _ => rfl)) (ce_int) (nomark _))))) (css_one (cs_ret (ce_bl))) (css_nil))
    (css_one (cs_set (j := 5) sc_is_order.nd rfl (Or.inl rfl) (ce_callB (call_max2 rfl) fns_max2 (by rfl) X.b_max (by decide +kernel) (ca_cons (ce_v 5) (ca_cons (ce_ix (ix_Z hr.units) ops_ixZ (ce_v 7) (ce_int) (fun _ _ => rfl)) (ca_nil))))))))
    (css_cons (cs_if (ct_cmp opA_lt ops_lt (ce_op op_sub ops_sub (ce_v 2) (ce_v 1)) (ce_op op_addA ops_add (ce_op op_mul ops_mul (ce_op op_mul ops_mul (ce_int) (ce_callB call_len fns_len (by rfl) X.b_len (by decide +kernel) (ca_cons (ce_v 3) (ca_nil)))) (ce_v 5)) (ce_int)) (nomark _)) (css_one (cs_ret (ce_bl))) (css_nil))
    (css_one (cs_ret (ce_call (n := 1) (ok_order_settles X) (hr.mono (by decide)) tk (by rfl) X.g_order_settles X.F_order_settles.kp (bd_order_settles X) (an_cons an_nil) (ca_cons (ce_v 0) (ca_nil)))))))) :
      PSs _ _ (Ts _ _ _ b_is_order))
noncomputable def wt_d_law_names_1 : ME Bool := tV (e2 dIn (eV 6) (eV 3))
noncomputable def bl_d_law_names_2 : MS := sSeq (sSet 4 (e2 dAdd (eV 4) (eC (.int 1))))
  (sSet 6 (e2 dAdd (eC (.str "k")) (eFn dStr (aCons (eV 4) (aNil)))))
noncomputable def bl_d_law_names_3 : MS := sSeq (sSet 6 (e2 dAdd (e2 dIxZ (eV 2) (eCall m_d_law_draw (aCons (eV 0) (aCons (eC (.int 26)) (aNil))))) (e2 dIxZ (eLst (aCons (eC (.str "")) (aCons (eC (.str "0")) (aCons (eC (.str "'")) (aCons (eC (.str "7a")) (aCons (eC (.str "abcdefg")) (aNil))))))) (eCall m_d_law_draw (aCons (eV 0) (aCons (eC (.int 5)) (aNil)))))))
  (sSeq (sWhile (wt_d_law_names_1) (bl_d_law_names_2))
  (sExpr (eMt "list" dAppend (eV 3) (aCons (eV 6) (aNil)))))
noncomputable def b_d_law_names : MS := sSeq (sSet 2 (eC (.str "qwertyuiopasdfghjklzxcvbnm")))
  (sSeq (sSet 3 (eLst (aNil)))
  (sSeq (sSet 4 (eC (.int 0)))
  (sSeq (sFor (iRange1 (aCons (eV 1) (aNil))) (gN 5) (bl_d_law_names_3))
  (sRet (eFn dSortedD (aCons (eV 3) (aNil)))))))
noncomputable def m_d_law_names : List D → Store → R D := fnM 7 2 b_d_law_names
theorem ok_d_law_names (X : Fx K mg) : FnOk P w K mg base (L2.CX P w) 2 X.a_d_law_names X.d_d_law_names ["tape", "many"] (spM K mg 2 m_d_law_names) :=
  okM (k := 1) X.F_d_law_names sc_d_law_names rfl fun cdv A outer s H E hr tk =>
    (css_cons (cs_set (j := 2) sc_d_law_names.nd rfl (Or.inl rfl) (ce_str))
    (css_cons (cs_set (j := 3) sc_d_law_names.nd rfl (Or.inl rfl) (ce_lst (ca_nil)))
    (css_cons (cs_set (j := 4) sc_d_law_names.nd rfl (Or.inl rfl) (ce_int))
    (css_cons (cs_for (passes_of rfl) rfl (ci_range1 (by rfl) X.b_range (ca_cons (ce_v 1) (ca_nil))) (cg_name (i := 5) sc_d_law_names.nd rfl (by first | exact Or.inl rfl | exact Or.inr rfl)) (css_cons (cs_set (j := 6) sc_d_law_names.nd rfl (Or.inl rfl) (ce_op op_addA ops_add (ce_ix (ix_Z hr.units) ops_ixZ (ce_v 2) (ce_call (n := 2) (ok_d_law_draw X) (hr.mono (by decide)) tk (by rfl) X.g_d_law_draw X.F_d_law_draw.kp (bd_d_law_draw X) (an_cons (an_cons an_nil)) (ca_cons (ce_v 0) (ca_cons (ce_int) (ca_nil)))) (fun _ _ => rfl)) (ce_ix (ix_Z hr.units) ops_ixZ (ce_lst (ca_cons (ce_str) (ca_cons (ce_str) (ca_cons (ce_str) (ca_cons (ce_str) (ca_cons (ce_str) (ca_nil))))))) (ce_call (n := 2) (ok_d_law_draw X) (hr.mono (by decide)) tk (by rfl) X.g_d_law_draw X.F_d_law_draw.kp (bd_d_law_draw X) (an_cons (an_cons an_nil)) (ca_cons (ce_v 0) (ca_cons (ce_int) (ca_nil)))) (fun _ _ => rfl))))
    (css_cons (cs_while (passes_of rfl) (ct_cmp (opA_in (un65 hr)) ops_in (ce_v 6) (ce_v 3) (by with_unfolding_all rfl)) (css_cons (cs_set (j := 4) sc_d_law_names.nd rfl (Or.inl rfl) (ce_op op_addA ops_add (ce_v 4) (ce_int)))
    (css_one (cs_set (j := 6) sc_d_law_names.nd rfl (Or.inl rfl) (ce_op op_addA ops_add (ce_str) (ce_callTy call_strA fns_str (by rfl) X.b_str (by decide +kernel) (ca_cons (ce_v 4) (ca_nil))))))))
    (css_one (cs_expr (ce_bm PySem.F.plainAttrs_list PySem.F.slot_list_append PySem.F.type_list_append mt_append mts_append (ce_v 3) (ca_cons (ce_v 6) (ca_nil))))))))
    (css_one (cs_ret (ce_callB (call_sortD rfl hr.units) fns_sortD (by rfl) X.b_sorted (by decide +kernel) (ca_cons (ce_v 3) (ca_nil)))))))) :
      PSs _ _ (Ts _ _ _ b_d_law_names))
noncomputable def bl_d_law_shuffled_1 : MS := sExpr (eMt "list" dAppend (eV 3) (aCons (eMt "list" dPopX (eV 2) (aCons (eCall m_d_law_draw (aCons (eV 0) (aCons (eFn dLen (aCons (eV 2) (aNil))) (aNil)))) (aNil))) (aNil)))
noncomputable def b_d_law_shuffled : MS := sSeq (sSet 2 (eFn dListA (aCons (eV 1) (aNil))))
  (sSeq (sSet 3 (eLst (aNil)))
  (sSeq (sFor (iRange1 (aCons (eFn dLen (aCons (eV 1) (aNil))) (aNil))) (gN 4) (bl_d_law_shuffled_1))
  (sRet (eV 3))))
noncomputable def m_d_law_shuffled : List D → Store → R D := fnM 5 2 b_d_law_shuffled
theorem ok_d_law_shuffled (X : Fx K mg) : FnOk P w K mg base (L2.CX P w) 2 X.a_d_law_shuffled X.d_d_law_shuffled ["tape", "row"] (spM K mg 2 m_d_law_shuffled) :=
  okM (k := 1) X.F_d_law_shuffled sc_d_law_shuffled rfl fun cdv A outer s H E hr tk =>
    (css_cons (cs_set (j := 2) sc_d_law_shuffled.nd rfl (Or.inl rfl) (ce_callTy (call_listA rfl) fns_listA (by rfl) X.b_list (by decide +kernel) (ca_cons (ce_v 1) (ca_nil))))
    (css_cons (cs_set (j := 3) sc_d_law_shuffled.nd rfl (Or.inl rfl) (ce_lst (ca_nil)))
    (css_cons (cs_for (passes_of rfl) rfl (ci_range1 (by rfl) X.b_range (ca_cons (ce_callB call_len fns_len (by rfl) X.b_len (by decide +kernel) (ca_cons (ce_v 1) (ca_nil))) (ca_nil))) (cg_name (i := 4) sc_d_law_shuffled.nd rfl (by first | exact Or.inl rfl | exact Or.inr rfl)) (css_one (cs_expr (ce_bm PySem.F.plainAttrs_list PySem.F.slot_list_append PySem.F.type_list_append mt_append mts_append (ce_v 3) (ca_cons (ce_bm PySem.F.plainAttrs_list PySem.F.slot_list_pop PySem.F.type_list_pop mt_popAt mts_popX (ce_v 2) (ca_cons (ce_call (n := 2) (ok_d_law_draw X) (hr.mono (by decide)) tk (by rfl) X.g_d_law_draw X.F_d_law_draw.kp (bd_d_law_draw X) (an_cons (an_cons an_nil)) (ca_cons (ce_v 0) (ca_cons (ce_callB call_len fns_len (by rfl) X.b_len (by decide +kernel) (ca_cons (ce_v 2) (ca_nil))) (ca_nil)))) (ca_nil))) (ca_nil))))))
    (css_one (cs_ret (ce_v 3))))) :
      PSs _ _ (Ts _ _ _ b_d_law_shuffled))
noncomputable def bl_d_law_dates_1 : MS := sSeq (sSet 8 (e2 dAdd (eV 5) (eCall m_d_law_draw (aCons (eV 0) (aCons (eC (.int 4)) (aNil))))))
  (sSeq (sExpr (eMt "list" dAppend (eV 6) (aCons (eTup (aCons (eV 8) (aCons (e2 dAdd (eV 8) (eCall m_d_law_draw (aCons (eV 0) (aCons (eC (.int 2)) (aNil))))) (aNil)))) (aNil))))
  (sSet 5 (e2 dAdd (eV 8) (eC (.int 3)))))
noncomputable def b_d_law_dates : MS := sSeq (sSet 3 (eCall m_d_law_draw (aCons (eV 0) (aCons (eC (.int 6)) (aNil)))))
  (sSeq (sIf (tV (e2 dEq (eV 3) (eC (.int 1)))) (sRet (eTup (aNil))) (sNil))
  (sSeq (sIf (tV (e2 dEq (eV 3) (eC (.int 2)))) (sRet (eTup (aCons (eTup (aCons (eV 1) (aCons (eV 2) (aNil)))) (aNil)))) (sNil))
  (sSeq (sSet 4 (e2 dIxZ (eLst (aCons (eC (.int 1)) (aCons (eC (.int 0)) (aCons (eC (.int 0)) (aCons (eC (.int 2)) (aCons (eC (.int 12)) (aCons (eC (.int 1)) (aNil)))))))) (eV 3)))
  (sSeq (sSet 5 (eFn dMax2 (aCons (e1 dNeg (eC (.int 9999))) (aCons (e2 dAdd (e2 dSub (eV 1) (eC (.int 3))) (eCall m_d_law_draw (aCons (eV 0) (aCons (eC (.int 5)) (aNil))))) (aNil)))))
  (sSeq (sSet 6 (eLst (aNil)))
  (sSeq (sFor (iRange1 (aCons (eV 4) (aNil))) (gN 7) (bl_d_law_dates_1))
  (sRet (eFn dTuple (aCons (eV 6) (aNil))))))))))
noncomputable def m_d_law_dates : List D → Store → R D := fnM 9 3 b_d_law_dates
theorem ok_d_law_dates (X : Fx K mg) : FnOk P w K mg base (L2.CX P w) 2 X.a_d_law_dates X.d_d_law_dates ["tape", "first", "last"] (spM K mg 3 m_d_law_dates) :=
  okM (k := 1) X.F_d_law_dates sc_d_law_dates rfl fun cdv A outer s H E hr tk =>
    (css_cons (cs_set (j := 3) sc_d_law_dates.nd rfl (Or.inl rfl) (ce_call (n := 2) (ok_d_law_draw X) (hr.mono (by decide)) tk (by rfl) X.g_d_law_draw X.F_d_law_draw.kp (bd_d_law_draw X) (an_cons (an_cons an_nil)) (ca_cons (ce_v 0) (ca_cons (ce_int) (ca_nil)))))
    (css_cons (cs_if (ct_cmp (opA_eq hr.units) ops_eq (ce_v 3) (ce_int) (nomark _)) (css_one (cs_ret (ce_tup (ca_nil)))) (css_nil))
    (css_cons (cs_if (ct_cmp (opA_eq hr.units) ops_eq (ce_v 3) (ce_int) (nomark _)) (css_one (cs_ret (ce_tup (ca_cons (ce_tup (ca_cons (ce_v 1) (ca_cons (ce_v 2) (ca_nil)))) (ca_nil))))) (css_nil))
    (css_cons (cs_set (j := 4) sc_d_law_dates.nd rfl (Or.inl rfl) (ce_ix (ix_Z hr.units) ops_ixZ (ce_lst (ca_cons (ce_int) (ca_cons (ce_int) (ca_cons (ce_int) (ca_cons (ce_int) (ca_cons (ce_int) (ca_cons (ce_int) (ca_nil)))))))) (ce_v 3) (fun _ _ => rfl)))
    (css_cons (cs_set (j := 5) sc_d_law_dates.nd rfl (Or.inl rfl) (ce_callB (call_max2 rfl) fns_max2 (by rfl) X.b_max (by decide +kernel) (ca_cons (ce_un un_neg uns_neg (ce_int)) (ca_cons (ce_op op_addA ops_add (ce_op op_sub ops_sub (ce_v 1) (ce_int)) (ce_call (n := 2) (ok_d_law_draw X) (hr.mono (by decide)) tk (by rfl) X.g_d_law_draw X.F_d_law_draw.kp (bd_d_law_draw X) (an_cons (an_cons an_nil)) (ca_cons (ce_v 0) (ca_cons (ce_int) (ca_nil))))) (ca_nil)))))
    (css_cons (cs_set (j := 6) sc_d_law_dates.nd rfl (Or.inl rfl) (ce_lst (ca_nil)))
    (css_cons (cs_for (passes_of rfl) rfl (ci_range1 (by rfl) X.b_range (ca_cons (ce_v 4) (ca_nil))) (cg_name (i := 7) sc_d_law_dates.nd rfl (by first | exact Or.inl rfl | exact Or.inr rfl)) (css_cons (cs_set (j := 8) sc_d_law_dates.nd rfl (Or.inl rfl) (ce_op op_addA ops_add (ce_v 5) (ce_call (n := 2) (ok_d_law_draw X) (hr.mono (by decide)) tk (by rfl) X.g_d_law_draw X.F_d_law_draw.kp (bd_d_law_draw X) (an_cons (an_cons an_nil)) (ca_cons (ce_v 0) (ca_cons (ce_int) (ca_nil))))))
    (css_cons (cs_expr (ce_bm PySem.F.plainAttrs_list PySem.F.slot_list_append PySem.F.type_list_append mt_append mts_append (ce_v 6) (ca_cons (ce_tup (ca_cons (ce_v 8) (ca_cons (ce_op op_addA ops_add (ce_v 8) (ce_call (n := 2) (ok_d_law_draw X) (hr.mono (by decide)) tk (by rfl) X.g_d_law_draw X.F_d_law_draw.kp (bd_d_law_draw X) (an_cons (an_cons an_nil)) (ca_cons (ce_v 0) (ca_cons (ce_int) (ca_nil))))) (ca_nil)))) (ca_nil))))
    (css_one (cs_set (j := 5) sc_d_law_dates.nd rfl (Or.inl rfl) (ce_op op_addA ops_add (ce_v 8) (ce_int)))))))
    (css_one (cs_ret (ce_callTy call_tupN fns_tuple (by rfl) X.b_tuple (by decide +kernel) (ca_cons (ce_v 6) (ca_nil))))))))))) :
      PSs _ _ (Ts _ _ _ b_d_law_dates))
noncomputable def le_d_law_due_1 : ME D := e2 dIxZ (eV 14) (eC (.int 2))
noncomputable def bl_d_law_due_2 : MS := sSeq (sIf (tAnd (tV (e2 dEq (e2 dIxZ (eV 6) (eC (.int 0))) (eC (.str "years")))) (tV (e2 dNe (eFn dLen (aCons (e2 dIxZ (eV 6) (eC (.int 2))) (aNil))) (eC (.int 1))))) (sSet 9 (eC (.bl false))) (sNil))
  (sIf (tOr (tV (e2 dNe (e2 dIxZ (eV 6) (eC (.int 0))) (eC (.str "gap")))) (tV (e2 dLt (e2 dIxZ (eV 6) (eC (.int 3))) (eC (.int 0))))) (sSet 10 (eC (.bl false))) (sSeq (sExpr (eMt "list" dAppend (eV 12) (aCons (eTup (aCons (eMtT dTix (eV 3) (aCons (e2 dIxZ (eV 6) (eC (.int 1))) (aNil))) (aCons (eMtT dTix (eV 3) (aCons (e2 dIxZ (eV 6) (eC (.int 2))) (aNil))) (aCons (e2 dIxZ (eV 6) (eC (.int 3))) (aNil))))) (aNil))))
  (sSet 11 (eAnd (eV 11) (e2 dGe (e2 dIxZ (eV 6) (eC (.int 3))) (eC (.int 1)))))))
noncomputable def le_d_law_due_3 : ME D := e2 dIxZ (eV 6) (eC (.int 0))
noncomputable def b_d_law_due : MS := sSeq (sAsg (gT 4 (gsC (gN 1) (gsC (gN 2) (gsC (gN 3) (gsC (gN 4) (gsN)))))) (eV 0))
  (sSeq (sSet 7 (eLc (iSeq (eV 4)) [5, 6] (gT 2 (gsC (gN 5) (gsC (gN 6) (gsN)))) (tT) (le_d_law_due_3)))
  (sSeq (sSet 8 (eC (.str "both")))
  (sSeq (sIf (tV (e2 dIn (eC (.str "under")) (eV 7))) (sSet 8 (eC (.str "ante"))) (sNil))
  (sSeq (sIf (tV (e2 dIn (eC (.str "over")) (eV 7))) (sSet 8 (eC (.str "post"))) (sNil))
  (sSeq (sIf (tOr (tV (e2 dIn (eC (.str "one")) (eV 7))) (tAnd (tV (e2 dIn (eC (.str "under")) (eV 7))) (tV (e2 dIn (eC (.str "over")) (eV 7))))) (sSet 8 (eC (.str "mixed"))) (sNil))
  (sSeq (sSet 9 (e2 dEq (eV 8) (eC (.str "both"))))
  (sSeq (sSet 10 (eC (.bl true)))
  (sSeq (sSet 11 (eC (.bl true)))
  (sSeq (sSet 12 (eLst (aNil)))
  (sSeq (sFor (iSeq (eV 4)) (gT 2 (gsC (gN 5) (gsC (gN 6) (gsN)))) (bl_d_law_due_2))
  (sSeq (sSet 13 (eFn dMaxL (aCons (e2 dAdd (eLst (aCons (eC (.int 1)) (aNil))) (eLc (iSeq (eV 12)) [14] (gN 14) (tT) (le_d_law_due_1))) (aNil))))
  (sSeq (sIf (tV (e2 dLt (e2 dSub (eV 2) (eV 1)) (e2 dAdd (e2 dMul (e2 dMul (eC (.int 2)) (eFn dLen (aCons (eV 3) (aNil)))) (eV 13)) (eC (.int 1))))) (sSet 10 (eC (.bl false))) (sNil))
  (sSeq (sIf (tAnd (tTru (eV 10)) (tTru (eCall m_d_law_loop (aCons (eV 3) (aCons (eV 12) (aNil)))))) (sSet 10 (eC (.bl false))) (sNil))
  (sRet (eLst (aCons (eV 8) (aCons (eV 9) (aCons (eV 10) (aCons (eAnd (eV 10) (eV 11)) (aNil))))))))))))))))))))
noncomputable def m_d_law_due : List D → Store → R D := fnM 15 1 b_d_law_due
theorem ok_d_law_due (X : Fx K mg) : FnOk P w K mg base (L2.CX P w) 2 X.a_d_law_due X.d_d_law_due ["book"] (spM K mg 1 m_d_law_due) :=
  okM (k := 1) X.F_d_law_due sc_d_law_due rfl fun cdv A outer s H E hr tk =>
    (css_cons (cs_asg (ce_v 0) (cg_tup (n := 4) rfl (cgs_cons (us := [1, 2, 3, 4]) (cg_name (i := 1) sc_d_law_due.nd rfl (by first | exact Or.inl rfl | exact Or.inr rfl)) (cgs_cons (us := [2, 3, 4]) (cg_name (i := 2) sc_d_law_due.nd rfl (by first | exact Or.inl rfl | exact Or.inr rfl)) (cgs_cons (us := [3, 4]) (cg_name (i := 3) sc_d_law_due.nd rfl (by first | exact Or.inl rfl | exact Or.inr rfl)) (cgs_cons (us := [4]) (cg_name (i := 4) sc_d_law_due.nd rfl (by first | exact Or.inl rfl | exact Or.inr rfl)) (cgs_nil (vs := []))))))))
    (css_cons (cs_setLc (i := 7) (own := [("digger", 5), ("record", 6)]) rfl sc_d_law_due.nd rfl rfl (sw_true rfl rfl rfl (by decide +kernel)) (ci_seq (ce_v 4)) (blkOk_by (N := ["book", "first", "last", "deeds", "entries", "digger", "record", "kinds", "way", "plain", "order", "strict", "gaps", "most", "row"]) (sc := defScope s_d_law_due) (by decide +kernel)) (fun _ _ _ _ _ => cg_tup (n := 2) rfl (cgs_cons (us := [5, 6]) (cg_name (i := 5) sc_d_law_due.nd rfl (by first | exact Or.inl rfl | exact Or.inr rfl)) (cgs_cons (us := [6]) (cg_name (i := 6) sc_d_law_due.nd rfl (by first | exact Or.inl rfl | exact Or.inr rfl)) (cgs_nil (vs := []))))) (fun _ _ _ _ _ => cts_nil) (fun _ _ _ _ _ => ce_ix (ix_Z hr.units) ops_ixZ (ce_v 6) (ce_int) (fun _ _ => rfl)))
    (css_cons (cs_set (j := 8) sc_d_law_due.nd rfl (Or.inl rfl) (ce_str))
    (css_cons (cs_if (ct_cmp (opA_in (un65 hr)) ops_in (ce_str) (ce_v 7) (by with_unfolding_all rfl)) (css_one (cs_set (j := 8) sc_d_law_due.nd rfl (Or.inl rfl) (ce_str))) (css_nil))
    (css_cons (cs_if (ct_cmp (opA_in (un65 hr)) ops_in (ce_str) (ce_v 7) (by with_unfolding_all rfl)) (css_one (cs_set (j := 8) sc_d_law_due.nd rfl (Or.inl rfl) (ce_str))) (css_nil))
    (css_cons (cs_if (PW.pt (cw_or (ct_cmp (opA_in (un65 hr)) ops_in (ce_str) (ce_v 7) (by with_unfolding_all rfl)) (cw_or1 (PW.pt (cw_and (ct_cmp (opA_in (un65 hr)) ops_in (ce_str) (ce_v 7) (by with_unfolding_all rfl)) (cw_and1 (ct_cmp (opA_in (un65 hr)) ops_in (ce_str) (ce_v 7) (by with_unfolding_all rfl)))))))) (css_one (cs_set (j := 8) sc_d_law_due.nd rfl (Or.inl rfl) (ce_str))) (css_nil))
    (css_cons (cs_set (j := 9) sc_d_law_due.nd rfl (Or.inl rfl) (ce_cmp (opA_eq hr.units) ops_eq (ce_v 8) (ce_str) (nomark _)))
    (css_cons (cs_set (j := 10) sc_d_law_due.nd rfl (Or.inl rfl) (ce_bl))
    (css_cons (cs_set (j := 11) sc_d_law_due.nd rfl (Or.inl rfl) (ce_bl))
    (css_cons (cs_set (j := 12) sc_d_law_due.nd rfl (Or.inl rfl) (ce_lst (ca_nil)))
    (css_cons (cs_for (passes_of rfl) rfl (ci_seq (ce_v 4)) (cg_tup (n := 2) rfl (cgs_cons (us := [5, 6]) (cg_name (i := 5) sc_d_law_due.nd rfl (by first | exact Or.inl rfl | exact Or.inr rfl)) (cgs_cons (us := [6]) (cg_name (i := 6) sc_d_law_due.nd rfl (by first | exact Or.inl rfl | exact Or.inr rfl)) (cgs_nil (vs := []))))) (css_cons (cs_if (PW.pt (cw_and (ct_cmp (opA_eq hr.units) ops_eq (ce_ix (ix_Z hr.units) ops_ixZ (ce_v 6) (ce_int) (fun _ _ => rfl)) (ce_str) (nomark _)) (cw_and1 (ct_cmp (opA_ne hr.units) ops_ne (ce_callB call_len fns_len (by rfl) X.b_len (by decide +kernel) (ca_cons (ce_ix (ix_Z hr.units) ops_ixZ (ce_v 6) (ce_int) (fun _ _ => rfl)) (ca_nil))) (ce_int) (nomark _))))) (css_one (cs_set (j := 9) sc_d_law_due.nd rfl (Or.inl rfl) (ce_bl))) (css_nil))
    (css_one (cs_if (PW.pt (cw_or (ct_cmp (opA_ne hr.units) ops_ne (ce_ix (ix_Z hr.units) ops_ixZ (ce_v 6) (ce_int) (fun _ _ => rfl)) (ce_str) (nomark _)) (cw_or1 (ct_cmp opA_lt ops_lt (ce_ix (ix_Z hr.units) ops_ixZ (ce_v 6) (ce_int) (fun _ _ => rfl)) (ce_int) (nomark _))))) (css_one (cs_set (j := 10) sc_d_law_due.nd rfl (Or.inl rfl) (ce_bl))) (css_cons (cs_expr (ce_bm PySem.F.plainAttrs_list PySem.F.slot_list_append PySem.F.type_list_append mt_append mts_append (ce_v 12) (ca_cons (ce_tup (ca_cons (ce_bmT PySem.F.plainAttrs_tuple PySem.F.slot_tuple_index PySem.F.type_tuple_index mt_tix mts_tix (ce_v 3) (ca_cons (ce_ix (ix_Z hr.units) ops_ixZ (ce_v 6) (ce_int) (fun _ _ => rfl)) (ca_nil))) (ca_cons (ce_bmT PySem.F.plainAttrs_tuple PySem.F.slot_tuple_index PySem.F.type_tuple_index mt_tix mts_tix (ce_v 3) (ca_cons (ce_ix (ix_Z hr.units) ops_ixZ (ce_v 6) (ce_int) (fun _ _ => rfl)) (ca_nil))) (ca_cons (ce_ix (ix_Z hr.units) ops_ixZ (ce_v 6) (ce_int) (fun _ _ => rfl)) (ca_nil))))) (ca_nil))))
    (css_one (cs_set (j := 11) sc_d_law_due.nd rfl (Or.inl rfl) (ce_and (ce_v 11) (ce_one (ce_cmp opA_ge ops_ge (ce_ix (ix_Z hr.units) ops_ixZ (ce_v 6) (ce_int) (fun _ _ => rfl)) (ce_int) (nomark _)))))))))))
    (css_cons (cs_set (j := 13) sc_d_law_due.nd rfl (Or.inl rfl) (ce_callB (cr_max rfl) fns_maxL (by rfl) X.b_max (by decide +kernel) (ca_cons (ce_op op_addA ops_add (ce_lst (ca_cons (ce_int) (ca_nil))) (ce_lc (own := [("row", 14)]) rfl sc_d_law_due.nd (ci_seq (ce_v 12)) (blkOk_by (N := ["book", "first", "last", "deeds", "entries", "digger", "record", "kinds", "way", "plain", "order", "strict", "gaps", "most", "row"]) (sc := defScope s_d_law_due) (by decide +kernel)) (fun _ _ _ _ _ => cg_name (i := 14) sc_d_law_due.nd rfl (by first | exact Or.inl rfl | exact Or.inr rfl)) (fun _ _ _ _ _ => cts_nil) (fun _ _ _ _ _ => ce_ix (ix_Z hr.units) ops_ixZ (ce_v 14) (ce_int) (fun _ _ => rfl)))) (ca_nil))))
    (css_cons (cs_if (ct_cmp opA_lt ops_lt (ce_op op_sub ops_sub (ce_v 2) (ce_v 1)) (ce_op op_addA ops_add (ce_op op_mul ops_mul (ce_op op_mul ops_mul (ce_int) (ce_callB call_len fns_len (by rfl) X.b_len (by decide +kernel) (ca_cons (ce_v 3) (ca_nil)))) (ce_v 13)) (ce_int)) (nomark _)) (css_one (cs_set (j := 10) sc_d_law_due.nd rfl (Or.inl rfl) (ce_bl))) (css_nil))
    (css_cons (cs_if (PW.pt (cw_and (ct_tru (ce_v 10)) (cw_and1 (ct_tru (ce_call (n := 2) (ok_d_law_loop X) (hr.mono (by decide)) tk (by rfl) X.g_d_law_loop X.F_d_law_loop.kp (bd_d_law_loop X) (an_cons (an_cons an_nil)) (ca_cons (ce_v 3) (ca_cons (ce_v 12) (ca_nil)))))))) (css_one (cs_set (j := 10) sc_d_law_due.nd rfl (Or.inl rfl) (ce_bl))) (css_nil))
    (css_one (cs_ret (ce_lst (ca_cons (ce_v 8) (ca_cons (ce_v 9) (ca_cons (ce_v 10) (ca_cons (ce_and (ce_v 10) (ce_one (ce_v 11))) (ca_nil))))))))))))))))))))) :
      PSs _ _ (Ts _ _ _ b_d_law_due))
noncomputable def lt_d_law_frame_1 : ME Bool := tV (e2 dEq (e2 dIxZ (eV 8) (eC (.int 0))) (eC (.str "gap")))
noncomputable def le_d_law_frame_2 : ME D := e2 dIxZ (eV 8) (eC (.int 3))
noncomputable def b_d_law_frame : MS := sSeq (sSet 4 (eFn dMaxL (aCons (e2 dAdd (eLst (aCons (eC (.int 1)) (aNil))) (eLc (iSeq (eV 2)) [7, 8] (gT 2 (gsC (gN 7) (gsC (gN 8) (gsN)))) (lt_d_law_frame_1) (le_d_law_frame_2))) (aNil))))
  (sSeq (sSet 5 (e2 dIxZ (eLst (aCons (eC (.int 0)) (aCons (e1 dNeg (eC (.int 9999))) (aCons (e1 dNeg (eC (.int 3))) (aCons (eC (.int 4000)) (aCons (eC (.int 9999)) (aNil))))))) (eCall m_d_law_draw (aCons (eV 0) (aCons (eC (.int 5)) (aNil))))))
  (sSeq (sSet 6 (e2 dAdd (e2 dAdd (e2 dMul (e2 dMul (eC (.int 2)) (eFn dLen (aCons (eV 1) (aNil)))) (eV 4)) (eC (.int 1))) (eV 3)))
  (sSeq (sIf (tV (e2 dGt (e2 dAdd (eV 5) (eV 6)) (eC (.int 9999)))) (sSet 5 (e2 dSub (eC (.int 9999)) (eV 6))) (sNil))
  (sRet (eTup (aCons (eV 5) (aCons (e2 dAdd (eV 5) (eV 6)) (aCons (eFn dTuple (aCons (eV 1) (aNil))) (aCons (eFn dTuple (aCons (eV 2) (aNil))) (aNil))))))))))
noncomputable def m_d_law_frame : List D → Store → R D := fnM 9 4 b_d_law_frame
theorem ok_d_law_frame (X : Fx K mg) : FnOk P w K mg base (L2.CX P w) 2 X.a_d_law_frame X.d_d_law_frame ["tape", "deeds", "entries", "wider"] (spM K mg 4 m_d_law_frame) :=
  okM (k := 1) X.F_d_law_frame sc_d_law_frame rfl fun cdv A outer s H E hr tk =>
    (css_cons (cs_set (j := 4) sc_d_law_frame.nd rfl (Or.inl rfl) (ce_callB (cr_max rfl) fns_maxL (by rfl) X.b_max (by decide +kernel) (ca_cons (ce_op op_addA ops_add (ce_lst (ca_cons (ce_int) (ca_nil))) (ce_lc (own := [("digger", 7), ("record", 8)]) rfl sc_d_law_frame.nd (ci_seq (ce_v 2)) (blkOk_by (N := ["tape", "deeds", "entries", "wider", "most", "first", "need", "digger", "record"]) (sc := defScope s_d_law_frame) (by decide +kernel)) (fun _ _ _ _ _ => cg_tup (n := 2) rfl (cgs_cons (us := [7, 8]) (cg_name (i := 7) sc_d_law_frame.nd rfl (by first | exact Or.inl rfl | exact Or.inr rfl)) (cgs_cons (us := [8]) (cg_name (i := 8) sc_d_law_frame.nd rfl (by first | exact Or.inl rfl | exact Or.inr rfl)) (cgs_nil (vs := []))))) (fun _ _ _ _ _ => cts_one (ct_cmp (opA_eq hr.units) ops_eq (ce_ix (ix_Z hr.units) ops_ixZ (ce_v 8) (ce_int) (fun _ _ => rfl)) (ce_str) (nomark _))) (fun _ _ _ _ _ => ce_ix (ix_Z hr.units) ops_ixZ (ce_v 8) (ce_int) (fun _ _ => rfl)))) (ca_nil))))
    (css_cons (cs_set (j := 5) sc_d_law_frame.nd rfl (Or.inl rfl) (ce_ix (ix_Z hr.units) ops_ixZ (ce_lst (ca_cons (ce_int) (ca_cons (ce_un un_neg uns_neg (ce_int)) (ca_cons (ce_un un_neg uns_neg (ce_int)) (ca_cons (ce_int) (ca_cons (ce_int) (ca_nil))))))) (ce_call (n := 2) (ok_d_law_draw X) (hr.mono (by decide)) tk (by rfl) X.g_d_law_draw X.F_d_law_draw.kp (bd_d_law_draw X) (an_cons (an_cons an_nil)) (ca_cons (ce_v 0) (ca_cons (ce_int) (ca_nil)))) (fun _ _ => rfl)))
    (css_cons (cs_set (j := 6) sc_d_law_frame.nd rfl (Or.inl rfl) (ce_op op_addA ops_add (ce_op op_addA ops_add (ce_op op_mul ops_mul (ce_op op_mul ops_mul (ce_int) (ce_callB call_len fns_len (by rfl) X.b_len (by decide +kernel) (ca_cons (ce_v 1) (ca_nil)))) (ce_v 4)) (ce_int)) (ce_v 3)))
    (css_cons (cs_if (ct_cmp opA_gt ops_gt (ce_op op_addA ops_add (ce_v 5) (ce_v 6)) (ce_int) (nomark _)) (css_one (cs_set (j := 5) sc_d_law_frame.nd rfl (Or.inl rfl) (ce_op op_sub ops_sub (ce_int) (ce_v 6)))) (css_nil))
    (css_one (cs_ret (ce_tup (ca_cons (ce_v 5) (ca_cons (ce_op op_addA ops_add (ce_v 5) (ce_v 6)) (ca_cons (ce_callTy call_tupN fns_tuple (by rfl) X.b_tuple (by decide +kernel) (ca_cons (ce_v 1) (ca_nil))) (ca_cons (ce_callTy call_tupN fns_tuple (by rfl) X.b_tuple (by decide +kernel) (ca_cons (ce_v 2) (ca_nil))) (ca_nil))))))))))) :
      PSs _ _ (Ts _ _ _ b_d_law_frame))
noncomputable def le_is_strict_1 : ME D := e2 dGe (e2 dIxZ (eV 2) (eC (.int 3))) (eC (.int 1))
noncomputable def b_is_strict : MS := sRet (eAnd (eCall m_is_order (aCons (eV 0) (aNil))) (eFn dAll (aCons (eLc (iSeq (e2 dIxZ (eV 0) (eC (.int 3)))) [1, 2] (gT 2 (gsC (gN 1) (gsC (gN 2) (gsN)))) (tT) (le_is_strict_1)) (aNil))))
noncomputable def m_is_strict : List D → Store → R D := fnM 3 1 b_is_strict
theorem ok_is_strict (X : Fx K mg) : FnOk P w K mg base (L2.CX P w) 3 X.a_is_strict X.d_is_strict ["book"] (spM K mg 1 m_is_strict) :=
  okM (k := 2) X.F_is_strict sc_is_strict rfl fun cdv A outer s H E hr tk =>
    (css_one (cs_ret (ce_and (ce_call (n := 1) (ok_is_order X) (hr.mono (by decide)) tk (by rfl) X.g_is_order X.F_is_order.kp (bd_is_order X) (an_cons an_nil) (ca_cons (ce_v 0) (ca_nil))) (ce_one (ce_callB (cr_all rfl) fns_all (by rfl) X.b_all (by decide +kernel) (ca_cons (ce_lc (own := [("_", 1), ("record", 2)]) rfl sc_is_strict.nd (ci_seq (ce_ix (ix_Z hr.units) ops_ixZ (ce_v 0) (ce_int) (fun _ _ => rfl))) (blkOk_by (N := ["book", "_", "record"]) (sc := defScope s_is_strict) (by decide +kernel)) (fun _ _ _ _ _ => cg_tup (n := 2) rfl (cgs_cons (us := [1, 2]) (cg_name (i := 1) sc_is_strict.nd rfl (by first | exact Or.inl rfl | exact Or.inr rfl)) (cgs_cons (us := [2]) (cg_name (i := 2) sc_is_strict.nd rfl (by first | exact Or.inl rfl | exact Or.inr rfl)) (cgs_nil (vs := []))))) (fun _ _ _ _ _ => cts_nil) (fun _ _ _ _ _ => ce_cmp opA_ge ops_ge (ce_ix (ix_Z hr.units) ops_ixZ (ce_v 2) (ce_int) (fun _ _ => rfl)) (ce_int) (nomark _))) (ca_nil)))))) :
      PSs _ _ (Ts _ _ _ b_is_strict))
noncomputable def bl_d_law_base_1 : MS := sSeq (sSet 7 (eCall m_d_law_draw (aCons (eV 0) (aCons (eFn dLen (aCons (eV 3) (aNil))) (aNil)))))
  (sSeq (sSet 8 (e2 dMod (eFn dInt (aCons (e2 dAdd (e2 dAdd (eV 7) (eC (.int 1))) (eCall m_d_law_draw (aCons (eV 0) (aCons (e2 dSub (eFn dLen (aCons (eV 3) (aNil))) (eC (.int 1))) (aNil))))) (aNil))) (eFn dLen (aCons (eV 3) (aNil)))))
  (sSeq (sSet 9 (eTup (aCons (eC (.str "gap")) (aCons (e2 dIxZ (eV 3) (eV 7)) (aCons (e2 dIxZ (eV 3) (eV 8)) (aCons (e2 dSub (eCall m_d_law_draw (aCons (eV 0) (aCons (eC (.int 7)) (aNil)))) (eC (.int 3))) (aNil)))))))
  (sSeq (sIf (tV (e2 dLt (eCall m_d_law_draw (aCons (eV 0) (aCons (eC (.int 5)) (aNil)))) (eC (.int 2)))) (sSet 9 (eTup (aCons (eC (.str "years")) (aCons (e2 dIxZ (eV 3) (eV 7)) (aCons (eCall m_d_law_dates (aCons (eV 0) (aCons (eV 1) (aCons (eV 2) (aNil))))) (aNil)))))) (sNil))
  (sExpr (eMt "list" dAppend (eV 5) (aCons (eTup (aCons (e2 dIxZ (eLst (aCons (eC (.str "ann")) (aCons (eC (.str "told")) (aCons (eC (.str "site")) (aCons (eC (.str "c")) (aNil)))))) (eCall m_d_law_draw (aCons (eV 0) (aCons (eC (.int 4)) (aNil))))) (aCons (eV 9) (aNil)))) (aNil)))))))
noncomputable def b_d_law_base : MS := sSeq (sSet 5 (eLst (aNil)))
  (sSeq (sFor (iRange1 (aCons (eV 4) (aNil))) (gN 6) (bl_d_law_base_1))
  (sRet (eV 5)))
noncomputable def m_d_law_base : List D → Store → R D := fnM 10 5 b_d_law_base
theorem ok_d_law_base (X : Fx K mg) : FnOk P w K mg base (L2.CX P w) 3 X.a_d_law_base X.d_d_law_base ["tape", "first", "last", "deeds", "many"] (spM K mg 5 m_d_law_base) :=
  okM (k := 2) X.F_d_law_base sc_d_law_base rfl fun cdv A outer s H E hr tk =>
    (css_cons (cs_set (j := 5) sc_d_law_base.nd rfl (Or.inl rfl) (ce_lst (ca_nil)))
    (css_cons (cs_for (passes_of rfl) rfl (ci_range1 (by rfl) X.b_range (ca_cons (ce_v 4) (ca_nil))) (cg_name (i := 6) sc_d_law_base.nd rfl (by first | exact Or.inl rfl | exact Or.inr rfl)) (css_cons (cs_set (j := 7) sc_d_law_base.nd rfl (Or.inl rfl) (ce_call (n := 2) (ok_d_law_draw X) (hr.mono (by decide)) tk (by rfl) X.g_d_law_draw X.F_d_law_draw.kp (bd_d_law_draw X) (an_cons (an_cons an_nil)) (ca_cons (ce_v 0) (ca_cons (ce_callB call_len fns_len (by rfl) X.b_len (by decide +kernel) (ca_cons (ce_v 3) (ca_nil))) (ca_nil)))))
    (css_cons (cs_set (j := 8) sc_d_law_base.nd rfl (Or.inl rfl) (ce_op op_mod ops_mod (ce_callTy call_int1 fns_int (by rfl) X.b_int (by decide +kernel) (ca_cons (ce_op op_addA ops_add (ce_op op_addA ops_add (ce_v 7) (ce_int)) (ce_call (n := 2) (ok_d_law_draw X) (hr.mono (by decide)) tk (by rfl) X.g_d_law_draw X.F_d_law_draw.kp (bd_d_law_draw X) (an_cons (an_cons an_nil)) (ca_cons (ce_v 0) (ca_cons (ce_op op_sub ops_sub (ce_callB call_len fns_len (by rfl) X.b_len (by decide +kernel) (ca_cons (ce_v 3) (ca_nil))) (ce_int)) (ca_nil))))) (ca_nil))) (ce_callB call_len fns_len (by rfl) X.b_len (by decide +kernel) (ca_cons (ce_v 3) (ca_nil)))))
    (css_cons (cs_set (j := 9) sc_d_law_base.nd rfl (Or.inl rfl) (ce_tup (ca_cons (ce_str) (ca_cons (ce_ix (ix_Z hr.units) ops_ixZ (ce_v 3) (ce_v 7) (fun _ _ => rfl)) (ca_cons (ce_ix (ix_Z hr.units) ops_ixZ (ce_v 3) (ce_v 8) (fun _ _ => rfl)) (ca_cons (ce_op op_sub ops_sub (ce_call (n := 2) (ok_d_law_draw X) (hr.mono (by decide)) tk (by rfl) X.g_d_law_draw X.F_d_law_draw.kp (bd_d_law_draw X) (an_cons (an_cons an_nil)) (ca_cons (ce_v 0) (ca_cons (ce_int) (ca_nil)))) (ce_int)) (ca_nil)))))))
    (css_cons (cs_if (ct_cmp opA_lt ops_lt (ce_call (n := 2) (ok_d_law_draw X) (hr.mono (by decide)) tk (by rfl) X.g_d_law_draw X.F_d_law_draw.kp (bd_d_law_draw X) (an_cons (an_cons an_nil)) (ca_cons (ce_v 0) (ca_cons (ce_int) (ca_nil)))) (ce_int) (nomark _)) (css_one (cs_set (j := 9) sc_d_law_base.nd rfl (Or.inl rfl) (ce_tup (ca_cons (ce_str) (ca_cons (ce_ix (ix_Z hr.units) ops_ixZ (ce_v 3) (ce_v 7) (fun _ _ => rfl)) (ca_cons (ce_call (n := 3) (ok_d_law_dates X) (hr.mono (by decide)) tk (by rfl) X.g_d_law_dates X.F_d_law_dates.kp (bd_d_law_dates X) (an_cons (an_cons (an_cons an_nil))) (ca_cons (ce_v 0) (ca_cons (ce_v 1) (ca_cons (ce_v 2) (ca_nil))))) (ca_nil))))))) (css_nil))
    (css_one (cs_expr (ce_bm PySem.F.plainAttrs_list PySem.F.slot_list_append PySem.F.type_list_append mt_append mts_append (ce_v 5) (ca_cons (ce_tup (ca_cons (ce_ix (ix_Z hr.units) ops_ixZ (ce_lst (ca_cons (ce_str) (ca_cons (ce_str) (ca_cons (ce_str) (ca_cons (ce_str) (ca_nil)))))) (ce_call (n := 2) (ok_d_law_draw X) (hr.mono (by decide)) tk (by rfl) X.g_d_law_draw X.F_d_law_draw.kp (bd_d_law_draw X) (an_cons (an_cons an_nil)) (ca_cons (ce_v 0) (ca_cons (ce_int) (ca_nil)))) (fun _ _ => rfl)) (ca_cons (ce_v 9) (ca_nil)))) (ca_nil))))))))))
    (css_one (cs_ret (ce_v 5)))) :
      PSs _ _ (Ts _ _ _ b_d_law_base))
noncomputable def bl_d_law_others_1 : MS := sSeq (sSet 9 (e2 dMod (eFn dInt (aCons (e2 dAdd (e2 dAdd (eV 6) (eC (.int 1))) (eCall m_d_law_draw (aCons (eV 0) (aCons (e2 dSub (eFn dLen (aCons (eV 3) (aNil))) (eC (.int 1))) (aNil))))) (aNil))) (eFn dLen (aCons (eV 3) (aNil)))))
  (sExpr (eMt "list" dAppend (eV 7) (aCons (eTup (aCons (e2 dIxZ (eV 3) (eV 9)) (aCons (e2 dSub (eCall m_d_law_draw (aCons (eV 0) (aCons (eC (.int 7)) (aNil)))) (eC (.int 3))) (aNil)))) (aNil))))
noncomputable def bl_d_law_others_2 : MS := sSeq (sSet 6 (eCall m_d_law_draw (aCons (eV 0) (aCons (eFn dLen (aCons (eV 3) (aNil))) (aNil)))))
  (sSeq (sSet 7 (eLst (aNil)))
  (sSeq (sFor (iRange1 (aCons (e2 dIxZ (eLst (aCons (eC (.int 2)) (aCons (eC (.int 2)) (aCons (eC (.int 3)) (aCons (eC (.int 8)) (aNil)))))) (eCall m_d_law_draw (aCons (eV 0) (aCons (eC (.int 4)) (aNil))))) (aNil))) (gN 8) (bl_d_law_others_1))
  (sExpr (eMt "list" dAppend (eV 4) (aCons (eTup (aCons (eV 5) (aCons (e2 dIxZ (eV 3) (eV 6)) (aCons (e2 dAdd (eC (.int 1)) (eCall m_d_law_draw (aCons (eV 0) (aCons (e2 dSub (eFn dLen (aCons (eV 7) (aNil))) (eC (.int 1))) (aNil))))) (aCons (eFn dTuple (aCons (eV 7) (aNil))) (aNil)))))) (aNil))))))
noncomputable def b_d_law_others : MS := sSeq (sSet 4 (eLst (aNil)))
  (sSeq (sFor (iSeq (eLst (aCons (eC (.str "under")) (aCons (eC (.str "over")) (aNil))))) (gN 5) (bl_d_law_others_2))
  (sSeq (sSet 10 (eTup (aCons (eC (.str "gap")) (aCons (e2 dIxZ (eV 3) (eC (.int 0))) (aCons (e2 dIxZ (eV 3) (eC (.int 1))) (aCons (eCall m_d_law_draw (aCons (eV 0) (aCons (eC (.int 3)) (aNil)))) (aNil)))))))
  (sSeq (sSet 11 (eLst (aCons (eTup (aCons (eV 10) (aNil))) (aCons (eTup (aCons (eV 10) (aNil))) (aNil)))))
  (sSeq (sIf (tV (e2 dEq (eCall m_d_law_draw (aCons (eV 0) (aCons (eC (.int 2)) (aNil)))) (eC (.int 1)))) (sSet 11 (eLst (aCons (eTup (aCons (eTup (aCons (eC (.str "years")) (aCons (e2 dIxZ (eV 3) (eC (.int 1))) (aCons (eCall m_d_law_dates (aCons (eV 0) (aCons (eV 1) (aCons (eV 2) (aNil))))) (aNil))))) (aCons (eV 10) (aNil)))) (aCons (eTup (aCons (eV 10) (aNil))) (aCons (eTup (aCons (eTup (aCons (eC (.str "years")) (aCons (e2 dIxZ (eV 3) (eC (.int 0))) (aCons (eTup (aNil)) (aNil))))) (aNil))) (aNil)))))) (sNil))
  (sSeq (sExpr (eMt "list" dAppend (eV 4) (aCons (eTup (aCons (eC (.str "one")) (aCons (eFn dTuple (aCons (eV 11) (aNil))) (aNil)))) (aNil))))
  (sRet (eV 4)))))))
noncomputable def m_d_law_others : List D → Store → R D := fnM 12 4 b_d_law_others
theorem ok_d_law_others (X : Fx K mg) : FnOk P w K mg base (L2.CX P w) 3 X.a_d_law_others X.d_d_law_others ["tape", "first", "last", "deeds"] (spM K mg 4 m_d_law_others) :=
  okM (k := 2) X.F_d_law_others sc_d_law_others rfl fun cdv A outer s H E hr tk =>
    (css_cons (cs_set (j := 4) sc_d_law_others.nd rfl (Or.inl rfl) (ce_lst (ca_nil)))
    (css_cons (cs_for (passes_of rfl) rfl (ci_seq (ce_lst (ca_cons (ce_str) (ca_cons (ce_str) (ca_nil))))) (cg_name (i := 5) sc_d_law_others.nd rfl (by first | exact Or.inl rfl | exact Or.inr rfl)) (css_cons (cs_set (j := 6) sc_d_law_others.nd rfl (Or.inl rfl) (ce_call (n := 2) (ok_d_law_draw X) (hr.mono (by decide)) tk (by rfl) X.g_d_law_draw X.F_d_law_draw.kp (bd_d_law_draw X) (an_cons (an_cons an_nil)) (ca_cons (ce_v 0) (ca_cons (ce_callB call_len fns_len (by rfl) X.b_len (by decide +kernel) (ca_cons (ce_v 3) (ca_nil))) (ca_nil)))))
    (css_cons (cs_set (j := 7) sc_d_law_others.nd rfl (Or.inl rfl) (ce_lst (ca_nil)))
    (css_cons (cs_for (passes_of rfl) rfl (ci_range1 (by rfl) X.b_range (ca_cons (ce_ix (ix_Z hr.units) ops_ixZ (ce_lst (ca_cons (ce_int) (ca_cons (ce_int) (ca_cons (ce_int) (ca_cons (ce_int) (ca_nil)))))) (ce_call (n := 2) (ok_d_law_draw X) (hr.mono (by decide)) tk (by rfl) X.g_d_law_draw X.F_d_law_draw.kp (bd_d_law_draw X) (an_cons (an_cons an_nil)) (ca_cons (ce_v 0) (ca_cons (ce_int) (ca_nil)))) (fun _ _ => rfl)) (ca_nil))) (cg_name (i := 8) sc_d_law_others.nd rfl (by first | exact Or.inl rfl | exact Or.inr rfl)) (css_cons (cs_set (j := 9) sc_d_law_others.nd rfl (Or.inl rfl) (ce_op op_mod ops_mod (ce_callTy call_int1 fns_int (by rfl) X.b_int (by decide +kernel) (ca_cons (ce_op op_addA ops_add (ce_op op_addA ops_add (ce_v 6) (ce_int)) (ce_call (n := 2) (ok_d_law_draw X) (hr.mono (by decide)) tk (by rfl) X.g_d_law_draw X.F_d_law_draw.kp (bd_d_law_draw X) (an_cons (an_cons an_nil)) (ca_cons (ce_v 0) (ca_cons (ce_op op_sub ops_sub (ce_callB call_len fns_len (by rfl) X.b_len (by decide +kernel) (ca_cons (ce_v 3) (ca_nil))) (ce_int)) (ca_nil))))) (ca_nil))) (ce_callB call_len fns_len (by rfl) X.b_len (by decide +kernel) (ca_cons (ce_v 3) (ca_nil)))))
    (css_one (cs_expr (ce_bm PySem.F.plainAttrs_list PySem.F.slot_list_append PySem.F.type_list_append mt_append mts_append (ce_v 7) (ca_cons (ce_tup (ca_cons (ce_ix (ix_Z hr.units) ops_ixZ (ce_v 3) (ce_v 9) (fun _ _ => rfl)) (ca_cons (ce_op op_sub ops_sub (ce_call (n := 2) (ok_d_law_draw X) (hr.mono (by decide)) tk (by rfl) X.g_d_law_draw X.F_d_law_draw.kp (bd_d_law_draw X) (an_cons (an_cons an_nil)) (ca_cons (ce_v 0) (ca_cons (ce_int) (ca_nil)))) (ce_int)) (ca_nil)))) (ca_nil)))))))
    (css_one (cs_expr (ce_bm PySem.F.plainAttrs_list PySem.F.slot_list_append PySem.F.type_list_append mt_append mts_append (ce_v 4) (ca_cons (ce_tup (ca_cons (ce_v 5) (ca_cons (ce_ix (ix_Z hr.units) ops_ixZ (ce_v 3) (ce_v 6) (fun _ _ => rfl)) (ca_cons (ce_op op_addA ops_add (ce_int) (ce_call (n := 2) (ok_d_law_draw X) (hr.mono (by decide)) tk (by rfl) X.g_d_law_draw X.F_d_law_draw.kp (bd_d_law_draw X) (an_cons (an_cons an_nil)) (ca_cons (ce_v 0) (ca_cons (ce_op op_sub ops_sub (ce_callB call_len fns_len (by rfl) X.b_len (by decide +kernel) (ca_cons (ce_v 7) (ca_nil))) (ce_int)) (ca_nil))))) (ca_cons (ce_callTy call_tupN fns_tuple (by rfl) X.b_tuple (by decide +kernel) (ca_cons (ce_v 7) (ca_nil))) (ca_nil)))))) (ca_nil)))))))))
    (css_cons (cs_set (j := 10) sc_d_law_others.nd rfl (Or.inl rfl) (ce_tup (ca_cons (ce_str) (ca_cons (ce_ix (ix_Z hr.units) ops_ixZ (ce_v 3) (ce_int) (fun _ _ => rfl)) (ca_cons (ce_ix (ix_Z hr.units) ops_ixZ (ce_v 3) (ce_int) (fun _ _ => rfl)) (ca_cons (ce_call (n := 2) (ok_d_law_draw X) (hr.mono (by decide)) tk (by rfl) X.g_d_law_draw X.F_d_law_draw.kp (bd_d_law_draw X) (an_cons (an_cons an_nil)) (ca_cons (ce_v 0) (ca_cons (ce_int) (ca_nil)))) (ca_nil)))))))
    (css_cons (cs_set (j := 11) sc_d_law_others.nd rfl (Or.inl rfl) (ce_lst (ca_cons (ce_tup (ca_cons (ce_v 10) (ca_nil))) (ca_cons (ce_tup (ca_cons (ce_v 10) (ca_nil))) (ca_nil)))))
    (css_cons (cs_if (ct_cmp (opA_eq hr.units) ops_eq (ce_call (n := 2) (ok_d_law_draw X) (hr.mono (by decide)) tk (by rfl) X.g_d_law_draw X.F_d_law_draw.kp (bd_d_law_draw X) (an_cons (an_cons an_nil)) (ca_cons (ce_v 0) (ca_cons (ce_int) (ca_nil)))) (ce_int) (nomark _)) (css_one (cs_set (j := 11) sc_d_law_others.nd rfl (Or.inl rfl) (ce_lst (ca_cons (ce_tup (ca_cons (ce_tup (ca_cons (ce_str) (ca_cons (ce_ix (ix_Z hr.units) ops_ixZ (ce_v 3) (ce_int) (fun _ _ => rfl)) (ca_cons (ce_call (n := 3) (ok_d_law_dates X) (hr.mono (by decide)) tk (by rfl) X.g_d_law_dates X.F_d_law_dates.kp (bd_d_law_dates X) (an_cons (an_cons (an_cons an_nil))) (ca_cons (ce_v 0) (ca_cons (ce_v 1) (ca_cons (ce_v 2) (ca_nil))))) (ca_nil))))) (ca_cons (ce_v 10) (ca_nil)))) (ca_cons (ce_tup (ca_cons (ce_v 10) (ca_nil))) (ca_cons (ce_tup (ca_cons (ce_tup (ca_cons (ce_str) (ca_cons (ce_ix (ix_Z hr.units) ops_ixZ (ce_v 3) (ce_int) (fun _ _ => rfl)) (ca_cons (ce_tup (ca_nil)) (ca_nil))))) (ca_nil))) (ca_nil))))))) (css_nil))
    (css_cons (cs_expr (ce_bm PySem.F.plainAttrs_list PySem.F.slot_list_append PySem.F.type_list_append mt_append mts_append (ce_v 4) (ca_cons (ce_tup (ca_cons (ce_str) (ca_cons (ce_callTy call_tupN fns_tuple (by rfl) X.b_tuple (by decide +kernel) (ca_cons (ce_v 11) (ca_nil))) (ca_nil)))) (ca_nil))))
    (css_one (cs_ret (ce_v 4)))))))) :
      PSs _ _ (Ts _ _ _ b_d_law_others))
noncomputable def bl_d_law_forward_1 : MS := sSeq (sSet 8 (eCall m_d_law_draw (aCons (eV 0) (aCons (e2 dSub (eFn dLen (aCons (eV 5) (aNil))) (eC (.int 1))) (aNil)))))
  (sSeq (sSet 9 (e2 dAdd (e2 dAdd (eV 8) (eC (.int 1))) (eCall m_d_law_draw (aCons (eV 0) (aCons (e2 dSub (e2 dSub (eFn dLen (aCons (eV 5) (aNil))) (eV 8)) (eC (.int 1))) (aNil))))))
  (sExpr (eMt "list" dAppend (eV 6) (aCons (eTup (aCons (e2 dIxZ (eLst (aCons (eC (.str "ann")) (aCons (eC (.str "bob")) (aCons (eC (.str "look")) (aNil))))) (eCall m_d_law_draw (aCons (eV 0) (aCons (eC (.int 3)) (aNil))))) (aCons (eTup (aCons (eC (.str "gap")) (aCons (e2 dIxZ (eV 5) (eV 8)) (aCons (e2 dIxZ (eV 5) (eV 9)) (aCons (e2 dAdd (eV 3) (eCall m_d_law_draw (aCons (eV 0) (aCons (e2 dAdd (e2 dSub (eV 4) (eV 3)) (eC (.int 1))) (aNil))))) (aNil)))))) (aNil)))) (aNil)))))
noncomputable def b_d_law_forward : MS := sSeq (sSet 5 (eCall m_d_law_shuffled (aCons (eV 0) (aCons (eV 1) (aNil)))))
  (sSeq (sSet 6 (eLst (aNil)))
  (sSeq (sFor (iRange1 (aCons (eV 2) (aNil))) (gN 7) (bl_d_law_forward_1))
  (sRet (eLst (aCons (eV 5) (aCons (eV 6) (aNil)))))))
noncomputable def m_d_law_forward : List D → Store → R D := fnM 10 5 b_d_law_forward
theorem ok_d_law_forward (X : Fx K mg) : FnOk P w K mg base (L2.CX P w) 3 X.a_d_law_forward X.d_d_law_forward ["tape", "deeds", "many", "low", "high"] (spM K mg 5 m_d_law_forward) :=
  okM (k := 2) X.F_d_law_forward sc_d_law_forward rfl fun cdv A outer s H E hr tk =>
    (css_cons (cs_set (j := 5) sc_d_law_forward.nd rfl (Or.inl rfl) (ce_call (n := 2) (ok_d_law_shuffled X) (hr.mono (by decide)) tk (by rfl) X.g_d_law_shuffled X.F_d_law_shuffled.kp (bd_d_law_shuffled X) (an_cons (an_cons an_nil)) (ca_cons (ce_v 0) (ca_cons (ce_v 1) (ca_nil)))))
    (css_cons (cs_set (j := 6) sc_d_law_forward.nd rfl (Or.inl rfl) (ce_lst (ca_nil)))
    (css_cons (cs_for (passes_of rfl) rfl (ci_range1 (by rfl) X.b_range (ca_cons (ce_v 2) (ca_nil))) (cg_name (i := 7) sc_d_law_forward.nd rfl (by first | exact Or.inl rfl | exact Or.inr rfl)) (css_cons (cs_set (j := 8) sc_d_law_forward.nd rfl (Or.inl rfl) (ce_call (n := 2) (ok_d_law_draw X) (hr.mono (by decide)) tk (by rfl) X.g_d_law_draw X.F_d_law_draw.kp (bd_d_law_draw X) (an_cons (an_cons an_nil)) (ca_cons (ce_v 0) (ca_cons (ce_op op_sub ops_sub (ce_callB call_len fns_len (by rfl) X.b_len (by decide +kernel) (ca_cons (ce_v 5) (ca_nil))) (ce_int)) (ca_nil)))))
    (css_cons (cs_set (j := 9) sc_d_law_forward.nd rfl (Or.inl rfl) (ce_op op_addA ops_add (ce_op op_addA ops_add (ce_v 8) (ce_int)) (ce_call (n := 2) (ok_d_law_draw X) (hr.mono (by decide)) tk (by rfl) X.g_d_law_draw X.F_d_law_draw.kp (bd_d_law_draw X) (an_cons (an_cons an_nil)) (ca_cons (ce_v 0) (ca_cons (ce_op op_sub ops_sub (ce_op op_sub ops_sub (ce_callB call_len fns_len (by rfl) X.b_len (by decide +kernel) (ca_cons (ce_v 5) (ca_nil))) (ce_v 8)) (ce_int)) (ca_nil))))))
    (css_one (cs_expr (ce_bm PySem.F.plainAttrs_list PySem.F.slot_list_append PySem.F.type_list_append mt_append mts_append (ce_v 6) (ca_cons (ce_tup (ca_cons (ce_ix (ix_Z hr.units) ops_ixZ (ce_lst (ca_cons (ce_str) (ca_cons (ce_str) (ca_cons (ce_str) (ca_nil))))) (ce_call (n := 2) (ok_d_law_draw X) (hr.mono (by decide)) tk (by rfl) X.g_d_law_draw X.F_d_law_draw.kp (bd_d_law_draw X) (an_cons (an_cons an_nil)) (ca_cons (ce_v 0) (ca_cons (ce_int) (ca_nil)))) (fun _ _ => rfl)) (ca_cons (ce_tup (ca_cons (ce_str) (ca_cons (ce_ix (ix_Z hr.units) ops_ixZ (ce_v 5) (ce_v 8) (fun _ _ => rfl)) (ca_cons (ce_ix (ix_Z hr.units) ops_ixZ (ce_v 5) (ce_v 9) (fun _ _ => rfl)) (ca_cons (ce_op op_addA ops_add (ce_v 3) (ce_call (n := 2) (ok_d_law_draw X) (hr.mono (by decide)) tk (by rfl) X.g_d_law_draw X.F_d_law_draw.kp (bd_d_law_draw X) (an_cons (an_cons an_nil)) (ca_cons (ce_v 0) (ca_cons (ce_op op_addA ops_add (ce_op op_sub ops_sub (ce_v 4) (ce_v 3)) (ce_int)) (ca_nil))))) (ca_nil)))))) (ca_nil)))) (ca_nil))))))))
    (css_one (cs_ret (ce_lst (ca_cons (ce_v 5) (ca_cons (ce_v 6) (ca_nil)))))))) :
      PSs _ _ (Ts _ _ _ b_d_law_forward))
noncomputable def bl_d_law_told_1 : MS := sIf (tOr (tNot (tTru (e1 (dIsi "bool") (e2 dIxZ (eV 4) (eV 5))))) (tV (e2 dNe (e2 dIxZ (eV 4) (eV 5)) (e2 dIxZ (eV 2) (e2 dAdd (eV 5) (eC (.int 1))))))) (sRet (eC (.bl false))) (sNil)
noncomputable def b_d_law_told : MS := sSeq (sSet 2 (eCall m_d_law_due (aCons (eV 0) (aNil))))
  (sSeq (sIf (tAnd (tV (e2 dIsNot (eV 1) (eC .non))) (tV (e2 dNe (eV 2) (eV 1)))) (sRet (eC (.bl false))) (sNil))
  (sSeq (sSet 3 (eCall m_way_of (aCons (eV 0) (aNil))))
  (sSeq (sIf (tOr (tNot (tTru (e1 (dIsi "str") (eV 3)))) (tV (e2 dNe (eV 3) (e2 dIxZ (eV 2) (eC (.int 0)))))) (sRet (eC (.bl false))) (sNil))
  (sSeq (sSet 4 (eLst (aCons (eCall m_is_plain (aCons (eV 0) (aNil))) (aCons (eCall m_is_order (aCons (eV 0) (aNil))) (aCons (eCall m_is_strict (aCons (eV 0) (aNil))) (aNil))))))
  (sSeq (sFor (iRange1 (aCons (eC (.int 3)) (aNil))) (gN 5) (bl_d_law_told_1))
  (sRet (eC (.bl true))))))))
noncomputable def m_d_law_told : List D → Store → R D := fnM 6 2 b_d_law_told
theorem ok_d_law_told (X : Fx K mg) : FnOk P w K mg base (L2.CX P w) 4 X.a_d_law_told X.d_d_law_told ["book", "wanted"] (spM K mg 2 m_d_law_told) :=
  okM (k := 3) X.F_d_law_told sc_d_law_told rfl fun cdv A outer s H E hr tk =>
    (css_cons (cs_set (j := 2) sc_d_law_told.nd rfl (Or.inl rfl) (ce_call (n := 1) (ok_d_law_due X) (hr.mono (by decide)) tk (by rfl) X.g_d_law_due X.F_d_law_due.kp (bd_d_law_due X) (an_cons an_nil) (ca_cons (ce_v 0) (ca_nil))))
    (css_cons (cs_if (PW.pt (cw_and (ct_cmp opA_isnot ops_isnot (ce_v 1) (ce_non) (nomark _)) (cw_and1 (ct_cmp (opA_ne hr.units) ops_ne (ce_v 2) (ce_v 1) (nomark _))))) (css_one (cs_ret (ce_bl))) (css_nil))
    (css_cons (cs_set (j := 3) sc_d_law_told.nd rfl (Or.inl rfl) (ce_call (n := 1) (ok_way_of X) (hr.mono (by decide)) tk (by rfl) X.g_way_of X.F_way_of.kp (bd_way_of X) (an_cons an_nil) (ca_cons (ce_v 0) (ca_nil))))
    (css_cons (cs_if (PW.pt (cw_or (ct_not (ct_tru (ce_isi (T := "str") (by rfl) X.b_isinstance (by rfl) X.b_str (by decide +kernel) (ce_v 3)))) (cw_or1 (ct_cmp (opA_ne hr.units) ops_ne (ce_v 3) (ce_ix (ix_Z hr.units) ops_ixZ (ce_v 2) (ce_int) (fun _ _ => rfl)) (nomark _))))) (css_one (cs_ret (ce_bl))) (css_nil))
    (css_cons (cs_set (j := 4) sc_d_law_told.nd rfl (Or.inl rfl) (ce_lst (ca_cons (ce_call (n := 1) (ok_is_plain X) (hr.mono (by decide)) tk (by rfl) X.g_is_plain X.F_is_plain.kp (bd_is_plain X) (an_cons an_nil) (ca_cons (ce_v 0) (ca_nil))) (ca_cons (ce_call (n := 1) (ok_is_order X) (hr.mono (by decide)) tk (by rfl) X.g_is_order X.F_is_order.kp (bd_is_order X) (an_cons an_nil) (ca_cons (ce_v 0) (ca_nil))) (ca_cons (ce_call (n := 1) (ok_is_strict X) (hr.mono (by decide)) tk (by rfl) X.g_is_strict X.F_is_strict.kp (bd_is_strict X) (an_cons an_nil) (ca_cons (ce_v 0) (ca_nil))) (ca_nil))))))
    (css_cons (cs_for (passes_of rfl) rfl (ci_range1 (by rfl) X.b_range (ca_cons (ce_int) (ca_nil))) (cg_name (i := 5) sc_d_law_told.nd rfl (by first | exact Or.inl rfl | exact Or.inr rfl)) (css_one (cs_if (PW.pt (cw_or (ct_not (ct_tru (ce_isi (T := "bool") (by rfl) X.b_isinstance (by rfl) X.b_bool (by decide +kernel) (ce_ix (ix_Z hr.units) ops_ixZ (ce_v 4) (ce_v 5) (fun _ _ => rfl))))) (cw_or1 (ct_cmp (opA_ne hr.units) ops_ne (ce_ix (ix_Z hr.units) ops_ixZ (ce_v 4) (ce_v 5) (fun _ _ => rfl)) (ce_ix (ix_Z hr.units) ops_ixZ (ce_v 2) (ce_op op_addA ops_add (ce_v 5) (ce_int)) (fun _ _ => rfl)) (nomark _))))) (css_one (cs_ret (ce_bl))) (css_nil))))
    (css_one (cs_ret (ce_bl)))))))) :
      PSs _ _ (Ts _ _ _ b_d_law_told))
noncomputable def bl_d_law_ways_1 : MS := sIf (tV (e2 dEq (e2 dMod (eFn dInt (aCons (e2 dDiv (eV 7) (e2 dIxZ (eLst (aCons (eC (.int 1)) (aCons (eC (.int 2)) (aCons (eC (.int 4)) (aNil))))) (eV 9))) (aNil))) (eC (.int 2))) (eC (.int 1)))) (sExpr (eMt "list" dInsert (eV 8) (aCons (eCall m_d_law_draw (aCons (eV 0) (aCons (e2 dAdd (eFn dLen (aCons (eV 8) (aNil))) (eC (.int 1))) (aNil)))) (aCons (eTup (aCons (eC (.str "bob")) (aCons (e2 dIxZ (eV 6) (eV 9)) (aNil)))) (aNil))))) (sNil)
noncomputable def bl_d_law_ways_2 : MS := sSeq (sSet 8 (eFn dListA (aCons (eV 5) (aNil))))
  (sSeq (sFor (iRange1 (aCons (eC (.int 3)) (aNil))) (gN 9) (bl_d_law_ways_1))
  (sIf (tNot (tTru (eCall m_d_law_told (aCons (eTup (aCons (eV 1) (aCons (eV 2) (aCons (eFn dTuple (aCons (eV 3) (aNil))) (aCons (eFn dTuple (aCons (eV 8) (aNil))) (aNil)))))) (aCons (eC .non) (aNil)))))) (sRet (eC (.bl false))) (sNil)))
noncomputable def b_d_law_ways : MS := sSeq (sSet 5 (eCall m_d_law_base (aCons (eV 0) (aCons (eV 1) (aCons (eV 2) (aCons (eV 3) (aCons (eV 4) (aNil))))))))
  (sSeq (sSet 6 (eCall m_d_law_others (aCons (eV 0) (aCons (eV 1) (aCons (eV 2) (aCons (eV 3) (aNil)))))))
  (sSeq (sFor (iRange1 (aCons (eC (.int 8)) (aNil))) (gN 7) (bl_d_law_ways_2))
  (sRet (eC (.bl true)))))
noncomputable def m_d_law_ways : List D → Store → R D := fnM 10 5 b_d_law_ways
theorem ok_d_law_ways (X : Fx K mg) : FnOk P w K mg base (L2.CX P w) 5 X.a_d_law_ways X.d_d_law_ways ["tape", "first", "last", "deeds", "many"] (spM K mg 5 m_d_law_ways) :=
  okM (k := 4) X.F_d_law_ways sc_d_law_ways rfl fun cdv A outer s H E hr tk =>
    (css_cons (cs_set (j := 5) sc_d_law_ways.nd rfl (Or.inl rfl) (ce_call (n := 5) (ok_d_law_base X) (hr.mono (by decide)) tk (by rfl) X.g_d_law_base X.F_d_law_base.kp (bd_d_law_base X) (an_cons (an_cons (an_cons (an_cons (an_cons an_nil))))) (ca_cons (ce_v 0) (ca_cons (ce_v 1) (ca_cons (ce_v 2) (ca_cons (ce_v 3) (ca_cons (ce_v 4) (ca_nil))))))))
    (css_cons (cs_set (j := 6) sc_d_law_ways.nd rfl (Or.inl rfl) (ce_call (n := 4) (ok_d_law_others X) (hr.mono (by decide)) tk (by rfl) X.g_d_law_others X.F_d_law_others.kp (bd_d_law_others X) (an_cons (an_cons (an_cons (an_cons an_nil)))) (ca_cons (ce_v 0) (ca_cons (ce_v 1) (ca_cons (ce_v 2) (ca_cons (ce_v 3) (ca_nil)))))))
    (css_cons (cs_for (passes_of rfl) rfl (ci_range1 (by rfl) X.b_range (ca_cons (ce_int) (ca_nil))) (cg_name (i := 7) sc_d_law_ways.nd rfl (by first | exact Or.inl rfl | exact Or.inr rfl)) (css_cons (cs_set (j := 8) sc_d_law_ways.nd rfl (Or.inl rfl) (ce_callTy (call_listA rfl) fns_listA (by rfl) X.b_list (by decide +kernel) (ca_cons (ce_v 5) (ca_nil))))
    (css_cons (cs_for (passes_of rfl) rfl (ci_range1 (by rfl) X.b_range (ca_cons (ce_int) (ca_nil))) (cg_name (i := 9) sc_d_law_ways.nd rfl (by first | exact Or.inl rfl | exact Or.inr rfl)) (css_one (cs_if (ct_cmp (opA_eq hr.units) ops_eq (ce_op op_mod ops_mod (ce_callTy call_int1 fns_int (by rfl) X.b_int (by decide +kernel) (ca_cons (ce_op op_fdiv ops_div (ce_v 7) (ce_ix (ix_Z hr.units) ops_ixZ (ce_lst (ca_cons (ce_int) (ca_cons (ce_int) (ca_cons (ce_int) (ca_nil))))) (ce_v 9) (fun _ _ => rfl))) (ca_nil))) (ce_int)) (ce_int) (nomark _)) (css_one (cs_expr (ce_bm PySem.F.plainAttrs_list PySem.F.slot_list_insert PySem.F.type_list_insert mt_insert mts_insert (ce_v 8) (ca_cons (ce_call (n := 2) (ok_d_law_draw X) (hr.mono (by decide)) tk (by rfl) X.g_d_law_draw X.F_d_law_draw.kp (bd_d_law_draw X) (an_cons (an_cons an_nil)) (ca_cons (ce_v 0) (ca_cons (ce_op op_addA ops_add (ce_callB call_len fns_len (by rfl) X.b_len (by decide +kernel) (ca_cons (ce_v 8) (ca_nil))) (ce_int)) (ca_nil)))) (ca_cons (ce_tup (ca_cons (ce_str) (ca_cons (ce_ix (ix_Z hr.units) ops_ixZ (ce_v 6) (ce_v 9) (fun _ _ => rfl)) (ca_nil)))) (ca_nil)))))) (css_nil))))
    (css_one (cs_if (ct_not (ct_tru (ce_call (n := 2) (ok_d_law_told X) (hr.mono (by decide)) tk (by rfl) X.g_d_law_told X.F_d_law_told.kp (bd_d_law_told X) (an_cons (an_cons an_nil)) (ca_cons (ce_tup (ca_cons (ce_v 1) (ca_cons (ce_v 2) (ca_cons (ce_callTy call_tupN fns_tuple (by rfl) X.b_tuple (by decide +kernel) (ca_cons (ce_v 3) (ca_nil))) (ca_cons (ce_callTy call_tupN fns_tuple (by rfl) X.b_tuple (by decide +kernel) (ca_cons (ce_v 8) (ca_nil))) (ca_nil)))))) (ca_cons (ce_non) (ca_nil)))))) (css_one (cs_ret (ce_bl))) (css_nil))))))
    (css_one (cs_ret (ce_bl))))) :
      PSs _ _ (Ts _ _ _ b_d_law_ways))
noncomputable def bl_d_law_plain_1 : MS := sSeq (sSet 9 (eCall m_d_law_draw (aCons (eV 0) (aCons (e2 dAdd (eFn dLen (aCons (eV 5) (aNil))) (eC (.int 1))) (aNil)))))
  (sSeq (sSet 10 (e2 dAdd (e2 dAdd (eSl dSl (eV 5) (oNone) (oSome (eV 9))) (eLst (aCons (eTup (aCons (eC (.str "e")) (aCons (eTup (aCons (eC (.str "years")) (aCons (e2 dIxZ (eV 3) (eC (.int 1))) (aCons (eV 8) (aNil))))) (aNil)))) (aNil)))) (eSl dSl (eV 5) (oSome (eV 9)) (oNone))))
  (sIf (tNot (tTru (eCall m_d_law_told (aCons (eTup (aCons (eV 1) (aCons (eV 2) (aCons (eFn dTuple (aCons (eV 3) (aNil))) (aCons (eFn dTuple (aCons (eV 10) (aNil))) (aNil)))))) (aCons (eLst (aCons (eC (.str "both")) (aCons (eC (.bl false)) (aCons (eC (.bl false)) (aCons (eC (.bl false)) (aNil)))))) (aNil)))))) (sRet (eC (.bl false))) (sNil)))
noncomputable def bl_d_law_plain_2 : MS := sSeq (sIf (tAnd (tV (e2 dEq (e2 dIxZ (eV 7) (eC (.int 0))) (eC (.str "years")))) (tV (e2 dNe (eFn dLen (aCons (e2 dIxZ (eV 7) (eC (.int 2))) (aNil))) (eC (.int 1))))) (sSet 7 (eTup (aCons (eC (.str "years")) (aCons (e2 dIxZ (eV 7) (eC (.int 1))) (aCons (eTup (aCons (eTup (aCons (e2 dAdd (e2 dSub (eV 1) (eC (.int 1))) (eCall m_d_law_draw (aCons (eV 0) (aCons (eC (.int 3)) (aNil))))) (aCons (e2 dAdd (eV 2) (eC (.int 1))) (aNil)))) (aNil))) (aNil)))))) (sNil))
  (sExpr (eMt "list" dAppend (eV 5) (aCons (eTup (aCons (eV 6) (aCons (eV 7) (aNil)))) (aNil))))
noncomputable def b_d_law_plain : MS := sSeq (sSet 5 (eLst (aNil)))
  (sSeq (sFor (iSeq (eCall m_d_law_base (aCons (eV 0) (aCons (eV 1) (aCons (eV 2) (aCons (eV 3) (aCons (eV 4) (aNil)))))))) (gT 2 (gsC (gN 6) (gsC (gN 7) (gsN)))) (bl_d_law_plain_2))
  (sSeq (sExpr (eMt "list" dAppend (eV 5) (aCons (eTup (aCons (eC (.str "d")) (aCons (eTup (aCons (eC (.str "years")) (aCons (e2 dIxZ (eV 3) (eC (.int 0))) (aCons (eTup (aCons (eTup (aCons (eFn dMax2 (aCons (e1 dNeg (eC (.int 9999))) (aCons (e2 dSub (eV 1) (eC (.int 1))) (aNil)))) (aCons (eV 1) (aNil)))) (aNil))) (aNil))))) (aNil)))) (aNil))))
  (sSeq (sIf (tNot (tTru (eCall m_d_law_told (aCons (eTup (aCons (eV 1) (aCons (eV 2) (aCons (eFn dTuple (aCons (eV 3) (aNil))) (aCons (eFn dTuple (aCons (eV 5) (aNil))) (aNil)))))) (aCons (eLst (aCons (eC (.str "both")) (aCons (eC (.bl true)) (aCons (eC (.bl false)) (aCons (eC (.bl false)) (aNil)))))) (aNil)))))) (sRet (eC (.bl false))) (sNil))
  (sSeq (sFor (iSeq (eLst (aCons (eTup (aNil)) (aCons (eTup (aCons (eTup (aCons (eV 1) (aCons (eV 1) (aNil)))) (aCons (eTup (aCons (e2 dAdd (eV 1) (eC (.int 2))) (aCons (e2 dAdd (eV 2) (eC (.int 4))) (aNil)))) (aNil)))) (aCons (eTup (aCons (eTup (aCons (e2 dSub (eV 1) (eC (.int 5))) (aCons (e2 dSub (eV 1) (eC (.int 4))) (aNil)))) (aCons (eTup (aCons (eV 1) (aCons (eV 2) (aNil)))) (aNil)))) (aNil)))))) (gN 8) (bl_d_law_plain_1))
  (sRet (eC (.bl true)))))))
noncomputable def m_d_law_plain : List D → Store → R D := fnM 11 5 b_d_law_plain
theorem ok_d_law_plain (X : Fx K mg) : FnOk P w K mg base (L2.CX P w) 5 X.a_d_law_plain X.d_d_law_plain ["tape", "first", "last", "deeds", "many"] (spM K mg 5 m_d_law_plain) :=
  okM (k := 4) X.F_d_law_plain sc_d_law_plain rfl fun cdv A outer s H E hr tk =>
    (css_cons (cs_set (j := 5) sc_d_law_plain.nd rfl (Or.inl rfl) (ce_lst (ca_nil)))
    (css_cons (cs_for (passes_of rfl) rfl (ci_seq (ce_call (n := 5) (ok_d_law_base X) (hr.mono (by decide)) tk (by rfl) X.g_d_law_base X.F_d_law_base.kp (bd_d_law_base X) (an_cons (an_cons (an_cons (an_cons (an_cons an_nil))))) (ca_cons (ce_v 0) (ca_cons (ce_v 1) (ca_cons (ce_v 2) (ca_cons (ce_v 3) (ca_cons (ce_v 4) (ca_nil)))))))) (cg_tup (n := 2) rfl (cgs_cons (us := [6, 7]) (cg_name (i := 6) sc_d_law_plain.nd rfl (by first | exact Or.inl rfl | exact Or.inr rfl)) (cgs_cons (us := [7]) (cg_name (i := 7) sc_d_law_plain.nd rfl (by first | exact Or.inl rfl | exact Or.inr rfl)) (cgs_nil (vs := []))))) (css_cons (cs_if (PW.pt (cw_and (ct_cmp (opA_eq hr.units) ops_eq (ce_ix (ix_Z hr.units) ops_ixZ (ce_v 7) (ce_int) (fun _ _ => rfl)) (ce_str) (nomark _)) (cw_and1 (ct_cmp (opA_ne hr.units) ops_ne (ce_callB call_len fns_len (by rfl) X.b_len (by decide +kernel) (ca_cons (ce_ix (ix_Z hr.units) ops_ixZ (ce_v 7) (ce_int) (fun _ _ => rfl)) (ca_nil))) (ce_int) (nomark _))))) (css_one (cs_set (j := 7) sc_d_law_plain.nd rfl (Or.inl rfl) (ce_tup (ca_cons (ce_str) (ca_cons (ce_ix (ix_Z hr.units) ops_ixZ (ce_v 7) (ce_int) (fun _ _ => rfl)) (ca_cons (ce_tup (ca_cons (ce_tup (ca_cons (ce_op op_addA ops_add (ce_op op_sub ops_sub (ce_v 1) (ce_int)) (ce_call (n := 2) (ok_d_law_draw X) (hr.mono (by decide)) tk (by rfl) X.g_d_law_draw X.F_d_law_draw.kp (bd_d_law_draw X) (an_cons (an_cons an_nil)) (ca_cons (ce_v 0) (ca_cons (ce_int) (ca_nil))))) (ca_cons (ce_op op_addA ops_add (ce_v 2) (ce_int)) (ca_nil)))) (ca_nil))) (ca_nil))))))) (css_nil))
    (css_one (cs_expr (ce_bm PySem.F.plainAttrs_list PySem.F.slot_list_append PySem.F.type_list_append mt_append mts_append (ce_v 5) (ca_cons (ce_tup (ca_cons (ce_v 6) (ca_cons (ce_v 7) (ca_nil)))) (ca_nil)))))))
    (css_cons (cs_expr (ce_bm PySem.F.plainAttrs_list PySem.F.slot_list_append PySem.F.type_list_append mt_append mts_append (ce_v 5) (ca_cons (ce_tup (ca_cons (ce_str) (ca_cons (ce_tup (ca_cons (ce_str) (ca_cons (ce_ix (ix_Z hr.units) ops_ixZ (ce_v 3) (ce_int) (fun _ _ => rfl)) (ca_cons (ce_tup (ca_cons (ce_tup (ca_cons (ce_callB (call_max2 rfl) fns_max2 (by rfl) X.b_max (by decide +kernel) (ca_cons (ce_un un_neg uns_neg (ce_int)) (ca_cons (ce_op op_sub ops_sub (ce_v 1) (ce_int)) (ca_nil)))) (ca_cons (ce_v 1) (ca_nil)))) (ca_nil))) (ca_nil))))) (ca_nil)))) (ca_nil))))
    (css_cons (cs_if (ct_not (ct_tru (ce_call (n := 2) (ok_d_law_told X) (hr.mono (by decide)) tk (by rfl) X.g_d_law_told X.F_d_law_told.kp (bd_d_law_told X) (an_cons (an_cons an_nil)) (ca_cons (ce_tup (ca_cons (ce_v 1) (ca_cons (ce_v 2) (ca_cons (ce_callTy call_tupN fns_tuple (by rfl) X.b_tuple (by decide +kernel) (ca_cons (ce_v 3) (ca_nil))) (ca_cons (ce_callTy call_tupN fns_tuple (by rfl) X.b_tuple (by decide +kernel) (ca_cons (ce_v 5) (ca_nil))) (ca_nil)))))) (ca_cons (ce_lst (ca_cons (ce_str) (ca_cons (ce_bl) (ca_cons (ce_bl) (ca_cons (ce_bl) (ca_nil)))))) (ca_nil)))))) (css_one (cs_ret (ce_bl))) (css_nil))
    (css_cons (cs_for (passes_of rfl) rfl (ci_seq (ce_lst (ca_cons (ce_tup (ca_nil)) (ca_cons (ce_tup (ca_cons (ce_tup (ca_cons (ce_v 1) (ca_cons (ce_v 1) (ca_nil)))) (ca_cons (ce_tup (ca_cons (ce_op op_addA ops_add (ce_v 1) (ce_int)) (ca_cons (ce_op op_addA ops_add (ce_v 2) (ce_int)) (ca_nil)))) (ca_nil)))) (ca_cons (ce_tup (ca_cons (ce_tup (ca_cons (ce_op op_sub ops_sub (ce_v 1) (ce_int)) (ca_cons (ce_op op_sub ops_sub (ce_v 1) (ce_int)) (ca_nil)))) (ca_cons (ce_tup (ca_cons (ce_v 1) (ca_cons (ce_v 2) (ca_nil)))) (ca_nil)))) (ca_nil)))))) (cg_name (i := 8) sc_d_law_plain.nd rfl (by first | exact Or.inl rfl | exact Or.inr rfl)) (css_cons (cs_set (j := 9) sc_d_law_plain.nd rfl (Or.inl rfl) (ce_call (n := 2) (ok_d_law_draw X) (hr.mono (by decide)) tk (by rfl) X.g_d_law_draw X.F_d_law_draw.kp (bd_d_law_draw X) (an_cons (an_cons an_nil)) (ca_cons (ce_v 0) (ca_cons (ce_op op_addA ops_add (ce_callB call_len fns_len (by rfl) X.b_len (by decide +kernel) (ca_cons (ce_v 5) (ca_nil))) (ce_int)) (ca_nil)))))
    (css_cons (cs_set (j := 10) sc_d_law_plain.nd rfl (Or.inl rfl) (ce_op op_addA ops_add (ce_op op_addA ops_add (ce_sl sl_LT sls_LT (ce_v 5) (co_none) (co_some (ce_v 9))) (ce_lst (ca_cons (ce_tup (ca_cons (ce_str) (ca_cons (ce_tup (ca_cons (ce_str) (ca_cons (ce_ix (ix_Z hr.units) ops_ixZ (ce_v 3) (ce_int) (fun _ _ => rfl)) (ca_cons (ce_v 8) (ca_nil))))) (ca_nil)))) (ca_nil)))) (ce_sl sl_LT sls_LT (ce_v 5) (co_some (ce_v 9)) (co_none))))
    (css_one (cs_if (ct_not (ct_tru (ce_call (n := 2) (ok_d_law_told X) (hr.mono (by decide)) tk (by rfl) X.g_d_law_told X.F_d_law_told.kp (bd_d_law_told X) (an_cons (an_cons an_nil)) (ca_cons (ce_tup (ca_cons (ce_v 1) (ca_cons (ce_v 2) (ca_cons (ce_callTy call_tupN fns_tuple (by rfl) X.b_tuple (by decide +kernel) (ca_cons (ce_v 3) (ca_nil))) (ca_cons (ce_callTy call_tupN fns_tuple (by rfl) X.b_tuple (by decide +kernel) (ca_cons (ce_v 10) (ca_nil))) (ca_nil)))))) (ca_cons (ce_lst (ca_cons (ce_str) (ca_cons (ce_bl) (ca_cons (ce_bl) (ca_cons (ce_bl) (ca_nil)))))) (ca_nil)))))) (css_one (cs_ret (ce_bl))) (css_nil))))))
    (css_one (cs_ret (ce_bl))))))) :
      PSs _ _ (Ts _ _ _ b_d_law_plain))
noncomputable def bl_d_law_orders_1 : MS := sSeq (sSet 14 (e2 dAdd (e2 dAdd (eSl dSl (eV 8) (oNone) (oSome (eV 11))) (eLst (aCons (eTup (aCons (eC (.str "cy")) (aCons (eTup (aCons (eC (.str "gap")) (aCons (e2 dIxZ (eV 7) (e2 dSub (eFn dLen (aCons (eV 7) (aNil))) (eC (.int 1)))) (aCons (e2 dIxZ (eV 7) (eV 12)) (aCons (eV 13) (aNil)))))) (aNil)))) (aNil)))) (eSl dSl (eV 8) (oSome (eV 11)) (oNone))))
  (sIf (tNot (tTru (eCall m_d_law_told (aCons (eCall m_d_law_frame (aCons (eV 0) (aCons (eV 1) (aCons (eV 14) (aCons (eV 10) (aNil)))))) (aCons (eC .non) (aNil)))))) (sRet (eC (.bl false))) (sNil))
noncomputable def lt_d_law_orders_2 : ME Bool := tV (e2 dEq (e2 dIxZ (eV 19) (eC (.int 3))) (eC (.int 0)))
noncomputable def le_d_law_orders_3 : ME D := eC (.int 1)
noncomputable def b_d_law_orders : MS := sSeq (sIf (tV (e2 dLt (eFn dLen (aCons (eV 1) (aNil))) (eC (.int 2)))) (sSeq (sSet 5 (eCall m_d_law_frame (aCons (eV 0) (aCons (eV 1) (aCons (eLst (aNil)) (aCons (eC (.int 0)) (aNil)))))))
  (sSeq (sSet 6 (eTup (aCons (e2 dIxZ (eV 5) (eC (.int 0))) (aCons (e2 dSub (e2 dIxZ (eV 5) (eC (.int 1))) (eC (.int 1))) (aCons (e2 dIxZ (eV 5) (eC (.int 2))) (aCons (eTup (aNil)) (aNil)))))))
  (sRet (eAnd (eCall m_d_law_told (aCons (eV 5) (aCons (eLst (aCons (eC (.str "both")) (aCons (eC (.bl true)) (aCons (eC (.bl true)) (aCons (eC (.bl true)) (aNil)))))) (aNil)))) (eCall m_d_law_told (aCons (eV 6) (aCons (eLst (aCons (eC (.str "both")) (aCons (eC (.bl true)) (aCons (eC (.bl false)) (aCons (eC (.bl false)) (aNil)))))) (aNil)))))))) (sNil))
  (sSeq (sAsgL 2 (gsC (gN 7) (gsC (gN 8) (gsN))) (eCall m_d_law_forward (aCons (eV 0) (aCons (eV 1) (aCons (eV 4) (aCons (eV 2) (aCons (eV 3) (aNil))))))))
  (sSeq (sSet 9 (eOr (e2 dGe (eV 2) (eC (.int 1))) (e2 dEq (eFn dLen (aCons (eLc (iSeq (eV 8)) [18, 19] (gT 2 (gsC (gN 18) (gsC (gN 19) (gsN)))) (lt_d_law_orders_2) (le_d_law_orders_3)) (aNil))) (eC (.int 0)))))
  (sSeq (sIf (tNot (tTru (eCall m_d_law_told (aCons (eCall m_d_law_frame (aCons (eV 0) (aCons (eV 1) (aCons (eV 8) (aCons (eC (.int 0)) (aNil)))))) (aCons (eLst (aCons (eC (.str "both")) (aCons (eC (.bl true)) (aCons (eC (.bl true)) (aCons (eV 9) (aNil)))))) (aNil)))))) (sRet (eC (.bl false))) (sNil))
  (sSeq (sIf (tNot (tTru (eCall m_d_law_told (aCons (eCall m_d_law_frame (aCons (eV 0) (aCons (eV 1) (aCons (eV 8) (aCons (e1 dNeg (eC (.int 1))) (aNil)))))) (aCons (eLst (aCons (eC (.str "both")) (aCons (eC (.bl true)) (aCons (eC (.bl false)) (aCons (eC (.bl false)) (aNil)))))) (aNil)))))) (sRet (eC (.bl false))) (sNil))
  (sSeq (sSet 10 (eCall m_d_law_draw (aCons (eV 0) (aCons (eC (.int 9)) (aNil)))))
  (sSeq (sSet 11 (eCall m_d_law_draw (aCons (eV 0) (aCons (e2 dAdd (eFn dLen (aCons (eV 8) (aNil))) (eC (.int 1))) (aNil)))))
  (sSeq (sSet 12 (eCall m_d_law_draw (aCons (eV 0) (aCons (e2 dSub (eFn dLen (aCons (eV 7) (aNil))) (eC (.int 1))) (aNil)))))
  (sSeq (sFor (iSeq (eLst (aCons (eC (.int 0)) (aCons (eC (.int 1)) (aCons (eV 3) (aNil)))))) (gN 13) (bl_d_law_orders_1))
  (sSeq (sSet 15 (eLst (aCons (eTup (aCons (eC (.str "a")) (aCons (eTup (aCons (eC (.str "gap")) (aCons (e2 dIxZ (eV 7) (eV 12)) (aCons (e2 dIxZ (eV 7) (e2 dAdd (eV 12) (eC (.int 1)))) (aCons (eC (.int 0)) (aNil)))))) (aNil)))) (aCons (eTup (aCons (eC (.str "a")) (aCons (eTup (aCons (eC (.str "gap")) (aCons (e2 dIxZ (eV 7) (e2 dAdd (eV 12) (eC (.int 1)))) (aCons (e2 dIxZ (eV 7) (eV 12)) (aCons (eC (.int 0)) (aNil)))))) (aNil)))) (aNil)))))
  (sSeq (sIf (tNot (tTru (eCall m_d_law_told (aCons (eCall m_d_law_frame (aCons (eV 0) (aCons (eV 1) (aCons (eV 15) (aCons (eV 10) (aNil)))))) (aCons (eLst (aCons (eC (.str "both")) (aCons (eC (.bl true)) (aCons (eC (.bl true)) (aCons (eC (.bl false)) (aNil)))))) (aNil)))))) (sRet (eC (.bl false))) (sNil))
  (sSeq (sPut pAny (eV 15) (eCall m_d_law_draw (aCons (eV 0) (aCons (eC (.int 2)) (aNil)))) (eTup (aCons (eC (.str "a")) (aCons (eTup (aCons (eC (.str "gap")) (aCons (e2 dIxZ (eV 7) (eV 12)) (aCons (e2 dIxZ (eV 7) (e2 dAdd (eV 12) (eC (.int 1)))) (aCons (eV 3) (aNil)))))) (aNil)))))
  (sSeq (sExpr (eMt "list" dAppend (eV 15) (aCons (eTup (aCons (eC (.str "a")) (aCons (eTup (aCons (eC (.str "gap")) (aCons (e2 dIxZ (eV 7) (e2 dAdd (eV 12) (eC (.int 1)))) (aCons (e2 dIxZ (eV 7) (eV 12)) (aCons (eC (.int 1)) (aNil)))))) (aNil)))) (aNil))))
  (sSeq (sIf (tNot (tTru (eCall m_d_law_told (aCons (eCall m_d_law_frame (aCons (eV 0) (aCons (eV 1) (aCons (eV 15) (aCons (eV 10) (aNil)))))) (aCons (eLst (aCons (eC (.str "both")) (aCons (eC (.bl true)) (aCons (eC (.bl false)) (aCons (eC (.bl false)) (aNil)))))) (aNil)))))) (sRet (eC (.bl false))) (sNil))
  (sSeq (sSet 16 (e2 dAdd (e2 dAdd (eSl dSl (eV 8) (oNone) (oSome (eV 11))) (eLst (aCons (eTup (aCons (eC (.str "cy")) (aCons (eTup (aCons (eC (.str "gap")) (aCons (e2 dIxZ (eV 7) (eV 12)) (aCons (e2 dIxZ (eV 7) (e2 dAdd (eV 12) (eC (.int 1)))) (aCons (e2 dSub (e2 dSub (eC (.int 0)) (eC (.int 1))) (eCall m_d_law_draw (aCons (eV 0) (aCons (eC (.int 3)) (aNil))))) (aNil)))))) (aNil)))) (aNil)))) (eSl dSl (eV 8) (oSome (eV 11)) (oNone))))
  (sSeq (sIf (tNot (tTru (eCall m_d_law_told (aCons (eCall m_d_law_frame (aCons (eV 0) (aCons (eV 1) (aCons (eV 16) (aCons (eV 10) (aNil)))))) (aCons (eLst (aCons (eC (.str "both")) (aCons (eC (.bl true)) (aCons (eC (.bl false)) (aCons (eC (.bl false)) (aNil)))))) (aNil)))))) (sRet (eC (.bl false))) (sNil))
  (sSeq (sSet 17 (eCall m_d_law_frame (aCons (eV 0) (aCons (eV 1) (aCons (eV 8) (aCons (eV 10) (aNil)))))))
  (sSeq (sExpr (eMt "list" dInsert (eV 8) (aCons (eV 11) (aCons (eTup (aCons (eC (.str "cy")) (aCons (eTup (aCons (eC (.str "years")) (aCons (e2 dIxZ (eV 7) (eV 12)) (aCons (eTup (aCons (eTup (aCons (e2 dIxZ (eV 17) (eC (.int 0))) (aCons (e2 dIxZ (eV 17) (eC (.int 1))) (aNil)))) (aNil))) (aNil))))) (aNil)))) (aNil)))))
  (sRet (eCall m_d_law_told (aCons (eTup (aCons (e2 dIxZ (eV 17) (eC (.int 0))) (aCons (e2 dIxZ (eV 17) (eC (.int 1))) (aCons (eFn dTuple (aCons (eV 1) (aNil))) (aCons (eFn dTuple (aCons (eV 8) (aNil))) (aNil)))))) (aCons (eLst (aCons (eC (.str "both")) (aCons (eC (.bl true)) (aCons (eC (.bl false)) (aCons (eC (.bl false)) (aNil)))))) (aNil))))))))))))))))))))))
noncomputable def m_d_law_orders : List D → Store → R D := fnM 20 5 b_d_law_orders
theorem ok_d_law_orders (X : Fx K mg) : FnOk P w K mg base (L2.CX P w) 5 X.a_d_law_orders X.d_d_law_orders ["tape", "deeds", "low", "high", "many"] (spM K mg 5 m_d_law_orders) :=
  okM (k := 4) X.F_d_law_orders sc_d_law_orders rfl fun cdv A outer s H E hr tk =>
    (css_cons (cs_if (ct_cmp opA_lt ops_lt (ce_callB call_len fns_len (by rfl) X.b_len (by decide +kernel) (ca_cons (ce_v 1) (ca_nil))) (ce_int) (nomark _)) (css_cons (cs_set (j := 5) sc_d_law_orders.nd rfl (Or.inl rfl) (ce_call (n := 4) (ok_d_law_frame X) (hr.mono (by decide)) tk (by rfl) X.g_d_law_frame X.F_d_law_frame.kp (bd_d_law_frame X) (an_cons (an_cons (an_cons (an_cons an_nil)))) (ca_cons (ce_v 0) (ca_cons (ce_v 1) (ca_cons (ce_lst (ca_nil)) (ca_cons (ce_int) (ca_nil)))))))
    (css_cons (cs_set (j := 6) sc_d_law_orders.nd rfl (Or.inl rfl) (ce_tup (ca_cons (ce_ix (ix_Z hr.units) ops_ixZ (ce_v 5) (ce_int) (fun _ _ => rfl)) (ca_cons (ce_op op_sub ops_sub (ce_ix (ix_Z hr.units) ops_ixZ (ce_v 5) (ce_int) (fun _ _ => rfl)) (ce_int)) (ca_cons (ce_ix (ix_Z hr.units) ops_ixZ (ce_v 5) (ce_int) (fun _ _ => rfl)) (ca_cons (ce_tup (ca_nil)) (ca_nil)))))))
    (css_one (cs_ret (ce_and (ce_call (n := 2) (ok_d_law_told X) (hr.mono (by decide)) tk (by rfl) X.g_d_law_told X.F_d_law_told.kp (bd_d_law_told X) (an_cons (an_cons an_nil)) (ca_cons (ce_v 5) (ca_cons (ce_lst (ca_cons (ce_str) (ca_cons (ce_bl) (ca_cons (ce_bl) (ca_cons (ce_bl) (ca_nil)))))) (ca_nil)))) (ce_one (ce_call (n := 2) (ok_d_law_told X) (hr.mono (by decide)) tk (by rfl) X.g_d_law_told X.F_d_law_told.kp (bd_d_law_told X) (an_cons (an_cons an_nil)) (ca_cons (ce_v 6) (ca_cons (ce_lst (ca_cons (ce_str) (ca_cons (ce_bl) (ca_cons (ce_bl) (ca_cons (ce_bl) (ca_nil)))))) (ca_nil)))))))))) (css_nil))
    (css_cons (cs_asgL (n := 2) rfl (ce_call (n := 5) (ok_d_law_forward X) (hr.mono (by decide)) tk (by rfl) X.g_d_law_forward X.F_d_law_forward.kp (bd_d_law_forward X) (an_cons (an_cons (an_cons (an_cons (an_cons an_nil))))) (ca_cons (ce_v 0) (ca_cons (ce_v 1) (ca_cons (ce_v 4) (ca_cons (ce_v 2) (ca_cons (ce_v 3) (ca_nil))))))) (cgs_cons (us := [7, 8]) (cg_name (i := 7) sc_d_law_orders.nd rfl (by first | exact Or.inl rfl | exact Or.inr rfl)) (cgs_cons (us := [8]) (cg_name (i := 8) sc_d_law_orders.nd rfl (by first | exact Or.inl rfl | exact Or.inr rfl)) (cgs_nil (vs := [])))))
    (css_cons (cs_set (j := 9) sc_d_law_orders.nd rfl (Or.inl rfl) (ce_or (ce_cmp opA_ge ops_ge (ce_v 2) (ce_int) (nomark _)) (ce_one (ce_cmp (opA_eq hr.units) ops_eq (ce_callB call_len fns_len (by rfl) X.b_len (by decide +kernel) (ca_cons (ce_lc (own := [("digger", 18), ("record", 19)]) rfl sc_d_law_orders.nd (ci_seq (ce_v 8)) (blkOk_by (N := ["tape", "deeds", "low", "high", "many", "wide", "less", "row", "entries", "strict", "wider", "at", "to", "least", "back", "pair", "below", "whole", "digger", "record"]) (sc := defScope s_d_law_orders) (by decide +kernel)) (fun _ _ _ _ _ => cg_tup (n := 2) rfl (cgs_cons (us := [18, 19]) (cg_name (i := 18) sc_d_law_orders.nd rfl (by first | exact Or.inl rfl | exact Or.inr rfl)) (cgs_cons (us := [19]) (cg_name (i := 19) sc_d_law_orders.nd rfl (by first | exact Or.inl rfl | exact Or.inr rfl)) (cgs_nil (vs := []))))) (fun _ _ _ _ _ => cts_one (ct_cmp (opA_eq hr.units) ops_eq (ce_ix (ix_Z hr.units) ops_ixZ (ce_v 19) (ce_int) (fun _ _ => rfl)) (ce_int) (nomark _))) (fun _ _ _ _ _ => ce_int)) (ca_nil))) (ce_int) (nomark _)))))
    (css_cons (cs_if (ct_not (ct_tru (ce_call (n := 2) (ok_d_law_told X) (hr.mono (by decide)) tk (by rfl) X.g_d_law_told X.F_d_law_told.kp (bd_d_law_told X) (an_cons (an_cons an_nil)) (ca_cons (ce_call (n := 4) (ok_d_law_frame X) (hr.mono (by decide)) tk (by rfl) X.g_d_law_frame X.F_d_law_frame.kp (bd_d_law_frame X) (an_cons (an_cons (an_cons (an_cons an_nil)))) (ca_cons (ce_v 0) (ca_cons (ce_v 1) (ca_cons (ce_v 8) (ca_cons (ce_int) (ca_nil)))))) (ca_cons (ce_lst (ca_cons (ce_str) (ca_cons (ce_bl) (ca_cons (ce_bl) (ca_cons (ce_v 9) (ca_nil)))))) (ca_nil)))))) (css_one (cs_ret (ce_bl))) (css_nil))
    (css_cons (cs_if (ct_not (ct_tru (ce_call (n := 2) (ok_d_law_told X) (hr.mono (by decide)) tk (by rfl) X.g_d_law_told X.F_d_law_told.kp (bd_d_law_told X) (an_cons (an_cons an_nil)) (ca_cons (ce_call (n := 4) (ok_d_law_frame X) (hr.mono (by decide)) tk (by rfl) X.g_d_law_frame X.F_d_law_frame.kp (bd_d_law_frame X) (an_cons (an_cons (an_cons (an_cons an_nil)))) (ca_cons (ce_v 0) (ca_cons (ce_v 1) (ca_cons (ce_v 8) (ca_cons (ce_un un_neg uns_neg (ce_int)) (ca_nil)))))) (ca_cons (ce_lst (ca_cons (ce_str) (ca_cons (ce_bl) (ca_cons (ce_bl) (ca_cons (ce_bl) (ca_nil)))))) (ca_nil)))))) (css_one (cs_ret (ce_bl))) (css_nil))
    (css_cons (cs_set (j := 10) sc_d_law_orders.nd rfl (Or.inl rfl) (ce_call (n := 2) (ok_d_law_draw X) (hr.mono (by decide)) tk (by rfl) X.g_d_law_draw X.F_d_law_draw.kp (bd_d_law_draw X) (an_cons (an_cons an_nil)) (ca_cons (ce_v 0) (ca_cons (ce_int) (ca_nil)))))
    (css_cons (cs_set (j := 11) sc_d_law_orders.nd rfl (Or.inl rfl) (ce_call (n := 2) (ok_d_law_draw X) (hr.mono (by decide)) tk (by rfl) X.g_d_law_draw X.F_d_law_draw.kp (bd_d_law_draw X) (an_cons (an_cons an_nil)) (ca_cons (ce_v 0) (ca_cons (ce_op op_addA ops_add (ce_callB call_len fns_len (by rfl) X.b_len (by decide +kernel) (ca_cons (ce_v 8) (ca_nil))) (ce_int)) (ca_nil)))))
    (css_cons (cs_set (j := 12) sc_d_law_orders.nd rfl (Or.inl rfl) (ce_call (n := 2) (ok_d_law_draw X) (hr.mono (by decide)) tk (by rfl) X.g_d_law_draw X.F_d_law_draw.kp (bd_d_law_draw X) (an_cons (an_cons an_nil)) (ca_cons (ce_v 0) (ca_cons (ce_op op_sub ops_sub (ce_callB call_len fns_len (by rfl) X.b_len (by decide +kernel) (ca_cons (ce_v 7) (ca_nil))) (ce_int)) (ca_nil)))))
    (css_cons (cs_for (passes_of rfl) rfl (ci_seq (ce_lst (ca_cons (ce_int) (ca_cons (ce_int) (ca_cons (ce_v 3) (ca_nil)))))) (cg_name (i := 13) sc_d_law_orders.nd rfl (by first | exact Or.inl rfl | exact Or.inr rfl)) (css_cons (cs_set (j := 14) sc_d_law_orders.nd rfl (Or.inl rfl) (ce_op op_addA ops_add (ce_op op_addA ops_add (ce_sl sl_LT sls_LT (ce_v 8) (co_none) (co_some (ce_v 11))) (ce_lst (ca_cons (ce_tup (ca_cons (ce_str) (ca_cons (ce_tup (ca_cons (ce_str) (ca_cons (ce_ix (ix_Z hr.units) ops_ixZ (ce_v 7) (ce_op op_sub ops_sub (ce_callB call_len fns_len (by rfl) X.b_len (by decide +kernel) (ca_cons (ce_v 7) (ca_nil))) (ce_int)) (fun _ _ => rfl)) (ca_cons (ce_ix (ix_Z hr.units) ops_ixZ (ce_v 7) (ce_v 12) (fun _ _ => rfl)) (ca_cons (ce_v 13) (ca_nil)))))) (ca_nil)))) (ca_nil)))) (ce_sl sl_LT sls_LT (ce_v 8) (co_some (ce_v 11)) (co_none))))
    (css_one (cs_if (ct_not (ct_tru (ce_call (n := 2) (ok_d_law_told X) (hr.mono (by decide)) tk (by rfl) X.g_d_law_told X.F_d_law_told.kp (bd_d_law_told X) (an_cons (an_cons an_nil)) (ca_cons (ce_call (n := 4) (ok_d_law_frame X) (hr.mono (by decide)) tk (by rfl) X.g_d_law_frame X.F_d_law_frame.kp (bd_d_law_frame X) (an_cons (an_cons (an_cons (an_cons an_nil)))) (ca_cons (ce_v 0) (ca_cons (ce_v 1) (ca_cons (ce_v 14) (ca_cons (ce_v 10) (ca_nil)))))) (ca_cons (ce_non) (ca_nil)))))) (css_one (cs_ret (ce_bl))) (css_nil)))))
    (css_cons (cs_set (j := 15) sc_d_law_orders.nd rfl (Or.inl rfl) (ce_lst (ca_cons (ce_tup (ca_cons (ce_str) (ca_cons (ce_tup (ca_cons (ce_str) (ca_cons (ce_ix (ix_Z hr.units) ops_ixZ (ce_v 7) (ce_v 12) (fun _ _ => rfl)) (ca_cons (ce_ix (ix_Z hr.units) ops_ixZ (ce_v 7) (ce_op op_addA ops_add (ce_v 12) (ce_int)) (fun _ _ => rfl)) (ca_cons (ce_int) (ca_nil)))))) (ca_nil)))) (ca_cons (ce_tup (ca_cons (ce_str) (ca_cons (ce_tup (ca_cons (ce_str) (ca_cons (ce_ix (ix_Z hr.units) ops_ixZ (ce_v 7) (ce_op op_addA ops_add (ce_v 12) (ce_int)) (fun _ _ => rfl)) (ca_cons (ce_ix (ix_Z hr.units) ops_ixZ (ce_v 7) (ce_v 12) (fun _ _ => rfl)) (ca_cons (ce_int) (ca_nil)))))) (ca_nil)))) (ca_nil)))))
    (css_cons (cs_if (ct_not (ct_tru (ce_call (n := 2) (ok_d_law_told X) (hr.mono (by decide)) tk (by rfl) X.g_d_law_told X.F_d_law_told.kp (bd_d_law_told X) (an_cons (an_cons an_nil)) (ca_cons (ce_call (n := 4) (ok_d_law_frame X) (hr.mono (by decide)) tk (by rfl) X.g_d_law_frame X.F_d_law_frame.kp (bd_d_law_frame X) (an_cons (an_cons (an_cons (an_cons an_nil)))) (ca_cons (ce_v 0) (ca_cons (ce_v 1) (ca_cons (ce_v 15) (ca_cons (ce_v 10) (ca_nil)))))) (ca_cons (ce_lst (ca_cons (ce_str) (ca_cons (ce_bl) (ca_cons (ce_bl) (ca_cons (ce_bl) (ca_nil)))))) (ca_nil)))))) (css_one (cs_ret (ce_bl))) (css_nil))
    (css_cons (cs_put (ce_tup (ca_cons (ce_str) (ca_cons (ce_tup (ca_cons (ce_str) (ca_cons (ce_ix (ix_Z hr.units) ops_ixZ (ce_v 7) (ce_v 12) (fun _ _ => rfl)) (ca_cons (ce_ix (ix_Z hr.units) ops_ixZ (ce_v 7) (ce_op op_addA ops_add (ce_v 12) (ce_int)) (fun _ _ => rfl)) (ca_cons (ce_v 3) (ca_nil)))))) (ca_nil)))) (ce_v 15) (ce_call (n := 2) (ok_d_law_draw X) (hr.mono (by decide)) tk (by rfl) X.g_d_law_draw X.F_d_law_draw.kp (bd_d_law_draw X) (an_cons (an_cons an_nil)) (ca_cons (ce_v 0) (ca_cons (ce_int) (ca_nil)))) (set_any hr.units) puts_any)
    (css_cons (cs_expr (ce_bm PySem.F.plainAttrs_list PySem.F.slot_list_append PySem.F.type_list_append mt_append mts_append (ce_v 15) (ca_cons (ce_tup (ca_cons (ce_str) (ca_cons (ce_tup (ca_cons (ce_str) (ca_cons (ce_ix (ix_Z hr.units) ops_ixZ (ce_v 7) (ce_op op_addA ops_add (ce_v 12) (ce_int)) (fun _ _ => rfl)) (ca_cons (ce_ix (ix_Z hr.units) ops_ixZ (ce_v 7) (ce_v 12) (fun _ _ => rfl)) (ca_cons (ce_int) (ca_nil)))))) (ca_nil)))) (ca_nil))))
    (css_cons (cs_if (ct_not (ct_tru (ce_call (n := 2) (ok_d_law_told X) (hr.mono (by decide)) tk (by rfl) X.g_d_law_told X.F_d_law_told.kp (bd_d_law_told X) (an_cons (an_cons an_nil)) (ca_cons (ce_call (n := 4) (ok_d_law_frame X) (hr.mono (by decide)) tk (by rfl) X.g_d_law_frame X.F_d_law_frame.kp (bd_d_law_frame X) (an_cons (an_cons (an_cons (an_cons an_nil)))) (ca_cons (ce_v 0) (ca_cons (ce_v 1) (ca_cons (ce_v 15) (ca_cons (ce_v 10) (ca_nil)))))) (ca_cons (ce_lst (ca_cons (ce_str) (ca_cons (ce_bl) (ca_cons (ce_bl) (ca_cons (ce_bl) (ca_nil)))))) (ca_nil)))))) (css_one (cs_ret (ce_bl))) (css_nil))
    (css_cons (cs_set (j := 16) sc_d_law_orders.nd rfl (Or.inl rfl) (ce_op op_addA ops_add (ce_op op_addA ops_add (ce_sl sl_LT sls_LT (ce_v 8) (co_none) (co_some (ce_v 11))) (ce_lst (ca_cons (ce_tup (ca_cons (ce_str) (ca_cons (ce_tup (ca_cons (ce_str) (ca_cons (ce_ix (ix_Z hr.units) ops_ixZ (ce_v 7) (ce_v 12) (fun _ _ => rfl)) (ca_cons (ce_ix (ix_Z hr.units) ops_ixZ (ce_v 7) (ce_op op_addA ops_add (ce_v 12) (ce_int)) (fun _ _ => rfl)) (ca_cons (ce_op op_sub ops_sub (ce_op op_sub ops_sub (ce_int) (ce_int)) (ce_call (n := 2) (ok_d_law_draw X) (hr.mono (by decide)) tk (by rfl) X.g_d_law_draw X.F_d_law_draw.kp (bd_d_law_draw X) (an_cons (an_cons an_nil)) (ca_cons (ce_v 0) (ca_cons (ce_int) (ca_nil))))) (ca_nil)))))) (ca_nil)))) (ca_nil)))) (ce_sl sl_LT sls_LT (ce_v 8) (co_some (ce_v 11)) (co_none))))
    (css_cons (cs_if (ct_not (ct_tru (ce_call (n := 2) (ok_d_law_told X) (hr.mono (by decide)) tk (by rfl) X.g_d_law_told X.F_d_law_told.kp (bd_d_law_told X) (an_cons (an_cons an_nil)) (ca_cons (ce_call (n := 4) (ok_d_law_frame X) (hr.mono (by decide)) tk (by rfl) X.g_d_law_frame X.F_d_law_frame.kp (bd_d_law_frame X) (an_cons (an_cons (an_cons (an_cons an_nil)))) (ca_cons (ce_v 0) (ca_cons (ce_v 1) (ca_cons (ce_v 16) (ca_cons (ce_v 10) (ca_nil)))))) (ca_cons (ce_lst (ca_cons (ce_str) (ca_cons (ce_bl) (ca_cons (ce_bl) (ca_cons (ce_bl) (ca_nil)))))) (ca_nil)))))) (css_one (cs_ret (ce_bl))) (css_nil))
    (css_cons (cs_set (j := 17) sc_d_law_orders.nd rfl (Or.inl rfl) (ce_call (n := 4) (ok_d_law_frame X) (hr.mono (by decide)) tk (by rfl) X.g_d_law_frame X.F_d_law_frame.kp (bd_d_law_frame X) (an_cons (an_cons (an_cons (an_cons an_nil)))) (ca_cons (ce_v 0) (ca_cons (ce_v 1) (ca_cons (ce_v 8) (ca_cons (ce_v 10) (ca_nil)))))))
    (css_cons (cs_expr (ce_bm PySem.F.plainAttrs_list PySem.F.slot_list_insert PySem.F.type_list_insert mt_insert mts_insert (ce_v 8) (ca_cons (ce_v 11) (ca_cons (ce_tup (ca_cons (ce_str) (ca_cons (ce_tup (ca_cons (ce_str) (ca_cons (ce_ix (ix_Z hr.units) ops_ixZ (ce_v 7) (ce_v 12) (fun _ _ => rfl)) (ca_cons (ce_tup (ca_cons (ce_tup (ca_cons (ce_ix (ix_Z hr.units) ops_ixZ (ce_v 17) (ce_int) (fun _ _ => rfl)) (ca_cons (ce_ix (ix_Z hr.units) ops_ixZ (ce_v 17) (ce_int) (fun _ _ => rfl)) (ca_nil)))) (ca_nil))) (ca_nil))))) (ca_nil)))) (ca_nil)))))
    (css_one (cs_ret (ce_call (n := 2) (ok_d_law_told X) (hr.mono (by decide)) tk (by rfl) X.g_d_law_told X.F_d_law_told.kp (bd_d_law_told X) (an_cons (an_cons an_nil)) (ca_cons (ce_tup (ca_cons (ce_ix (ix_Z hr.units) ops_ixZ (ce_v 17) (ce_int) (fun _ _ => rfl)) (ca_cons (ce_ix (ix_Z hr.units) ops_ixZ (ce_v 17) (ce_int) (fun _ _ => rfl)) (ca_cons (ce_callTy call_tupN fns_tuple (by rfl) X.b_tuple (by decide +kernel) (ca_cons (ce_v 1) (ca_nil))) (ca_cons (ce_callTy call_tupN fns_tuple (by rfl) X.b_tuple (by decide +kernel) (ca_cons (ce_v 8) (ca_nil))) (ca_nil)))))) (ca_cons (ce_lst (ca_cons (ce_str) (ca_cons (ce_bl) (ca_cons (ce_bl) (ca_cons (ce_bl) (ca_nil)))))) (ca_nil))))))))))))))))))))))) :
      PSs _ _ (Ts _ _ _ b_d_law_orders))
noncomputable def bl_d_law_wide_1 : MS := sSeq (sPut pAny (eV 3) (eV 6) (eTup (aCons (eC (.str "last")) (aCons (eV 7) (aNil)))))
  (sIf (tNot (tTru (eCall m_d_law_told (aCons (eCall m_d_law_frame (aCons (eV 0) (aCons (eV 1) (aCons (eV 3) (aCons (eC (.int 0)) (aNil)))))) (aCons (eLst (aCons (eV 8) (aCons (eC (.bl false)) (aCons (eC (.bl false)) (aCons (eC (.bl false)) (aNil)))))) (aNil)))))) (sRet (eC (.bl false))) (sNil))
noncomputable def bl_d_law_wide_2 : MS := sExpr (eMt "list" dAppend (eV 3) (aCons (eTup (aCons (eC (.str "chain")) (aCons (eTup (aCons (eC (.str "gap")) (aCons (e2 dIxZ (eV 2) (eV 4)) (aCons (e2 dIxZ (eV 2) (e2 dAdd (eV 4) (eC (.int 1)))) (aCons (e2 dAdd (eC (.int 10)) (eCall m_d_law_draw (aCons (eV 0) (aCons (eC (.int 28)) (aNil))))) (aNil)))))) (aNil)))) (aNil)))
noncomputable def b_d_law_wide : MS := sSeq (sSet 1 (eCall m_d_law_names (aCons (eV 0) (aCons (eC (.int 40)) (aNil)))))
  (sSeq (sAsgL 2 (gsC (gN 2) (gsC (gN 3) (gsN))) (eCall m_d_law_forward (aCons (eV 0) (aCons (eV 1) (aCons (eC (.int 81)) (aCons (eC (.int 1)) (aCons (eC (.int 37)) (aNil))))))))
  (sSeq (sFor (iRange1 (aCons (eC (.int 39)) (aNil))) (gN 4) (bl_d_law_wide_2))
  (sSeq (sPut pAny (eV 3) (eCall m_d_law_draw (aCons (eV 0) (aCons (eC (.int 120)) (aNil)))) (eTup (aCons (eC (.str "top")) (aCons (eTup (aCons (eC (.str "gap")) (aCons (e2 dIxZ (eV 2) (eC (.int 38))) (aCons (e2 dIxZ (eV 2) (eC (.int 39))) (aCons (eC (.int 37)) (aNil)))))) (aNil)))))
  (sSeq (sSet 5 (eCall m_d_law_frame (aCons (eV 0) (aCons (eV 1) (aCons (eV 3) (aCons (eC (.int 0)) (aNil)))))))
  (sSeq (sIf (tNot (tTru (eCall m_d_law_told (aCons (eV 5) (aCons (eLst (aCons (eC (.str "both")) (aCons (eC (.bl true)) (aCons (eC (.bl true)) (aCons (eC (.bl true)) (aNil)))))) (aNil)))))) (sRet (eC (.bl false))) (sNil))
  (sSeq (sIf (tNot (tTru (eCall m_d_law_told (aCons (eTup (aCons (e2 dIxZ (eV 5) (eC (.int 0))) (aCons (e2 dSub (e2 dIxZ (eV 5) (eC (.int 1))) (eC (.int 1))) (aCons (e2 dIxZ (eV 5) (eC (.int 2))) (aCons (e2 dIxZ (eV 5) (eC (.int 3))) (aNil)))))) (aCons (eLst (aCons (eC (.str "both")) (aCons (eC (.bl true)) (aCons (eC (.bl false)) (aCons (eC (.bl false)) (aNil)))))) (aNil)))))) (sRet (eC (.bl false))) (sNil))
  (sSeq (sSet 6 (e2 dSub (eFn dLen (aCons (eV 3) (aNil))) (eC (.int 1))))
  (sSeq (sPut pAny (eV 3) (eV 6) (eTup (aCons (eC (.str "last")) (aCons (eTup (aCons (eC (.str "gap")) (aCons (e2 dIxZ (eV 2) (eC (.int 39))) (aCons (e2 dIxZ (eV 2) (eFn dInt (aCons (eCall m_d_law_draw (aCons (eV 0) (aCons (eC (.int 8)) (aNil)))) (aNil)))) (aCons (eC (.int 37)) (aNil)))))) (aNil)))))
  (sSeq (sIf (tNot (tTru (eCall m_d_law_told (aCons (eCall m_d_law_frame (aCons (eV 0) (aCons (eV 1) (aCons (eV 3) (aCons (eC (.int 0)) (aNil)))))) (aCons (eC .non) (aNil)))))) (sRet (eC (.bl false))) (sNil))
  (sSeq (sFor (iSeq (eLst (aCons (eTup (aCons (eTup (aCons (eC (.str "over")) (aCons (e2 dIxZ (eV 2) (eC (.int 0))) (aCons (eC (.int 1)) (aCons (eTup (aCons (eTup (aCons (e2 dIxZ (eV 2) (eC (.int 1))) (aCons (eC (.int 0)) (aNil)))) (aCons (eTup (aCons (e2 dIxZ (eV 2) (eC (.int 2))) (aCons (eC (.int 0)) (aNil)))) (aNil)))) (aNil)))))) (aCons (eC (.str "post")) (aNil)))) (aCons (eTup (aCons (eTup (aCons (eC (.str "under")) (aCons (e2 dIxZ (eV 2) (eC (.int 0))) (aCons (eC (.int 1)) (aCons (eTup (aCons (eTup (aCons (e2 dIxZ (eV 2) (eC (.int 1))) (aCons (eC (.int 0)) (aNil)))) (aCons (eTup (aCons (e2 dIxZ (eV 2) (eC (.int 2))) (aCons (eC (.int 0)) (aNil)))) (aNil)))) (aNil)))))) (aCons (eC (.str "ante")) (aNil)))) (aNil))))) (gT 2 (gsC (gN 7) (gsC (gN 8) (gsN)))) (bl_d_law_wide_1))
  (sSeq (sPut pAny (eV 3) (eV 6) (eTup (aCons (eC (.str "last")) (aCons (eTup (aCons (eC (.str "gap")) (aCons (e2 dIxZ (eV 2) (eC (.int 3))) (aCons (e2 dIxZ (eV 2) (eC (.int 4))) (aCons (eC (.int 0)) (aNil)))))) (aNil)))))
  (sRet (eCall m_d_law_told (aCons (eCall m_d_law_frame (aCons (eV 0) (aCons (eV 1) (aCons (eV 3) (aCons (eC (.int 0)) (aNil)))))) (aCons (eLst (aCons (eC (.str "both")) (aCons (eC (.bl true)) (aCons (eC (.bl true)) (aCons (eC (.bl false)) (aNil)))))) (aNil))))))))))))))))
noncomputable def m_d_law_wide : List D → Store → R D := fnM 9 1 b_d_law_wide
theorem ok_d_law_wide (X : Fx K mg) : FnOk P w K mg base (L2.CX P w) 5 X.a_d_law_wide X.d_d_law_wide ["tape"] (spM K mg 1 m_d_law_wide) :=
  okM (k := 4) X.F_d_law_wide sc_d_law_wide rfl fun cdv A outer s H E hr tk =>
    (css_cons (cs_set (j := 1) sc_d_law_wide.nd rfl (Or.inl rfl) (ce_call (n := 2) (ok_d_law_names X) (hr.mono (by decide)) tk (by rfl) X.g_d_law_names X.F_d_law_names.kp (bd_d_law_names X) (an_cons (an_cons an_nil)) (ca_cons (ce_v 0) (ca_cons (ce_int) (ca_nil)))))
    (css_cons (cs_asgL (n := 2) rfl (ce_call (n := 5) (ok_d_law_forward X) (hr.mono (by decide)) tk (by rfl) X.g_d_law_forward X.F_d_law_forward.kp (bd_d_law_forward X) (an_cons (an_cons (an_cons (an_cons (an_cons an_nil))))) (ca_cons (ce_v 0) (ca_cons (ce_v 1) (ca_cons (ce_int) (ca_cons (ce_int) (ca_cons (ce_int) (ca_nil))))))) (cgs_cons (us := [2, 3]) (cg_name (i := 2) sc_d_law_wide.nd rfl (by first | exact Or.inl rfl | exact Or.inr rfl)) (cgs_cons (us := [3]) (cg_name (i := 3) sc_d_law_wide.nd rfl (by first | exact Or.inl rfl | exact Or.inr rfl)) (cgs_nil (vs := [])))))
    (css_cons (cs_for (passes_of rfl) rfl (ci_range1 (by rfl) X.b_range (ca_cons (ce_int) (ca_nil))) (cg_name (i := 4) sc_d_law_wide.nd rfl (by first | exact Or.inl rfl | exact Or.inr rfl)) (css_one (cs_expr (ce_bm PySem.F.plainAttrs_list PySem.F.slot_list_append PySem.F.type_list_append mt_append mts_append (ce_v 3) (ca_cons (ce_tup (ca_cons (ce_str) (ca_cons (ce_tup (ca_cons (ce_str) (ca_cons (ce_ix (ix_Z hr.units) ops_ixZ (ce_v 2) (ce_v 4) (fun _ _ => rfl)) (ca_cons (ce_ix (ix_Z hr.units) ops_ixZ (ce_v 2) (ce_op op_addA ops_add (ce_v 4) (ce_int)) (fun _ _ => rfl)) (ca_cons (ce_op op_addA ops_add (ce_int) (ce_call (n := 2) (ok_d_law_draw X) (hr.mono (by decide)) tk (by rfl) X.g_d_law_draw X.F_d_law_draw.kp (bd_d_law_draw X) (an_cons (an_cons an_nil)) (ca_cons (ce_v 0) (ca_cons (ce_int) (ca_nil))))) (ca_nil)))))) (ca_nil)))) (ca_nil))))))
    (css_cons (cs_put (ce_tup (ca_cons (ce_str) (ca_cons (ce_tup (ca_cons (ce_str) (ca_cons (ce_ix (ix_Z hr.units) ops_ixZ (ce_v 2) (ce_int) (fun _ _ => rfl)) (ca_cons (ce_ix (ix_Z hr.units) ops_ixZ (ce_v 2) (ce_int) (fun _ _ => rfl)) (ca_cons (ce_int) (ca_nil)))))) (ca_nil)))) (ce_v 3) (ce_call (n := 2) (ok_d_law_draw X) (hr.mono (by decide)) tk (by rfl) X.g_d_law_draw X.F_d_law_draw.kp (bd_d_law_draw X) (an_cons (an_cons an_nil)) (ca_cons (ce_v 0) (ca_cons (ce_int) (ca_nil)))) (set_any hr.units) puts_any)
    (css_cons (cs_set (j := 5) sc_d_law_wide.nd rfl (Or.inl rfl) (ce_call (n := 4) (ok_d_law_frame X) (hr.mono (by decide)) tk (by rfl) X.g_d_law_frame X.F_d_law_frame.kp (bd_d_law_frame X) (an_cons (an_cons (an_cons (an_cons an_nil)))) (ca_cons (ce_v 0) (ca_cons (ce_v 1) (ca_cons (ce_v 3) (ca_cons (ce_int) (ca_nil)))))))
    (css_cons (cs_if (ct_not (ct_tru (ce_call (n := 2) (ok_d_law_told X) (hr.mono (by decide)) tk (by rfl) X.g_d_law_told X.F_d_law_told.kp (bd_d_law_told X) (an_cons (an_cons an_nil)) (ca_cons (ce_v 5) (ca_cons (ce_lst (ca_cons (ce_str) (ca_cons (ce_bl) (ca_cons (ce_bl) (ca_cons (ce_bl) (ca_nil)))))) (ca_nil)))))) (css_one (cs_ret (ce_bl))) (css_nil))
    (css_cons (cs_if (ct_not (ct_tru (ce_call (n := 2) (ok_d_law_told X) (hr.mono (by decide)) tk (by rfl) X.g_d_law_told X.F_d_law_told.kp (bd_d_law_told X) (an_cons (an_cons an_nil)) (ca_cons (ce_tup (ca_cons (ce_ix (ix_Z hr.units) ops_ixZ (ce_v 5) (ce_int) (fun _ _ => rfl)) (ca_cons (ce_op op_sub ops_sub (ce_ix (ix_Z hr.units) ops_ixZ (ce_v 5) (ce_int) (fun _ _ => rfl)) (ce_int)) (ca_cons (ce_ix (ix_Z hr.units) ops_ixZ (ce_v 5) (ce_int) (fun _ _ => rfl)) (ca_cons (ce_ix (ix_Z hr.units) ops_ixZ (ce_v 5) (ce_int) (fun _ _ => rfl)) (ca_nil)))))) (ca_cons (ce_lst (ca_cons (ce_str) (ca_cons (ce_bl) (ca_cons (ce_bl) (ca_cons (ce_bl) (ca_nil)))))) (ca_nil)))))) (css_one (cs_ret (ce_bl))) (css_nil))
    (css_cons (cs_set (j := 6) sc_d_law_wide.nd rfl (Or.inl rfl) (ce_op op_sub ops_sub (ce_callB call_len fns_len (by rfl) X.b_len (by decide +kernel) (ca_cons (ce_v 3) (ca_nil))) (ce_int)))
    (css_cons (cs_put (ce_tup (ca_cons (ce_str) (ca_cons (ce_tup (ca_cons (ce_str) (ca_cons (ce_ix (ix_Z hr.units) ops_ixZ (ce_v 2) (ce_int) (fun _ _ => rfl)) (ca_cons (ce_ix (ix_Z hr.units) ops_ixZ (ce_v 2) (ce_callTy call_int1 fns_int (by rfl) X.b_int (by decide +kernel) (ca_cons (ce_call (n := 2) (ok_d_law_draw X) (hr.mono (by decide)) tk (by rfl) X.g_d_law_draw X.F_d_law_draw.kp (bd_d_law_draw X) (an_cons (an_cons an_nil)) (ca_cons (ce_v 0) (ca_cons (ce_int) (ca_nil)))) (ca_nil))) (fun _ _ => rfl)) (ca_cons (ce_int) (ca_nil)))))) (ca_nil)))) (ce_v 3) (ce_v 6) (set_any hr.units) puts_any)
    (css_cons (cs_if (ct_not (ct_tru (ce_call (n := 2) (ok_d_law_told X) (hr.mono (by decide)) tk (by rfl) X.g_d_law_told X.F_d_law_told.kp (bd_d_law_told X) (an_cons (an_cons an_nil)) (ca_cons (ce_call (n := 4) (ok_d_law_frame X) (hr.mono (by decide)) tk (by rfl) X.g_d_law_frame X.F_d_law_frame.kp (bd_d_law_frame X) (an_cons (an_cons (an_cons (an_cons an_nil)))) (ca_cons (ce_v 0) (ca_cons (ce_v 1) (ca_cons (ce_v 3) (ca_cons (ce_int) (ca_nil)))))) (ca_cons (ce_non) (ca_nil)))))) (css_one (cs_ret (ce_bl))) (css_nil))
    (css_cons (cs_for (passes_of rfl) rfl (ci_seq (ce_lst (ca_cons (ce_tup (ca_cons (ce_tup (ca_cons (ce_str) (ca_cons (ce_ix (ix_Z hr.units) ops_ixZ (ce_v 2) (ce_int) (fun _ _ => rfl)) (ca_cons (ce_int) (ca_cons (ce_tup (ca_cons (ce_tup (ca_cons (ce_ix (ix_Z hr.units) ops_ixZ (ce_v 2) (ce_int) (fun _ _ => rfl)) (ca_cons (ce_int) (ca_nil)))) (ca_cons (ce_tup (ca_cons (ce_ix (ix_Z hr.units) ops_ixZ (ce_v 2) (ce_int) (fun _ _ => rfl)) (ca_cons (ce_int) (ca_nil)))) (ca_nil)))) (ca_nil)))))) (ca_cons (ce_str) (ca_nil)))) (ca_cons (ce_tup (ca_cons (ce_tup (ca_cons (ce_str) (ca_cons (ce_ix (ix_Z hr.units) ops_ixZ (ce_v 2) (ce_int) (fun _ _ => rfl)) (ca_cons (ce_int) (ca_cons (ce_tup (ca_cons (ce_tup (ca_cons (ce_ix (ix_Z hr.units) ops_ixZ (ce_v 2) (ce_int) (fun _ _ => rfl)) (ca_cons (ce_int) (ca_nil)))) (ca_cons (ce_tup (ca_cons (ce_ix (ix_Z hr.units) ops_ixZ (ce_v 2) (ce_int) (fun _ _ => rfl)) (ca_cons (ce_int) (ca_nil)))) (ca_nil)))) (ca_nil)))))) (ca_cons (ce_str) (ca_nil)))) (ca_nil))))) (cg_tup (n := 2) rfl (cgs_cons (us := [7, 8]) (cg_name (i := 7) sc_d_law_wide.nd rfl (by first | exact Or.inl rfl | exact Or.inr rfl)) (cgs_cons (us := [8]) (cg_name (i := 8) sc_d_law_wide.nd rfl (by first | exact Or.inl rfl | exact Or.inr rfl)) (cgs_nil (vs := []))))) (css_cons (cs_put (ce_tup (ca_cons (ce_str) (ca_cons (ce_v 7) (ca_nil)))) (ce_v 3) (ce_v 6) (set_any hr.units) puts_any)
    (css_one (cs_if (ct_not (ct_tru (ce_call (n := 2) (ok_d_law_told X) (hr.mono (by decide)) tk (by rfl) X.g_d_law_told X.F_d_law_told.kp (bd_d_law_told X) (an_cons (an_cons an_nil)) (ca_cons (ce_call (n := 4) (ok_d_law_frame X) (hr.mono (by decide)) tk (by rfl) X.g_d_law_frame X.F_d_law_frame.kp (bd_d_law_frame X) (an_cons (an_cons (an_cons (an_cons an_nil)))) (ca_cons (ce_v 0) (ca_cons (ce_v 1) (ca_cons (ce_v 3) (ca_cons (ce_int) (ca_nil)))))) (ca_cons (ce_lst (ca_cons (ce_v 8) (ca_cons (ce_bl) (ca_cons (ce_bl) (ca_cons (ce_bl) (ca_nil)))))) (ca_nil)))))) (css_one (cs_ret (ce_bl))) (css_nil)))))
    (css_cons (cs_put (ce_tup (ca_cons (ce_str) (ca_cons (ce_tup (ca_cons (ce_str) (ca_cons (ce_ix (ix_Z hr.units) ops_ixZ (ce_v 2) (ce_int) (fun _ _ => rfl)) (ca_cons (ce_ix (ix_Z hr.units) ops_ixZ (ce_v 2) (ce_int) (fun _ _ => rfl)) (ca_cons (ce_int) (ca_nil)))))) (ca_nil)))) (ce_v 3) (ce_v 6) (set_any hr.units) puts_any)
    (css_one (cs_ret (ce_call (n := 2) (ok_d_law_told X) (hr.mono (by decide)) tk (by rfl) X.g_d_law_told X.F_d_law_told.kp (bd_d_law_told X) (an_cons (an_cons an_nil)) (ca_cons (ce_call (n := 4) (ok_d_law_frame X) (hr.mono (by decide)) tk (by rfl) X.g_d_law_frame X.F_d_law_frame.kp (bd_d_law_frame X) (an_cons (an_cons (an_cons (an_cons an_nil)))) (ca_cons (ce_v 0) (ca_cons (ce_v 1) (ca_cons (ce_v 3) (ca_cons (ce_int) (ca_nil)))))) (ca_cons (ce_lst (ca_cons (ce_str) (ca_cons (ce_bl) (ca_cons (ce_bl) (ca_cons (ce_bl) (ca_nil)))))) (ca_nil))))))))))))))))) :
      PSs _ _ (Ts _ _ _ b_d_law_wide))
noncomputable def b_law : MS := sSeq (sSet 1 (eCall m_d_law_tape (aCons (eV 0) (aNil))))
  (sSeq (sSet 2 (eCall m_d_law_names (aCons (eV 1) (aCons (e2 dAdd (eC (.int 2)) (eCall m_d_law_draw (aCons (eV 1) (aCons (eC (.int 4)) (aNil))))) (aNil)))))
  (sSeq (sSet 3 (e2 dIxZ (eLst (aCons (eC (.int 0)) (aCons (e1 dNeg (eC (.int 4))) (aCons (e1 dNeg (eC (.int 9990))) (aCons (eC (.int 9900)) (aCons (e2 dSub (eCall m_d_law_draw (aCons (eV 1) (aCons (eC (.int 17001)) (aNil)))) (eC (.int 8500))) (aNil))))))) (eCall m_d_law_draw (aCons (eV 1) (aCons (eC (.int 5)) (aNil))))))
  (sSeq (sSet 4 (e2 dAdd (e2 dAdd (eV 3) (eC (.int 1))) (eCall m_d_law_draw (aCons (eV 1) (aCons (eC (.int 9)) (aNil))))))
  (sSeq (sSet 5 (eCall m_d_law_draw (aCons (eV 1) (aCons (eC (.int 5)) (aNil)))))
  (sSeq (sIf (tOr (tNot (tTru (eCall m_d_law_ways (aCons (eV 1) (aCons (eV 3) (aCons (eV 4) (aCons (eV 2) (aCons (eV 5) (aNil))))))))) (tNot (tTru (eCall m_d_law_plain (aCons (eV 1) (aCons (eV 3) (aCons (eV 4) (aCons (eV 2) (aCons (eV 5) (aNil)))))))))) (sRet (eC (.bl false))) (sNil))
  (sSeq (sSet 2 (eCall m_d_law_names (aCons (eV 1) (aCons (e2 dAdd (eC (.int 2)) (eCall m_d_law_draw (aCons (eV 1) (aCons (eC (.int 5)) (aNil))))) (aNil)))))
  (sSeq (sSet 6 (eCall m_d_law_draw (aCons (eV 1) (aCons (eC (.int 2)) (aNil)))))
  (sSeq (sIf (tNot (tTru (eCall m_d_law_orders (aCons (eV 1) (aCons (eV 2) (aCons (eV 6) (aCons (e2 dAdd (eV 6) (eCall m_d_law_draw (aCons (eV 1) (aCons (eC (.int 4)) (aNil))))) (aCons (e2 dAdd (eC (.int 1)) (eCall m_d_law_draw (aCons (eV 1) (aCons (eC (.int 8)) (aNil))))) (aNil))))))))) (sRet (eC (.bl false))) (sNil))
  (sSeq (sIf (tOr (tNot (tTru (eCall m_d_law_orders (aCons (eV 1) (aCons (eSl dSl (eV 2) (oNone) (oSome (eC (.int 1)))) (aCons (eC (.int 0)) (aCons (eC (.int 1)) (aCons (eC (.int 0)) (aNil))))))))) (tNot (tTru (eCall m_d_law_orders (aCons (eV 1) (aCons (eLst (aNil)) (aCons (eC (.int 0)) (aCons (eC (.int 1)) (aCons (eC (.int 0)) (aNil)))))))))) (sRet (eC (.bl false))) (sNil))
  (sSeq (sIf (tV (e2 dEq (eCall m_d_law_draw (aCons (eV 1) (aCons (eC (.int 7)) (aNil)))) (eC (.int 4)))) (sRet (eCall m_d_law_wide (aCons (eV 1) (aNil)))) (sNil))
  (sRet (eC (.bl true)))))))))))))
noncomputable def m_law : List D → Store → R D := fnM 7 1 b_law
theorem ok_law (X : Fx K mg) : FnOk P w K mg base (L2.CX P w) 6 X.a_law X.d_law ["script"] (spM K mg 1 m_law) :=
  okM (k := 5) X.F_law sc_law rfl fun cdv A outer s H E hr tk =>
    (css_cons (cs_set (j := 1) sc_law.nd rfl (Or.inl rfl) (ce_call (n := 1) (ok_d_law_tape X) (hr.mono (by decide)) tk (by rfl) X.g_d_law_tape X.F_d_law_tape.kp (bd_d_law_tape X) (an_cons an_nil) (ca_cons (ce_v 0) (ca_nil))))
    (css_cons (cs_set (j := 2) sc_law.nd rfl (Or.inl rfl) (ce_call (n := 2) (ok_d_law_names X) (hr.mono (by decide)) tk (by rfl) X.g_d_law_names X.F_d_law_names.kp (bd_d_law_names X) (an_cons (an_cons an_nil)) (ca_cons (ce_v 1) (ca_cons (ce_op op_addA ops_add (ce_int) (ce_call (n := 2) (ok_d_law_draw X) (hr.mono (by decide)) tk (by rfl) X.g_d_law_draw X.F_d_law_draw.kp (bd_d_law_draw X) (an_cons (an_cons an_nil)) (ca_cons (ce_v 1) (ca_cons (ce_int) (ca_nil))))) (ca_nil)))))
    (css_cons (cs_set (j := 3) sc_law.nd rfl (Or.inl rfl) (ce_ix (ix_Z hr.units) ops_ixZ (ce_lst (ca_cons (ce_int) (ca_cons (ce_un un_neg uns_neg (ce_int)) (ca_cons (ce_un un_neg uns_neg (ce_int)) (ca_cons (ce_int) (ca_cons (ce_op op_sub ops_sub (ce_call (n := 2) (ok_d_law_draw X) (hr.mono (by decide)) tk (by rfl) X.g_d_law_draw X.F_d_law_draw.kp (bd_d_law_draw X) (an_cons (an_cons an_nil)) (ca_cons (ce_v 1) (ca_cons (ce_int) (ca_nil)))) (ce_int)) (ca_nil))))))) (ce_call (n := 2) (ok_d_law_draw X) (hr.mono (by decide)) tk (by rfl) X.g_d_law_draw X.F_d_law_draw.kp (bd_d_law_draw X) (an_cons (an_cons an_nil)) (ca_cons (ce_v 1) (ca_cons (ce_int) (ca_nil)))) (fun _ _ => rfl)))
    (css_cons (cs_set (j := 4) sc_law.nd rfl (Or.inl rfl) (ce_op op_addA ops_add (ce_op op_addA ops_add (ce_v 3) (ce_int)) (ce_call (n := 2) (ok_d_law_draw X) (hr.mono (by decide)) tk (by rfl) X.g_d_law_draw X.F_d_law_draw.kp (bd_d_law_draw X) (an_cons (an_cons an_nil)) (ca_cons (ce_v 1) (ca_cons (ce_int) (ca_nil))))))
    (css_cons (cs_set (j := 5) sc_law.nd rfl (Or.inl rfl) (ce_call (n := 2) (ok_d_law_draw X) (hr.mono (by decide)) tk (by rfl) X.g_d_law_draw X.F_d_law_draw.kp (bd_d_law_draw X) (an_cons (an_cons an_nil)) (ca_cons (ce_v 1) (ca_cons (ce_int) (ca_nil)))))
    (css_cons (cs_if (PW.pt (cw_or (ct_not (ct_tru (ce_call (n := 5) (ok_d_law_ways X) (hr.mono (by decide)) tk (by rfl) X.g_d_law_ways X.F_d_law_ways.kp (bd_d_law_ways X) (an_cons (an_cons (an_cons (an_cons (an_cons an_nil))))) (ca_cons (ce_v 1) (ca_cons (ce_v 3) (ca_cons (ce_v 4) (ca_cons (ce_v 2) (ca_cons (ce_v 5) (ca_nil))))))))) (cw_or1 (ct_not (ct_tru (ce_call (n := 5) (ok_d_law_plain X) (hr.mono (by decide)) tk (by rfl) X.g_d_law_plain X.F_d_law_plain.kp (bd_d_law_plain X) (an_cons (an_cons (an_cons (an_cons (an_cons an_nil))))) (ca_cons (ce_v 1) (ca_cons (ce_v 3) (ca_cons (ce_v 4) (ca_cons (ce_v 2) (ca_cons (ce_v 5) (ca_nil)))))))))))) (css_one (cs_ret (ce_bl))) (css_nil))
    (css_cons (cs_set (j := 2) sc_law.nd rfl (Or.inl rfl) (ce_call (n := 2) (ok_d_law_names X) (hr.mono (by decide)) tk (by rfl) X.g_d_law_names X.F_d_law_names.kp (bd_d_law_names X) (an_cons (an_cons an_nil)) (ca_cons (ce_v 1) (ca_cons (ce_op op_addA ops_add (ce_int) (ce_call (n := 2) (ok_d_law_draw X) (hr.mono (by decide)) tk (by rfl) X.g_d_law_draw X.F_d_law_draw.kp (bd_d_law_draw X) (an_cons (an_cons an_nil)) (ca_cons (ce_v 1) (ca_cons (ce_int) (ca_nil))))) (ca_nil)))))
    (css_cons (cs_set (j := 6) sc_law.nd rfl (Or.inl rfl) (ce_call (n := 2) (ok_d_law_draw X) (hr.mono (by decide)) tk (by rfl) X.g_d_law_draw X.F_d_law_draw.kp (bd_d_law_draw X) (an_cons (an_cons an_nil)) (ca_cons (ce_v 1) (ca_cons (ce_int) (ca_nil)))))
    (css_cons (cs_if (ct_not (ct_tru (ce_call (n := 5) (ok_d_law_orders X) (hr.mono (by decide)) tk (by rfl) X.g_d_law_orders X.F_d_law_orders.kp (bd_d_law_orders X) (an_cons (an_cons (an_cons (an_cons (an_cons an_nil))))) (ca_cons (ce_v 1) (ca_cons (ce_v 2) (ca_cons (ce_v 6) (ca_cons (ce_op op_addA ops_add (ce_v 6) (ce_call (n := 2) (ok_d_law_draw X) (hr.mono (by decide)) tk (by rfl) X.g_d_law_draw X.F_d_law_draw.kp (bd_d_law_draw X) (an_cons (an_cons an_nil)) (ca_cons (ce_v 1) (ca_cons (ce_int) (ca_nil))))) (ca_cons (ce_op op_addA ops_add (ce_int) (ce_call (n := 2) (ok_d_law_draw X) (hr.mono (by decide)) tk (by rfl) X.g_d_law_draw X.F_d_law_draw.kp (bd_d_law_draw X) (an_cons (an_cons an_nil)) (ca_cons (ce_v 1) (ca_cons (ce_int) (ca_nil))))) (ca_nil))))))))) (css_one (cs_ret (ce_bl))) (css_nil))
    (css_cons (cs_if (PW.pt (cw_or (ct_not (ct_tru (ce_call (n := 5) (ok_d_law_orders X) (hr.mono (by decide)) tk (by rfl) X.g_d_law_orders X.F_d_law_orders.kp (bd_d_law_orders X) (an_cons (an_cons (an_cons (an_cons (an_cons an_nil))))) (ca_cons (ce_v 1) (ca_cons (ce_sl sl_LT sls_LT (ce_v 2) (co_none) (co_some (ce_int))) (ca_cons (ce_int) (ca_cons (ce_int) (ca_cons (ce_int) (ca_nil))))))))) (cw_or1 (ct_not (ct_tru (ce_call (n := 5) (ok_d_law_orders X) (hr.mono (by decide)) tk (by rfl) X.g_d_law_orders X.F_d_law_orders.kp (bd_d_law_orders X) (an_cons (an_cons (an_cons (an_cons (an_cons an_nil))))) (ca_cons (ce_v 1) (ca_cons (ce_lst (ca_nil)) (ca_cons (ce_int) (ca_cons (ce_int) (ca_cons (ce_int) (ca_nil)))))))))))) (css_one (cs_ret (ce_bl))) (css_nil))
    (css_cons (cs_if (ct_cmp (opA_eq hr.units) ops_eq (ce_call (n := 2) (ok_d_law_draw X) (hr.mono (by decide)) tk (by rfl) X.g_d_law_draw X.F_d_law_draw.kp (bd_d_law_draw X) (an_cons (an_cons an_nil)) (ca_cons (ce_v 1) (ca_cons (ce_int) (ca_nil)))) (ce_int) (nomark _)) (css_one (cs_ret (ce_call (n := 1) (ok_d_law_wide X) (hr.mono (by decide)) tk (by rfl) X.g_d_law_wide X.F_d_law_wide.kp (bd_d_law_wide X) (an_cons an_nil) (ca_cons (ce_v 1) (ca_nil))))) (css_nil))
    (css_one (cs_ret (ce_bl))))))))))))) :
      PSs _ _ (Ts _ _ _ b_law))
end Law
namespace Law
open PySem Mi
def Tape (t : Nat) (s : Store) : Prop := ∃ (x : Int) (gs : List Int), s[t]? = some (.lst ((x :: gs).map D.int)) ∧ gs.length ≤ 100
theorem Tape.kpget {t : Nat} {s : Store} (h : Tape t s) : t < s.length := let ⟨_, _, h, _⟩ := h; lt_of_get h
theorem Tape.app {t : Nat} {s : Store} (h : Tape t s) (r : Store) : Tape t (s ++ r) := by
  obtain ⟨x, gs, h1, h2⟩ := h
  exact ⟨x, gs, by rw [List.getElem?_append_left (lt_of_get h1)]; exact h1, h2⟩
theorem Tape.ext {t : Nat} {s s' : Store} (h : Tape t s) (e : Ext s s') : Tape t s' := by
  obtain ⟨r, rfl⟩ := e
  exact h.app r
theorem Tape.set {t l : Nat} {s : Store} (h : Tape t s) (n : l ≠ t) (c : Cell) : Tape t (s.set l c) := by
  obtain ⟨x, gs, h1, h2⟩ := h
  exact ⟨x, gs, by rw [List.getElem?_set_ne n]; exact h1, h2⟩
theorem Ext.kp {s s' : Store} (e : Ext s s') (t : Nat) : Kp t s s' := by
  obtain ⟨r, rfl⟩ := e
  exact Kp.app t s r
theorem popAt {s : Store} {l : Nat} {xs : List D} (h : s[l]? = some (.lst xs)) {i : Int} (h0 : 0 ≤ i) (h1 : i < xs.length) (hz : xs.length ≤ 1000000) : ∃ x, xs[i.toNat]? = some x ∧ dPopX (.loc l) [.int i] s = some (x, s.set l (.lst (xs.eraseIdx i.toNat))) := by
  obtain ⟨n, rfl⟩ := Int.eq_ofNat_of_zero_le h0
  have hn : n < xs.length := by omega
  have q : seqIndex? (n : Int) xs.length = some n := by
    unfold seqIndex?
    simp
    omega
  refine ⟨xs[n], by simp [hn], ?_⟩
  simp only [dPopX, h]
  rw [if_pos (by omega)]
  simp [q, hn]
theorem draw_spec {t : Nat} {s : Store} (h : Tape t s) {many : Int} (h1 : many < 1073741824) :
    ∃ k s', m_d_law_draw [.loc t, .int many] s = .ok (.int k) s' ∧ 0 ≤ k ∧ (k < many ∨ (many ≤ 0 ∧ k = 0)) ∧ Tape t s' ∧ Kp t s s' := by
  by_cases c : many < 2
  · refine ⟨0, s, by simp [m_d_law_draw, b_d_law_draw, c], Int.le_refl _, by omega, h, Kp.refl t s⟩
  have h0 : 0 < many := by omega
  obtain ⟨x, gs, hs, hz⟩ := h
  have wl := dLen_loc hs
  cases gs with
  | cons g gs =>
    have w1 : dIxZ (.loc t) (.int 1) s = some (.int g, s) := by rw [dIxZ_loc hs, dIx_loc hs]; simp
    obtain ⟨s1, hs1⟩ : ∃ s1, s1 = s.set t (.lst ((x :: g / many :: gs).map D.int)) := ⟨_, rfl⟩
    have g1 : s1[t]? = some (.lst ((x :: g / many :: gs).map D.int)) := by rw [hs1]; exact get_set hs
    have w2 : pAny (.loc t) (.int 1) (.int (g / many)) s = some s1 := by
      rw [pAny_loc hs, hs1]
      exact pList_loc hs 1 (by simp) _
    have w3 : dIxZ (.loc t) (.int 1) s1 = some (.int (g / many), s1) := by rw [dIxZ_loc g1, dIx_loc g1]; simp
    have k1 : Kp t s s1 := by rw [hs1]; exact Kp.set t s _
    have cl : (1 : Int) < (gs.length : Int) + 1 + 1 := by omega
    by_cases c2 : g / many = 0
    · obtain ⟨y, _, w4⟩ := popAt g1 (i := 1) (by omega) (by simp; omega) (by simp at hz ⊢; omega)
      have wt := tyOk_list g1
      refine ⟨g % many, s1.set t (.lst (((x :: g / many :: gs).map D.int).eraseIdx 1)), ?_, Int.emod_nonneg _ (by omega), .inl (Int.emod_lt_of_pos _ h0), ⟨x, gs, by rw [get_set g1]; simp, by simp at hz; omega⟩, k1.trans (Kp.set t s1 _)⟩
      have z1 : (1 : Int).toNat = 1 := rfl
      rw [z1] at w4
      generalize ((x :: g / many :: gs).map D.int).eraseIdx 1 = le at *
      rw [c2] at w2 w3
      simp [m_d_law_draw, b_d_law_draw, c, wl, cl, w1, w2, w3, c2, w4, wt, h0, h1]
    · refine ⟨g % many, s1, ?_, Int.emod_nonneg _ (by omega), .inl (Int.emod_lt_of_pos _ h0), ⟨x, g / many :: gs, g1, by simp at hz ⊢; omega⟩, k1⟩
      simp [m_d_law_draw, b_d_law_draw, c, wl, cl, w1, w2, w3, c2, h0, h1]
  | nil =>
    have w1 : dIxZ (.loc t) (.int 0) s = some (.int x, s) := by rw [dIxZ_loc hs, dIx_loc hs]; simp
    obtain ⟨y, hy⟩ : ∃ y, y = (x * 40014 + 307) % 2147483563 := ⟨_, rfl⟩
    obtain ⟨s1, hs1⟩ : ∃ s1, s1 = s.set t (.lst [.int y]) := ⟨_, rfl⟩
    have g1 : s1[t]? = some (.lst [.int y]) := by rw [hs1]; exact get_set hs
    have w2 : pAny (.loc t) (.int 0) (.int y) s = some s1 := by
      rw [pAny_loc hs, hs1]
      exact pList_loc hs 0 (by simp) _
    have w3 : dIxZ (.loc t) (.int 0) s1 = some (.int y, s1) := by rw [dIxZ_loc g1, dIx_loc g1]; simp
    refine ⟨_, s1, ?_, Int.emod_nonneg ((y * 1283) % 2147483549 / 37) (by omega), .inl (Int.emod_lt_of_pos _ h0), ⟨y, [], g1, by simp⟩, by rw [hs1]; exact Kp.set t s _⟩
    rw [hy] at w2
    simp [m_d_law_draw, b_d_law_draw, c, wl, w1, w2, w3, h0]
theorem tape_spec (ns : List Int) (hn : ns.length ≤ 63) : ∃ t s, m_d_law_tape [.fl (ns.map D.int)] [] = .ok (.loc t) s ∧ Tape t s := by
  obtain ⟨env', s', e, x, gs, o3, o4, rfl, rfl, hl⟩ := forL_atT (gd := always) (g := gN 3) (b := bl_d_law_tape_1) (ns.map D.int) (fun k env s' => ∃ (x : Int) (gs : List Int) (o3 o4 : Option D), env = [some (.fl (ns.map D.int)), some (.int x), some (.loc 0), o3, o4] ∧ s' = [.lst (gs.map D.int)] ∧ gs.length ≤ k) (fun _ _ _ _ => trivial)
    (fun k d env s' hk ⟨x, gs, o3, o4, he, hs', hl⟩ => by
      subst he hs'
      obtain ⟨z, _, rfl⟩ := map_get hk
      have hkl := (List.getElem?_eq_some_iff.mp hk).1
      rw [List.length_map] at hkl
      have hp : dPow (.int 10) (.int 18) [.lst (gs.map D.int)] = some (.int 1000000000000000000, [.lst (gs.map D.int)]) := by
        have := dPow_int 10 18 [.lst (gs.map D.int)] (by decide)
        simpa using this
      have tail : ∀ v : Int, Turns (fun env s' => ∃ (x : Int) (gs : List Int) (o3 o4 : Option D), env = [some (.fl (ns.map D.int)), some (.int x), some (.loc 0), o3, o4] ∧ s' = [.lst (gs.map D.int)] ∧ gs.length ≤ k + 1) (fun _ => False)
          ((sSeq (sSet 1 (e2 dMod (eFn dInt (aCons (e2 dAdd (e2 dAdd (e2 dMul (eV 1) (eC (.int 5237))) (eV 4)) (eC (.int 29))) (aNil))) (eC (.int 2147483563))))
            (sIf (tV (e2 dGe (eV 4) (e2 dPow (eC (.int 10)) (eC (.int 18))))) (sExpr (eMt "list" dAppend (eV 2) (aCons (eV 4) (aNil)))) (sNil))) [some (.fl (ns.map D.int)), some (.int x), some (.loc 0), some (.int z), some (.int v)] [.lst (gs.map D.int)]) := fun v => by
        by_cases c : (1000000000000000000 : Int) ≤ v
        · have wa := app_new [] (gs.map D.int) (.int v) (by simp; omega)
          have wt := ty_new [] (gs.map D.int)
          simp at wa wt
          generalize ns.map D.int = nd at *
          simp [hp, c, wa, wt]
          exact ⟨gs ++ [v], by simp, by simp; omega⟩
        · generalize ns.map D.int = nd at *
          simp [hp, c]
          exact ⟨gs, rfl, by omega⟩
      rw [turn_gN]
      by_cases c : z < 0
      · have := tail (3 - 2 * z)
        generalize ns.map D.int = nd at *
        have wm : dMul (.int 2) (.int z) [.lst (gs.map D.int)] = some (.int (2 * z), [.lst (gs.map D.int)]) := dMul_l 2 z _ (by omega)
        have e : bl_d_law_tape_1 [some (.fl nd), some (.int x), some (.loc 0), some (.int z), o4] [.lst (gs.map D.int)] = ((sSeq (sSet 1 (e2 dMod (eFn dInt (aCons (e2 dAdd (e2 dAdd (e2 dMul (eV 1) (eC (.int 5237))) (eV 4)) (eC (.int 29))) (aNil))) (eC (.int 2147483563))))
            (sIf (tV (e2 dGe (eV 4) (e2 dPow (eC (.int 10)) (eC (.int 18))))) (sExpr (eMt "list" dAppend (eV 2) (aCons (eV 4) (aNil)))) (sNil))) [some (.fl nd), some (.int x), some (.loc 0), some (.int z), some (.int (3 - 2 * z))] [.lst (gs.map D.int)]) := by
          unfold bl_d_law_tape_1
          refine st_set (P := fun r => r = _) (d := .int z) (s' := [.lst (gs.map D.int)]) (by simp) ?_
          exact st_yes (P := fun r => r = _) (s' := [.lst (gs.map D.int)]) (env2 := [some (.fl nd), some (.int x), some (.loc 0), some (.int z), some (.int (3 - 2 * z))]) (s2 := [.lst (gs.map D.int)]) (by simp [c]) (by simp [wm]) rfl
        show Turns _ _ (bl_d_law_tape_1 [some (.fl nd), some (.int x), some (.loc 0), some (.int z), o4] [.lst (gs.map D.int)])
        rw [e]
        exact this
      · have := tail z
        generalize ns.map D.int = nd at *
        have e : bl_d_law_tape_1 [some (.fl nd), some (.int x), some (.loc 0), some (.int z), o4] [.lst (gs.map D.int)] = ((sSeq (sSet 1 (e2 dMod (eFn dInt (aCons (e2 dAdd (e2 dAdd (e2 dMul (eV 1) (eC (.int 5237))) (eV 4)) (eC (.int 29))) (aNil))) (eC (.int 2147483563))))
            (sIf (tV (e2 dGe (eV 4) (e2 dPow (eC (.int 10)) (eC (.int 18))))) (sExpr (eMt "list" dAppend (eV 2) (aCons (eV 4) (aNil)))) (sNil))) [some (.fl nd), some (.int x), some (.loc 0), some (.int z), some (.int z)] [.lst (gs.map D.int)]) := by
          unfold bl_d_law_tape_1
          refine st_set (P := fun r => r = _) (d := .int z) (s' := [.lst (gs.map D.int)]) (by simp) ?_
          exact st_no (P := fun r => r = _) (s' := [.lst (gs.map D.int)]) (by simp [c]) rfl
        show Turns _ _ (bl_d_law_tape_1 [some (.fl nd), some (.int x), some (.loc 0), some (.int z), o4] [.lst (gs.map D.int)])
        rw [e]
        exact this) (env := [some (.fl (ns.map D.int)), some (.int 4007), some (.loc 0), none, none]) (s := [.lst ([].map D.int)]) ⟨4007, [], none, none, rfl, rfl, by simp⟩
  rw [List.length_map] at hl
  have wa := dAdd_loc (s := [.lst (gs.map D.int), .lst [.int x]]) (l := 1) (k := 0) (xs := [.int x]) (ys := gs.map D.int) rfl rfl (by simp; omega)
  refine ⟨2, [.lst (gs.map D.int), .lst [.int x], .lst ((x :: gs).map D.int)], ?_, ⟨x, gs, rfl, by omega⟩⟩
  rw [List.map_nil] at e
  generalize ns.map D.int = nd at *
  simp at wa
  simp [m_d_law_tape, b_d_law_tape, e, wa]
end Law
namespace Law
open PySem Mi
inductive Rec where
  | gap (a b : Str) (w : Int) | yrs (d : Str) (ds : List D) | oth (k : Str) (r : List D)
def Rec.kind : Rec → Str
  | .gap _ _ _ => "gap"
  | .yrs _ _ => "years"
  | .oth k _ => k
def recD : Rec → D
  | .gap a b w => .tup [.str "gap", .str a, .str b, .int w]
  | .yrs d ds => .tup [.str "years", .str d, .tup ds]
  | .oth k r => .tup (.str k :: r)
abbrev Ent := Str × Rec
def entD (e : Ent) : D := .tup [.str e.1, recD e.2]
def bookD (first last : Int) (deeds : List Str) (ents : List Ent) : D := .tup [.int first, .int last, .tup (deeds.map D.str), .tup (ents.map entD)]
def RecOk (deeds : List Str) : Rec → Prop
  | .gap a b w => a ∈ deeds ∧ b ∈ deeds ∧ -1000000 ≤ w ∧ w ≤ 1000000
  | .yrs _ _ => True
  | .oth k _ => k = "under" ∨ k = "over" ∨ k = "one"
structure Good (deeds : List Str) (ents : List Ent) : Prop where
  nd : deeds.Nodup
  few : deeds.length ≤ 100
  short : ents.length ≤ 1000
  ok : ∀ e ∈ ents, RecOk deeds e.2
def wayS (ks : List Str) : Str := if ("one" : Str) ∈ ks ∨ (("under" : Str) ∈ ks ∧ ("over" : Str) ∈ ks) then "mixed" else if ("under" : Str) ∈ ks then "ante" else if ("over" : Str) ∈ ks then "post" else "both"
def kinds (ents : List Ent) : List Str := ents.map fun e => e.2.kind
theorem ix0 (a : D) (r : List D) (s : Store) : dIxZ (.tup (a :: r)) (.int 0) s = some (a, s) := by simp [dIxZ_tup, dIx_tup]
theorem ix1 (a b : D) (r : List D) (s : Store) : dIxZ (.tup (a :: b :: r)) (.int 1) s = some (b, s) := by simp [dIxZ_tup, dIx_tup]
theorem ix2 (a b c : D) (r : List D) (s : Store) : dIxZ (.tup (a :: b :: c :: r)) (.int 2) s = some (c, s) := by simp [dIxZ_tup, dIx_tup]
theorem ix3 (a b c d : D) (r : List D) (s : Store) : dIxZ (.tup (a :: b :: c :: d :: r)) (.int 3) s = some (d, s) := by simp [dIxZ_tup, dIx_tup]
theorem recK (r : Rec) (s : Store) : dIxZ (recD r) (.int 0) s = some (.str r.kind, s) := by cases r <;> exact ix0 _ _ _
theorem book3 (first last : Int) (deeds : List Str) (ents : List Ent) (s : Store) : dIxZ (bookD first last deeds ents) (.int 3) s = some (.tup (ents.map entD), s) := ix3 _ _ _ _ _ _
theorem book2 (first last : Int) (deeds : List Str) (ents : List Ent) (s : Store) : dIxZ (bookD first last deeds ents) (.int 2) s = some (.tup (deeds.map D.str), s) := ix2 _ _ _ _ _
theorem way_spec (first last : Int) (deeds : List Str) (ents : List Ent) (h : ents.length ≤ 1000) (s : Store) : m_way_of [bookD first last deeds ents] s = .ok (.str (wayS (kinds ents))) (s ++ [.lst ((kinds ents).map D.str)]) := by
  have e := lcL_map (gd := always) (g := gT 2 (gsC (gN 2) (gsC (gN 3) (gsN)))) (t := tT) (e := le_way_of_1) (env := [some (bookD first last deeds ents), none, none, none]) (s := s) trivial entD (fun e => D.str e.2.kind) ents
    (fun x _ => by
      have := recK x.2 s
      simp [entD, le_way_of_1, tT, this]) (by omega)
  have e2 : ents.map (fun e => D.str e.2.kind) = (kinds ents).map D.str := by simp [kinds]
  rw [e2] at e
  have g := get_new s (.lst ((kinds ents).map D.str))
  have i1 := fun x => dIn_of (dInB_locS g x)
  have i1' := i1 "one"
  have i2 := i1 "under"
  have i3 := i1 "over"
  have b3 := book3 first last deeds ents s
  unfold wayS
  generalize kinds ents = ks at *
  generalize ks.map D.str = kd at *
  generalize bookD first last deeds ents = B at *
  generalize ents.map entD = es at *
  by_cases c1 : ("one" : Str) ∈ ks <;> by_cases c2 : ("under" : Str) ∈ ks <;> by_cases c3 : ("over" : Str) ∈ ks <;> simp only [c1, c2, c3, decide_true, decide_false] at i1' i2 i3 <;> simp [m_way_of, b_way_of, b3, e, i1', i2, i3, c1, c2, c3]
def plainR : Rec → Bool
  | .gap _ _ _ => true
  | .yrs _ ds => decide (ds.length = 1)
  | .oth _ _ => false
theorem ne_s : ¬ (("years" : Str) = "gap") ∧ ¬ (("under" : Str) = "gap") ∧ ¬ (("under" : Str) = "years") ∧ ¬ (("over" : Str) = "gap") ∧ ¬ (("over" : Str) = "years") ∧ ¬ (("one" : Str) = "gap") ∧ ¬ (("one" : Str) = "years") := by decide +kernel
theorem oth_ne {k : Str} (h : k = "under" ∨ k = "over" ∨ k = "one") : ¬ k = "gap" ∧ ¬ k = "years" := by
  obtain ⟨_, a, b, c, d, e, f⟩ := ne_s
  rcases h with rfl | rfl | rfl
  · exact ⟨a, b⟩
  · exact ⟨c, d⟩
  · exact ⟨e, f⟩
theorem plainR_spec {deeds : List Str} {r : Rec} (h : RecOk deeds r) (s : Store) : m_plain_record [recD r] s = .ok (.bl (plainR r)) s := by
  cases r with
  | gap a b w => simp [m_plain_record, b_plain_record, recD, ix0, plainR]
  | yrs d ds =>
    have e : decide ((ds.length : Int) = 1) = decide (ds.length = 1) := by
      rw [Bool.eq_iff_iff, decide_eq_true_iff, decide_eq_true_iff]; omega
    simp [m_plain_record, b_plain_record, recD, ix0, ix2, plainR, ne_s.1, e]
  | oth k r =>
    obtain ⟨a, b⟩ := oth_ne h
    simp [m_plain_record, b_plain_record, recD, ix0, plainR, a, b]
theorem plain_spec (first last : Int) {deeds : List Str} {ents : List Ent} (h : Good deeds ents) (s : Store) : ∃ s', m_is_plain [bookD first last deeds ents] s = .ok (.bl (ents.all fun e => plainR e.2)) s' ∧ Ext s s' := by
  have hz := h.short
  have e := lcL_map (gd := always) (g := gT 2 (gsC (gN 1) (gsC (gN 2) (gsN)))) (t := tT) (e := le_is_plain_1) (env := [some (bookD first last deeds ents), none, none]) (s := s) trivial entD (fun e => D.bl (plainR e.2)) ents
    (fun x hx => by
      have := plainR_spec (h.ok x hx) s
      simp [entD, le_is_plain_1, tT, this]) (by omega)
  have e2 : ents.map (fun e => D.bl (plainR e.2)) = (ents.map fun e => plainR e.2).map D.bl := by simp
  rw [e2] at e
  have g := get_new s (.lst ((ents.map fun e => plainR e.2).map D.bl))
  have wa := dAll_loc g
  have ea : (ents.map fun e => plainR e.2).all id = ents.all fun e => plainR e.2 := by simp [List.all_map]
  rw [ea] at wa
  have b3 := book3 first last deeds ents s
  refine ⟨s ++ [.lst ((ents.map fun e => plainR e.2).map D.bl)], ?_, Ext.mk s _⟩
  generalize (ents.map fun e => plainR e.2).map D.bl = bd at *
  generalize bookD first last deeds ents = B at *
  generalize ents.map entD = es at *
  simp [m_is_plain, b_is_plain, b3, e, wa]
/-! ### rounds of raising -/
abbrev Edge := Str × Str × Int
def step (hm : (Str → Int) × Bool) (e : Edge) : (Str → Int) × Bool := if hm.1 e.2.1 < hm.1 e.1 + e.2.2 then (fun x => if x = e.2.1 then hm.1 e.1 + e.2.2 else hm.1 x, true) else hm
def rnd (E : List Edge) (h : Str → Int) : (Str → Int) × Bool := E.foldl step (h, false)
/-- the rounds end with one that moves nothing, within n -/
def settles (E : List Edge) : Nat → (Str → Int) → Bool
  | 0, _ => false
  | n + 1, h => if (rnd E h).2 then settles E n (rnd E h).1 else true
def edgeOf : Rec → Edge
  | .gap a b w => (a, b, w)
  | _ => ("", "", 0)
def edges (ents : List Ent) : List Edge := ents.map fun e => edgeOf e.2
def zero : Str → Int := fun _ => 0
def Gaps (ents : List Ent) : Prop := ∀ e ∈ ents, ∃ a b w, e.2 = .gap a b w
end Law
namespace Law
open PySem Mi
structure DRep (deeds : List Str) (h : Str → Int) (ks : List (L2.Key × D)) : Prop where
  few : ks.length ≤ 200
  get : ∀ d ∈ deeds, getD ks (Sum.inr d) = some (.int (h d))
theorem putD_same {ks : List (L2.Key × D)} {k : L2.Key} {v z : D} (h : getD ks k = some v) : (putD ks k z).length = ks.length := by
  have c : (ks.any fun kv => decide (kv.1 = k)) = true := by
    unfold getD at h
    cases q : ks.find? fun kv => decide (kv.1 = k) with
    | none => rw [q] at h; cases h
    | some x => exact List.any_eq_true.mpr ⟨x, List.mem_of_find?_eq_some q, by have := List.find?_some (p := fun kv : L2.Key × D => decide (kv.1 = k)) q; exact this⟩
  unfold putD
  rw [if_pos c]
  simp
theorem DRep.put {deeds : List Str} {h : Str → Int} {ks : List (L2.Key × D)} (r : DRep deeds h ks) {b : Str} (hb : b ∈ deeds) (v : Int) : DRep deeds (fun x => if x = b then v else h x) (putD ks (Sum.inr b) (.int v)) := by
  refine ⟨by rw [putD_same (r.get b hb)]; exact r.few, fun d hd => ?_⟩
  by_cases c : d = b
  · subst c
    rw [putD_get]
    simp
  · rw [putD_other (fun e => c (by cases e; rfl)), r.get d hd]
    simp [c]
theorem fold_take {E : List Edge} {h : Str → Int} {k : Nat} {e : Edge} (he : E[k]? = some e) : (E.take (k + 1)).foldl step (h, false) = step ((E.take k).foldl step (h, false)) e := by
  rw [List.take_add_one, he]
  simp
theorem edges_get {ents : List Ent} {k : Nat} {e : Ent} (h : ents[k]? = some e) : (edges ents)[k]? = some (edgeOf e.2) := by simp [edges, h]
theorem set1_loop {first last : Int} {deeds : List Str} {ents : List Ent} (G : Good deeds ents) (hg : Gaps ents) {s : Store} {ks : List (L2.Key × D)} {h : Str → Int} (r : DRep deeds h ks) (o2 o4 o5 o6 : Option D) :
    ∃ env' ks', forL always (gT 2 (gsC (gN 2) (gsC (gN 4) (gsN)))) bl_order_settles_1 (ents.map entD) [some (bookD first last deeds ents), some (.loc s.length), o2, some (.bl false), o4, o5, o6] (s ++ [.dic ks]) = .nx env' (s ++ [.dic ks']) ∧ DRep deeds (rnd (edges ents) h).1 ks' ∧
      ∃ o2 o4 o5, env' = [some (bookD first last deeds ents), some (.loc s.length), o2, some (.bl (rnd (edges ents) h).2), o4, o5, o6] := by
  obtain ⟨env', s', e, ks', hs', hr', o2', o4', o5', he⟩ := forL_atT (gd := always) (g := gT 2 (gsC (gN 2) (gsC (gN 4) (gsN)))) (b := bl_order_settles_1) (ents.map entD) (fun k env s' => ∃ ks' : List (L2.Key × D), s' = s ++ [.dic ks'] ∧ DRep deeds (((edges ents).take k).foldl step (h, false)).1 ks' ∧ ∃ o2 o4 o5, env = [some (bookD first last deeds ents), some (.loc s.length), o2, some (.bl (((edges ents).take k).foldl step (h, false)).2), o4, o5, o6]) (fun _ _ _ _ => trivial)
    (fun k d env s' hk ⟨ks, hs', hr, o2, o4, o5, he⟩ => by
      subst he hs'
      obtain ⟨en, hek, rfl⟩ := map_get hk
      have hm := List.mem_of_getElem? hek
      obtain ⟨a, b, w, hgap⟩ := hg en hm
      have hok := G.ok en hm
      rw [hgap] at hok
      obtain ⟨ha, hb, _, _⟩ := hok
      have hf := fold_take (h := h) (edges_get hek)
      rw [hgap] at hf
      obtain ⟨dg, rc⟩ := en
      simp only at hgap
      subst hgap
      rw [hf]
      generalize ((edges ents).take k).foldl step (h, false) = hm' at *
      obtain ⟨h1, mv⟩ := hm'
      simp only at hr ⊢
      have gk := get_new s (.dic ks)
      have qa : ∀ d ∈ deeds, dIxZ (.loc s.length) (.str d) (s ++ [.dic ks]) = some (.int (h1 d), s ++ [.dic ks]) := fun d hd => by
        rw [dIxZ_locA, dIxA_dic gk (k := Sum.inr d) rfl (hr.get d hd)]
      have w1 := qa a ha
      have w2 := qa b hb
      have few := hr.few
      have wp := pAny_dic gk (i := .str b) (k := Sum.inr b) rfl (by omega) (.int (h1 a + w))
      have es : (s ++ [Cell.dic ks]).set s.length (.dic (putD ks (Sum.inr b) (.int (h1 a + w)))) = s ++ [.dic (putD ks (Sum.inr b) (.int (h1 a + w)))] := by simp
      rw [es] at wp
      have hput := hr.put hb (h1 a + w)
      generalize bookD first last deeds ents = B at *
      clear gk qa es
      unfold step edgeOf
      by_cases c : h1 b < h1 a + w
      · simp only [c, if_true]
        generalize putD ks (Sum.inr b) (.int (h1 a + w)) = ks2 at *
        generalize hs2 : s ++ [Cell.dic ks2] = s2 at *
        generalize s ++ [Cell.dic ks] = s1 at *
        simp [bl_order_settles_1, entD, recD, ix1, ix2, ix3, w1, w2, c, wp]
        exact ⟨ks2, hs2.symm, hput⟩
      · simp only [c, if_false]
        generalize hs1 : s ++ [Cell.dic ks] = s1 at *
        simp [bl_order_settles_1, entD, recD, ix1, ix2, ix3, w1, w2, c]
        exact ⟨ks, hs1.symm, hr⟩) (env := [some (bookD first last deeds ents), some (.loc s.length), o2, some (.bl false), o4, o5, o6]) (s := s ++ [.dic ks]) ⟨ks, rfl, by simpa using r, o2, o4, o5, by simp⟩
  have hl : (edges ents).take (ents.map entD).length = edges ents := by
    rw [List.length_map]
    exact List.take_of_length_le (by simp [edges])
  rw [hl] at hr' he
  subst hs'
  exact ⟨env', ks', e, hr', o2', o4', o5', he⟩
theorem settles_spec (first last : Int) {deeds : List Str} {ents : List Ent} (G : Good deeds ents) (hg : Gaps ents) (s : Store) :
    ∃ s', m_order_settles [bookD first last deeds ents] s = .ok (.bl (settles (edges ents) (deeds.length + 1) zero)) s' ∧ Ext s s' := by
  have hn := G.few
  obtain ⟨acc, s1, e1, hacc, hacc2, rfl⟩ : ∃ acc s1, dcL always (gN 6) tT ke_order_settles_4 le_order_settles_3 [some (bookD first last deeds ents), none, none, none, none, none, none] (deeds.map D.str) [] s = .ok acc s1 ∧ acc.length ≤ deeds.length ∧ (∀ d ∈ deeds, getD acc (Sum.inr d) = some (.int 0)) ∧ s1 = s := by
    have key : ∀ (R P : List Str) (acc : List (L2.Key × D)), acc.length ≤ P.length → P.length + R.length ≤ 1000 → (∀ d ∈ P, getD acc (Sum.inr d) = some (.int 0)) → ∃ acc' s1, dcL always (gN 6) tT ke_order_settles_4 le_order_settles_3 [some (bookD first last deeds ents), none, none, none, none, none, none] (R.map D.str) acc s = .ok acc' s1 ∧ acc'.length ≤ P.length + R.length ∧ (∀ d ∈ P ++ R, getD acc' (Sum.inr d) = some (.int 0)) ∧ s1 = s := by
      intro R
      induction R with
      | nil => intro P acc h1 _ h2; exact ⟨acc, s, by simp [dcL, always], by simpa using h1, by simpa using h2, rfl⟩
      | cons x R ih =>
        intro P acc h1 hz h2
        rw [List.length_cons] at hz
        have hl := putD_len acc (Sum.inr x) (.int 0)
        obtain ⟨acc', s1, q, q1, q2, q3⟩ := ih (P ++ [x]) (putD acc (Sum.inr x) (.int 0)) (by simp; omega) (by simp; omega) (fun d hd => by
          by_cases c : d = x
          · subst c; rw [putD_get]
          · rw [putD_other (fun e => c (by cases e; rfl))]
            rcases List.mem_append.mp hd with hd | hd
            · exact h2 d hd
            · exact (c (List.mem_singleton.mp hd)).elim)
        refine ⟨acc', s1, ?_, by simp at q1 ⊢; omega, fun d hd => q2 d (by simpa using hd), q3⟩
        have z : acc.length < sizeLine := lt_line (by omega)
        rw [List.map_cons]
        unfold dcL
        simp only [always, if_true, gN_eq, tT, List.set_cons_succ, List.set_cons_zero, ke_order_settles_4, le_order_settles_3, eV_s, eV_0, eC_eq, keyOf, z]
        exact q
    obtain ⟨acc, s1, q, q1, q2, q3⟩ := key deeds [] [] (by simp) (by simp; omega) (by simp)
    exact ⟨acc, s1, q, by simpa using q1, by simpa using q2, q3⟩
  have d0 : DRep deeds zero acc := ⟨by omega, hacc2⟩
  have wn : (deeds.map D.str).length = deeds.length := by simp
  have b2 := book2 first last deeds ents
  have b3 := book3 first last deeds ents
  have main : ∃ s', Ext s1 s' ∧ ((settles (edges ents) (deeds.length + 1) zero = true ∧ forL always (gN 2) bl_order_settles_2 (rng (deeds.length + 1)) [some (bookD first last deeds ents), some (.loc s1.length), none, none, none, none, none] (s1 ++ [.dic acc]) = .rt (.bl true) s') ∨
      (settles (edges ents) (deeds.length + 1) zero = false ∧ ∃ env', forL always (gN 2) bl_order_settles_2 (rng (deeds.length + 1)) [some (bookD first last deeds ents), some (.loc s1.length), none, none, none, none, none] (s1 ++ [.dic acc]) = .nx env' s')) := by
    refine forL_at (gd := always) (g := gN 2) (b := bl_order_settles_2) (rng (deeds.length + 1)) (fun k env s' => ∃ (h : Str → Int) (ks : List (L2.Key × D)), s' = s1 ++ [.dic ks] ∧ DRep deeds h ks ∧ k ≤ deeds.length + 1 ∧ settles (edges ents) (deeds.length + 1) zero = settles (edges ents) (deeds.length + 1 - k) h ∧ ∃ o2 o3 o4 o5 o6, env = [some (bookD first last deeds ents), some (.loc s1.length), o2, o3, o4, o5, o6])
      (fun res => ∃ s', Ext s1 s' ∧ ((settles (edges ents) (deeds.length + 1) zero = true ∧ res = .rt (.bl true) s') ∨ (settles (edges ents) (deeds.length + 1) zero = false ∧ ∃ env', res = .nx env' s'))) (fun _ _ _ _ => trivial) (fun k d env s' hk ⟨h, ks, hs', hr, hkl, hset, o2, o3, o4, o5, o6, he⟩ => ?_) (fun env s' ⟨h, ks, hs', hr, hkl, hset, _⟩ => ?_) ⟨zero, acc, rfl, d0, Nat.zero_le _, rfl, none, none, none, none, none, rfl⟩
    · subst he hs'
      obtain ⟨hlt, rfl⟩ := rng_get hk
      obtain ⟨env', ks', e, hr', a2, a4, a5, rfl⟩ := set1_loop (first := first) (last := last) G hg (s := s1) hr (some (.int (k : Nat))) o4 o5 o6
      have hset' : settles (edges ents) (deeds.length + 1) zero = if (rnd (edges ents) h).2 then settles (edges ents) (deeds.length + 1 - (k + 1)) (rnd (edges ents) h).1 else true := by
        rw [hset, show deeds.length + 1 - k = (deeds.length + 1 - (k + 1)) + 1 by omega]
        rfl
      have b3' := b3 (s1 ++ [.dic ks])
      have x2 := Ext.mk s1 [.dic ks']
      generalize rnd (edges ents) h = rr at *
      obtain ⟨h2, mv⟩ := rr
      simp only at hset' e hr'
      generalize bookD first last deeds ents = B at *
      generalize ents.map entD = ed at *
      generalize hs3 : s1 ++ [Cell.dic ks'] = s3 at *
      generalize s1 ++ [Cell.dic ks] = s2 at *
      cases mv with
      | true =>
        simp at hset'
        simp [bl_order_settles_2, b3', e]
        exact ⟨h2, ks', hs3.symm, hr', by omega, hset'⟩
      | false =>
        simp at hset'
        simp [bl_order_settles_2, b3', e]
        exact ⟨x2, hset'⟩
    · rw [rng_len] at hset
      have : settles (edges ents) (deeds.length + 1 - (deeds.length + 1)) h = false := by rw [Nat.sub_self]; rfl
      rw [this] at hset
      subst hs'
      exact ⟨_, Ext.mk _ _, .inr ⟨hset, env, rfl⟩⟩
  obtain ⟨s', x, hq⟩ := main
  have wr := rangeOf_int (s1 ++ [.dic acc]) ((deeds.length : Int) + 1) (by omega) (by omega)
  rw [show ((deeds.length : Int) + 1).toNat = deeds.length + 1 by omega] at wr
  have b2a := b2 s1
  have b2b := b2 (s1 ++ [.dic acc])
  refine ⟨s', ?_, x⟩
  generalize bookD first last deeds ents = B at *
  generalize deeds.map D.str = dd at *
  rcases hq with ⟨c, q⟩ | ⟨c, env', q⟩
  · rw [c]
    simp [m_order_settles, b_order_settles, eDc, b2a, wipeE, e1, b2b, wn, wr, q, -rangeOf_int]
  · rw [c]
    simp [m_order_settles, b_order_settles, eDc, b2a, wipeE, e1, b2b, wn, wr, q, -rangeOf_int]
end Law
namespace Law
open PySem Mi
/-! ### the law's own loop -/
def ixS (deeds : List Str) (a : Str) : Nat := deeds.findIdx fun w => decide (w = a)
theorem ixS_lt {deeds : List Str} {a : Str} (h : a ∈ deeds) : ixS deeds a < deeds.length := List.findIdx_lt_length_of_exists ⟨a, h, by simp⟩
theorem ixS_get {deeds : List Str} {a : Str} (h : a ∈ deeds) : deeds[ixS deeds a]'(ixS_lt h) = a := by
  have := List.findIdx_getElem (p := fun w => decide (w = a)) (xs := deeds) (w := ixS_lt h)
  exact of_decide_eq_true this
def gapD (deeds : List Str) (e : Edge) : D := .tup [.int (ixS deeds e.1), .int (ixS deeds e.2.1), .int e.2.2]
def hL (deeds : List Str) (h : Str → Int) : List D := deeds.map fun d => .int (h d)
theorem hL_get {deeds : List Str} {a : Str} (ha : a ∈ deeds) (h : Str → Int) {s : Store} {l : Nat} (g : s[l]? = some (.lst (hL deeds h))) : dIxZ (.loc l) (.int (ixS deeds a)) s = some (.int (h a), s) := by
  rw [dIxZ_loc g, dIx_loc g, L2.atI_nat (v := D.int (h a)) (by
    have := ixS_lt ha
    simp only [hL, List.getElem?_map]
    rw [List.getElem?_eq_getElem this, ixS_get ha]
    rfl)]
  rfl
theorem hL_set {deeds : List Str} (nd : deeds.Nodup) {b : Str} (hb : b ∈ deeds) (h : Str → Int) (v : Int) : (hL deeds h).set (ixS deeds b) (.int v) = hL deeds fun x => if x = b then v else h x := by
  apply List.ext_getElem (by simp [hL])
  intro i h1 h2
  simp only [hL, List.length_set, List.length_map] at h1
  rw [List.getElem_set]
  simp only [hL, List.getElem_map]
  by_cases c : ixS deeds b = i
  · subst c
    simp [ixS_get hb]
  · have : ¬ deeds[i] = b := fun e => c (L2.nd_ix nd (show deeds[ixS deeds b]? = some b by rw [List.getElem?_eq_getElem (ixS_lt hb), ixS_get hb]) (show deeds[i]? = some b by rw [List.getElem?_eq_getElem h1, e]))
    simp [c, this]
theorem loop1 {deeds : List Str} (nd : deeds.Nodup) {E : List Edge} (hE : ∀ e ∈ E, e.1 ∈ deeds ∧ e.2.1 ∈ deeds) {s0 : Store} {lg : Nat} (hg : s0[lg]? = some (.lst (E.map (gapD deeds)))) (h : Str → Int) (o3 o5 o6 o7 : Option D) :
    ∃ env', forL (fun s2 => s2[lg]? = some (.lst (E.map (gapD deeds)))) (gT 3 (gsC (gN 5) (gsC (gN 6) (gsC (gN 7) (gsN))))) bl_d_law_loop_1 (E.map (gapD deeds)) [some (.tup (deeds.map D.str)), some (.loc lg), some (.loc s0.length), o3, some (.bl false), o5, o6, o7] (s0 ++ [.lst (hL deeds h)]) = .nx env' (s0 ++ [.lst (hL deeds (rnd E h).1)]) ∧
      ∃ o5 o6 o7, env' = [some (.tup (deeds.map D.str)), some (.loc lg), some (.loc s0.length), o3, some (.bl (rnd E h).2), o5, o6, o7] := by
  obtain ⟨env', s', e, hs', o5', o6', o7', he⟩ := forL_atT (gd := fun s2 => s2[lg]? = some (.lst (E.map (gapD deeds)))) (g := gT 3 (gsC (gN 5) (gsC (gN 6) (gsC (gN 7) (gsN))))) (b := bl_d_law_loop_1) (E.map (gapD deeds)) (fun k env s' => s' = s0 ++ [.lst (hL deeds ((E.take k).foldl step (h, false)).1)] ∧ ∃ o5 o6 o7, env = [some (.tup (deeds.map D.str)), some (.loc lg), some (.loc s0.length), o3, some (.bl ((E.take k).foldl step (h, false)).2), o5, o6, o7])
    (fun _ _ _ ⟨e, _⟩ => by rw [e, List.getElem?_append_left (lt_of_get hg)]; exact hg)
    (fun k d env s' hk ⟨hs', o5, o6, o7, he⟩ => by
      subst he hs'
      obtain ⟨e, hek, rfl⟩ := map_get hk
      obtain ⟨ha, hb⟩ := hE e (List.mem_of_getElem? hek)
      have hf := fold_take (h := h) hek
      rw [hf]
      generalize (E.take k).foldl step (h, false) = hm at *
      obtain ⟨h1, mv⟩ := hm
      obtain ⟨a, b, w⟩ := e
      simp only at ha hb ⊢
      have gk := get_new s0 (.lst (hL deeds h1))
      have w1 := hL_get ha h1 gk
      have w2 := hL_get hb h1 gk
      have wp := pList_loc gk (ixS deeds b) (by simp [hL]; exact ixS_lt hb) (.int (h1 a + w))
      rw [← pAny_loc gk, hL_set nd hb h1 (h1 a + w)] at wp
      have es : (s0 ++ [Cell.lst (hL deeds h1)]).set s0.length (.lst (hL deeds fun x => if x = b then h1 a + w else h1 x)) = s0 ++ [.lst (hL deeds fun x => if x = b then h1 a + w else h1 x)] := by simp
      rw [es] at wp
      unfold step
      clear gk es
      generalize deeds.map D.str = dd at *
      by_cases c : h1 b < h1 a + w
      · simp only [c, if_true]
        generalize s0 ++ [Cell.lst (hL deeds fun x => if x = b then h1 a + w else h1 x)] = s2 at *
        generalize s0 ++ [Cell.lst (hL deeds h1)] = s1 at *
        simp [bl_d_law_loop_1, gapD, w1, w2, c, wp]
      · simp only [c, if_false]
        generalize s0 ++ [Cell.lst (hL deeds h1)] = s1 at *
        simp [bl_d_law_loop_1, gapD, w1, w2, c]) (env := [some (.tup (deeds.map D.str)), some (.loc lg), some (.loc s0.length), o3, some (.bl false), o5, o6, o7]) (s := s0 ++ [.lst (hL deeds h)]) ⟨by simp, o5, o6, o7, by simp⟩
  have hl : E.take (E.map (gapD deeds)).length = E := by rw [List.length_map]; exact List.take_length
  rw [hl] at hs' he
  subst hs'
  exact ⟨env', e, o5', o6', o7', he⟩
theorem loop_spec {deeds : List Str} (nd : deeds.Nodup) (hn : deeds.length ≤ 100) {E : List Edge} (hE : ∀ e ∈ E, e.1 ∈ deeds ∧ e.2.1 ∈ deeds) {s : Store} {lg : Nat} (hg : s[lg]? = some (.lst (E.map (gapD deeds)))) :
    ∃ s', m_d_law_loop [.tup (deeds.map D.str), .loc lg] s = .ok (.bl (!settles E (deeds.length + 1) zero)) s' ∧ Ext s s' := by
  obtain ⟨s1, hs1⟩ : ∃ s1, s1 = s ++ [Cell.lst [.int 0]] := ⟨_, rfl⟩
  have x1 : Ext s s1 := by rw [hs1]; exact Ext.mk _ _
  have g1 := x1.get hg
  have l1 : s1.length = s.length + 1 := by rw [hs1]; simp
  have wr0 : dRep (.loc s.length) (.int deeds.length) s1 = some (.loc s1.length, s1 ++ [.lst (hL deeds zero)]) := by
    have q : s1[s.length]? = some (.lst [.int 0]) := by rw [hs1]; exact get_new _ _
    have q2 : (List.replicate deeds.length [D.int 0]).flatten = hL deeds zero := by
      rw [show hL deeds zero = List.replicate deeds.length (D.int 0) by
        exact List.eq_replicate_iff.mpr ⟨by simp [hL], fun x hx => by obtain ⟨_, _, rfl⟩ := List.mem_map.mp hx; rfl⟩]
      generalize deeds.length = m
      induction m with
      | zero => rfl
      | succ m ih => rw [List.replicate_succ, List.flatten_cons, ih, List.replicate_succ]; rfl
    simp only [dRep, q]
    rw [if_pos ⟨by omega, by omega, by rw [List.length_singleton, Int.toNat_natCast]; exact le_line (by omega)⟩, Int.toNat_natCast, q2]
  have wn : ∀ s, dLen [.tup (deeds.map D.str)] s = some (.int deeds.length, s) := fun s => by simp
  have main : ∃ s', Ext s1 s' ∧ ((settles E (deeds.length + 1) zero = true ∧ forL always (gN 3) bl_d_law_loop_2 (rng (deeds.length + 1)) [some (.tup (deeds.map D.str)), some (.loc lg), some (.loc s1.length), none, none, none, none, none] (s1 ++ [.lst (hL deeds zero)]) = .rt (.bl false) s') ∨
      (settles E (deeds.length + 1) zero = false ∧ ∃ env', forL always (gN 3) bl_d_law_loop_2 (rng (deeds.length + 1)) [some (.tup (deeds.map D.str)), some (.loc lg), some (.loc s1.length), none, none, none, none, none] (s1 ++ [.lst (hL deeds zero)]) = .nx env' s')) := by
    refine forL_at (gd := always) (g := gN 3) (b := bl_d_law_loop_2) (rng (deeds.length + 1)) (fun k env s' => ∃ (h : Str → Int), s' = s1 ++ [.lst (hL deeds h)] ∧ k ≤ deeds.length + 1 ∧ settles E (deeds.length + 1) zero = settles E (deeds.length + 1 - k) h ∧ ∃ o3 o4 o5 o6 o7, env = [some (.tup (deeds.map D.str)), some (.loc lg), some (.loc s1.length), o3, o4, o5, o6, o7])
      (fun res => ∃ s', Ext s1 s' ∧ ((settles E (deeds.length + 1) zero = true ∧ res = .rt (.bl false) s') ∨ (settles E (deeds.length + 1) zero = false ∧ ∃ env', res = .nx env' s'))) (fun _ _ _ _ => trivial) (fun k d env s' hk ⟨h, hs', hkl, hset, o3, o4, o5, o6, o7, he⟩ => ?_) (fun env s' ⟨h, hs', hkl, hset, _⟩ => ?_) ⟨zero, rfl, Nat.zero_le _, rfl, none, none, none, none, none, rfl⟩
    · subst he hs'
      obtain ⟨hlt, rfl⟩ := rng_get hk
      obtain ⟨env', e, a5, a6, a7, rfl⟩ := loop1 nd hE g1 h (some (.int (k : Nat))) o5 o6 o7
      have hset' : settles E (deeds.length + 1) zero = if (rnd E h).2 then settles E (deeds.length + 1 - (k + 1)) (rnd E h).1 else true := by
        rw [hset, show deeds.length + 1 - k = (deeds.length + 1 - (k + 1)) + 1 by omega]
        rfl
      have g2 : (s1 ++ [Cell.lst (hL deeds h)])[lg]? = some (.lst (E.map (gapD deeds))) := by rw [List.getElem?_append_left (lt_of_get g1)]; exact g1
      have x2 := Ext.mk s1 [.lst (hL deeds (rnd E h).1)]
      generalize rnd E h = rr at *
      obtain ⟨h2, mv⟩ := rr
      simp only at hset' e
      generalize E.map (gapD deeds) = ed at *
      generalize deeds.map D.str = dd at *
      generalize hs3 : s1 ++ [Cell.lst (hL deeds h2)] = s3 at *
      generalize s1 ++ [Cell.lst (hL deeds h)] = s2 at *
      cases mv with
      | true =>
        simp at hset'
        simp [bl_d_law_loop_2, g2, e]
        exact ⟨h2, hs3.symm, by omega, hset'⟩
      | false =>
        simp at hset'
        simp [bl_d_law_loop_2, g2, e]
        exact ⟨x2, hset'⟩
    · rw [rng_len] at hset
      have : settles E (deeds.length + 1 - (deeds.length + 1)) h = false := by rw [Nat.sub_self]; rfl
      rw [this] at hset
      subst hs'
      exact ⟨_, Ext.mk _ _, .inr ⟨hset, env, rfl⟩⟩
  obtain ⟨s', x, hq⟩ := main
  have wr := rangeOf_int (s1 ++ [.lst (hL deeds zero)]) ((deeds.length : Int) + 1) (by omega) (by omega)
  rw [show ((deeds.length : Int) + 1).toNat = deeds.length + 1 by omega] at wr
  refine ⟨s', ?_, x1.trans x⟩
  generalize deeds.map D.str = dd at *
  generalize hL deeds zero = h0 at *
  rw [hs1] at wr0 hq wr
  simp only [List.append_assoc, List.cons_append, List.nil_append] at wr0 hq wr
  rcases hq with ⟨c, q⟩ | ⟨c, env', q⟩
  · rw [c]
    simp at wr0 q
    simp [m_d_law_loop, b_d_law_loop, wn, wr0, wr, q, -rangeOf_int]
  · rw [c]
    simp at wr0 q
    simp [m_d_law_loop, b_d_law_loop, wn, wr0, wr, q, -rangeOf_int]
/-! ### is_order, is_strict -/
def gapOk : Rec → Bool
  | .gap _ _ w => decide (0 ≤ w)
  | _ => false
def wid (ents : List Ent) : Int := (edges ents).foldl (fun m e => max m e.2.2) 1
def roomy (first last : Int) (n : Nat) (w : Int) : Bool := !decide (last - first < 2 * n * w + 1)
def orderB (first last : Int) (deeds : List Str) (ents : List Ent) : Bool := (ents.all fun e => gapOk e.2) && (roomy first last deeds.length (wid ents) && settles (edges ents) (deeds.length + 1) zero)
def strictB (ents : List Ent) : Bool := (edges ents).all fun e => decide (1 ≤ e.2.2)
theorem gaps_of {ents : List Ent} (h : (ents.all fun e => gapOk e.2) = true) : Gaps ents := fun e he => by
  have := List.all_eq_true.mp h e he
  cases q : e.2 with
  | gap a b w => exact ⟨a, b, w, rfl⟩
  | yrs _ _ => rw [q] at this; cases this
  | oth _ _ => rw [q] at this; cases this
theorem order1 {first last : Int} {deeds : List Str} {ents : List Ent} (G : Good deeds ents) (s : Store) :
    ((ents.all fun e => gapOk e.2) = true ∧ ∃ env', forL always (gT 2 (gsC (gN 6) (gsC (gN 7) (gsN)))) bl_is_order_1 (ents.map entD) [some (bookD first last deeds ents), some (.int first), some (.int last), some (.tup (deeds.map D.str)), some (.tup (ents.map entD)), some (.int 1), none, none] s = .nx env' s ∧ ∃ o6 o7, env' = [some (bookD first last deeds ents), some (.int first), some (.int last), some (.tup (deeds.map D.str)), some (.tup (ents.map entD)), some (.int (wid ents)), o6, o7]) ∨
      ((ents.all fun e => gapOk e.2) = false ∧ forL always (gT 2 (gsC (gN 6) (gsC (gN 7) (gsN)))) bl_is_order_1 (ents.map entD) [some (bookD first last deeds ents), some (.int first), some (.int last), some (.tup (deeds.map D.str)), some (.tup (ents.map entD)), some (.int 1), none, none] s = .rt (.bl false) s) := by
  refine forL_at (gd := always) (g := gT 2 (gsC (gN 6) (gsC (gN 7) (gsN)))) (b := bl_is_order_1) (ents.map entD) (fun k env s' => s' = s ∧ (∀ j (hj : j < ents.length), j < k → gapOk ents[j].2 = true) ∧ ∃ o6 o7, env = [some (bookD first last deeds ents), some (.int first), some (.int last), some (.tup (deeds.map D.str)), some (.tup (ents.map entD)), some (.int (((edges ents).take k).foldl (fun m e => max m e.2.2) 1)), o6, o7])
    (fun res => ((ents.all fun e => gapOk e.2) = true ∧ ∃ env', res = .nx env' s ∧ ∃ o6 o7, env' = [some (bookD first last deeds ents), some (.int first), some (.int last), some (.tup (deeds.map D.str)), some (.tup (ents.map entD)), some (.int (wid ents)), o6, o7]) ∨ ((ents.all fun e => gapOk e.2) = false ∧ res = .rt (.bl false) s)) (fun _ _ _ _ => trivial) (fun k d env s' hk ⟨hs', hall, o6, o7, he⟩ => ?_) (fun env s' ⟨hs', hall, o6, o7, he⟩ => ?_) ⟨rfl, fun j hj h => absurd h (Nat.not_lt_zero j), none, none, rfl⟩
  · subst he hs'
    obtain ⟨e, hek, rfl⟩ := map_get hk
    obtain ⟨hkl, hke⟩ := List.getElem?_eq_some_iff.mp hek
    have hm := List.mem_of_getElem? hek
    have hok := G.ok e hm
    have hbad : gapOk e.2 = false → (ents.all fun e => gapOk e.2) = false := fun c => List.all_eq_false.mpr ⟨e, hm, by simp [c]⟩
    have ht : (edges ents).take (k + 1) = (edges ents).take k ++ [edgeOf e.2] := by rw [List.take_add_one, edges_get hek]; rfl
    have hgood : gapOk e.2 = true → ∀ j (hj : j < ents.length), j < k + 1 → gapOk ents[j].2 = true := fun c j hj hlt => by
      rcases Nat.lt_or_ge j k with u | u
      · exact hall j hj u
      · have : j = k := by omega
        subst this
        rw [hke]; exact c
    rw [ht, List.foldl_append]
    generalize ((edges ents).take k).foldl (fun m e => max m e.2.2) 1 = wd at *
    obtain ⟨dg, rc⟩ := e
    generalize hB : bookD first last deeds ents = B at *
    generalize hE : ents.map entD = ed at *
    clear hB hE
    cases rc with
    | gap a b w =>
      by_cases c : w < 0
      · have := hbad (by simp [gapOk]; omega)
        simp [bl_is_order_1, entD, recD, ix0, ix3, c]
        exact (by simpa using this)
      · have := hgood (by simp [gapOk]; omega)
        simp [bl_is_order_1, entD, recD, ix0, ix3, c, edgeOf]
        exact this
    | yrs d ds =>
      have := hbad rfl
      simp [bl_is_order_1, entD, recD, ix0, ne_s.1]
      exact (by simpa using this)
    | oth k r =>
      have := hbad rfl
      simp [bl_is_order_1, entD, recD, ix0, (oth_ne hok).1]
      exact (by simpa using this)
  · subst he hs'
    rw [List.length_map] at hall ⊢
    have e1 : (edges ents).take ents.length = edges ents := List.take_of_length_le (by simp [edges])
    rw [e1]
    refine .inl ⟨List.all_eq_true.mpr fun e he => ?_, _, rfl, o6, o7, rfl⟩
    obtain ⟨j, hj, rfl⟩ := List.mem_iff_getElem.mp he
    exact hall j hj hj
theorem wid_bnd {deeds : List Str} {ents : List Ent} (G : Good deeds ents) : 1 ≤ wid ents ∧ wid ents ≤ 1000000 := by
  have key : ∀ (E : List Edge) (m : Int), 1 ≤ m → m ≤ 1000000 → (∀ e ∈ E, e.2.2 ≤ 1000000) → 1 ≤ E.foldl (fun m e => max m e.2.2) m ∧ E.foldl (fun m e => max m e.2.2) m ≤ 1000000 := by
    intro E
    induction E with
    | nil => intro m h1 h2 _; exact ⟨h1, h2⟩
    | cons e E ih =>
      intro m h1 h2 h3
      have := h3 e (by simp)
      exact ih (max m e.2.2) (by omega) (by omega) fun e' he' => h3 e' (by simp [he'])
  refine key _ 1 (by omega) (by omega) fun e he => ?_
  obtain ⟨x, hx, rfl⟩ := List.mem_map.mp he
  have := G.ok x hx
  obtain ⟨dg, rc⟩ := x
  cases rc with
  | gap a b w => exact this.2.2.2
  | _ => simp [edgeOf]
theorem order_spec (first last : Int) {deeds : List Str} {ents : List Ent} (G : Good deeds ents) (s : Store) : ∃ s', m_is_order [bookD first last deeds ents] s = .ok (.bl (orderB first last deeds ents)) s' ∧ Ext s s' := by
  have wn : ∀ s, dLen [.tup (deeds.map D.str)] s = some (.int deeds.length, s) := fun s => by simp
  have hw := wid_bnd G
  have hn := G.few
  unfold orderB
  rcases order1 (first := first) (last := last) G s with ⟨ca, env', q, o6, o7, rfl⟩ | ⟨ca, q⟩
  · obtain ⟨s', e, x⟩ := settles_spec first last G (gaps_of ca) s
    have wm1 : ∀ s, dMul (.int 2) (.int deeds.length) s = some (.int (2 * deeds.length), s) := fun s => dMul_r 2 deeds.length s (by omega)
    have wm2 : ∀ s, dMul (.int (2 * deeds.length)) (.int (wid ents)) s = some (.int (2 * deeds.length * wid ents), s) := fun s => dMul_r _ _ s (by omega)
    have eB : bookD first last deeds ents = .tup [.int first, .int last, .tup (deeds.map D.str), .tup (ents.map entD)] := rfl
    rw [ca]
    unfold roomy
    by_cases c : last - first < 2 * deeds.length * wid ents + 1
    · refine ⟨s, ?_, Ext.refl s⟩
      rw [eB] at q ⊢
      generalize deeds.map D.str = dd at *
      generalize ents.map entD = ed at *
      simp [m_is_order, b_is_order, q, wn, wm1, wm2, c]
    · refine ⟨s', ?_, x⟩
      rw [eB] at q e ⊢
      generalize deeds.map D.str = dd at *
      generalize ents.map entD = ed at *
      simp [m_is_order, b_is_order, q, wn, wm1, wm2, c, e]
  · refine ⟨s, ?_, Ext.refl s⟩
    have eB : bookD first last deeds ents = .tup [.int first, .int last, .tup (deeds.map D.str), .tup (ents.map entD)] := rfl
    rw [ca]
    rw [eB] at q ⊢
    generalize deeds.map D.str = dd at *
    generalize ents.map entD = ed at *
    simp [m_is_order, b_is_order, q]
theorem strict_spec (first last : Int) {deeds : List Str} {ents : List Ent} (G : Good deeds ents) (s : Store) : ∃ s', m_is_strict [bookD first last deeds ents] s = .ok (.bl (orderB first last deeds ents && strictB ents)) s' ∧ Ext s s' := by
  obtain ⟨s1, e1, x1⟩ := order_spec first last G s
  cases c : orderB first last deeds ents with
  | false =>
    refine ⟨s1, ?_, x1⟩
    rw [c] at e1
    simp [m_is_strict, b_is_strict, e1]
  | true =>
    have hg : Gaps ents := by
      unfold orderB at c
      rw [Bool.and_eq_true] at c
      exact gaps_of c.1
    have hz := G.short
    have e := lcL_map (gd := always) (g := gT 2 (gsC (gN 1) (gsC (gN 2) (gsN)))) (t := tT) (e := le_is_strict_1) (env := [some (bookD first last deeds ents), none, none]) (s := s1) trivial entD (fun e => D.bl (decide (1 ≤ (edgeOf e.2).2.2))) ents
      (fun x hx => by
        obtain ⟨a, b, w, hgap⟩ := hg x hx
        obtain ⟨dg, rc⟩ := x
        simp only at hgap
        subst hgap
        simp [entD, recD, le_is_strict_1, tT, ix3, edgeOf]
        exact decide_eq_decide.mpr Iff.rfl) (by omega)
    have e2 : ents.map (fun e => D.bl (decide (1 ≤ (edgeOf e.2).2.2))) = ((edges ents).map fun e => decide (1 ≤ e.2.2)).map D.bl := by simp [edges]
    rw [e2] at e
    have g := get_new s1 (.lst (((edges ents).map fun e => decide (1 ≤ e.2.2)).map D.bl))
    have wa := dAll_loc g
    have ea : ((edges ents).map fun e => decide (1 ≤ e.2.2)).all id = strictB ents := by simp [List.all_map, strictB]
    rw [ea] at wa
    have b3 := book3 first last deeds ents s1
    rw [c] at e1
    refine ⟨s1 ++ [.lst (((edges ents).map fun e => decide (1 ≤ e.2.2)).map D.bl)], ?_, x1.trans (Ext.mk _ _)⟩
    generalize ((edges ents).map fun e => decide (1 ≤ e.2.2)).map D.bl = bd at *
    generalize bookD first last deeds ents = B at *
    generalize ents.map entD = es at *
    simp [m_is_strict, b_is_strict, e1, b3, e, wa]
end Law
namespace Law
open PySem Mi
/-! ### what is due -/
theorem ways_ne : ¬ (("ante" : Str) = "both") ∧ ¬ (("post" : Str) = "both") ∧ ¬ (("mixed" : Str) = "both") := by decide +kernel
theorem wayS_both (ks : List Str) : wayS ks = "both" ↔ ¬ ("one" : Str) ∈ ks ∧ ¬ ("under" : Str) ∈ ks ∧ ¬ ("over" : Str) ∈ ks := by
  obtain ⟨a, b, c⟩ := ways_ne
  unfold wayS
  by_cases c1 : ("one" : Str) ∈ ks <;> by_cases c2 : ("under" : Str) ∈ ks <;> by_cases c3 : ("over" : Str) ∈ ks <;> simp [c1, c2, c3, a, b, c]
/-- years of one stretch -/
def yrsOk : Rec → Bool
  | .yrs _ ds => decide (ds.length = 1)
  | _ => true
theorem kinds_ne : ¬ (("one" : Str) = "gap") ∧ ¬ (("under" : Str) = "gap") ∧ ¬ (("over" : Str) = "gap") ∧ ¬ (("one" : Str) = "years") ∧ ¬ (("under" : Str) = "years") ∧ ¬ (("over" : Str) = "years") := by decide +kernel
theorem plain_eq {deeds : List Str} {ents : List Ent} (G : Good deeds ents) : (decide (wayS (kinds ents) = "both") && ents.all fun e => yrsOk e.2) = ents.all fun e => plainR e.2 := by
  obtain ⟨n1, n2, n3, n4, n5, n6⟩ := kinds_ne
  rw [Bool.eq_iff_iff, Bool.and_eq_true, decide_eq_true_iff, wayS_both, List.all_eq_true, List.all_eq_true]
  constructor
  · rintro ⟨⟨a, b, c⟩, h⟩ e he
    have hk : e.2.kind ∈ kinds ents := List.mem_map.mpr ⟨e, he, rfl⟩
    have hy := h e he
    have ho := G.ok e he
    obtain ⟨dg, rc⟩ := e
    cases rc with
    | gap _ _ _ => rfl
    | yrs _ _ => exact hy
    | oth k r =>
      rcases ho with rfl | rfl | rfl
      · exact (b hk).elim
      · exact (c hk).elim
      · exact (a hk).elim
  · intro h
    have no : ∀ k : Str, k ∈ kinds ents → k = "gap" ∨ k = "years" := fun k hk => by
      obtain ⟨e, he, rfl⟩ := List.mem_map.mp hk
      have := h e he
      obtain ⟨dg, rc⟩ := e
      cases rc with
      | gap _ _ _ => exact .inl rfl
      | yrs _ _ => exact .inr rfl
      | oth k r => cases this
    refine ⟨⟨fun z => ?_, fun z => ?_, fun z => ?_⟩, fun e he => ?_⟩
    · rcases no _ z with q | q
      · exact n1 q
      · exact n4 q
    · rcases no _ z with q | q
      · exact n2 q
      · exact n5 q
    · rcases no _ z with q | q
      · exact n3 q
      · exact n6 q
    · have := h e he
      obtain ⟨dg, rc⟩ := e
      cases rc with
      | gap _ _ _ => rfl
      | yrs _ _ => exact this
      | oth _ _ => rfl
/-- the gaps that due keeps -/
def kept (ents : List Ent) : List Edge := ents.filterMap fun e => if gapOk e.2 = true then some (edgeOf e.2) else none
theorem kept_all {ents : List Ent} (h : (ents.all fun e => gapOk e.2) = true) : kept ents = edges ents := by
  unfold kept edges
  induction ents with
  | nil => rfl
  | cons e ents ih =>
    rw [List.all_cons, Bool.and_eq_true] at h
    rw [List.filterMap_cons, if_pos h.1, List.map_cons, ih h.2]
theorem kept_snoc (P : List Ent) (e : Ent) : kept (P ++ [e]) = if gapOk e.2 = true then kept P ++ [edgeOf e.2] else kept P := by
  unfold kept
  rw [List.filterMap_append]
  by_cases c : gapOk e.2 = true <;> simp [c]
theorem tix_spec {deeds : List Str} {a : Str} (h : a ∈ deeds) (s : Store) : dTix (.tup (deeds.map D.str)) [.str a] s = some (.int (ixS deeds a), s) := by
  have e : deeds.findIdx? (fun w => decide (w = a)) = some (ixS deeds a) := List.findIdx?_eq_some_of_exists ⟨a, h, by simp⟩
  simp [dTix, strsOf_map, e]
theorem gy : ¬ (("gap" : Str) = "years") := fun h => ne_s.1 h.symm
theorem isT_t (xs : List D) : isT (.tup xs) = true := rfl
theorem due2_loop {B : D} {first last : Int} {deeds : List Str} {ents : List Ent} (G : Good deeds ents) (a1 a2 o7 o8 : Option D) (s : Store) (pl : Bool) (o5 o6 o13 o14 : Option D) :
    ∃ env', forL always (gT 2 (gsC (gN 5) (gsC (gN 6) (gsN)))) bl_d_law_due_2 (ents.map entD) [some B, a1, a2, some (.tup (deeds.map D.str)), some (.tup (ents.map entD)), o5, o6, o7, o8, some (.bl pl), some (.bl true), some (.bl true), some (.loc s.length), o13, o14] (s ++ [.lst []]) = .nx env' (s ++ [.lst ((kept ents).map (gapD deeds))]) ∧
      ∃ o5 o6, env' = [some B, a1, a2, some (.tup (deeds.map D.str)), some (.tup (ents.map entD)), o5, o6, o7, o8, some (.bl (pl && ents.all fun e => yrsOk e.2)), some (.bl (ents.all fun e => gapOk e.2)), some (.bl ((kept ents).all fun e => decide (1 ≤ e.2.2))), some (.loc s.length), o13, o14] := by
  obtain ⟨env', s', e, hs', o5', o6', he⟩ := forL_atT (gd := always) (g := gT 2 (gsC (gN 5) (gsC (gN 6) (gsN)))) (b := bl_d_law_due_2) (ents.map entD) (fun k env s' => s' = s ++ [.lst ((kept (ents.take k)).map (gapD deeds))] ∧ ∃ o5 o6, env = [some B, a1, a2, some (.tup (deeds.map D.str)), some (.tup (ents.map entD)), o5, o6, o7, o8, some (.bl (pl && (ents.take k).all fun e => yrsOk e.2)), some (.bl ((ents.take k).all fun e => gapOk e.2)), some (.bl ((kept (ents.take k)).all fun e => decide (1 ≤ e.2.2))), some (.loc s.length), o13, o14]) (fun _ _ _ _ => trivial)
    (fun k d env s' hk ⟨hs', o5, o6, he⟩ => by
      subst he hs'
      obtain ⟨e, hek, rfl⟩ := map_get hk
      have hm := List.mem_of_getElem? hek
      have hok := G.ok e hm
      have hkl := (List.getElem?_eq_some_iff.mp hek).1
      have ht : ents.take (k + 1) = ents.take k ++ [e] := by rw [List.take_add_one, hek]; rfl
      have kl : (kept (ents.take k)).length ≤ 1000 := by
        have h1 : (kept (ents.take k)).length ≤ (ents.take k).length := List.length_filterMap_le _ _
        have h2 : (ents.take k).length ≤ ents.length := by rw [List.length_take]; omega
        have := G.short
        omega
      rw [ht, kept_snoc]
      simp only [List.all_append, List.all_cons, List.all_nil, Bool.and_true]
      generalize (ents.take k).all (fun e => yrsOk e.2) = y1 at *
      generalize (ents.take k).all (fun e => gapOk e.2) = g1 at *
      generalize kept (ents.take k) = kp at *
      have wa := fun x => app_new s (kp.map (gapD deeds)) x (by rw [List.length_map]; omega)
      have wt := ty_new s (kp.map (gapD deeds))
      obtain ⟨dg, rc⟩ := e
      cases rc with
      | gap a b w =>
        obtain ⟨ha, hb, _, _⟩ := hok
        have t1 := tix_spec ha
        have t2 := tix_spec hb
        generalize deeds.map D.str = dd at *
        generalize ents.map entD = ed at *
        by_cases c : w < 0
        · have cg : ¬ 0 ≤ w := by omega
          generalize hs1 : s ++ [Cell.lst (kp.map (gapD deeds))] = s1 at *
          (simp [bl_d_law_due_2, entD, recD, ix0, ix3, c, cg, gapOk, yrsOk, ne_s.1, gy, isT_t]; exact hs1.symm)
        · have cg : 0 ≤ w := by omega
          have w3 := wa (gapD deeds (a, b, w))
          rw [show kp.map (gapD deeds) ++ [gapD deeds (a, b, w)] = (kp ++ [(a, b, w)]).map (gapD deeds) by simp] at w3
          simp only [gapD] at w3
          simp only [gapOk, cg, decide_true, if_true, edgeOf, List.all_append, List.all_cons, List.all_nil, Bool.and_true, yrsOk]
          generalize (kp ++ [(a, b, w)]).map (gapD deeds) = l2 at *
          generalize kp.map (gapD deeds) = l1 at *
          generalize hs1 : s ++ [Cell.lst l1] = s1 at *
          generalize s ++ [Cell.lst l2] = s2 at *
          generalize kp.all (fun e => decide (1 ≤ e.2.2)) = q at *
          cases q <;> simp [bl_d_law_due_2, entD, recD, ix0, ix1, ix2, ix3, c, ne_s.1, gy, isT_t, wt, t1, t2, w3]
      | yrs d ds =>
        generalize deeds.map D.str = dd at *
        generalize ents.map entD = ed at *
        generalize hs1 : s ++ [Cell.lst (kp.map (gapD deeds))] = s1 at *
        by_cases c : ds.length = 1
        · have c' : (ds.length : Int) = 1 := by omega
          (simp [bl_d_law_due_2, entD, recD, ix0, ix2, c, c', gapOk, yrsOk, ne_s.1, gy, isT_t]; exact hs1.symm)
        · have c' : ¬ (ds.length : Int) = 1 := by omega
          (simp [bl_d_law_due_2, entD, recD, ix0, ix2, c, c', gapOk, yrsOk, ne_s.1, gy, isT_t]; exact hs1.symm)
      | oth k r =>
        obtain ⟨q1, q2⟩ := oth_ne hok
        generalize deeds.map D.str = dd at *
        generalize ents.map entD = ed at *
        generalize hs1 : s ++ [Cell.lst (kp.map (gapD deeds))] = s1 at *
        (simp [bl_d_law_due_2, entD, recD, ix0, gapOk, yrsOk, q1, q2]; exact hs1.symm)) (env := [some B, a1, a2, some (.tup (deeds.map D.str)), some (.tup (ents.map entD)), o5, o6, o7, o8, some (.bl pl), some (.bl true), some (.bl true), some (.loc s.length), o13, o14]) (s := s ++ [.lst []]) ⟨rfl, o5, o6, by simp [kept]⟩
  have hl : ents.take (ents.map entD).length = ents := by rw [List.length_map]; exact List.take_length
  rw [hl] at hs' he
  subst hs'
  exact ⟨env', e, o5', o6', he⟩
end Law
namespace Law
open PySem Mi
local macro_rules | `(tactic| ac_rfl) => `(tactic| repeat (first | exact List.mem_cons_self | assumption | apply List.mem_cons_of_mem | apply List.mem_append_right))
local macro_rules | `(tactic| eq_refl) => `(tactic| first
  | ((with_reducible refine wr_go ?_); first
    | ((with_reducible refine w_Vg ?_); first
      | with_reducible refine w_V0 ?_
      | with_reducible refine w_V1 ?_
      | with_reducible refine w_V2 ?_
      | with_reducible refine w_V3 ?_
      | with_reducible refine w_V4 ?_
      | with_reducible refine w_V5 ?_
      | with_reducible refine w_V6 ?_
      | with_reducible refine w_V7 ?_
      | with_reducible refine w_V8 ?_
      | with_reducible refine w_V9 ?_
      | with_reducible refine w_V10 ?_
      | with_reducible refine w_V11 ?_
      | with_reducible refine w_V12 ?_
      | with_reducible refine w_V13 ?_
      | with_reducible refine w_V14 ?_
      | with_reducible refine w_V15 ?_
      | with_reducible refine w_V16 ?_
      | with_reducible refine w_V17 ?_
      | with_reducible refine w_V18 ?_
      | with_reducible refine w_V19 ?_
      | with_reducible refine w_V20 ?_
      | with_reducible refine w_V21 ?_
      | with_reducible refine w_V22 ?_
      | with_reducible refine w_V23 ?_
      | with_reducible refine w_V24 ?_
      | with_reducible refine w_V25 ?_
      | with_reducible refine w_V26 ?_
      | with_reducible refine w_V27 ?_
      | with_reducible refine w_V28 ?_
      | with_reducible refine w_V29 ?_
      | with_reducible refine w_V30 ?_
      | with_reducible refine w_V31 ?_
      | refine w_V (by exact rfl) ?_)
    | with_reducible refine w_C ?_
    | with_reducible refine w_cons ?_
    | with_reducible refine w_nil ?_
    | with_reducible refine w_e2 ?_
    | with_reducible refine w_call ?_
    | with_reducible refine w_tV ?_
    | with_reducible refine w_tup ?_
    | with_reducible refine w_e1 ?_
    | with_reducible refine w_fn ?_
    | with_reducible refine w_tru ?_
    | with_reducible refine w_and ?_
    | with_reducible refine w_or ?_
    | with_reducible refine w_not ?_
    | with_reducible refine w_lst ?_
    | with_reducible refine w_mt ?_
    | with_reducible refine w_mt0 ?_
    | with_reducible refine w_rng ?_
    | with_reducible refine w_rng2 ?_
    | with_reducible refine w_iSeq ?_
    | with_reducible refine w_eif ?_
    | with_reducible refine w_eAnd ?_
    | with_reducible refine w_eOr ?_
    | with_reducible refine w_eNot ?_
    | with_reducible refine w_notT ?_
    | with_reducible refine w_chain ?_
    | with_reducible refine w_oN ?_
    | with_reducible refine w_oS ?_
    | with_reducible refine w_sl ?_
    | with_reducible refine w_lc ?_
    | with_reducible refine w_enm ?_
    | with_reducible refine w_enmS ?_
    | with_reducible refine w_zip ?_
    | with_reducible refine w_fmt ?_
    | with_reducible refine w_fs ?_
    | with_reducible refine w_jsn ?_
    | with_reducible refine w_jsc ?_
    | with_reducible refine w_dc ?_
    | ((with_reducible apply w_dict0); (focus assumption); intro l s hl H)
    | with_reducible refine w_tT ?_
    | ((with_reducible refine w_fnM ?_); simp only [List.map_cons, List.map_nil, List.cons_append, List.nil_append, List.replicate_succ, List.replicate_zero, Nat.reduceSub]))
  | ((with_reducible refine wo_go ?_); first
    | with_reducible refine o_max ?_
    | with_reducible refine o_min ?_
    | with_reducible refine o_lenT ?_
    | ((with_reducible apply o_lenL); (focus assumption); (focus (repeat (first | exact List.mem_cons_self | apply List.mem_cons_of_mem))))
    | ((with_reducible apply o_tupL); (focus assumption); (focus (repeat (first | exact List.mem_cons_self | apply List.mem_cons_of_mem))))
    | ((with_reducible apply o_sumL); (focus assumption); (focus (repeat (first | exact List.mem_cons_self | apply List.mem_cons_of_mem))))
    | ((with_reducible apply o_mul); (focus omega))
    | ((with_reducible apply o_div); (focus omega))
    | ((with_reducible apply o_mod); (focus omega))
    | ((with_reducible apply o_pow); (focus (first | omega | decide)))
    | ((with_reducible apply o_ixT); (focus (first | exact atI_zero _ _ | exact atI_one _ _ _ | exact atI_two _ _ _ _ | exact atI_three _ _ _ _ _)))
    | ((with_reducible apply o_ixL); (focus assumption); (focus (repeat (first | exact List.mem_cons_self | apply List.mem_cons_of_mem))); (focus (first | exact atI_zero _ _ | exact atI_one _ _ _ | exact atI_two _ _ _ _ | exact atI_three _ _ _ _ _)))
    | with_reducible refine o_slT ?_
    | with_reducible refine o_slA ?_
    | ((with_reducible apply o_ixZT); (focus (first | exact atI_zero _ _ | exact atI_one _ _ _ | exact atI_two _ _ _ _ | exact atI_three _ _ _ _ _)))
    | ((with_reducible apply o_ixZL); (focus assumption); (focus (repeat (first | exact List.mem_cons_self | apply List.mem_cons_of_mem))); (focus (first | exact atI_zero _ _ | exact atI_one _ _ _ | exact atI_two _ _ _ _ | exact atI_three _ _ _ _ _)))
    | with_reducible refine o_iT1 ?_
    | with_reducible refine o_iT2 ?_
    | with_reducible refine o_iT3 ?_
    | with_reducible refine o_iS1 ?_
    | with_reducible refine o_iS2 ?_
    | with_reducible refine o_iS3 ?_
    | with_reducible refine o_iI1 ?_
    | with_reducible refine o_iI2 ?_
    | with_reducible refine o_iI3 ?_
    | with_reducible refine o_iB1 ?_
    | ((with_reducible apply o_ixA); (focus (first | exact atI_zero _ _ | exact atI_one _ _ _ | exact atI_two _ _ _ _ | exact atI_three _ _ _ _ _)))
    | ((with_reducible apply o_ixAL); (focus assumption); (focus (repeat (first | exact List.mem_cons_self | apply List.mem_cons_of_mem))); (focus (first | exact atI_zero _ _ | exact atI_one _ _ _ | exact atI_two _ _ _ _ | exact atI_three _ _ _ _ _)))
    | ((with_reducible apply o_listAT); (focus assumption); intro l s hl H)
    | ((with_reducible apply o_listT); (focus assumption); intro l s hl H)
    | refine wo_some ?_)
  | ((with_reducible refine wi_go ?_); first
    | with_reducible refine wi_n ?_
    | with_reducible refine wi_t ?_
    | with_reducible refine wi_f ?_
    | ((with_reducible apply wi_yes); (focus omega))
    | ((with_reducible apply wi_no); (focus omega)))
  | ((with_reducible refine bd_go ?_); first
    | ((with_reducible refine bd_nx ?_); try simp only [List.set_cons_succ, List.set_cons_zero])
    | with_reducible refine bd_rt ?_
    | with_reducible refine bd_ct ?_
    | with_reducible refine bd_bk ?_
    | with_reducible refine bd_ex ?_)
  | with_reducible refine w_seq ?_
  | with_reducible refine w_set ?_
  | with_reducible refine wb ?_
  | ((with_reducible apply tupk); (focus exact Nat.le_of_ble_eq_true rfl))
  | with_reducible refine w_sNil ?_
  | with_reducible refine w_ret ?_
  | with_reducible refine w_expr ?_
  | with_reducible refine tru_b ?_
  | with_reducible refine tru_n ?_
  | with_reducible refine tru_i ?_
  | with_reducible refine tru_t ?_
  | ((with_reducible apply tru_l); (focus assumption); (focus (repeat (first | exact List.mem_cons_self | apply List.mem_cons_of_mem))))
  | with_reducible refine is_tup ?_
  | with_reducible refine enmk ?_
  | with_reducible refine is_str ?_
  | ((with_reducible apply is_lstH); (focus assumption); (focus (repeat (first | exact List.mem_cons_self | apply List.mem_cons_of_mem))))
  | ((with_reducible apply mt_lst); (focus assumption); (focus (repeat (first | exact List.mem_cons_self | apply List.mem_cons_of_mem))))
  | with_reducible refine w_for ?_
  | with_reducible refine mt_str ?_
  | with_reducible refine oi ?_
  | with_reducible refine w_asg ?_
  | with_reducible refine w_asgL ?_
  | with_reducible refine w_put ?_
  | ((with_reducible refine w_augg ?_); refine w_aug (by exact rfl) ?_)
  | with_reducible refine w_raise ?_
  | with_reducible refine w_retN ?_
  | with_reducible refine w_brk ?_
  | with_reducible refine w_cnt ?_
  | with_reducible refine tn_nx ?_
  | with_reducible refine nx_nx ?_
  | with_reducible refine tn_ct ?_
  | with_reducible refine tn_bk ?_
  | with_reducible refine tn_rt ?_
  | with_reducible refine tn_ex ?_
  | with_reducible refine fin_rt ?_
  | with_reducible refine fin_nx ?_
  | with_reducible refine fin_ex ?_
  | ((with_reducible apply newl); (focus assumption); (focus exact Nat.le_of_ble_eq_true rfl); intro l s hl H))
local macro_rules | `(tactic| subst_eqs) => `(tactic| repeat eq_refl)
/-! ### the quick rules of this law -/
def IsTp : Cell → Prop := fun c => ∃ (x : Int) (gs : List Int), c = .lst ((x :: gs).map D.int) ∧ gs.length ≤ 100
theorem has_uniq {s : Store} {Z : Hs} {l : Nat} {P Q : Cell → Prop} (H : Has s Z) (h : (l, P) ∈ Z) (h2 : (l, Q) ∈ Z) : P = Q := by
  obtain ⟨i, hi, e1⟩ := List.getElem_of_mem h
  obtain ⟨j, hj, e2⟩ := List.getElem_of_mem h2
  have nd := List.pairwise_iff_getElem.mp H.1
  have a1 : (Z.map (·.1))[i]'(by simpa using hi) = l := by simp [e1]
  have a2 : (Z.map (·.1))[j]'(by simpa using hj) = l := by simp [e2]
  rcases Nat.lt_trichotomy i j with w | w | w
  · exact absurd (a1.trans a2.symm) (nd i j (by simpa using hi) (by simpa using hj) w)
  · subst w
    rw [e1] at e2
    exact (Prod.mk.inj e2).2
  · exact absurd (a2.trans a1.symm) (nd j i (by simpa using hj) (by simpa using hi) w)
section
variable {s : Store} {t : Nat} {Z : Hs} {K : D → Store → Prop} {E : Ex → Store → Prop}
theorem draw_w (H : Has s Z) (ht : (t, IsTp) ∈ Z) {many : Int} (h1 : many < 1073741824) (k : ∀ (j : Int) (s' : Store), 0 ≤ j → (j < many ∨ (many ≤ 0 ∧ j = 0)) → Has s' Z → K (.int j) s') : WR (m_d_law_draw [.loc t, .int many] s) K E := by
  obtain ⟨x, ex, a, gs, rfl, hl⟩ := H.get ht
  obtain ⟨j, s', e, j0, j1, ⟨b, gs', g1, g2⟩, kp⟩ := draw_spec ⟨a, gs, ex, hl⟩ h1
  exact wr_eq e (k j s' j0 j1 (H.kp kp ht ⟨_, g1, b, gs', rfl, g2⟩))
theorem tape_w {ns : List Int} (hn : ns.length ≤ 63) : ∃ t s, m_d_law_tape [.fl (ns.map D.int)] [] = .ok (.loc t) s ∧ Has s [(t, IsTp)] := by
  obtain ⟨t, s, e, x, gs, h1, h2⟩ := tape_spec ns hn
  exact ⟨t, s, e, by simp, fun y hy => by simp at hy; subst hy; exact ⟨_, h1, x, gs, rfl, h2⟩⟩
theorem wr_ext {r : R D} {d : D} (h : ∃ s', r = .ok d s' ∧ Ext s s') (H : Has s Z) (k : ∀ s', Has s' Z → K d s') : WR r K E := by
  obtain ⟨s', e, x⟩ := h
  exact wr_eq e (k s' (H.ext x))
variable {first last : Int} {deeds : List Str} {ents : List Ent}
theorem way_w (G : Good deeds ents) (H : Has s Z) (k : ∀ s', Has s' Z → K (.str (wayS (kinds ents))) s') : WR (m_way_of [bookD first last deeds ents] s) K E :=
  wr_ext ⟨_, way_spec first last deeds ents G.short s, _, rfl⟩ H k
theorem plain_w (G : Good deeds ents) (H : Has s Z) (k : ∀ s', Has s' Z → K (.bl (ents.all fun e => plainR e.2)) s') : WR (m_is_plain [bookD first last deeds ents] s) K E :=
  wr_ext (plain_spec first last G s) H k
theorem order_w (G : Good deeds ents) (H : Has s Z) (k : ∀ s', Has s' Z → K (.bl (orderB first last deeds ents)) s') : WR (m_is_order [bookD first last deeds ents] s) K E :=
  wr_ext (order_spec first last G s) H k
theorem strict_w (G : Good deeds ents) (H : Has s Z) (k : ∀ s', Has s' Z → K (.bl (orderB first last deeds ents && strictB ents)) s') : WR (m_is_strict [bookD first last deeds ents] s) K E :=
  wr_ext (strict_spec first last G s) H k
theorem loop_w {E1 : List Edge} {lg : Nat} (nd : deeds.Nodup) (hn : deeds.length ≤ 100) (hE : ∀ e ∈ E1, e.1 ∈ deeds ∧ e.2.1 ∈ deeds) (H : Has s Z) (hg : (lg, Ls (E1.map (gapD deeds))) ∈ Z)
    (k : ∀ s', Has s' Z → K (.bl (!settles E1 (deeds.length + 1) zero)) s') : WR (m_d_law_loop [.tup (deeds.map D.str), .loc lg] s) K E :=
  wr_ext (loop_spec nd hn hE (H.lst hg)) H k
end
/-! ### _law_due -/
def dueL (first last : Int) (deeds : List Str) (ents : List Ent) : List D :=
  [.str (wayS (kinds ents)), .bl (ents.all fun e => plainR e.2), .bl (orderB first last deeds ents), .bl (orderB first last deeds ents && strictB ents)]
theorem kept_wid {ents : List Ent} (h : (ents.all fun e => gapOk e.2) = true) : (kept ents).foldl (fun m e => max m e.2.2) 1 = wid ents := by rw [kept_all h]; rfl
theorem kept_in {deeds : List Str} {ents : List Ent} (G : Good deeds ents) : ∀ e ∈ kept ents, e.1 ∈ deeds ∧ e.2.1 ∈ deeds := fun e he => by
  unfold kept at he
  obtain ⟨x, hx, hq⟩ := List.mem_filterMap.mp he
  have hok := G.ok x hx
  split at hq
  · rename_i hg
    cases hq
    obtain ⟨dg, rc⟩ := x
    cases rc with
    | gap a b w => exact ⟨hok.1, hok.2.1⟩
    | yrs _ _ => simp [gapOk] at hg
    | oth _ _ => simp [gapOk] at hg
  · cases hq
def keptM (ents : List Ent) : Int := (kept ents).foldl (fun m e => max m e.2.2) 1
theorem keptM_bnd {deeds : List Str} {ents : List Ent} (G : Good deeds ents) : 1 ≤ keptM ents ∧ keptM ents ≤ 1000000 := by
  have key : ∀ (E : List Edge) (m : Int), 1 ≤ m → m ≤ 1000000 → (∀ e ∈ E, e.2.2 ≤ 1000000) → 1 ≤ E.foldl (fun m e => max m e.2.2) m ∧ E.foldl (fun m e => max m e.2.2) m ≤ 1000000 := by
    intro E
    induction E with
    | nil => intro m h1 h2 _; exact ⟨h1, h2⟩
    | cons e E ih =>
      intro m h1 h2 h3
      have := h3 e (by simp)
      exact ih (max m e.2.2) (by omega) (by omega) fun e' he' => h3 e' (by simp [he'])
  refine key _ 1 (by omega) (by omega) fun e he => ?_
  unfold kept at he
  obtain ⟨x, hx, hq⟩ := List.mem_filterMap.mp he
  have := G.ok x hx
  obtain ⟨dg, rc⟩ := x
  cases rc with
  | gap a b w =>
    split at hq
    · cases hq; exact this.2.2.2
    · cases hq
  | yrs _ _ => simp [gapOk] at hq
  | oth _ _ => simp [gapOk] at hq
theorem keptM_max (ents : List Ent) (s : Store) {l : Nat} (h : s[l]? = some (.lst (D.int 1 :: (kept ents).map fun e => .int e.2.2))) : dMaxL [.loc l] s = some (.int (keptM ents), s) := by
  have e1 : (D.int 1 :: (kept ents).map fun e => D.int e.2.2) = (1 :: (kept ents).map fun e => e.2.2).map D.int := by simp
  rw [e1] at h
  have e2 := intsOf_map (1 :: (kept ents).map fun e => e.2.2)
  have e3 : (1 :: (kept ents).map fun e => e.2.2).max? = some (keptM ents) := by
    rw [List.max?_cons', List.foldl_map]; rfl
  simp only [dMaxL, lstOf_loc h, Option.bind_some, e2, e3, Option.map_some]
section
variable {s : Store} {t : Nat} {Z : Hs} {K : D → Store → Prop} {E : Ex → Store → Prop} {first last : Int} {deeds : List Str} {ents : List Ent}
theorem due_w (G : Good deeds ents) (H : Has s Z) (k : ∀ l s', Has s' ((l, Ls (dueL first last deeds ents)) :: Z) → K (.loc l) s') : WR (m_d_law_due [bookD first last deeds ents] s) K E := by
  have hsh := G.short
  have hfew := G.few
  unfold m_d_law_due b_d_law_due bookD
  subst_eqs
  generalize hB : D.tup [D.int first, D.int last, D.tup (deeds.map D.str), D.tup (ents.map entD)] = B
  refine asg (env2 := [some B, some (.int first), some (.int last), some (.tup (deeds.map D.str)), some (.tup (ents.map entD)), none, none, none, none, none, none, none, none, none, none]) (by rw [← hB]; rfl) ?_
  subst_eqs
  have e := lcL_map (gd := always) (g := gT 2 (gsC (gN 5) (gsC (gN 6) (gsN)))) (t := tT) (e := le_d_law_due_3) (env := [some B, some (.int first), some (.int last), some (.tup (deeds.map D.str)), some (.tup (ents.map entD)), none, none, none, none, none, none, none, none, none, none]) (s := s) trivial entD (fun e => D.str e.2.kind) ents
    (fun x _ => by
      have := recK x.2 s
      simp [entD, le_d_law_due_3, tT, this]) (by omega)
  have e2 : ents.map (fun e => D.str e.2.kind) = (kinds ents).map D.str := by simp [kinds]
  rw [e2] at e
  refine wr_eq e ?_
  have H1 := H.new (.lst ((kinds ents).map D.str))
  generalize s ++ [Cell.lst ((kinds ents).map D.str)] = s1 at *
  generalize s.length = l1 at *
  subst_eqs
  have iu : ∀ x : Str, dIn (.str x) (.loc l1) s1 = some (.bl (decide (x ∈ kinds ents)), s1) := fun x => dIn_of (dInB_locS (H1.lst (.head _)) x)
  refine bd_cut (fun env s => s = s1 ∧ env = [some B, some (.int first), some (.int last), some (.tup (deeds.map D.str)), some (.tup (ents.map entD)), none, none, some (.loc l1), some (.str (if ("under" : Str) ∈ kinds ents then "ante" else "both")), none, none, none, none, none, none]) ?_ fun env s ⟨e1, e2⟩ => ?_
  · refine w_if ?_
    subst_eqs
    refine wo_eq (iu _) ?_
    subst_eqs
    refine wi_d (fun c => ?_) (fun c => ?_)
    all_goals subst_eqs
    all_goals simp [Nx, c]
  subst e1 e2
  refine w_seq ?_
  refine bd_cut (fun env s' => s' = s ∧ env = [some B, some (.int first), some (.int last), some (.tup (deeds.map D.str)), some (.tup (ents.map entD)), none, none, some (.loc l1), some (.str (if ("over" : Str) ∈ kinds ents then "post" else if ("under" : Str) ∈ kinds ents then "ante" else "both")), none, none, none, none, none, none]) ?_ fun env s' ⟨e1, e2⟩ => ?_
  · refine w_if ?_
    subst_eqs
    refine wo_eq (iu _) ?_
    subst_eqs
    refine wi_d (fun c => ?_) (fun c => ?_)
    all_goals subst_eqs
    all_goals simp [Nx, c]
  subst e1 e2
  refine w_seq ?_
  refine bd_cut (fun env s => s = s' ∧ env = [some B, some (.int first), some (.int last), some (.tup (deeds.map D.str)), some (.tup (ents.map entD)), none, none, some (.loc l1), some (.str (wayS (kinds ents))), none, none, none, none, none, none]) ?_ fun env s ⟨e1, e2⟩ => ?_
  · refine w_if ?_
    by_cases c1 : ("one" : Str) ∈ kinds ents <;> by_cases c2 : ("under" : Str) ∈ kinds ents <;> by_cases c3 : ("over" : Str) ∈ kinds ents <;> simp [WR, WI, Nx, wayS, iu, c1, c2, c3]
  subst e1 e2
  refine w_seq ?_
  refine bd_cut (fun env s' => s' = s ∧ env = [some B, some (.int first), some (.int last), some (.tup (deeds.map D.str)), some (.tup (ents.map entD)), none, none, some (.loc l1), some (.str (wayS (kinds ents))), some (.bl (decide (wayS (kinds ents) = "both"))), none, none, none, none, none]) (by simp [Nx]) fun env s' ⟨e1, e2⟩ => ?_
  subst e1 e2
  refine w_seq ?_
  refine bd_cut (fun env s => s = s' ∧ env = [some B, some (.int first), some (.int last), some (.tup (deeds.map D.str)), some (.tup (ents.map entD)), none, none, some (.loc l1), some (.str (wayS (kinds ents))), some (.bl (decide (wayS (kinds ents) = "both"))), some (.bl true), none, none, none, none]) (by simp [Nx]) fun env s ⟨e1, e2⟩ => ?_
  subst e1 e2
  refine w_seq ?_
  refine bd_cut (fun env s' => s' = s ∧ env = [some B, some (.int first), some (.int last), some (.tup (deeds.map D.str)), some (.tup (ents.map entD)), none, none, some (.loc l1), some (.str (wayS (kinds ents))), some (.bl (decide (wayS (kinds ents) = "both"))), some (.bl true), some (.bl true), none, none, none]) (by simp [Nx]) fun env s' ⟨e1, e2⟩ => ?_
  subst e1 e2
  refine w_seq ?_
  refine bd_cut (fun env s => s = s' ++ [.lst []] ∧ env = [some B, some (.int first), some (.int last), some (.tup (deeds.map D.str)), some (.tup (ents.map entD)), none, none, some (.loc l1), some (.str (wayS (kinds ents))), some (.bl (decide (wayS (kinds ents) = "both"))), some (.bl true), some (.bl true), some (.loc s'.length), none, none]) (by simp [Nx]) fun env s ⟨e1, e2⟩ => ?_
  subst e1 e2
  refine w_seq ?_
  obtain ⟨env', e, o5, o6, he⟩ := due2_loop (B := B) (first := first) (last := last) G (some (.int first)) (some (.int last)) (some (.loc l1)) (some (.str (wayS (kinds ents)))) s' (decide (wayS (kinds ents) = "both")) none none none none
  refine bd_cut (fun env s => s = s' ++ [.lst ((kept ents).map (gapD deeds))] ∧ env = env') ?_ fun env s ⟨e1, e2⟩ => ?_
  · have e3 : (iSeq (eV 4) [some B, some (.int first), some (.int last), some (.tup (deeds.map D.str)), some (.tup (ents.map entD)), none, none, some (.loc l1), some (.str (wayS (kinds ents))), some (.bl (decide (wayS (kinds ents) = "both"))), some (.bl true), some (.bl true), some (.loc s'.length), none, none] (s' ++ [.lst []])) = .ok (Itm.mk (ents.map entD) always) (s' ++ [.lst []]) := by simp
    rw [sFor_eq, e3]
    simp only [R.then]
    rw [e]
    exact ⟨rfl, rfl⟩
  subst e1 e2
  subst he
  rw [plain_eq G]
  have H2 := H1.new (.lst ((kept ents).map (gapD deeds)))
  generalize s' ++ [Cell.lst ((kept ents).map (gapD deeds))] = s2 at *
  generalize s'.length = l2 at *
  subst_eqs
  rename_i l3 s3 hl3 H3
  have kl : (kept ents).length ≤ 1000 := Nat.le_trans (List.length_filterMap_le _ _) hsh
  refine wr_eq (lcL_map (H3.lst (.tail _ (.head _))) (gapD deeds) (fun e => D.int e.2.2) (kept ents) (fun e _ => by simp [gapD, le_d_law_due_1, tT, ix2]) (by omega)) ?_
  have H4 := H3.new (.lst ((kept ents).map fun e => D.int e.2.2))
  generalize s3 ++ [Cell.lst ((kept ents).map fun e => D.int e.2.2)] = s4 at *
  generalize s3.length = l4 at *
  refine o_addL H4 (.tail _ (.head _)) (.head _) (by simp; omega) fun l5 s5 h5 H5 => ?_
  subst_eqs
  refine wo_eq (keptM_max ents s5 (H5.lst (.head _))) ?_
  have hM := keptM_bnd G
  generalize hMM : keptM ents = M at *
  subst_eqs
  refine bd_cut (fun env s => s = s5 ∧ env = [some B, some (.int first), some (.int last), some (.tup (deeds.map D.str)), some (.tup (ents.map entD)), o5, o6, some (.loc l1), some (.str (wayS (kinds ents))), some (.bl (ents.all fun e => plainR e.2)), some (.bl ((ents.all fun e => gapOk e.2) && roomy first last deeds.length M)), some (.bl ((kept ents).all fun e => decide (1 ≤ e.2.2))), some (.loc l2), some (.int M), none]) ?_ fun env s ⟨e1, e2⟩ => ?_
  · refine w_if ?_
    subst_eqs
    simp only [List.length_map]
    refine wi_d (fun c => ?_) (fun c => ?_)
    all_goals subst_eqs
    all_goals simp [Nx, roomy, c]
  subst e1 e2
  have eo : ((ents.all fun e => gapOk e.2) && roomy first last deeds.length M && settles (kept ents) (deeds.length + 1) zero) = orderB first last deeds ents := by
    unfold orderB
    cases hg : ents.all fun e => gapOk e.2 with
    | false => simp
    | true => rw [kept_all hg, ← kept_wid hg]; unfold keptM at hMM; rw [hMM]; simp
  have es : (orderB first last deeds ents && (kept ents).all fun e => decide (1 ≤ e.2.2)) = (orderB first last deeds ents && strictB ents) := by
    unfold orderB
    cases hg : ents.all fun e => gapOk e.2 with
    | false => simp
    | true => rw [kept_all hg]; rfl
  refine w_seq ?_
  refine bd_cut (fun env s' => Has s' Z ∧ env = [some B, some (.int first), some (.int last), some (.tup (deeds.map D.str)), some (.tup (ents.map entD)), o5, o6, some (.loc l1), some (.str (wayS (kinds ents))), some (.bl (ents.all fun e => plainR e.2)), some (.bl (orderB first last deeds ents)), some (.bl ((kept ents).all fun e => decide (1 ≤ e.2.2))), some (.loc l2), some (.int M), none]) ?_ fun env s' ⟨H6, e2⟩ => ?_
  · refine w_if ?_
    cases hq : ((ents.all fun e => gapOk e.2) && roomy first last deeds.length M) with
    | false =>
      rw [hq] at eo
      subst_eqs
      refine ⟨H5.drop.drop.drop.drop.drop, ?_⟩
      rw [← eo]; rfl
    | true =>
      rw [hq] at eo
      subst_eqs
      refine loop_w G.nd G.few (kept_in G) H5 (.tail _ (.tail _ (.tail _ (.head _)))) fun s' H6 => ?_
      subst_eqs
      refine wi_b (fun c => ?_) (fun c => ?_)
      all_goals subst_eqs
      all_goals refine ⟨H6.drop.drop.drop.drop.drop, ?_⟩
      all_goals rw [← eo]
      · rw [c]; rfl
      · rw [c]; rfl
  subst e2
  subst_eqs
  have k2 := k
  unfold dueL at k2
  rw [← es] at k2
  refine wi_b (fun c => ?_) (fun c => ?_)
  all_goals rw [c] at k2 ⊢
  all_goals subst_eqs
  · rename_i l s hl H
    exact k2 l s H
  · rename_i l s hl H
    exact k2 l s H
end
/-! ### _law_told -/
theorem ixZL {s : Store} {l : Nat} {xs : List D} {i : Int} {d : D} (h : s[l]? = some (.lst xs)) (e : L2.atI xs i = some d) : dIxZ (.loc l) (.int i) s = some (d, s) := by rw [dIxZ_loc h, dIx_loc h, e]; rfl
theorem ne_due {s : Store} {l k : Nat} {w : Str} {a b c : Bool} (hw : Tk w) (h : s[l]? = some (.lst [.str w, .bl a, .bl b, .bl c])) (h2 : s[k]? = some (.lst [.str w, .bl a, .bl b, .bl c])) : dNe (.loc l) (.loc k) s = some (.bl false, s) := by
  have h1 : py1 s (.loc l) = some (.list [.str w, .bool a, .bool b, .bool c]) := by simp [py1, h, pys0, py0]
  have h3 : py1 s (.loc k) = some (.list [.str w, .bool a, .bool b, .bool c]) := by simp [py1, h2, pys0, py0]
  have h6 : PyData.eqv (.list [.str w, .bool a, .bool b, .bool c]) (.list [.str w, .bool a, .bool b, .bool c]) = true := by simp [PyData.eqv, PyData.eqvAll]
  have h7 : dScal (.loc l) (.loc k) = none := rfl
  have sh : SeqAt.shaped (.list [.str w, .bool a, .bool b, .bool c]) = true := by simp [SeqAt.shaped, PyData.canLay0, PyData.canLayAll0, PyData.depth, PyData.depthAll, tk_ok hw]
  simp [dNe, dEqB, h7, h1, h3, sh, h6]
theorem tk_way (ks : List Str) : Tk (wayS ks) := by
  unfold wayS
  have h1 : Tk "mixed" := by unfold Tk; decide +kernel
  have h2 : Tk "ante" := by unfold Tk; decide +kernel
  have h3 : Tk "post" := by unfold Tk; decide +kernel
  have h4 : Tk "both" := by unfold Tk; decide +kernel
  split
  · exact h1
  · split
    · exact h2
    · split
      · exact h3
      · exact h4
section
variable {s : Store} {t : Nat} {Z : Hs} {K : D → Store → Prop} {E : Ex → Store → Prop} {first last : Int} {deeds : List Str} {ents : List Ent}
theorem told_w {wanted : D} (G : Good deeds ents) (H : Has s Z) (w : wanted = .non ∨ ∃ lw, wanted = .loc lw ∧ (lw, Ls (dueL first last deeds ents)) ∈ Z) (k : ∀ s', Has s' Z → K (.bl true) s') :
    WR (m_d_law_told [bookD first last deeds ents, wanted] s) K E := by
  unfold m_d_law_told b_d_law_told
  subst_eqs
  refine due_w G H fun l s1 H1 => ?_
  subst_eqs
  refine bd_cut (fun env s' => s' = s1 ∧ env = [some (bookD first last deeds ents), some wanted, some (.loc l), none, none, none]) ?_ fun env s' ⟨e1, e2⟩ => ?_
  · rcases w with rfl | ⟨lw, rfl, hw⟩
    · simp [Nx]
    · have e := ne_due (tk_way _) (H1.lst (.head _)) (H1.lst (.tail _ hw))
      have e2 : dIsNot (.loc lw) .non s1 = some (.bl true, s1) := rfl
      simp [Nx, e, e2]
  subst e1 e2
  subst_eqs
  refine way_w G H1 fun s2 H2 => ?_
  refine bd_cut (fun env s' => s' = s2 ∧ env = [some (bookD first last deeds ents), some wanted, some (.loc l), some (.str (wayS (kinds ents))), none, none]) ?_ fun env s' ⟨e1, e2⟩ => ?_
  · subst_eqs
    exact ⟨rfl, rfl⟩
  subst e1 e2
  subst_eqs
  refine bd_cut (fun env s => s = s' ∧ env = [some (bookD first last deeds ents), some wanted, some (.loc l), some (.str (wayS (kinds ents))), none, none]) ?_ fun env s ⟨e1, e2⟩ => ?_
  · have e : dIxZ (.loc l) (.int 0) s' = some (.str (wayS (kinds ents)), s') := ixZL (H2.lst (.head _)) (atI_zero _ _)
    have e3 : dIsi "str" (.str (wayS (kinds ents))) s' = some (.bl true, s') := rfl
    simp [Nx, e, e3]
  subst e1 e2
  subst_eqs
  refine plain_w G H2 fun s3 H3 => ?_
  subst_eqs
  refine order_w G H3 fun s4 H4 => ?_
  subst_eqs
  refine strict_w G H4 fun s5 H5 => ?_
  subst_eqs
  rename_i l6 s6 hl6 H6
  have a0 : ∀ i : Nat, i < 3 → ∃ b, dIxZ (.loc l6) (.int (i : Nat)) s6 = some (.bl b, s6) ∧ dIxZ (.loc l) (.int ((i : Nat) + 1)) s6 = some (.bl b, s6) := by
    intro i hi
    match i, hi with
    | 0, _ => exact ⟨_, ixZL (H6.lst (.head _)) (atI_zero _ _), ixZL (H6.lst (.tail _ (.head _))) (atI_one _ _ _)⟩
    | 1, _ => exact ⟨_, ixZL (H6.lst (.head _)) (atI_one _ _ _), ixZL (H6.lst (.tail _ (.head _))) (atI_two _ _ _ _)⟩
    | 2, _ => exact ⟨_, ixZL (H6.lst (.head _)) (atI_two _ _ _ _), ixZL (H6.lst (.tail _ (.head _))) (atI_three _ _ _ _ _)⟩
  refine rg (n := 3) rfl (by omega) ?_
  refine bd_cut (fun env s => s = s6) ?_ fun env s e1 => ?_
  · refine w_forN (fun i env s => s = s6 ∧ ∃ o5, env = [some (bookD first last deeds ents), some wanted, some (.loc l), some (.str (wayS (kinds ents))), some (.loc l6), o5]) ⟨rfl, _, rfl⟩ ?_ fun env s h => h.1
    rintro i env s hi ⟨e1, o5, e2⟩
    subst e1 e2
    obtain ⟨b, h1, h2⟩ := a0 i hi
    have e3 : ∀ s, dIsi "bool" (.bl b) s = some (.bl true, s) := fun _ => rfl
    cases b <;> simp [bl_d_law_told_1, h1, h2, e3, Turns]
  subst e1
  subst_eqs
  exact k _ H6.drop.drop
end
end Law
namespace Law
open PySem Mi
local macro_rules | `(tactic| ac_rfl) => `(tactic| repeat (first | exact List.mem_cons_self | assumption | apply List.mem_cons_of_mem | apply List.mem_append_right))
local macro_rules | `(tactic| eq_refl) => `(tactic| first
  | ((with_reducible refine wr_go ?_); first
    | ((with_reducible refine w_Vg ?_); first
      | with_reducible refine w_V0 ?_
      | with_reducible refine w_V1 ?_
      | with_reducible refine w_V2 ?_
      | with_reducible refine w_V3 ?_
      | with_reducible refine w_V4 ?_
      | with_reducible refine w_V5 ?_
      | with_reducible refine w_V6 ?_
      | with_reducible refine w_V7 ?_
      | with_reducible refine w_V8 ?_
      | with_reducible refine w_V9 ?_
      | with_reducible refine w_V10 ?_
      | with_reducible refine w_V11 ?_
      | with_reducible refine w_V12 ?_
      | with_reducible refine w_V13 ?_
      | with_reducible refine w_V14 ?_
      | with_reducible refine w_V15 ?_
      | with_reducible refine w_V16 ?_
      | with_reducible refine w_V17 ?_
      | with_reducible refine w_V18 ?_
      | with_reducible refine w_V19 ?_
      | with_reducible refine w_V20 ?_
      | with_reducible refine w_V21 ?_
      | with_reducible refine w_V22 ?_
      | with_reducible refine w_V23 ?_
      | with_reducible refine w_V24 ?_
      | with_reducible refine w_V25 ?_
      | with_reducible refine w_V26 ?_
      | with_reducible refine w_V27 ?_
      | with_reducible refine w_V28 ?_
      | with_reducible refine w_V29 ?_
      | with_reducible refine w_V30 ?_
      | with_reducible refine w_V31 ?_
      | refine w_V (by exact rfl) ?_)
    | with_reducible refine w_C ?_
    | with_reducible refine w_cons ?_
    | with_reducible refine w_nil ?_
    | with_reducible refine w_e2 ?_
    | with_reducible refine w_call ?_
    | with_reducible refine w_tV ?_
    | with_reducible refine w_tup ?_
    | with_reducible refine w_e1 ?_
    | with_reducible refine w_fn ?_
    | with_reducible refine w_tru ?_
    | with_reducible refine w_and ?_
    | with_reducible refine w_or ?_
    | with_reducible refine w_not ?_
    | with_reducible refine w_lst ?_
    | with_reducible refine w_mt ?_
    | with_reducible refine w_mt0 ?_
    | with_reducible refine w_rng ?_
    | with_reducible refine w_rng2 ?_
    | with_reducible refine w_iSeq ?_
    | with_reducible refine w_eif ?_
    | with_reducible refine w_eAnd ?_
    | with_reducible refine w_eOr ?_
    | with_reducible refine w_eNot ?_
    | with_reducible refine w_notT ?_
    | with_reducible refine w_chain ?_
    | with_reducible refine w_oN ?_
    | with_reducible refine w_oS ?_
    | with_reducible refine w_sl ?_
    | with_reducible refine w_lc ?_
    | with_reducible refine w_enm ?_
    | with_reducible refine w_enmS ?_
    | with_reducible refine w_zip ?_
    | with_reducible refine w_fmt ?_
    | with_reducible refine w_fs ?_
    | with_reducible refine w_jsn ?_
    | with_reducible refine w_jsc ?_
    | with_reducible refine w_dc ?_
    | ((with_reducible apply w_dict0); (focus assumption); intro l s hl H)
    | with_reducible refine w_tT ?_
    | ((with_reducible refine w_fnM ?_); simp only [List.map_cons, List.map_nil, List.cons_append, List.nil_append, List.replicate_succ, List.replicate_zero, Nat.reduceSub]))
  | ((with_reducible refine wo_go ?_); first
    | with_reducible refine o_max ?_
    | with_reducible refine o_min ?_
    | with_reducible refine o_lenT ?_
    | ((with_reducible apply o_lenL); (focus assumption); (focus (repeat (first | exact List.mem_cons_self | apply List.mem_cons_of_mem))))
    | ((with_reducible apply o_tupL); (focus assumption); (focus (repeat (first | exact List.mem_cons_self | apply List.mem_cons_of_mem))))
    | ((with_reducible apply o_sumL); (focus assumption); (focus (repeat (first | exact List.mem_cons_self | apply List.mem_cons_of_mem))))
    | ((with_reducible apply o_mul); (focus omega))
    | ((with_reducible apply o_div); (focus omega))
    | ((with_reducible apply o_mod); (focus omega))
    | ((with_reducible apply o_pow); (focus (first | omega | decide)))
    | ((with_reducible apply o_ixT); (focus (first | exact atI_zero _ _ | exact atI_one _ _ _ | exact atI_two _ _ _ _ | exact atI_three _ _ _ _ _)))
    | ((with_reducible apply o_ixL); (focus assumption); (focus (repeat (first | exact List.mem_cons_self | apply List.mem_cons_of_mem))); (focus (first | exact atI_zero _ _ | exact atI_one _ _ _ | exact atI_two _ _ _ _ | exact atI_three _ _ _ _ _)))
    | with_reducible refine o_slT ?_
    | with_reducible refine o_slA ?_
    | ((with_reducible apply o_ixZT); (focus (first | exact atI_zero _ _ | exact atI_one _ _ _ | exact atI_two _ _ _ _ | exact atI_three _ _ _ _ _)))
    | ((with_reducible apply o_ixZL); (focus assumption); (focus (repeat (first | exact List.mem_cons_self | apply List.mem_cons_of_mem))); (focus (first | exact atI_zero _ _ | exact atI_one _ _ _ | exact atI_two _ _ _ _ | exact atI_three _ _ _ _ _)))
    | with_reducible refine o_iT1 ?_
    | with_reducible refine o_iT2 ?_
    | with_reducible refine o_iT3 ?_
    | with_reducible refine o_iS1 ?_
    | with_reducible refine o_iS2 ?_
    | with_reducible refine o_iS3 ?_
    | with_reducible refine o_iI1 ?_
    | with_reducible refine o_iI2 ?_
    | with_reducible refine o_iI3 ?_
    | with_reducible refine o_iB1 ?_
    | ((with_reducible apply o_ixA); (focus (first | exact atI_zero _ _ | exact atI_one _ _ _ | exact atI_two _ _ _ _ | exact atI_three _ _ _ _ _)))
    | ((with_reducible apply o_ixAL); (focus assumption); (focus (repeat (first | exact List.mem_cons_self | apply List.mem_cons_of_mem))); (focus (first | exact atI_zero _ _ | exact atI_one _ _ _ | exact atI_two _ _ _ _ | exact atI_three _ _ _ _ _)))
    | ((with_reducible apply o_listAT); (focus assumption); intro l s hl H)
    | ((with_reducible apply o_listT); (focus assumption); intro l s hl H)
    | refine wo_some ?_)
  | ((with_reducible refine wi_go ?_); first
    | with_reducible refine wi_n ?_
    | with_reducible refine wi_t ?_
    | with_reducible refine wi_f ?_
    | ((with_reducible apply wi_yes); (focus omega))
    | ((with_reducible apply wi_no); (focus omega)))
  | ((with_reducible refine bd_go ?_); first
    | ((with_reducible refine bd_nx ?_); try simp only [List.set_cons_succ, List.set_cons_zero])
    | with_reducible refine bd_rt ?_
    | with_reducible refine bd_ct ?_
    | with_reducible refine bd_bk ?_
    | with_reducible refine bd_ex ?_)
  | with_reducible refine w_seq ?_
  | with_reducible refine w_set ?_
  | with_reducible refine wb ?_
  | ((with_reducible apply tupk); (focus exact Nat.le_of_ble_eq_true rfl))
  | with_reducible refine w_sNil ?_
  | with_reducible refine w_ret ?_
  | with_reducible refine w_expr ?_
  | with_reducible refine tru_b ?_
  | with_reducible refine tru_n ?_
  | with_reducible refine tru_i ?_
  | with_reducible refine tru_t ?_
  | ((with_reducible apply tru_l); (focus assumption); (focus (repeat (first | exact List.mem_cons_self | apply List.mem_cons_of_mem))))
  | with_reducible refine is_tup ?_
  | with_reducible refine enmk ?_
  | with_reducible refine is_str ?_
  | ((with_reducible apply is_lstH); (focus assumption); (focus (repeat (first | exact List.mem_cons_self | apply List.mem_cons_of_mem))))
  | ((with_reducible apply mt_lst); (focus assumption); (focus (repeat (first | exact List.mem_cons_self | apply List.mem_cons_of_mem))))
  | with_reducible refine w_for ?_
  | with_reducible refine mt_str ?_
  | with_reducible refine oi ?_
  | with_reducible refine w_asg ?_
  | with_reducible refine w_asgL ?_
  | with_reducible refine w_put ?_
  | ((with_reducible refine w_augg ?_); refine w_aug (by exact rfl) ?_)
  | with_reducible refine w_raise ?_
  | with_reducible refine w_retN ?_
  | with_reducible refine w_brk ?_
  | with_reducible refine w_cnt ?_
  | with_reducible refine tn_nx ?_
  | with_reducible refine nx_nx ?_
  | with_reducible refine tn_ct ?_
  | with_reducible refine tn_bk ?_
  | with_reducible refine tn_rt ?_
  | with_reducible refine tn_ex ?_
  | with_reducible refine fin_rt ?_
  | with_reducible refine fin_nx ?_
  | with_reducible refine fin_ex ?_
  | ((with_reducible apply newl); (focus assumption); (focus exact Nat.le_of_ble_eq_true rfl); intro l s hl H))
local macro_rules | `(tactic| subst_eqs) => `(tactic| repeat eq_refl)
/-! ### _law_names -/
def kS (n : Nat) : Str := "k" ++ Str.ofString (toString ((n : Nat) : Int))
theorem cp_num (n : Nat) : cp (Str.ofString (toString ((n : Nat) : Int))) = TL.numL n := TL.tl_num n
theorem kS_inj {a b : Nat} (h : kS a = kS b) : a = b := by
  have e := congrArg cp h
  have e1 : ∀ n, cp (kS n) = cp "k" ++ TL.numL n := fun n => by rw [← cp_num]; exact TL.tl_append _ _
  rw [e1, e1] at e
  exact TL.numL_inj (List.append_cancel_left e)
theorem free_k (A : List Str) (n0 : Nat) : ∃ m, 1 ≤ m ∧ m ≤ A.length + 1 ∧ kS (n0 + m) ∉ A := by
  apply Classical.byContradiction
  intro h
  have h2 : ∀ m, 1 ≤ m → m ≤ A.length + 1 → kS (n0 + m) ∈ A := fun m h1 h3 => Classical.byContradiction fun h4 => h ⟨m, h1, h3, h4⟩
  have nd : ((List.range (A.length + 1)).map fun i => kS (n0 + (i + 1))).Nodup := by
    unfold List.Nodup
    rw [List.pairwise_map]
    exact List.nodup_range.imp fun {a b} ne e => ne (by have := kS_inj e; omega)
  have := nd.length_le_of_subset (l₂ := A) fun x hx => by
    obtain ⟨i, hi, rfl⟩ := List.mem_map.mp hx
    exact h2 _ (by omega) (by have := List.mem_range.mp hi; omega)
  rw [List.length_map, List.length_range] at this
  omega
theorem num_len {n : Nat} (h : n ≤ 1000000) : (Str.ofString (toString ((n : Nat) : Int))).length ≤ 7 := by
  rw [TL.len_tl]
  have : TL.tl (Str.ofString (toString ((n : Nat) : Int))) = TL.numL n := TL.tl_num n
  rw [this]
  exact TL.numL_len (by omega) (by omega)
theorem dstr_n {n : Nat} (h : n ≤ 1000000) (s : Store) : dStr [.int (n : Nat)] s = some (.str (Str.ofString (toString ((n : Nat) : Int))), s) := by
  simp only [dStr]
  rw [if_pos]
  show n.log2 < 1920
  by_cases h0 : n = 0
  · subst h0; simp
  · refine Nat.lt_of_lt_of_le ((Nat.log2_lt h0).mpr (show n < 2 ^ 20 by omega)) (by omega)
section
variable {s : Store} {t : Nat} {Z : Hs} {K : D → Store → Prop} {E : Ex → Store → Prop}
theorem o_srtL {A : List Str} {l : Nat} (H : Has s Z) (hm : (l, Ls (A.map D.str)) ∈ Z) (k : ∀ l s', Has s' ((l, Ls ((srtZ A).map D.str)) :: Z) → K (.loc l) s') : WO (dSortedD [.loc l] s) K := by
  obtain ⟨h1, h2⟩ := srtZ_ok A
  refine wo_eq (d := .loc s.length) (s := s ++ [.lst ((srtZ A).map D.str)]) ?_ (k _ _ (H.new _))
  have e := H.lst hm
  simp [dSortedD, dicOf, e, dSorted, seqOf, lstOf, h1, h2]
theorem nx_while {Q : Sl → Store → Prop} {c : ME Bool} {f : MS} {env : Sl} {s : Store} (I : Nat → Sl → Store → Prop) {n : Nat} (h0 : I n env s) (hs : ∀ n env s, I n env s → WR (c env s) (fun b s' => WI b (Turns (fun env s => ∃ m, m < n ∧ I m env s) (Nx Q) (f env s')) (Q env s')) NoE) : Nx Q (sWhile c f env s) :=
  w_while (P := Nx Q) I (fun h => h) h0 hs
theorem names_w {many : Nat} (hn : many ≤ 100) (H : Has s Z) (ht : (t, IsTp) ∈ Z) (k : ∀ l s' (A : List Str), A.length = many → A.Nodup → Has s' ((l, Ls (A.map D.str)) :: Z) → K (.loc l) s') : WR (m_d_law_names [.loc t, .int (many : Nat)] s) K E := by
  unfold m_d_law_names b_d_law_names
  subst_eqs
  rename_i l s1 hl H1
  refine rg (n := many) rfl (by omega) ?_
  refine bd_cut (fun env s' => ∃ (A : List Str) (o4 o5 o6 : Option D), A.length = many ∧ A.Nodup ∧ env = [some (.loc t), some (.int (many : Nat)), some (.str "qwertyuiopasdfghjklzxcvbnm"), some (.loc l), o4, o5, o6] ∧ Has s' ((l, Ls (A.map D.str)) :: Z)) ?_ ?_
  · refine w_forN (fun i env s' => ∃ (A : List Str) (n : Nat) (o5 o6 : Option D), A.length = i ∧ n ≤ 200 * i ∧ A.Nodup ∧ env = [some (.loc t), some (.int (many : Nat)), some (.str "qwertyuiopasdfghjklzxcvbnm"), some (.loc l), some (.int (n : Nat)), o5, o6] ∧ Has s' ((l, Ls (A.map D.str)) :: Z)) ⟨[], 0, _, _, rfl, by omega, by simp, rfl, H1⟩ ?_ ?_
    · rintro i env s' hi ⟨A, n, o5, o6, hA, hB, nd, rfl, H2⟩
      unfold bl_d_law_names_3
      subst_eqs
      refine draw_w H2 (.tail _ ht) (by omega) fun j s j0 j1 H => ?_
      have l26 : (cp "qwertyuiopasdfghjklzxcvbnm").length = 26 := by decide +kernel
      refine o_ixZS (by decide +kernel) j0 (by omega) fun c hc => ?_
      subst_eqs
      rename_i l2 s2 hl2 H3
      refine draw_w H3 (.tail _ (.tail _ ht)) (by omega) fun j2 s j0 j1 H => ?_
      refine o_ixZLm H (.head _) j0 (by simp; omega) fun d hd _ => ?_
      obtain ⟨w, rfl, hw⟩ : ∃ w, d = .str w ∧ w.length ≤ 10 := by
        simp only [List.mem_cons, List.not_mem_nil, or_false] at hd
        rcases hd with rfl | rfl | rfl | rfl | rfl <;> exact ⟨_, rfl, by decide +kernel⟩
      have l1 : (⟨#[c]⟩ : Str).length = 1 := rfl
      refine o_adds (by omega) ?_
      have H4 := H.drop
      generalize (⟨#[c]⟩ : Str) ++ w = z at *
      clear H H3 H2
      obtain ⟨m0, m1, m2, m3⟩ := free_k A n
      subst_eqs
      refine bd_cut (fun env s => ∃ (n : Nat) (z : Str), n ≤ 200 * (i + 1) ∧ z ∉ A ∧ env = [some (.loc t), some (.int (many : Nat)), some (.str "qwertyuiopasdfghjklzxcvbnm"), some (.loc l), some (.int (n : Nat)), some (.int (i : Nat)), some (.str z)] ∧ Has s ((l, Ls (A.map D.str)) :: Z)) ?_ ?_
      · refine nx_while (fun m env s => ∃ (n' : Nat) (z : Str), n' + m = n + m0 ∧ (m = 0 → z = kS n') ∧ env = [some (.loc t), some (.int (many : Nat)), some (.str "qwertyuiopasdfghjklzxcvbnm"), some (.loc l), some (.int (n' : Nat)), some (.int (i : Nat)), some (.str z)] ∧ Has s ((l, Ls (A.map D.str)) :: Z)) (n := m0) ⟨n, z, rfl, fun e => by omega, rfl, H4⟩ ?_
        rintro m env s ⟨n', z, e1, e2, rfl, H⟩
        unfold wt_d_law_names_1
        subst_eqs
        refine wo_eq (dIn_of (dInB_locS (H.lst (.head _)) z)) ?_
        subst_eqs
        refine wi_d (fun c => ?_) (fun c => ?_)
        · have hm : m ≠ 0 := fun e => by
            have := e2 e
            subst e
            rw [this] at c
            rw [show n' = n + m0 by omega] at c
            exact m3 c
          unfold bl_d_law_names_2
          subst_eqs
          have hn' : n' + 1 ≤ 1000000 := by omega
          have hk : ("k" : Str).length = 1 := by decide +kernel
          have hnl := num_len hn'
          rw [show ((n' : Int) + 1) = ((n' + 1 : Nat) : Int) by omega]
          refine wo_eq (dstr_n hn' s) ?_
          refine o_adds (by omega) ?_
          exact ⟨m - 1, by omega, n' + 1, kS (n' + 1), by omega, fun _ => rfl, rfl, H⟩
        · exact ⟨n', z, by omega, c, rfl, H⟩
      · rintro env s ⟨n, z, hn2, hz, rfl, H⟩
        subst_eqs
        refine o_app H 0 rfl (by rw [List.length_map]; omega) fun s H => ?_
        refine ⟨A ++ [z], n, _, _, by simp [hA], hn2, ?_, rfl, by simpa using H⟩
        rw [List.nodup_append]
        exact ⟨nd, by simp, fun x hx y hy => by rw [List.mem_singleton.mp hy]; exact fun e => hz (e ▸ hx)⟩
    · rintro env s' ⟨A, n, o5, o6, hA, hB, nd, rfl, H2⟩
      exact ⟨A, _, _, _, hA, nd, rfl, H2⟩
  · rintro env s' ⟨A, o4, o5, o6, hA, nd, rfl, H2⟩
    subst_eqs
    refine o_srtL H2 (.head _) fun l2 s2 H3 => ?_
    refine k _ _ (srtZ A) (by rw [(srtZ_perm A).length_eq]; exact hA) ((srtZ_perm A).nodup_iff.mpr nd) H3.swap.drop
end
end Law
namespace Law
open PySem Mi
local macro_rules | `(tactic| ac_rfl) => `(tactic| repeat (first | exact List.mem_cons_self | assumption | apply List.mem_cons_of_mem | apply List.mem_append_right))
local macro_rules | `(tactic| eq_refl) => `(tactic| first
  | ((with_reducible refine wr_go ?_); first
    | ((with_reducible refine w_Vg ?_); first
      | with_reducible refine w_V0 ?_
      | with_reducible refine w_V1 ?_
      | with_reducible refine w_V2 ?_
      | with_reducible refine w_V3 ?_
      | with_reducible refine w_V4 ?_
      | with_reducible refine w_V5 ?_
      | with_reducible refine w_V6 ?_
      | with_reducible refine w_V7 ?_
      | with_reducible refine w_V8 ?_
      | with_reducible refine w_V9 ?_
      | with_reducible refine w_V10 ?_
      | with_reducible refine w_V11 ?_
      | with_reducible refine w_V12 ?_
      | with_reducible refine w_V13 ?_
      | with_reducible refine w_V14 ?_
      | with_reducible refine w_V15 ?_
      | with_reducible refine w_V16 ?_
      | with_reducible refine w_V17 ?_
      | with_reducible refine w_V18 ?_
      | with_reducible refine w_V19 ?_
      | with_reducible refine w_V20 ?_
      | with_reducible refine w_V21 ?_
      | with_reducible refine w_V22 ?_
      | with_reducible refine w_V23 ?_
      | with_reducible refine w_V24 ?_
      | with_reducible refine w_V25 ?_
      | with_reducible refine w_V26 ?_
      | with_reducible refine w_V27 ?_
      | with_reducible refine w_V28 ?_
      | with_reducible refine w_V29 ?_
      | with_reducible refine w_V30 ?_
      | with_reducible refine w_V31 ?_
      | refine w_V (by exact rfl) ?_)
    | with_reducible refine w_C ?_
    | with_reducible refine w_cons ?_
    | with_reducible refine w_nil ?_
    | with_reducible refine w_e2 ?_
    | with_reducible refine w_call ?_
    | with_reducible refine w_tV ?_
    | with_reducible refine w_tup ?_
    | with_reducible refine w_e1 ?_
    | with_reducible refine w_fn ?_
    | with_reducible refine w_tru ?_
    | with_reducible refine w_and ?_
    | with_reducible refine w_or ?_
    | with_reducible refine w_not ?_
    | with_reducible refine w_lst ?_
    | with_reducible refine w_mt ?_
    | with_reducible refine w_mt0 ?_
    | with_reducible refine w_rng ?_
    | with_reducible refine w_rng2 ?_
    | with_reducible refine w_iSeq ?_
    | with_reducible refine w_eif ?_
    | with_reducible refine w_eAnd ?_
    | with_reducible refine w_eOr ?_
    | with_reducible refine w_eNot ?_
    | with_reducible refine w_notT ?_
    | with_reducible refine w_chain ?_
    | with_reducible refine w_oN ?_
    | with_reducible refine w_oS ?_
    | with_reducible refine w_sl ?_
    | with_reducible refine w_lc ?_
    | with_reducible refine w_enm ?_
    | with_reducible refine w_enmS ?_
    | with_reducible refine w_zip ?_
    | with_reducible refine w_fmt ?_
    | with_reducible refine w_fs ?_
    | with_reducible refine w_jsn ?_
    | with_reducible refine w_jsc ?_
    | with_reducible refine w_dc ?_
    | ((with_reducible apply w_dict0); (focus assumption); intro l s hl H)
    | with_reducible refine w_tT ?_
    | ((with_reducible refine w_fnM ?_); simp only [List.map_cons, List.map_nil, List.cons_append, List.nil_append, List.replicate_succ, List.replicate_zero, Nat.reduceSub]))
  | ((with_reducible refine wo_go ?_); first
    | with_reducible refine o_max ?_
    | with_reducible refine o_min ?_
    | with_reducible refine o_lenT ?_
    | ((with_reducible apply o_lenL); (focus assumption); (focus (repeat (first | exact List.mem_cons_self | apply List.mem_cons_of_mem))))
    | ((with_reducible apply o_tupL); (focus assumption); (focus (repeat (first | exact List.mem_cons_self | apply List.mem_cons_of_mem))))
    | ((with_reducible apply o_sumL); (focus assumption); (focus (repeat (first | exact List.mem_cons_self | apply List.mem_cons_of_mem))))
    | ((with_reducible apply o_mul); (focus omega))
    | ((with_reducible apply o_div); (focus omega))
    | ((with_reducible apply o_mod); (focus omega))
    | ((with_reducible apply o_pow); (focus (first | omega | decide)))
    | ((with_reducible apply o_ixT); (focus (first | exact atI_zero _ _ | exact atI_one _ _ _ | exact atI_two _ _ _ _ | exact atI_three _ _ _ _ _)))
    | ((with_reducible apply o_ixL); (focus assumption); (focus (repeat (first | exact List.mem_cons_self | apply List.mem_cons_of_mem))); (focus (first | exact atI_zero _ _ | exact atI_one _ _ _ | exact atI_two _ _ _ _ | exact atI_three _ _ _ _ _)))
    | with_reducible refine o_slT ?_
    | with_reducible refine o_slA ?_
    | ((with_reducible apply o_ixZT); (focus (first | exact atI_zero _ _ | exact atI_one _ _ _ | exact atI_two _ _ _ _ | exact atI_three _ _ _ _ _)))
    | ((with_reducible apply o_ixZL); (focus assumption); (focus (repeat (first | exact List.mem_cons_self | apply List.mem_cons_of_mem))); (focus (first | exact atI_zero _ _ | exact atI_one _ _ _ | exact atI_two _ _ _ _ | exact atI_three _ _ _ _ _)))
    | with_reducible refine o_iT1 ?_
    | with_reducible refine o_iT2 ?_
    | with_reducible refine o_iT3 ?_
    | with_reducible refine o_iS1 ?_
    | with_reducible refine o_iS2 ?_
    | with_reducible refine o_iS3 ?_
    | with_reducible refine o_iI1 ?_
    | with_reducible refine o_iI2 ?_
    | with_reducible refine o_iI3 ?_
    | with_reducible refine o_iB1 ?_
    | ((with_reducible apply o_ixA); (focus (first | exact atI_zero _ _ | exact atI_one _ _ _ | exact atI_two _ _ _ _ | exact atI_three _ _ _ _ _)))
    | ((with_reducible apply o_ixAL); (focus assumption); (focus (repeat (first | exact List.mem_cons_self | apply List.mem_cons_of_mem))); (focus (first | exact atI_zero _ _ | exact atI_one _ _ _ | exact atI_two _ _ _ _ | exact atI_three _ _ _ _ _)))
    | ((with_reducible apply o_listAT); (focus assumption); intro l s hl H)
    | ((with_reducible apply o_listT); (focus assumption); intro l s hl H)
    | refine wo_some ?_)
  | ((with_reducible refine wi_go ?_); first
    | with_reducible refine wi_n ?_
    | with_reducible refine wi_t ?_
    | with_reducible refine wi_f ?_
    | ((with_reducible apply wi_yes); (focus omega))
    | ((with_reducible apply wi_no); (focus omega)))
  | ((with_reducible refine bd_go ?_); first
    | ((with_reducible refine bd_nx ?_); try simp only [List.set_cons_succ, List.set_cons_zero])
    | with_reducible refine bd_rt ?_
    | with_reducible refine bd_ct ?_
    | with_reducible refine bd_bk ?_
    | with_reducible refine bd_ex ?_)
  | with_reducible refine w_seq ?_
  | with_reducible refine w_set ?_
  | with_reducible refine wb ?_
  | ((with_reducible apply tupk); (focus exact Nat.le_of_ble_eq_true rfl))
  | with_reducible refine w_sNil ?_
  | with_reducible refine w_ret ?_
  | with_reducible refine w_expr ?_
  | with_reducible refine tru_b ?_
  | with_reducible refine tru_n ?_
  | with_reducible refine tru_i ?_
  | with_reducible refine tru_t ?_
  | ((with_reducible apply tru_l); (focus assumption); (focus (repeat (first | exact List.mem_cons_self | apply List.mem_cons_of_mem))))
  | with_reducible refine is_tup ?_
  | with_reducible refine enmk ?_
  | with_reducible refine is_str ?_
  | ((with_reducible apply is_lstH); (focus assumption); (focus (repeat (first | exact List.mem_cons_self | apply List.mem_cons_of_mem))))
  | ((with_reducible apply mt_lst); (focus assumption); (focus (repeat (first | exact List.mem_cons_self | apply List.mem_cons_of_mem))))
  | with_reducible refine w_for ?_
  | with_reducible refine mt_str ?_
  | with_reducible refine oi ?_
  | with_reducible refine w_asg ?_
  | with_reducible refine w_asgL ?_
  | with_reducible refine w_put ?_
  | ((with_reducible refine w_augg ?_); refine w_aug (by exact rfl) ?_)
  | with_reducible refine w_raise ?_
  | with_reducible refine w_retN ?_
  | with_reducible refine w_brk ?_
  | with_reducible refine w_cnt ?_
  | with_reducible refine tn_nx ?_
  | with_reducible refine nx_nx ?_
  | with_reducible refine tn_ct ?_
  | with_reducible refine tn_bk ?_
  | with_reducible refine tn_rt ?_
  | with_reducible refine tn_ex ?_
  | with_reducible refine fin_rt ?_
  | with_reducible refine fin_nx ?_
  | with_reducible refine fin_ex ?_
  | ((with_reducible apply newl); (focus assumption); (focus exact Nat.le_of_ble_eq_true rfl); intro l s hl H))
local macro_rules | `(tactic| subst_eqs) => `(tactic| repeat eq_refl)
/-! ### rounds of raising: when they settle -/
def Sat (h : Str → Int) (e : Edge) : Prop := h e.1 + e.2.2 ≤ h e.2.1
theorem step_sat {h : Str → Int} {b : Bool} {e : Edge} (q : Sat h e) : step (h, b) e = (h, b) := by
  unfold step
  rw [if_neg]
  unfold Sat at q
  show ¬ h e.2.1 < h e.1 + e.2.2
  omega
theorem fold_sat {E : List Edge} {h : Str → Int} : ∀ {b : Bool}, (∀ e ∈ E, Sat h e) → E.foldl step (h, b) = (h, b) := by
  induction E with
  | nil => intro b _; rfl
  | cons e E ih =>
    intro b q
    rw [List.foldl_cons, step_sat (q e (by simp))]
    exact ih fun x hx => q x (by simp [hx])
theorem fold_flag {E : List Edge} : ∀ {h : Str → Int} {b : Bool}, (E.foldl step (h, b)).2 = false → b = false ∧ ∀ e ∈ E, Sat h e := by
  induction E with
  | nil => intro h b q; exact ⟨q, by simp⟩
  | cons e E ih =>
    intro h b q
    rw [List.foldl_cons] at q
    by_cases c : h e.2.1 < h e.1 + e.2.2
    · have e1 : step (h, b) e = (fun x => if x = e.2.1 then h e.1 + e.2.2 else h x, true) := by unfold step; rw [if_pos c]
      rw [e1] at q
      exact absurd (ih q).1 (by simp)
    · have e1 : step (h, b) e = (h, b) := by unfold step; rw [if_neg c]
      rw [e1] at q
      obtain ⟨q1, q2⟩ := ih q
      refine ⟨q1, fun x hx => ?_⟩
      rcases List.mem_cons.mp hx with rfl | hx
      · unfold Sat; omega
      · exact q2 x hx
theorem settles_now {E : List Edge} {h : Str → Int} (q : ∀ e ∈ E, Sat h e) (k : Nat) : settles E (k + 1) h = true := by
  unfold settles rnd
  rw [fold_sat q]
  rfl
theorem settles_not {E : List Edge} {a b : Str} {p q : Int} (h1 : (a, b, p) ∈ E) (h2 : (b, a, q) ∈ E) (hs : 0 < p + q) : ∀ (k : Nat) (h : Str → Int), settles E k h = false
  | 0, _ => rfl
  | k + 1, h => by
    unfold settles
    by_cases c : (rnd E h).2 = true
    · rw [if_pos c]
      exact settles_not h1 h2 hs k _
    · have c' : (rnd E h).2 = false := by simpa using c
      have := (fold_flag c').2
      have s1 := this _ h1
      have s2 := this _ h2
      unfold Sat at s1 s2
      simp only at s1 s2
      omega
def Fwd (rk : Str → Nat) (n : Nat) (E : List Edge) : Prop := ∀ e ∈ E, rk e.1 < rk e.2.1 ∧ rk e.2.1 < n
def FinR (rk : Str → Nat) (r : Nat) (E : List Edge) (h : Str → Int) : Prop := ∀ e ∈ E, rk e.2.1 < r → Sat h e
theorem round {rk : Str → Nat} {n r : Nat} {E : List Edge} {h : Str → Int} (F : Fwd rk n E) (q : FinR rk r E h) : FinR rk (r + 1) E (rnd E h).1 := by
  have key : ∀ (R P : List Edge) (st : (Str → Int) × Bool), P ++ R = E → (∀ x, rk x < r → st.1 x = h x) → (∀ e ∈ P, rk e.2.1 = r → Sat st.1 e) →
      (∀ x, rk x < r → (R.foldl step st).1 x = h x) ∧ ∀ e ∈ P ++ R, rk e.2.1 = r → Sat (R.foldl step st).1 e := by
    intro R
    induction R with
    | nil => intro P st _ h1 h2; exact ⟨h1, by simpa using h2⟩
    | cons e R ih =>
      intro P st hE h1 h2
      rw [List.foldl_cons]
      have he : e ∈ E := by rw [← hE]; simp
      have hP : ∀ x ∈ P, x ∈ E := fun x hx => by rw [← hE]; simp [hx]
      have a1 : ∀ x, rk x < r → (step st e).1 x = h x := fun x hx => by
        unfold step
        split
        · rename_i c
          by_cases cx : x = e.2.1
          · subst cx
            have s1 := q e he hx
            unfold Sat at s1
            rw [h1 _ hx, h1 _ (Nat.lt_trans (F e he).1 hx)] at c
            omega
          · simp only [if_neg cx]
            exact h1 x hx
        · exact h1 x hx
      have a2 : ∀ y ∈ P ++ [e], rk y.2.1 = r → Sat (step st e).1 y := fun y hy hr => by
        have hyE : y ∈ E := by
          rcases List.mem_append.mp hy with hy | hy
          · exact hP y hy
          · rw [List.mem_singleton.mp hy]; exact he
        have f1 := (F y hyE).1
        have b1 : (step st e).1 y.1 = st.1 y.1 := by rw [a1 _ (by omega), h1 _ (by omega)]
        unfold Sat
        rw [b1]
        unfold step
        rcases List.mem_append.mp hy with hy | hy
        · have s1 := h2 y hy hr
          unfold Sat at s1
          split
          · rename_i c
            by_cases cx : y.2.1 = e.2.1
            · simp only [if_pos cx]
              rw [cx] at s1
              omega
            · simp only [if_neg cx]
              exact s1
          · exact s1
        · rw [List.mem_singleton.mp hy]
          split
          · simp
          · omega
      have := ih (P ++ [e]) (step st e) (by simpa using hE) a1 a2
      simpa using this
  obtain ⟨k1, k2⟩ := key E [] (h, false) rfl (fun _ _ => rfl) (by simp)
  intro e he hr
  by_cases c : rk e.2.1 = r
  · exact k2 e (by simpa using he) c
  · have hlt : rk e.2.1 < r := by omega
    have s1 := q e he hlt
    unfold Sat at s1 ⊢
    unfold rnd
    rw [k1 _ hlt, k1 _ (Nat.lt_trans (F e he).1 hlt)]
    exact s1
theorem settles_fwd {rk : Str → Nat} {n : Nat} {E : List Edge} (F : Fwd rk n E) : ∀ (k r : Nat) (h : Str → Int), FinR rk r E h → n ≤ r + k → settles E (k + 1) h = true
  | 0, r, h, q, hn => settles_now (fun e he => q e he (by have := (F e he).2; omega)) 0
  | k + 1, r, h, q, hn => by
    rw [settles]
    split
    · exact settles_fwd F k (r + 1) _ (round F q) (by omega)
    · rfl
theorem settles_row {rk : Str → Nat} {n : Nat} {E : List Edge} (F : Fwd rk n E) : settles E (n + 1) zero = true :=
  settles_fwd F n 0 zero (fun e _ h => absurd h (by omega)) (by omega)
end Law
namespace Law
open PySem Mi
local macro_rules | `(tactic| ac_rfl) => `(tactic| repeat (first | exact List.mem_cons_self | assumption | apply List.mem_cons_of_mem | apply List.mem_append_right))
local macro_rules | `(tactic| eq_refl) => `(tactic| first
  | ((with_reducible refine wr_go ?_); first
    | ((with_reducible refine w_Vg ?_); first
      | with_reducible refine w_V0 ?_
      | with_reducible refine w_V1 ?_
      | with_reducible refine w_V2 ?_
      | with_reducible refine w_V3 ?_
      | with_reducible refine w_V4 ?_
      | with_reducible refine w_V5 ?_
      | with_reducible refine w_V6 ?_
      | with_reducible refine w_V7 ?_
      | with_reducible refine w_V8 ?_
      | with_reducible refine w_V9 ?_
      | with_reducible refine w_V10 ?_
      | with_reducible refine w_V11 ?_
      | with_reducible refine w_V12 ?_
      | with_reducible refine w_V13 ?_
      | with_reducible refine w_V14 ?_
      | with_reducible refine w_V15 ?_
      | with_reducible refine w_V16 ?_
      | with_reducible refine w_V17 ?_
      | with_reducible refine w_V18 ?_
      | with_reducible refine w_V19 ?_
      | with_reducible refine w_V20 ?_
      | with_reducible refine w_V21 ?_
      | with_reducible refine w_V22 ?_
      | with_reducible refine w_V23 ?_
      | with_reducible refine w_V24 ?_
      | with_reducible refine w_V25 ?_
      | with_reducible refine w_V26 ?_
      | with_reducible refine w_V27 ?_
      | with_reducible refine w_V28 ?_
      | with_reducible refine w_V29 ?_
      | with_reducible refine w_V30 ?_
      | with_reducible refine w_V31 ?_
      | refine w_V (by exact rfl) ?_)
    | with_reducible refine w_C ?_
    | with_reducible refine w_cons ?_
    | with_reducible refine w_nil ?_
    | with_reducible refine w_e2 ?_
    | with_reducible refine w_call ?_
    | with_reducible refine w_tV ?_
    | with_reducible refine w_tup ?_
    | with_reducible refine w_e1 ?_
    | with_reducible refine w_fn ?_
    | with_reducible refine w_tru ?_
    | with_reducible refine w_and ?_
    | with_reducible refine w_or ?_
    | with_reducible refine w_not ?_
    | with_reducible refine w_lst ?_
    | with_reducible refine w_mt ?_
    | with_reducible refine w_mt0 ?_
    | with_reducible refine w_rng ?_
    | with_reducible refine w_rng2 ?_
    | with_reducible refine w_iSeq ?_
    | with_reducible refine w_eif ?_
    | with_reducible refine w_eAnd ?_
    | with_reducible refine w_eOr ?_
    | with_reducible refine w_eNot ?_
    | with_reducible refine w_notT ?_
    | with_reducible refine w_chain ?_
    | with_reducible refine w_oN ?_
    | with_reducible refine w_oS ?_
    | with_reducible refine w_sl ?_
    | with_reducible refine w_lc ?_
    | with_reducible refine w_enm ?_
    | with_reducible refine w_enmS ?_
    | with_reducible refine w_zip ?_
    | with_reducible refine w_fmt ?_
    | with_reducible refine w_fs ?_
    | with_reducible refine w_jsn ?_
    | with_reducible refine w_jsc ?_
    | with_reducible refine w_dc ?_
    | ((with_reducible apply w_dict0); (focus assumption); intro l s hl H)
    | with_reducible refine w_tT ?_
    | ((with_reducible refine w_fnM ?_); simp only [List.map_cons, List.map_nil, List.cons_append, List.nil_append, List.replicate_succ, List.replicate_zero, Nat.reduceSub]))
  | ((with_reducible refine wo_go ?_); first
    | with_reducible refine o_max ?_
    | with_reducible refine o_min ?_
    | with_reducible refine o_lenT ?_
    | ((with_reducible apply o_lenL); (focus assumption); (focus (repeat (first | exact List.mem_cons_self | assumption | apply List.mem_cons_of_mem))))
    | ((with_reducible apply o_tupL); (focus assumption); (focus (repeat (first | exact List.mem_cons_self | assumption | apply List.mem_cons_of_mem))))
    | ((with_reducible apply o_sumL); (focus assumption); (focus (repeat (first | exact List.mem_cons_self | assumption | apply List.mem_cons_of_mem))))
    | ((with_reducible apply o_mul); (focus omega))
    | ((with_reducible apply o_div); (focus omega))
    | ((with_reducible apply o_mod); (focus omega))
    | ((with_reducible apply o_pow); (focus (first | omega | decide)))
    | ((with_reducible apply o_ixT); (focus (first | exact atI_zero _ _ | exact atI_one _ _ _ | exact atI_two _ _ _ _ | exact atI_three _ _ _ _ _)))
    | ((with_reducible apply o_ixL); (focus assumption); (focus (repeat (first | exact List.mem_cons_self | assumption | apply List.mem_cons_of_mem))); (focus (first | exact atI_zero _ _ | exact atI_one _ _ _ | exact atI_two _ _ _ _ | exact atI_three _ _ _ _ _)))
    | with_reducible refine o_slT ?_
    | with_reducible refine o_slA ?_
    | ((with_reducible apply o_ixZT); (focus (first | exact atI_zero _ _ | exact atI_one _ _ _ | exact atI_two _ _ _ _ | exact atI_three _ _ _ _ _)))
    | ((with_reducible apply o_ixZL); (focus assumption); (focus (repeat (first | exact List.mem_cons_self | assumption | apply List.mem_cons_of_mem))); (focus (first | exact atI_zero _ _ | exact atI_one _ _ _ | exact atI_two _ _ _ _ | exact atI_three _ _ _ _ _)))
    | with_reducible refine o_iT1 ?_
    | with_reducible refine o_iT2 ?_
    | with_reducible refine o_iT3 ?_
    | with_reducible refine o_iS1 ?_
    | with_reducible refine o_iS2 ?_
    | with_reducible refine o_iS3 ?_
    | with_reducible refine o_iI1 ?_
    | with_reducible refine o_iI2 ?_
    | with_reducible refine o_iI3 ?_
    | with_reducible refine o_iB1 ?_
    | ((with_reducible apply o_ixA); (focus (first | exact atI_zero _ _ | exact atI_one _ _ _ | exact atI_two _ _ _ _ | exact atI_three _ _ _ _ _)))
    | ((with_reducible apply o_ixAL); (focus assumption); (focus (repeat (first | exact List.mem_cons_self | assumption | apply List.mem_cons_of_mem))); (focus (first | exact atI_zero _ _ | exact atI_one _ _ _ | exact atI_two _ _ _ _ | exact atI_three _ _ _ _ _)))
    | ((with_reducible apply o_listAT); (focus assumption); intro l s hl H)
    | ((with_reducible apply o_listT); (focus assumption); intro l s hl H)
    | refine wo_some ?_)
  | ((with_reducible refine wi_go ?_); first
    | with_reducible refine wi_n ?_
    | with_reducible refine wi_t ?_
    | with_reducible refine wi_f ?_
    | ((with_reducible apply wi_yes); (focus omega))
    | ((with_reducible apply wi_no); (focus omega)))
  | ((with_reducible refine bd_go ?_); first
    | ((with_reducible refine bd_nx ?_); try simp only [List.set_cons_succ, List.set_cons_zero])
    | with_reducible refine bd_rt ?_
    | with_reducible refine bd_ct ?_
    | with_reducible refine bd_bk ?_
    | with_reducible refine bd_ex ?_)
  | with_reducible refine w_seq ?_
  | with_reducible refine w_set ?_
  | with_reducible refine wb ?_
  | ((with_reducible apply tupk); (focus exact Nat.le_of_ble_eq_true rfl))
  | with_reducible refine w_sNil ?_
  | with_reducible refine w_ret ?_
  | with_reducible refine w_expr ?_
  | with_reducible refine tru_b ?_
  | with_reducible refine tru_n ?_
  | with_reducible refine tru_i ?_
  | with_reducible refine tru_t ?_
  | ((with_reducible apply tru_l); (focus assumption); (focus (repeat (first | exact List.mem_cons_self | assumption | apply List.mem_cons_of_mem))))
  | with_reducible refine is_tup ?_
  | with_reducible refine enmk ?_
  | with_reducible refine is_str ?_
  | ((with_reducible apply is_lstH); (focus assumption); (focus (repeat (first | exact List.mem_cons_self | assumption | apply List.mem_cons_of_mem))))
  | ((with_reducible apply mt_lst); (focus assumption); (focus (repeat (first | exact List.mem_cons_self | assumption | apply List.mem_cons_of_mem))))
  | with_reducible refine w_for ?_
  | with_reducible refine mt_str ?_
  | with_reducible refine oi ?_
  | with_reducible refine w_asg ?_
  | with_reducible refine w_asgL ?_
  | with_reducible refine w_put ?_
  | ((with_reducible refine w_augg ?_); refine w_aug (by exact rfl) ?_)
  | with_reducible refine w_raise ?_
  | with_reducible refine w_retN ?_
  | with_reducible refine w_brk ?_
  | with_reducible refine w_cnt ?_
  | with_reducible refine tn_nx ?_
  | with_reducible refine nx_nx ?_
  | with_reducible refine tn_ct ?_
  | with_reducible refine tn_bk ?_
  | with_reducible refine tn_rt ?_
  | with_reducible refine tn_ex ?_
  | with_reducible refine fin_rt ?_
  | with_reducible refine fin_nx ?_
  | with_reducible refine fin_ex ?_
  | ((with_reducible apply newl); (focus assumption); (focus exact Nat.le_of_ble_eq_true rfl); intro l s hl H))
local macro_rules | `(tactic| subst_eqs) => `(tactic| repeat eq_refl)
/-! ### drawers -/
section
variable {s : Store} {t d : Nat} {Z : Hs} {K : D → Store → Prop} {E : Ex → Store → Prop} {deeds : List Str}
theorem o_popX {xs : List D} {l : Nat} {i : Int} (H : Has s Z) (j : Nat) (hi : Z[j]? = some (l, Ls xs)) (h0 : 0 ≤ i) (h1 : i < xs.length) (hz : xs.length ≤ 1000000) (k : ∀ x s', xs[i.toNat]? = some x → Has s' (Z.set j (l, Ls (xs.eraseIdx i.toNat))) → K x s') : WO (dPopX (.loc l) [.int i] s) K := by
  obtain ⟨x, e1, e2⟩ := popAt (H.lst (List.mem_of_getElem? hi)) h0 h1 hz
  exact wo_eq e2 (k x _ e1 (H.put j hi rfl))
theorem perm_erase {A : List Str} {i : Nat} {x : Str} (h : A[i]? = some x) : (x :: A.eraseIdx i).Perm A := by
  induction A generalizing i with
  | nil => simp at h
  | cons a A ih =>
    cases i with
    | zero => simp at h; subst h; exact List.Perm.refl _
    | succ i =>
      simp only [List.getElem?_cons_succ] at h
      rw [List.eraseIdx_cons_succ]
      exact (List.Perm.swap _ _ _).trans ((ih h).cons a)
theorem ers_map {α β : Type} (f : α → β) : ∀ (A : List α) (i : Nat), (A.map f).eraseIdx i = (A.eraseIdx i).map f
  | [], _ => rfl
  | _ :: _, 0 => rfl
  | a :: A, i + 1 => by simp [ers_map f A i]
theorem o_ixD {A : List Str} {i : Int} (H : Has s Z) (hd : (d, Ls (A.map D.str)) ∈ Z) (h0 : 0 ≤ i) (h1 : i < A.length) (k : ∀ w ∈ A, A[i.toNat]? = some w → K (.str w) s) : WO (dIxZ (.loc d) (.int i) s) K := by
  refine o_ixZLm H hd h0 (by rw [List.length_map]; omega) fun x hx e => ?_
  rw [List.getElem?_map] at e
  cases q : A[i.toNat]? with
  | none => rw [q] at e; cases e
  | some w =>
    rw [q] at e
    cases e
    exact k w (List.mem_of_getElem? q) q
theorem shuffled_w {A : List Str} (hA : A.length ≤ 100) (H : Has s Z) (ht : (t, IsTp) ∈ Z) (hd : (d, Ls (A.map D.str)) ∈ Z) (k : ∀ l s' (B : List Str), B.Perm A → Has s' ((l, Ls (B.map D.str)) :: Z) → K (.loc l) s') : WR (m_d_law_shuffled [.loc t, .loc d] s) K E := by
  unfold m_d_law_shuffled b_d_law_shuffled
  subst_eqs
  have e : dListA [.loc d] s = some (.loc s.length, s ++ [.lst (A.map D.str)]) := by
    have := H.lst hd
    simp [dListA, dicOf, dctOf, dList, seqOf, lstOf, this]
  refine wo_eq e ?_
  have H1 := H.new (.lst (A.map D.str))
  generalize s ++ [Cell.lst (A.map D.str)] = s1 at *
  generalize s.length = l1 at *
  subst_eqs
  rename_i l2 s2 hl2 H2
  refine rg (n := A.length) (by rw [List.length_map]) (by omega) ?_
  refine bd_cut (fun env s' => ∃ (B : List Str) (o4 : Option D), B.Perm A ∧ env = [some (.loc t), some (.loc d), some (.loc l1), some (.loc l2), o4] ∧ Has s' ((l2, Ls (B.map D.str)) :: Z)) ?_ ?_
  · refine w_forN (fun i env s' => ∃ (B R : List Str) (o4 : Option D), (B ++ R).Perm A ∧ B.length = i ∧ env = [some (.loc t), some (.loc d), some (.loc l1), some (.loc l2), o4] ∧ Has s' ((l2, Ls (B.map D.str)) :: (l1, Ls (R.map D.str)) :: Z)) ⟨[], A, _, List.Perm.refl _, rfl, rfl, H2⟩ ?_ ?_
    · rintro i env s' hi ⟨B, R, o4, hp, hB, rfl, H⟩
      have hlen := hp.length_eq
      rw [List.length_append] at hlen
      unfold bl_d_law_shuffled_1
      subst_eqs
      refine draw_w H (.tail _ (.tail _ ht)) (by rw [List.length_map]; omega) fun j s j0 j1 H => ?_
      rw [List.length_map] at j1
      subst_eqs
      refine o_popX H 1 rfl j0 (by rw [List.length_map]; omega) (by rw [List.length_map]; omega) fun x s hx H => ?_
      rw [List.getElem?_map] at hx
      cases hq : R[j.toNat]? with
      | none => rw [hq] at hx; cases hx
      | some w =>
        rw [hq] at hx
        cases hx
        subst_eqs
        refine o_app H 0 rfl (by rw [List.length_map]; omega) fun s H => ?_
        refine ⟨B ++ [w], R.eraseIdx j.toNat, _, ?_, by simp [hB], rfl, ?_⟩
        · rw [List.append_assoc]
          exact ((perm_erase hq).append_left B).trans hp
        · rw [ers_map] at H
          simpa using H
    · rintro env s' ⟨B, R, o4, hp, hB, rfl, H⟩
      have hlen := hp.length_eq
      rw [List.length_append] at hlen
      have hR : R = [] := List.eq_nil_of_length_eq_zero (by omega)
      subst hR
      exact ⟨B, _, by simpa using hp, rfl, H.swap.drop⟩
  · rintro env s' ⟨B, o4, hp, rfl, H⟩
    subst_eqs
    exact k _ _ B hp H
theorem dates_w {first last : Int} (H : Has s Z) (ht : (t, IsTp) ∈ Z) (k : ∀ s' (ds : List D), ds.length ≤ 12 → Has s' Z → K (.tup ds) s') : WR (m_d_law_dates [.loc t, .int first, .int last] s) K E := by
  unfold m_d_law_dates b_d_law_dates
  subst_eqs
  refine draw_w H ht (by omega) fun j s j0 j1 H => ?_
  subst_eqs
  refine w_if ?_
  subst_eqs
  refine wi_d (fun c => ?_) (fun c => ?_)
  · subst_eqs
    exact k _ _ (by simp) H
  subst_eqs
  refine w_if ?_
  subst_eqs
  refine wi_d (fun c2 => ?_) (fun c2 => ?_)
  · subst_eqs
    exact k _ _ (by simp) H
  subst_eqs
  rename_i l1 s1 hl1 H1
  refine o_ixZLm H1 (.head _) j0 (by simp; omega) fun dd hd _ => ?_
  obtain ⟨n, rfl, hn⟩ : ∃ n : Nat, dd = .int (n : Nat) ∧ n ≤ 12 := by
    simp only [List.mem_cons, List.not_mem_nil, or_false] at hd
    rcases hd with rfl | rfl | rfl | rfl | rfl | rfl
    · exact ⟨1, rfl, by omega⟩
    · exact ⟨0, rfl, by omega⟩
    · exact ⟨0, rfl, by omega⟩
    · exact ⟨2, rfl, by omega⟩
    · exact ⟨12, rfl, by omega⟩
    · exact ⟨1, rfl, by omega⟩
  have H2 := H1.drop
  clear H1 H
  subst_eqs
  refine draw_w H2 ht (by omega) fun j2 s j0 j1 H => ?_
  subst_eqs
  rename_i l3 s3 hl3 H3
  refine rg (n := n) rfl (by omega) ?_
  refine bd_cut (fun env s' => ∃ (ds : List D) (o5 o7 o8 : Option D), ds.length ≤ 12 ∧ env = [some (.loc t), some (.int first), some (.int last), some (.int j), some (.int (n : Nat)), o5, some (.loc l3), o7, o8] ∧ Has s' ((l3, Ls ds) :: Z)) ?_ ?_
  · refine w_forN (fun i env s' => ∃ (ds : List D) (at' : Int) (o7 o8 : Option D), ds.length = i ∧ env = [some (.loc t), some (.int first), some (.int last), some (.int j), some (.int (n : Nat)), some (.int at'), some (.loc l3), o7, o8] ∧ Has s' ((l3, Ls ds) :: Z)) ⟨[], _, _, _, rfl, rfl, H3⟩ ?_ ?_
    · rintro i env s' hi ⟨ds, at', o7, o8, hl, rfl, H⟩
      unfold bl_d_law_dates_1
      subst_eqs
      refine draw_w H (.tail _ ht) (by omega) fun a s _ _ H => ?_
      subst_eqs
      refine draw_w H (.tail _ ht) (by omega) fun b s _ _ H => ?_
      subst_eqs
      refine o_app H 0 rfl (by omega) fun s H => ?_
      subst_eqs
      exact ⟨_, _, _, _, by simp [hl], rfl, H⟩
    · rintro env s' ⟨ds, at', o7, o8, hl, rfl, H⟩
      exact ⟨ds, _, _, _, by omega, rfl, H⟩
  · rintro env s' ⟨ds, o5, o7, o8, hl, rfl, H⟩
    subst_eqs
    exact k _ _ hl H.drop
/-! ### _law_base -/
def BaseOk (deeds : List Str) : Rec → Prop
  | .gap a b w => a ∈ deeds ∧ b ∈ deeds ∧ -3 ≤ w ∧ w ≤ 3
  | .yrs a ds => a ∈ deeds ∧ ds.length ≤ 12
  | .oth _ _ => False
theorem base_w {first last : Int} {many : Nat} (h2 : 2 ≤ deeds.length) (h3 : deeds.length ≤ 100) (hm : many ≤ 100) (H : Has s Z) (ht : (t, IsTp) ∈ Z) (hd : (d, Ls (deeds.map D.str)) ∈ Z)
    (k : ∀ l s' (ents : List Ent), ents.length = many → (∀ e ∈ ents, BaseOk deeds e.2) → Has s' ((l, Ls (ents.map entD)) :: Z) → K (.loc l) s') : WR (m_d_law_base [.loc t, .int first, .int last, .loc d, .int (many : Nat)] s) K E := by
  unfold m_d_law_base b_d_law_base
  subst_eqs
  rename_i l1 s1 hl1 H1
  refine rg (n := many) rfl (by omega) ?_
  refine bd_cut (fun env s' => ∃ (ents : List Ent) (x5 x6 x7 x8 x9 : Option D), ents.length = many ∧ (∀ e ∈ ents, BaseOk deeds e.2) ∧ env = [some (.loc t), some (.int first), some (.int last), some (.loc d), some (.int (many : Nat)), some (.loc l1), x6, x7, x8, x9] ∧ Has s' ((l1, Ls (ents.map entD)) :: Z)) ?_ ?_
  · refine w_forN (fun i env s' => ∃ (ents : List Ent) (x5 x6 x7 x8 x9 : Option D), ents.length = i ∧ (∀ e ∈ ents, BaseOk deeds e.2) ∧ env = [some (.loc t), some (.int first), some (.int last), some (.loc d), some (.int (many : Nat)), some (.loc l1), x6, x7, x8, x9] ∧ Has s' ((l1, Ls (ents.map entD)) :: Z)) ⟨[], none, _, _, _, _, rfl, by simp, rfl, H1⟩ ?_ ?_
    · rintro i env s' hi ⟨ents, x5, x6, x7, x8, x9, hl, ho, rfl, H⟩
      unfold bl_d_law_base_1
      subst_eqs
      refine draw_w H (.tail _ ht) (by rw [List.length_map]; omega) fun a s a0 a1 H => ?_
      rw [List.length_map] at a1
      subst_eqs
      refine draw_w H (.tail _ ht) (by rw [List.length_map]; omega) fun b s b0 b1 H => ?_
      subst_eqs
      have hlm : (deeds.map D.str).length = deeds.length := List.length_map _
      have m0 := Int.emod_nonneg (a + 1 + b) (b := (deeds.length : Int)) (by omega)
      have m1 := Int.emod_lt_of_pos (a + 1 + b) (b := (deeds.length : Int)) (by omega)
      have em : ((deeds.map D.str).length : Int) = deeds.length := by rw [hlm]
      rw [em] at b1
      have wm : ∀ s, dMod (.int (a + 1 + b)) (.int ((deeds.map D.str).length : Int)) s = some (.int ((a + 1 + b) % (deeds.length : Int)), s) := fun s => by rw [em, dMod_int _ _ s (by omega)]
      first | refine wo_eq (wm _) ?_ | rw [em]
      generalize (a + 1 + b) % (deeds.length : Int) = m at *
      subst_eqs
      refine o_ixD H (.tail _ hd) a0 (by omega) fun w1 hw1 e1 => ?_
      subst_eqs
      refine o_ixD H (.tail _ hd) m0 (by omega) fun w2 hw2 e2 => ?_
      subst_eqs
      refine draw_w H (.tail _ ht) (by omega) fun g s g0 g1 H => ?_
      subst_eqs
      refine bd_cut (fun env s' => ∃ r, BaseOk deeds r ∧ env = [some (.loc t), some (.int first), some (.int last), some (.loc d), some (.int (many : Nat)), some (.loc l1), some (.int (i : Nat)), some (.int a), some (.int m), some (recD r)] ∧ Has s' ((l1, Ls (ents.map entD)) :: Z)) ?_ ?_
      · refine w_if ?_
        subst_eqs
        refine draw_w H (.tail _ ht) (by omega) fun q s q0 q1 H => ?_
        subst_eqs
        refine wi_d (fun c => ?_) (fun c => ?_)
        · subst_eqs
          refine o_ixD H (.tail _ hd) a0 (by omega) fun w3 hw3 e3 => ?_
          subst_eqs
          refine dates_w H (.tail _ ht) fun s ds hds H => ?_
          subst_eqs
          exact ⟨.yrs w3 ds, ⟨hw3, hds⟩, rfl, H⟩
        · subst_eqs
          exact ⟨.gap w1 w2 (g - 3), ⟨hw1, hw2, by omega, by omega⟩, rfl, H⟩
      · rintro env s ⟨r, hr, rfl, H⟩
        subst_eqs
        rename_i l5 s5 hl5 H5
        refine draw_w H5 (.tail _ (.tail _ ht)) (by omega) fun q s q0 q1 H => ?_
        refine o_ixZLm H (.head _) q0 (by simp; omega) fun dd hdd _ => ?_
        obtain ⟨w, rfl⟩ : ∃ w, dd = .str w := by
          simp only [List.mem_cons, List.not_mem_nil, or_false] at hdd
          rcases hdd with rfl | rfl | rfl | rfl <;> exact ⟨_, rfl⟩
        have H6 := H.drop
        subst_eqs
        refine o_app H6 0 rfl (by rw [List.length_map]; omega) fun s H => ?_
        refine ⟨ents ++ [(w, r)], none, _, _, _, _, by simp [hl], ?_, rfl, by simpa [entD] using H⟩
        intro e he
        rcases List.mem_append.mp he with he | he
        · exact ho e he
        · rw [List.mem_singleton.mp he]; exact hr
    · rintro env s' h
      exact h
  · rintro env s' ⟨ents, x5, x6, x7, x8, x9, hl, ho, rfl, H⟩
    subst_eqs
    exact k _ _ ents hl ho H
end
end Law
namespace Law
open PySem Mi
local macro_rules | `(tactic| ac_rfl) => `(tactic| repeat (first | exact List.mem_cons_self | assumption | apply List.mem_cons_of_mem | apply List.mem_append_right))
local macro_rules | `(tactic| eq_refl) => `(tactic| first
  | ((with_reducible refine wr_go ?_); first
    | ((with_reducible refine w_Vg ?_); first
      | with_reducible refine w_V0 ?_
      | with_reducible refine w_V1 ?_
      | with_reducible refine w_V2 ?_
      | with_reducible refine w_V3 ?_
      | with_reducible refine w_V4 ?_
      | with_reducible refine w_V5 ?_
      | with_reducible refine w_V6 ?_
      | with_reducible refine w_V7 ?_
      | with_reducible refine w_V8 ?_
      | with_reducible refine w_V9 ?_
      | with_reducible refine w_V10 ?_
      | with_reducible refine w_V11 ?_
      | with_reducible refine w_V12 ?_
      | with_reducible refine w_V13 ?_
      | with_reducible refine w_V14 ?_
      | with_reducible refine w_V15 ?_
      | with_reducible refine w_V16 ?_
      | with_reducible refine w_V17 ?_
      | with_reducible refine w_V18 ?_
      | with_reducible refine w_V19 ?_
      | with_reducible refine w_V20 ?_
      | with_reducible refine w_V21 ?_
      | with_reducible refine w_V22 ?_
      | with_reducible refine w_V23 ?_
      | with_reducible refine w_V24 ?_
      | with_reducible refine w_V25 ?_
      | with_reducible refine w_V26 ?_
      | with_reducible refine w_V27 ?_
      | with_reducible refine w_V28 ?_
      | with_reducible refine w_V29 ?_
      | with_reducible refine w_V30 ?_
      | with_reducible refine w_V31 ?_
      | refine w_V (by exact rfl) ?_)
    | with_reducible refine w_C ?_
    | with_reducible refine w_cons ?_
    | with_reducible refine w_nil ?_
    | with_reducible refine w_e2 ?_
    | with_reducible refine w_call ?_
    | with_reducible refine w_tV ?_
    | with_reducible refine w_tup ?_
    | with_reducible refine w_e1 ?_
    | with_reducible refine w_fn ?_
    | with_reducible refine w_tru ?_
    | with_reducible refine w_and ?_
    | with_reducible refine w_or ?_
    | with_reducible refine w_not ?_
    | with_reducible refine w_lst ?_
    | with_reducible refine w_mt ?_
    | with_reducible refine w_mt0 ?_
    | with_reducible refine w_rng ?_
    | with_reducible refine w_rng2 ?_
    | with_reducible refine w_iSeq ?_
    | with_reducible refine w_eif ?_
    | with_reducible refine w_eAnd ?_
    | with_reducible refine w_eOr ?_
    | with_reducible refine w_eNot ?_
    | with_reducible refine w_notT ?_
    | with_reducible refine w_chain ?_
    | with_reducible refine w_oN ?_
    | with_reducible refine w_oS ?_
    | with_reducible refine w_sl ?_
    | with_reducible refine w_lc ?_
    | with_reducible refine w_enm ?_
    | with_reducible refine w_enmS ?_
    | with_reducible refine w_zip ?_
    | with_reducible refine w_fmt ?_
    | with_reducible refine w_fs ?_
    | with_reducible refine w_jsn ?_
    | with_reducible refine w_jsc ?_
    | with_reducible refine w_dc ?_
    | ((with_reducible apply w_dict0); (focus assumption); intro l s hl H)
    | with_reducible refine w_tT ?_
    | ((with_reducible refine w_fnM ?_); simp only [List.map_cons, List.map_nil, List.cons_append, List.nil_append, List.replicate_succ, List.replicate_zero, Nat.reduceSub]))
  | ((with_reducible refine wo_go ?_); first
    | with_reducible refine o_max ?_
    | with_reducible refine o_min ?_
    | with_reducible refine o_lenT ?_
    | ((with_reducible apply o_lenL); (focus assumption); (focus (repeat (first | exact List.mem_cons_self | assumption | apply List.mem_cons_of_mem))))
    | ((with_reducible apply o_tupL); (focus assumption); (focus (repeat (first | exact List.mem_cons_self | assumption | apply List.mem_cons_of_mem))))
    | ((with_reducible apply o_sumL); (focus assumption); (focus (repeat (first | exact List.mem_cons_self | assumption | apply List.mem_cons_of_mem))))
    | ((with_reducible apply o_mul); (focus omega))
    | ((with_reducible apply o_div); (focus omega))
    | ((with_reducible apply o_mod); (focus omega))
    | ((with_reducible apply o_pow); (focus (first | omega | decide)))
    | ((with_reducible apply o_ixT); (focus (first | exact atI_zero _ _ | exact atI_one _ _ _ | exact atI_two _ _ _ _ | exact atI_three _ _ _ _ _)))
    | ((with_reducible apply o_ixL); (focus assumption); (focus (repeat (first | exact List.mem_cons_self | assumption | apply List.mem_cons_of_mem))); (focus (first | exact atI_zero _ _ | exact atI_one _ _ _ | exact atI_two _ _ _ _ | exact atI_three _ _ _ _ _)))
    | with_reducible refine o_slT ?_
    | with_reducible refine o_slA ?_
    | ((with_reducible apply o_ixZT); (focus (first | exact atI_zero _ _ | exact atI_one _ _ _ | exact atI_two _ _ _ _ | exact atI_three _ _ _ _ _)))
    | ((with_reducible apply o_ixZL); (focus assumption); (focus (repeat (first | exact List.mem_cons_self | assumption | apply List.mem_cons_of_mem))); (focus (first | exact atI_zero _ _ | exact atI_one _ _ _ | exact atI_two _ _ _ _ | exact atI_three _ _ _ _ _)))
    | with_reducible refine o_iT1 ?_
    | with_reducible refine o_iT2 ?_
    | with_reducible refine o_iT3 ?_
    | with_reducible refine o_iS1 ?_
    | with_reducible refine o_iS2 ?_
    | with_reducible refine o_iS3 ?_
    | with_reducible refine o_iI1 ?_
    | with_reducible refine o_iI2 ?_
    | with_reducible refine o_iI3 ?_
    | with_reducible refine o_iB1 ?_
    | ((with_reducible apply o_ixA); (focus (first | exact atI_zero _ _ | exact atI_one _ _ _ | exact atI_two _ _ _ _ | exact atI_three _ _ _ _ _)))
    | ((with_reducible apply o_ixAL); (focus assumption); (focus (repeat (first | exact List.mem_cons_self | assumption | apply List.mem_cons_of_mem))); (focus (first | exact atI_zero _ _ | exact atI_one _ _ _ | exact atI_two _ _ _ _ | exact atI_three _ _ _ _ _)))
    | ((with_reducible apply o_listAT); (focus assumption); intro l s hl H)
    | ((with_reducible apply o_listT); (focus assumption); intro l s hl H)
    | refine wo_some ?_)
  | ((with_reducible refine wi_go ?_); first
    | with_reducible refine wi_n ?_
    | with_reducible refine wi_t ?_
    | with_reducible refine wi_f ?_
    | ((with_reducible apply wi_yes); (focus omega))
    | ((with_reducible apply wi_no); (focus omega)))
  | ((with_reducible refine bd_go ?_); first
    | ((with_reducible refine bd_nx ?_); try simp only [List.set_cons_succ, List.set_cons_zero])
    | with_reducible refine bd_rt ?_
    | with_reducible refine bd_ct ?_
    | with_reducible refine bd_bk ?_
    | with_reducible refine bd_ex ?_)
  | with_reducible refine w_seq ?_
  | with_reducible refine w_set ?_
  | with_reducible refine wb ?_
  | ((with_reducible apply tupk); (focus exact Nat.le_of_ble_eq_true rfl))
  | with_reducible refine w_sNil ?_
  | with_reducible refine w_ret ?_
  | with_reducible refine w_expr ?_
  | with_reducible refine tru_b ?_
  | with_reducible refine tru_n ?_
  | with_reducible refine tru_i ?_
  | with_reducible refine tru_t ?_
  | ((with_reducible apply tru_l); (focus assumption); (focus (repeat (first | exact List.mem_cons_self | assumption | apply List.mem_cons_of_mem))))
  | with_reducible refine is_tup ?_
  | with_reducible refine enmk ?_
  | with_reducible refine is_str ?_
  | ((with_reducible apply is_lstH); (focus assumption); (focus (repeat (first | exact List.mem_cons_self | assumption | apply List.mem_cons_of_mem))))
  | ((with_reducible apply mt_lst); (focus assumption); (focus (repeat (first | exact List.mem_cons_self | assumption | apply List.mem_cons_of_mem))))
  | with_reducible refine w_for ?_
  | with_reducible refine mt_str ?_
  | with_reducible refine oi ?_
  | with_reducible refine w_asg ?_
  | with_reducible refine w_asgL ?_
  | with_reducible refine w_put ?_
  | ((with_reducible refine w_augg ?_); refine w_aug (by exact rfl) ?_)
  | with_reducible refine w_raise ?_
  | with_reducible refine w_retN ?_
  | with_reducible refine w_brk ?_
  | with_reducible refine w_cnt ?_
  | with_reducible refine tn_nx ?_
  | with_reducible refine nx_nx ?_
  | with_reducible refine tn_ct ?_
  | with_reducible refine tn_bk ?_
  | with_reducible refine tn_rt ?_
  | with_reducible refine tn_ex ?_
  | with_reducible refine fin_rt ?_
  | with_reducible refine fin_nx ?_
  | with_reducible refine fin_ex ?_
  | ((with_reducible apply newl); (focus assumption); (focus exact Nat.le_of_ble_eq_true rfl); intro l s hl H))
local macro_rules | `(tactic| subst_eqs) => `(tactic| repeat eq_refl)
/-! ### _law_others -/
section
variable {s : Store} {t d : Nat} {Z : Hs} {K : D → Store → Prop} {E : Ex → Store → Prop} {deeds : List Str}
theorem others_w {first last : Int} (h2 : 2 ≤ deeds.length) (h3 : deeds.length ≤ 100) (H : Has s Z) (ht : (t, IsTp) ∈ Z) (hd : (d, Ls (deeds.map D.str)) ∈ Z)
    (k : ∀ l s' (r1 r2 r3 : List D), Has s' ((l, Ls [recD (.oth "under" r1), recD (.oth "over" r2), recD (.oth "one" r3)]) :: Z) → K (.loc l) s') : WR (m_d_law_others [.loc t, .int first, .int last, .loc d]  s) K E := by
  have hlm : (deeds.map D.str).length = deeds.length := List.length_map _
  unfold m_d_law_others b_d_law_others
  subst_eqs
  rename_i l1 s1 hl1 H1 l2 s2 hl2 H2
  refine bd_cut (fun env s' => ∃ (r1 r2 : List D) (x5 x6 x7 x8 x9 : Option D), env = [some (.loc t), some (.int first), some (.int last), some (.loc d), some (.loc l1), x5, x6, x7, x8, x9, none, none] ∧ Has s' ((l1, Ls [recD (.oth "under" r1), recD (.oth "over" r2)]) :: Z)) ?_ ?_
  · refine w_forA (fun i env s' => ∃ (R : List (Str × List D)) (x5 x6 x7 x8 x9 : Option D), R.map (·.1) = (["under", "over"] : List Str).take i ∧ env = [some (.loc t), some (.int first), some (.int last), some (.loc d), some (.loc l1), x5, x6, x7, x8, x9, none, none] ∧ Has s' ((l2, Ls [.str "under", .str "over"]) :: (l1, Ls (R.map fun r => recD (.oth r.1 r.2))) :: Z)) ⟨[], _, _, _, _, _, rfl, rfl, H2⟩ ?_ ?_ ?_
    · rintro i env s' ⟨R, x5, x6, x7, x8, x9, hR, rfl, H⟩
      exact H.lst (.head _)
    · rintro i dd env s' hdd ⟨R, x5, x6, x7, x8, x9, hR, rfl, H⟩
      obtain ⟨kd, rfl, hk⟩ : ∃ kd, dd = .str kd ∧ (["under", "over"] : List Str)[i]? = some kd := by
        match i, hdd with
        | 0, h => cases h; exact ⟨_, rfl, rfl⟩
        | 1, h => cases h; exact ⟨_, rfl, rfl⟩
        | i + 2, h => simp at h
      have hi : i < 2 := (List.getElem?_eq_some_iff.mp hk).1
      have hRl : R.length ≤ 2 := by
        have := congrArg List.length hR
        rw [List.length_map, List.length_take] at this
        simp at this; omega
      have hR2 : R.map (·.1) ++ [kd] = (["under", "over"] : List Str).take (i + 1) := by rw [hR, List.take_succ, hk]; rfl
      change Turns _ _ (bl_d_law_others_2 [some (.loc t), some (.int first), some (.int last), some (.loc d), some (.loc l1), some (.str kd), x6, x7, x8, x9, none, none] s')
      unfold bl_d_law_others_2
      subst_eqs
      refine draw_w H (.tail _ (.tail _ ht)) (by rw [hlm]; omega) fun a s a0 a1 H => ?_
      rw [hlm] at a1
      subst_eqs
      rename_i l3 s3 hl3 H3 l4 s4 hl4 H4
      refine draw_w H4 (.tail _ (.tail _ (.tail _ (.tail _ ht)))) (by omega) fun q s q0 q1 H => ?_
      refine o_ixZLm H (.head _) q0 (by simp; omega) fun dn hdn _ => ?_
      obtain ⟨n, rfl, n2, n8⟩ : ∃ n : Nat, dn = .int (n : Nat) ∧ 2 ≤ n ∧ n ≤ 8 := by
        simp only [List.mem_cons, List.not_mem_nil, or_false] at hdn
        rcases hdn with rfl | rfl | rfl | rfl
        · exact ⟨2, rfl, by omega, by omega⟩
        · exact ⟨2, rfl, by omega, by omega⟩
        · exact ⟨3, rfl, by omega, by omega⟩
        · exact ⟨8, rfl, by omega, by omega⟩
      have H5 := H.drop
      clear H H4
      subst_eqs
      refine rg (n := n) rfl (by omega) ?_
      refine bd_cut (fun env s' => ∃ (P : List D) (x8 x9 : Option D), P.length = n ∧ env = [some (.loc t), some (.int first), some (.int last), some (.loc d), some (.loc l1), some (.str kd), some (.int a), some (.loc l3), x8, x9, none, none] ∧ Has s' ((l3, Ls P) :: (l2, Ls [.str "under", .str "over"]) :: (l1, Ls (R.map fun r => recD (.oth r.1 r.2))) :: Z)) ?_ ?_
      · refine w_forN (fun i env s' => ∃ (P : List D) (x8 x9 : Option D), P.length = i ∧ env = [some (.loc t), some (.int first), some (.int last), some (.loc d), some (.loc l1), some (.str kd), some (.int a), some (.loc l3), x8, x9, none, none] ∧ Has s' ((l3, Ls P) :: (l2, Ls [.str "under", .str "over"]) :: (l1, Ls (R.map fun r => recD (.oth r.1 r.2))) :: Z)) ⟨[], _, _, rfl, rfl, H5⟩ ?_ ?_
        · rintro i env s' hi ⟨P, x8, x9, hP, rfl, H⟩
          unfold bl_d_law_others_1
          subst_eqs
          refine draw_w H (.tail _ (.tail _ (.tail _ ht))) (by rw [hlm]; omega) fun b s b0 b1 H => ?_
          subst_eqs
          have em : ((deeds.map D.str).length : Int) = deeds.length := by rw [hlm]
          have m0 := Int.emod_nonneg (a + 1 + b) (b := (deeds.length : Int)) (by omega)
          have m1 := Int.emod_lt_of_pos (a + 1 + b) (b := (deeds.length : Int)) (by omega)
          have wm : ∀ s, dMod (.int (a + 1 + b)) (.int ((deeds.map D.str).length : Int)) s = some (.int ((a + 1 + b) % (deeds.length : Int)), s) := fun s => by rw [em, dMod_int _ _ s (by omega)]
          first | refine wo_eq (wm _) ?_ | rw [em]
          generalize (a + 1 + b) % (deeds.length : Int) = m at *
          subst_eqs
          refine o_ixD H (.tail _ (.tail _ (.tail _ hd))) m0 (by omega) fun w1 hw1 e1 => ?_
          subst_eqs
          refine draw_w H (.tail _ (.tail _ (.tail _ ht))) (by omega) fun g s g0 g1 H => ?_
          subst_eqs
          refine o_app H 0 rfl (by omega) fun s H => ?_
          exact ⟨_, _, _, by simp [hP], rfl, H⟩
        · rintro env s' h
          exact h
      · rintro env s' ⟨P, x8, x9, hP, rfl, H⟩
        subst_eqs
        refine o_ixD H (.tail _ (.tail _ (.tail _ hd))) a0 (by omega) fun w1 hw1 e1 => ?_
        subst_eqs
        refine draw_w H (.tail _ (.tail _ (.tail _ ht))) (by omega) fun g s g0 g1 H => ?_
        subst_eqs
        refine o_app H 2 rfl (by rw [List.length_map]; omega) fun s H => ?_
        subst_eqs
        refine ⟨R ++ [(kd, [.str w1, .int (1 + g), .tup P])], _, _, _, _, _, by rw [List.map_append]; exact hR2, rfl, ?_⟩
        have H7 := H.drop
        simpa [recD] using H7
    · rintro env s' ⟨R, x5, x6, x7, x8, x9, hR, rfl, H⟩
      have hl := congrArg List.length hR
      simp only [List.length_map] at hl
      rcases R with _ | ⟨⟨a1, a2⟩, _ | ⟨⟨b1, b2⟩, _ | ⟨c, r⟩⟩⟩
      · cases hl
      · cases hl
      · have e1 : a1 = "under" := (List.cons.inj hR).1
        have e2 : b1 = "over" := (List.cons.inj (List.cons.inj hR).2).1
        subst e1 e2
        exact ⟨a2, b2, _, _, _, _, _, rfl, H.drop⟩
      · have hl : r.length + 3 = 2 := hl
        omega
  · rintro env s' ⟨r1, r2, x5, x6, x7, x8, x9, rfl, H⟩
    subst_eqs
    refine o_ixD H (.tail _ hd) (by omega) (by omega) fun w1 hw1 e1 => ?_
    subst_eqs
    refine o_ixD H (.tail _ hd) (by omega) (by omega) fun w2 hw2 e2 => ?_
    subst_eqs
    refine draw_w H (.tail _ ht) (by omega) fun g s g0 g1 H => ?_
    subst_eqs
    rename_i l6 s6 hl6 H6
    refine bd_cut (fun env s' => ∃ (one : D) (l7 : Nat) (S : List D), env = [some (.loc t), some (.int first), some (.int last), some (.loc d), some (.loc l1), x5, x6, x7, x8, x9, some one, some (.loc l7)] ∧ Has s' ((l7, Ls S) :: (l1, Ls [recD (.oth "under" r1), recD (.oth "over" r2)]) :: Z)) ?_ ?_
    · refine w_if ?_
      subst_eqs
      refine draw_w H6 (.tail _ (.tail _ ht)) (by omega) fun q s q0 q1 H => ?_
      subst_eqs
      refine wi_d (fun c => ?_) (fun c => ?_)
      · subst_eqs
        refine o_ixD H (.tail _ (.tail _ hd)) (by omega) (by omega) fun w3 hw3 e3 => ?_
        subst_eqs
        refine dates_w H (.tail _ (.tail _ ht)) fun s ds hds H => ?_
        subst_eqs
        refine o_ixD H (.tail _ (.tail _ hd)) (by omega) (by omega) fun w4 hw4 e4 => ?_
        subst_eqs
        rename_i l8 s8 hl8 H8
        exact ⟨_, _, _, rfl, H8.swap.drop⟩
      · subst_eqs
        exact ⟨_, _, _, rfl, H⟩
    · rintro env s' ⟨one, l7, S, rfl, H⟩
      subst_eqs
      refine o_app H 1 rfl (by simp) fun s H => ?_
      subst_eqs
      exact k _ _ r1 r2 [.tup S] H.drop
end
end Law
namespace Law
open PySem Mi
local macro_rules | `(tactic| ac_rfl) => `(tactic| repeat (first | exact List.mem_cons_self | assumption | apply List.mem_cons_of_mem | apply List.mem_append_right))
local macro_rules | `(tactic| eq_refl) => `(tactic| first
  | ((with_reducible refine wr_go ?_); first
    | ((with_reducible refine w_Vg ?_); first
      | with_reducible refine w_V0 ?_
      | with_reducible refine w_V1 ?_
      | with_reducible refine w_V2 ?_
      | with_reducible refine w_V3 ?_
      | with_reducible refine w_V4 ?_
      | with_reducible refine w_V5 ?_
      | with_reducible refine w_V6 ?_
      | with_reducible refine w_V7 ?_
      | with_reducible refine w_V8 ?_
      | with_reducible refine w_V9 ?_
      | with_reducible refine w_V10 ?_
      | with_reducible refine w_V11 ?_
      | with_reducible refine w_V12 ?_
      | with_reducible refine w_V13 ?_
      | with_reducible refine w_V14 ?_
      | with_reducible refine w_V15 ?_
      | with_reducible refine w_V16 ?_
      | with_reducible refine w_V17 ?_
      | with_reducible refine w_V18 ?_
      | with_reducible refine w_V19 ?_
      | with_reducible refine w_V20 ?_
      | with_reducible refine w_V21 ?_
      | with_reducible refine w_V22 ?_
      | with_reducible refine w_V23 ?_
      | with_reducible refine w_V24 ?_
      | with_reducible refine w_V25 ?_
      | with_reducible refine w_V26 ?_
      | with_reducible refine w_V27 ?_
      | with_reducible refine w_V28 ?_
      | with_reducible refine w_V29 ?_
      | with_reducible refine w_V30 ?_
      | with_reducible refine w_V31 ?_
      | refine w_V (by exact rfl) ?_)
    | with_reducible refine w_C ?_
    | with_reducible refine w_cons ?_
    | with_reducible refine w_nil ?_
    | with_reducible refine w_e2 ?_
    | with_reducible refine w_call ?_
    | with_reducible refine w_tV ?_
    | with_reducible refine w_tup ?_
    | with_reducible refine w_e1 ?_
    | with_reducible refine w_fn ?_
    | with_reducible refine w_tru ?_
    | with_reducible refine w_and ?_
    | with_reducible refine w_or ?_
    | with_reducible refine w_not ?_
    | with_reducible refine w_lst ?_
    | with_reducible refine w_mt ?_
    | with_reducible refine w_mt0 ?_
    | with_reducible refine w_rng ?_
    | with_reducible refine w_rng2 ?_
    | with_reducible refine w_iSeq ?_
    | with_reducible refine w_eif ?_
    | with_reducible refine w_eAnd ?_
    | with_reducible refine w_eOr ?_
    | with_reducible refine w_eNot ?_
    | with_reducible refine w_notT ?_
    | with_reducible refine w_chain ?_
    | with_reducible refine w_oN ?_
    | with_reducible refine w_oS ?_
    | with_reducible refine w_sl ?_
    | with_reducible refine w_lc ?_
    | with_reducible refine w_enm ?_
    | with_reducible refine w_enmS ?_
    | with_reducible refine w_zip ?_
    | with_reducible refine w_fmt ?_
    | with_reducible refine w_fs ?_
    | with_reducible refine w_jsn ?_
    | with_reducible refine w_jsc ?_
    | with_reducible refine w_dc ?_
    | ((with_reducible apply w_dict0); (focus assumption); intro l s hl H)
    | with_reducible refine w_tT ?_
    | ((with_reducible refine w_fnM ?_); simp only [List.map_cons, List.map_nil, List.cons_append, List.nil_append, List.replicate_succ, List.replicate_zero, Nat.reduceSub]))
  | ((with_reducible refine wo_go ?_); first
    | with_reducible refine o_max ?_
    | with_reducible refine o_min ?_
    | with_reducible refine o_lenT ?_
    | ((with_reducible apply o_lenL); (focus assumption); (focus (repeat (first | exact List.mem_cons_self | assumption | apply List.mem_cons_of_mem))))
    | ((with_reducible apply o_tupL); (focus assumption); (focus (repeat (first | exact List.mem_cons_self | assumption | apply List.mem_cons_of_mem))))
    | ((with_reducible apply o_sumL); (focus assumption); (focus (repeat (first | exact List.mem_cons_self | assumption | apply List.mem_cons_of_mem))))
    | ((with_reducible apply o_mul); (focus omega))
    | ((with_reducible apply o_div); (focus omega))
    | ((with_reducible apply o_mod); (focus omega))
    | ((with_reducible apply o_pow); (focus (first | omega | decide)))
    | ((with_reducible apply o_ixT); (focus (first | exact atI_zero _ _ | exact atI_one _ _ _ | exact atI_two _ _ _ _ | exact atI_three _ _ _ _ _)))
    | ((with_reducible apply o_ixL); (focus assumption); (focus (repeat (first | exact List.mem_cons_self | assumption | apply List.mem_cons_of_mem))); (focus (first | exact atI_zero _ _ | exact atI_one _ _ _ | exact atI_two _ _ _ _ | exact atI_three _ _ _ _ _)))
    | with_reducible refine o_slT ?_
    | with_reducible refine o_slA ?_
    | ((with_reducible apply o_ixZT); (focus (first | exact atI_zero _ _ | exact atI_one _ _ _ | exact atI_two _ _ _ _ | exact atI_three _ _ _ _ _)))
    | ((with_reducible apply o_ixZL); (focus assumption); (focus (repeat (first | exact List.mem_cons_self | assumption | apply List.mem_cons_of_mem))); (focus (first | exact atI_zero _ _ | exact atI_one _ _ _ | exact atI_two _ _ _ _ | exact atI_three _ _ _ _ _)))
    | with_reducible refine o_iT1 ?_
    | with_reducible refine o_iT2 ?_
    | with_reducible refine o_iT3 ?_
    | with_reducible refine o_iS1 ?_
    | with_reducible refine o_iS2 ?_
    | with_reducible refine o_iS3 ?_
    | with_reducible refine o_iI1 ?_
    | with_reducible refine o_iI2 ?_
    | with_reducible refine o_iI3 ?_
    | with_reducible refine o_iB1 ?_
    | ((with_reducible apply o_ixA); (focus (first | exact atI_zero _ _ | exact atI_one _ _ _ | exact atI_two _ _ _ _ | exact atI_three _ _ _ _ _)))
    | ((with_reducible apply o_ixAL); (focus assumption); (focus (repeat (first | exact List.mem_cons_self | assumption | apply List.mem_cons_of_mem))); (focus (first | exact atI_zero _ _ | exact atI_one _ _ _ | exact atI_two _ _ _ _ | exact atI_three _ _ _ _ _)))
    | ((with_reducible apply o_listAT); (focus assumption); intro l s hl H)
    | ((with_reducible apply o_listT); (focus assumption); intro l s hl H)
    | refine wo_some ?_)
  | ((with_reducible refine wi_go ?_); first
    | with_reducible refine wi_n ?_
    | with_reducible refine wi_t ?_
    | with_reducible refine wi_f ?_
    | ((with_reducible apply wi_yes); (focus omega))
    | ((with_reducible apply wi_no); (focus omega)))
  | ((with_reducible refine bd_go ?_); first
    | ((with_reducible refine bd_nx ?_); try simp only [List.set_cons_succ, List.set_cons_zero])
    | with_reducible refine bd_rt ?_
    | with_reducible refine bd_ct ?_
    | with_reducible refine bd_bk ?_
    | with_reducible refine bd_ex ?_)
  | with_reducible refine w_seq ?_
  | with_reducible refine w_set ?_
  | with_reducible refine wb ?_
  | ((with_reducible apply tupk); (focus exact Nat.le_of_ble_eq_true rfl))
  | with_reducible refine w_sNil ?_
  | with_reducible refine w_ret ?_
  | with_reducible refine w_expr ?_
  | with_reducible refine tru_b ?_
  | with_reducible refine tru_n ?_
  | with_reducible refine tru_i ?_
  | with_reducible refine tru_t ?_
  | ((with_reducible apply tru_l); (focus assumption); (focus (repeat (first | exact List.mem_cons_self | assumption | apply List.mem_cons_of_mem))))
  | with_reducible refine is_tup ?_
  | with_reducible refine enmk ?_
  | with_reducible refine is_str ?_
  | ((with_reducible apply is_lstH); (focus assumption); (focus (repeat (first | exact List.mem_cons_self | assumption | apply List.mem_cons_of_mem))))
  | ((with_reducible apply mt_lst); (focus assumption); (focus (repeat (first | exact List.mem_cons_self | assumption | apply List.mem_cons_of_mem))))
  | with_reducible refine w_for ?_
  | with_reducible refine mt_str ?_
  | with_reducible refine oi ?_
  | with_reducible refine w_asg ?_
  | with_reducible refine w_asgL ?_
  | with_reducible refine w_put ?_
  | ((with_reducible refine w_augg ?_); refine w_aug (by exact rfl) ?_)
  | with_reducible refine w_raise ?_
  | with_reducible refine w_retN ?_
  | with_reducible refine w_brk ?_
  | with_reducible refine w_cnt ?_
  | with_reducible refine tn_nx ?_
  | with_reducible refine nx_nx ?_
  | with_reducible refine tn_ct ?_
  | with_reducible refine tn_bk ?_
  | with_reducible refine tn_rt ?_
  | with_reducible refine tn_ex ?_
  | with_reducible refine fin_rt ?_
  | with_reducible refine fin_nx ?_
  | with_reducible refine fin_ex ?_
  | ((with_reducible apply newl); (focus assumption); (focus exact Nat.le_of_ble_eq_true rfl); intro l s hl H))
local macro_rules | `(tactic| subst_eqs) => `(tactic| repeat eq_refl)
/-! ### _law_ways -/
section
variable {s : Store} {t d : Nat} {Z : Hs} {K : D → Store → Prop} {E : Ex → Store → Prop} {deeds : List Str}
theorem o_insert {xs : List D} {l : Nat} {i : Int} {y : D} (H : Has s Z) (j : Nat) (hi : Z[j]? = some (l, Ls xs)) (h0 : 0 ≤ i) (h1 : i ≤ xs.length) (hz : xs.length ≤ 100000) (k : ∀ s', Has s' (Z.set j (l, Ls (xs.take i.toNat ++ [y] ++ xs.drop i.toNat))) → K .non s') : WO (dInsert (.loc l) [.int i, y] s) K := by
  refine wo_eq (d := .non) (s := s.set l (.lst (xs.take i.toNat ++ [y] ++ xs.drop i.toNat))) ?_ (k _ (H.put j hi rfl))
  simp only [dInsert, H.lst (List.mem_of_getElem? hi)]
  rw [if_pos ⟨lt_line (by omega), h0, by omega⟩]
theorem rec_base {r : Rec} (h : BaseOk deeds r) : RecOk deeds r := by
  cases r with
  | gap a b w => obtain ⟨h1, h2, h3, h4⟩ := h; exact ⟨h1, h2, by omega, by omega⟩
  | yrs _ _ => trivial
  | oth _ _ => exact h.elim
theorem ways_w {first last : Int} {many : Nat} (nd : deeds.Nodup) (h2 : 2 ≤ deeds.length) (h3 : deeds.length ≤ 100) (hm : many ≤ 100) (H : Has s Z) (ht : (t, IsTp) ∈ Z) (hd : (d, Ls (deeds.map D.str)) ∈ Z)
    (k : ∀ s', Has s' Z → K (.bl true) s') : WR (m_d_law_ways [.loc t, .int first, .int last, .loc d, .int (many : Nat)] s) K E := by
  unfold m_d_law_ways b_d_law_ways
  subst_eqs
  refine base_w h2 h3 hm H ht hd fun l1 s1 ents hl ho H1 => ?_
  subst_eqs
  refine others_w h2 h3 H1 (.tail _ ht) (.tail _ hd) fun l2 s2 r1 r2 r3 H2 => ?_
  subst_eqs
  refine rg (n := 8) rfl (by omega) ?_
  refine bd_cut (fun env s' => Has s' Z) ?_ ?_
  · refine w_forN (fun i env s' => ∃ (x7 x8 x9 : Option D), env = [some (.loc t), some (.int first), some (.int last), some (.loc d), some (.int (many : Nat)), some (.loc l1), some (.loc l2), x7, x8, x9] ∧ Has s' ((l2, Ls [recD (.oth "under" r1), recD (.oth "over" r2), recD (.oth "one" r3)]) :: (l1, Ls (ents.map entD)) :: Z)) ⟨_, _, _, rfl, H2⟩ ?_ ?_
    · rintro i env s' hi ⟨x7, x8, x9, rfl, H⟩
      unfold bl_d_law_ways_2
      subst_eqs
      have e : dListA [.loc l1] s' = some (.loc s'.length, s' ++ [.lst (ents.map entD)]) := by
        have := H.lst (.tail _ (.head _))
        simp [dListA, dicOf, dctOf, dList, seqOf, lstOf, this]
      refine wo_eq e ?_
      have H3 := H.new (.lst (ents.map entD))
      generalize s' ++ [Cell.lst (ents.map entD)] = s3 at *
      generalize s'.length = l3 at *
      subst_eqs
      refine rg (n := 3) rfl (by omega) ?_
      refine bd_cut (fun env s' => ∃ (es : List Ent) (x9 : Option D), Good deeds es ∧ env = [some (.loc t), some (.int first), some (.int last), some (.loc d), some (.int (many : Nat)), some (.loc l1), some (.loc l2), some (.int (i : Nat)), some (.loc l3), x9] ∧ Has s' ((l3, Ls (es.map entD)) :: (l2, Ls [recD (.oth "under" r1), recD (.oth "over" r2), recD (.oth "one" r3)]) :: (l1, Ls (ents.map entD)) :: Z)) ?_ ?_
      · refine w_forN (fun j env s' => ∃ (es : List Ent) (x9 : Option D), es.length ≤ 100 + j ∧ (∀ e ∈ es, RecOk deeds e.2) ∧ env = [some (.loc t), some (.int first), some (.int last), some (.loc d), some (.int (many : Nat)), some (.loc l1), some (.loc l2), some (.int (i : Nat)), some (.loc l3), x9] ∧ Has s' ((l3, Ls (es.map entD)) :: (l2, Ls [recD (.oth "under" r1), recD (.oth "over" r2), recD (.oth "one" r3)]) :: (l1, Ls (ents.map entD)) :: Z)) ⟨ents, _, by omega, fun e he => rec_base (ho e he), rfl, H3⟩ ?_ ?_
        · rintro j env s' hj ⟨es, x9, hes, hok, rfl, H⟩
          unfold bl_d_law_ways_1
          refine w_if ?_
          subst_eqs
          rename_i l4 s4 hl4 H4
          refine o_ixZLm H4 (.head _) (by omega) (by simp; omega) fun dq hdq _ => ?_
          obtain ⟨q, rfl, q1, q4⟩ : ∃ q : Int, dq = .int q ∧ 1 ≤ q ∧ q ≤ 4 := by
            simp only [List.mem_cons, List.not_mem_nil, or_false] at hdq
            rcases hdq with rfl | rfl | rfl
            · exact ⟨1, rfl, by omega, by omega⟩
            · exact ⟨2, rfl, by omega, by omega⟩
            · exact ⟨4, rfl, by omega, by omega⟩
          refine o_div (by omega) ?_
          have H5 := H4.drop
          subst_eqs
          refine wi_d (fun c => ?_) (fun c => ?_)
          · subst_eqs
            refine draw_w H5 (.tail _ (.tail _ (.tail _ ht))) (by rw [List.length_map]; omega) fun a s a0 a1 H => ?_
            rw [List.length_map] at a1
            subst_eqs
            refine o_ixZLm H (.tail _ (.head _)) (by omega) (by simp; omega) fun dr hdr _ => ?_
            obtain ⟨r, rfl, hr⟩ : ∃ r, dr = recD r ∧ RecOk deeds r := by
              simp only [List.mem_cons, List.not_mem_nil, or_false] at hdr
              rcases hdr with rfl | rfl | rfl
              · exact ⟨_, rfl, .inl rfl⟩
              · exact ⟨_, rfl, .inr (.inl rfl)⟩
              · exact ⟨_, rfl, .inr (.inr rfl)⟩
            subst_eqs
            refine o_insert H 0 rfl a0 (by rw [List.length_map]; omega) (by rw [List.length_map]; omega) fun s H => ?_
            subst_eqs
            refine ⟨es.take a.toNat ++ [((("bob" : Str), r) : Ent)] ++ es.drop a.toNat, _, by simp; omega, fun e he => ?_, rfl, by simpa [entD] using H⟩
            rcases List.mem_append.mp he with he | he
            · rcases List.mem_append.mp he with he | he
              · exact hok e (List.mem_of_mem_take he)
              · rw [List.mem_singleton.mp he]; exact hr
            · exact hok e (List.mem_of_mem_drop he)
          · subst_eqs
            exact ⟨es, _, by omega, hok, rfl, H5⟩
        · rintro env s' ⟨es, x9, hes, hok, rfl, H⟩
          exact ⟨es, _, ⟨nd, h3, by omega, hok⟩, rfl, H⟩
      · rintro env s' ⟨es, x9, G, rfl, H⟩
        refine w_if ?_
        subst_eqs
        refine told_w G H (.inl rfl) fun s' H => ?_
        subst_eqs
        exact ⟨_, _, _, rfl, H.drop⟩
    · rintro env s' ⟨x7, x8, x9, rfl, H⟩
      exact H.drop.drop
  · rintro env s' H
    subst_eqs
    exact k _ H
end
end Law
namespace Law
open PySem Mi
local macro_rules | `(tactic| ac_rfl) => `(tactic| repeat (first | exact List.mem_cons_self | assumption | apply List.mem_cons_of_mem | apply List.mem_append_right))
local macro_rules | `(tactic| eq_refl) => `(tactic| first
  | ((with_reducible refine wr_go ?_); first
    | ((with_reducible refine w_Vg ?_); first
      | with_reducible refine w_V0 ?_
      | with_reducible refine w_V1 ?_
      | with_reducible refine w_V2 ?_
      | with_reducible refine w_V3 ?_
      | with_reducible refine w_V4 ?_
      | with_reducible refine w_V5 ?_
      | with_reducible refine w_V6 ?_
      | with_reducible refine w_V7 ?_
      | with_reducible refine w_V8 ?_
      | with_reducible refine w_V9 ?_
      | with_reducible refine w_V10 ?_
      | with_reducible refine w_V11 ?_
      | with_reducible refine w_V12 ?_
      | with_reducible refine w_V13 ?_
      | with_reducible refine w_V14 ?_
      | with_reducible refine w_V15 ?_
      | with_reducible refine w_V16 ?_
      | with_reducible refine w_V17 ?_
      | with_reducible refine w_V18 ?_
      | with_reducible refine w_V19 ?_
      | with_reducible refine w_V20 ?_
      | with_reducible refine w_V21 ?_
      | with_reducible refine w_V22 ?_
      | with_reducible refine w_V23 ?_
      | with_reducible refine w_V24 ?_
      | with_reducible refine w_V25 ?_
      | with_reducible refine w_V26 ?_
      | with_reducible refine w_V27 ?_
      | with_reducible refine w_V28 ?_
      | with_reducible refine w_V29 ?_
      | with_reducible refine w_V30 ?_
      | with_reducible refine w_V31 ?_
      | refine w_V (by exact rfl) ?_)
    | with_reducible refine w_C ?_
    | with_reducible refine w_cons ?_
    | with_reducible refine w_nil ?_
    | with_reducible refine w_e2 ?_
    | with_reducible refine w_call ?_
    | with_reducible refine w_tV ?_
    | with_reducible refine w_tup ?_
    | with_reducible refine w_e1 ?_
    | with_reducible refine w_fn ?_
    | with_reducible refine w_tru ?_
    | with_reducible refine w_and ?_
    | with_reducible refine w_or ?_
    | with_reducible refine w_not ?_
    | with_reducible refine w_lst ?_
    | with_reducible refine w_mt ?_
    | with_reducible refine w_mt0 ?_
    | with_reducible refine w_rng ?_
    | with_reducible refine w_rng2 ?_
    | with_reducible refine w_iSeq ?_
    | with_reducible refine w_eif ?_
    | with_reducible refine w_eAnd ?_
    | with_reducible refine w_eOr ?_
    | with_reducible refine w_eNot ?_
    | with_reducible refine w_notT ?_
    | with_reducible refine w_chain ?_
    | with_reducible refine w_oN ?_
    | with_reducible refine w_oS ?_
    | with_reducible refine w_sl ?_
    | with_reducible refine w_lc ?_
    | with_reducible refine w_enm ?_
    | with_reducible refine w_enmS ?_
    | with_reducible refine w_zip ?_
    | with_reducible refine w_fmt ?_
    | with_reducible refine w_fs ?_
    | with_reducible refine w_jsn ?_
    | with_reducible refine w_jsc ?_
    | with_reducible refine w_dc ?_
    | ((with_reducible apply w_dict0); (focus assumption); intro l s hl H)
    | with_reducible refine w_tT ?_
    | ((with_reducible refine w_fnM ?_); simp only [List.map_cons, List.map_nil, List.cons_append, List.nil_append, List.replicate_succ, List.replicate_zero, Nat.reduceSub]))
  | ((with_reducible refine wo_go ?_); first
    | with_reducible refine o_max ?_
    | with_reducible refine o_min ?_
    | with_reducible refine o_lenT ?_
    | ((with_reducible apply o_lenL); (focus assumption); (focus (repeat (first | exact List.mem_cons_self | assumption | apply List.mem_cons_of_mem))))
    | ((with_reducible apply o_tupL); (focus assumption); (focus (repeat (first | exact List.mem_cons_self | assumption | apply List.mem_cons_of_mem))))
    | ((with_reducible apply o_sumL); (focus assumption); (focus (repeat (first | exact List.mem_cons_self | assumption | apply List.mem_cons_of_mem))))
    | ((with_reducible apply o_mul); (focus omega))
    | ((with_reducible apply o_div); (focus omega))
    | ((with_reducible apply o_mod); (focus omega))
    | ((with_reducible apply o_pow); (focus (first | omega | decide)))
    | ((with_reducible apply o_ixT); (focus (first | exact atI_zero _ _ | exact atI_one _ _ _ | exact atI_two _ _ _ _ | exact atI_three _ _ _ _ _)))
    | ((with_reducible apply o_ixL); (focus assumption); (focus (repeat (first | exact List.mem_cons_self | assumption | apply List.mem_cons_of_mem))); (focus (first | exact atI_zero _ _ | exact atI_one _ _ _ | exact atI_two _ _ _ _ | exact atI_three _ _ _ _ _)))
    | with_reducible refine o_slT ?_
    | with_reducible refine o_slA ?_
    | ((with_reducible apply o_ixZT); (focus (first | exact atI_zero _ _ | exact atI_one _ _ _ | exact atI_two _ _ _ _ | exact atI_three _ _ _ _ _)))
    | ((with_reducible apply o_ixZL); (focus assumption); (focus (repeat (first | exact List.mem_cons_self | assumption | apply List.mem_cons_of_mem))); (focus (first | exact atI_zero _ _ | exact atI_one _ _ _ | exact atI_two _ _ _ _ | exact atI_three _ _ _ _ _)))
    | with_reducible refine o_iT1 ?_
    | with_reducible refine o_iT2 ?_
    | with_reducible refine o_iT3 ?_
    | with_reducible refine o_iS1 ?_
    | with_reducible refine o_iS2 ?_
    | with_reducible refine o_iS3 ?_
    | with_reducible refine o_iI1 ?_
    | with_reducible refine o_iI2 ?_
    | with_reducible refine o_iI3 ?_
    | with_reducible refine o_iB1 ?_
    | ((with_reducible apply o_ixA); (focus (first | exact atI_zero _ _ | exact atI_one _ _ _ | exact atI_two _ _ _ _ | exact atI_three _ _ _ _ _)))
    | ((with_reducible apply o_ixAL); (focus assumption); (focus (repeat (first | exact List.mem_cons_self | assumption | apply List.mem_cons_of_mem))); (focus (first | exact atI_zero _ _ | exact atI_one _ _ _ | exact atI_two _ _ _ _ | exact atI_three _ _ _ _ _)))
    | ((with_reducible apply o_listAT); (focus assumption); intro l s hl H)
    | ((with_reducible apply o_listT); (focus assumption); intro l s hl H)
    | refine wo_some ?_)
  | ((with_reducible refine wi_go ?_); first
    | with_reducible refine wi_n ?_
    | with_reducible refine wi_t ?_
    | with_reducible refine wi_f ?_
    | ((with_reducible apply wi_yes); (focus omega))
    | ((with_reducible apply wi_no); (focus omega)))
  | ((with_reducible refine bd_go ?_); first
    | ((with_reducible refine bd_nx ?_); try simp only [List.set_cons_succ, List.set_cons_zero])
    | with_reducible refine bd_rt ?_
    | with_reducible refine bd_ct ?_
    | with_reducible refine bd_bk ?_
    | with_reducible refine bd_ex ?_)
  | with_reducible refine w_seq ?_
  | with_reducible refine w_set ?_
  | with_reducible refine wb ?_
  | ((with_reducible apply tupk); (focus exact Nat.le_of_ble_eq_true rfl))
  | with_reducible refine w_sNil ?_
  | with_reducible refine w_ret ?_
  | with_reducible refine w_expr ?_
  | with_reducible refine tru_b ?_
  | with_reducible refine tru_n ?_
  | with_reducible refine tru_i ?_
  | with_reducible refine tru_t ?_
  | ((with_reducible apply tru_l); (focus assumption); (focus (repeat (first | exact List.mem_cons_self | assumption | apply List.mem_cons_of_mem))))
  | with_reducible refine is_tup ?_
  | with_reducible refine enmk ?_
  | with_reducible refine is_str ?_
  | ((with_reducible apply is_lstH); (focus assumption); (focus (repeat (first | exact List.mem_cons_self | assumption | apply List.mem_cons_of_mem))))
  | ((with_reducible apply mt_lst); (focus assumption); (focus (repeat (first | exact List.mem_cons_self | assumption | apply List.mem_cons_of_mem))))
  | with_reducible refine w_for ?_
  | with_reducible refine mt_str ?_
  | with_reducible refine oi ?_
  | with_reducible refine w_asg ?_
  | with_reducible refine w_asgL ?_
  | with_reducible refine w_put ?_
  | ((with_reducible refine w_augg ?_); refine w_aug (by exact rfl) ?_)
  | with_reducible refine w_raise ?_
  | with_reducible refine w_retN ?_
  | with_reducible refine w_brk ?_
  | with_reducible refine w_cnt ?_
  | with_reducible refine tn_nx ?_
  | with_reducible refine nx_nx ?_
  | with_reducible refine tn_ct ?_
  | with_reducible refine tn_bk ?_
  | with_reducible refine tn_rt ?_
  | with_reducible refine tn_ex ?_
  | with_reducible refine fin_rt ?_
  | with_reducible refine fin_nx ?_
  | with_reducible refine fin_ex ?_
  | ((with_reducible apply newl); (focus assumption); (focus exact Nat.le_of_ble_eq_true rfl); intro l s hl H))
local macro_rules | `(tactic| subst_eqs) => `(tactic| repeat eq_refl)
/-! ### _law_plain -/
section
variable {s : Store} {t d : Nat} {Z : Hs} {K : D → Store → Prop} {E : Ex → Store → Prop} {deeds : List Str}
def Gy : Rec → Prop
  | .oth _ _ => False
  | _ => True
theorem way_gy {ents : List Ent} (h : ∀ e ∈ ents, Gy e.2) : wayS (kinds ents) = "both" := by
  obtain ⟨n1, n2, n3, n4, n5, n6⟩ := kinds_ne
  have hk : ∀ k : Str, ¬ k = ("gap" : Str) → ¬ k = ("years" : Str) → k ∉ kinds ents := fun k h1 h2 hm => by
    unfold kinds at hm
    obtain ⟨e, he, hq⟩ := List.mem_map.mp hm
    have := h e he
    cases q : e.2 with
    | gap _ _ _ => rw [q] at hq; exact h1 hq.symm
    | yrs _ _ => rw [q] at hq; exact h2 hq.symm
    | oth _ _ => rw [q] at this; exact this
  exact (wayS_both _).mpr ⟨hk _ n1 n4, hk _ n2 n5, hk _ n3 n6⟩
/-- one years record: no order book -/
theorem due_yrs {first last : Int} {ents : List Ent} (h : ∀ e ∈ ents, Gy e.2) {e : Ent} (he : e ∈ ents) {a : Str} {ds : List D} (hr : e.2 = .yrs a ds) : dueL first last deeds ents = [.str "both", .bl (ents.all fun e => plainR e.2), .bl false, .bl false] := by
  have ho : orderB first last deeds ents = false := by
    unfold orderB
    have : (ents.all fun e => gapOk e.2) = false := by
      rw [List.all_eq_false]
      exact ⟨e, he, by rw [hr]; simp [gapOk]⟩
    rw [this]; rfl
  unfold dueL
  rw [way_gy h, ho]
  rfl
def PlOk (deeds : List Str) : Rec → Prop
  | .gap a b w => a ∈ deeds ∧ b ∈ deeds ∧ -3 ≤ w ∧ w ≤ 3
  | .yrs _ ds => ds.length = 1
  | .oth _ _ => False
theorem pl_rec {r : Rec} (h : PlOk deeds r) : RecOk deeds r ∧ Gy r ∧ plainR r = true := by
  cases r with
  | gap a b w => obtain ⟨h1, h2, h3, h4⟩ := h; exact ⟨⟨h1, h2, by omega, by omega⟩, trivial, rfl⟩
  | yrs _ ds => exact ⟨trivial, trivial, decide_eq_true h⟩
  | oth _ _ => exact h.elim
theorem cut_ents (es : List Ent) (lo hi : Option Int) : ∃ es' : List Ent, cutD (es.map entD) lo hi = es'.map entD ∧ (∀ e ∈ es', e ∈ es) ∧ es'.length ≤ es.length := by
  unfold cutD
  rw [← List.map_drop, ← List.map_take]
  exact ⟨_, rfl, fun e he => List.mem_of_mem_drop (List.mem_of_mem_take he), by rw [List.length_take, List.length_drop]; omega⟩
theorem plain_w2 {first last : Int} {many : Nat} (nd : deeds.Nodup) (h2 : 2 ≤ deeds.length) (h3 : deeds.length ≤ 100) (hm : many ≤ 100) (H : Has s Z) (ht : (t, IsTp) ∈ Z) (hd : (d, Ls (deeds.map D.str)) ∈ Z)
    (k : ∀ s', Has s' Z → K (.bl true) s') : WR (m_d_law_plain [.loc t, .int first, .int last, .loc d, .int (many : Nat)] s) K E := by
  unfold m_d_law_plain b_d_law_plain
  subst_eqs
  rename_i l1 s1 hl1 H1
  refine base_w h2 h3 hm H1 (.tail _ ht) (.tail _ hd) fun l2 s2 ents hl ho H2 => ?_
  subst_eqs
  refine bd_cut (fun env s' => ∃ (es : List Ent) (x6 x7 : Option D), es.length ≤ 100 ∧ (∀ e ∈ es, PlOk deeds e.2) ∧ env = [some (.loc t), some (.int first), some (.int last), some (.loc d), some (.int (many : Nat)), some (.loc l1), x6, x7, none, none, none] ∧ Has s' ((l1, Ls (es.map entD)) :: Z)) ?_ ?_
  · refine w_forA (fun i env s' => ∃ (es : List Ent) (x6 x7 : Option D), es.length = i ∧ (∀ e ∈ es, PlOk deeds e.2) ∧ env = [some (.loc t), some (.int first), some (.int last), some (.loc d), some (.int (many : Nat)), some (.loc l1), x6, x7, none, none, none] ∧ Has s' ((l2, Ls (ents.map entD)) :: (l1, Ls (es.map entD)) :: Z)) ⟨[], _, _, rfl, by simp, rfl, H2⟩ ?_ ?_ ?_
    · rintro i env s' ⟨es, x6, x7, hes, hok, rfl, H⟩
      exact H.lst (.head _)
    · rintro i dd env s' hdd ⟨es, x6, x7, hes, hok, rfl, H⟩
      have hdd : (ents.map entD)[i]? = some dd := hdd
      obtain ⟨e, he, rfl⟩ := map_get hdd
      have hi := (List.getElem?_eq_some_iff.mp he).1
      have hb := ho e (List.mem_of_getElem? he)
      obtain ⟨dg, r⟩ := e
      change Turns _ _ (bl_d_law_plain_2 [some (.loc t), some (.int first), some (.int last), some (.loc d), some (.int (many : Nat)), some (.loc l1), some (.str dg), some (recD r), none, none, none] s')
      unfold bl_d_law_plain_2
      refine w_seq ?_
      refine bd_cut (fun env s' => ∃ r', PlOk deeds r' ∧ env = [some (.loc t), some (.int first), some (.int last), some (.loc d), some (.int (many : Nat)), some (.loc l1), some (.str dg), some (recD r'), none, none, none] ∧ Has s' ((l2, Ls (ents.map entD)) :: (l1, Ls (es.map entD)) :: Z)) ?_ ?_
      · refine w_if ?_
        cases r with
        | gap a b w =>
          simp only [recD]
          subst_eqs
          refine wi_d (fun c => absurd c gy) (fun c => ?_)
          subst_eqs
          exact ⟨.gap a b w, hb, rfl, H⟩
        | yrs a ds =>
          simp only [recD]
          subst_eqs
          refine wi_d (fun c => ?_) (fun c => absurd rfl c)
          subst_eqs
          refine wi_d (fun c => ?_) (fun c => ?_)
          · subst_eqs
            exact ⟨.yrs a ds, (by omega : ds.length = 1), rfl, H⟩
          · subst_eqs
            refine draw_w H (.tail _ (.tail _ ht)) (by omega) fun g s g0 g1 H => ?_
            subst_eqs
            exact ⟨.yrs a [.tup [.int (first - 1 + g), .int (last + 1)]], rfl, rfl, H⟩
        | oth _ _ => exact hb.elim
      · rintro env s' ⟨r', hr', rfl, H⟩
        subst_eqs
        refine o_app H 1 rfl (by rw [List.length_map]; omega) fun s H => ?_
        refine ⟨es ++ [(dg, r')], _, _, by simp [hes], ?_, rfl, by simpa [entD] using H⟩
        intro e he
        rcases List.mem_append.mp he with he | he
        · exact hok e he
        · rw [List.mem_singleton.mp he]; exact hr'
    · rintro env s' ⟨es, x6, x7, hes, hok, rfl, H⟩
      have hes : es.length = (ents.map entD).length := hes
      rw [List.length_map] at hes
      exact ⟨es, _, _, by omega, hok, rfl, H.drop⟩
  · rintro env s' ⟨es, x6, x7, hes, hok, rfl, H⟩
    subst_eqs
    refine o_ixD H (.tail _ hd) (by omega) (by omega) fun w1 hw1 e1 => ?_
    subst_eqs
    refine o_app H 0 rfl (by rw [List.length_map]; omega) fun s H => ?_
    have em : es.map entD ++ [.tup [.str "d", .tup [.str "years", .str w1, .tup [.tup [.int (max (-9999) (first - 1)), .int first]]]]] = (es ++ [(("d" : Str), Rec.yrs w1 [.tup [.int (max (-9999) (first - 1)), .int first]])]).map entD := by simp [entD, recD]
    have hE : ∀ e ∈ es ++ [(("d" : Str), Rec.yrs w1 [.tup [.int (max (-9999) (first - 1)), .int first]])], PlOk deeds e.2 := fun e he => by
      rcases List.mem_append.mp he with he | he
      · exact hok e he
      · rw [List.mem_singleton.mp he]; rfl
    have hL : (es ++ [(("d" : Str), Rec.yrs w1 [.tup [.int (max (-9999) (first - 1)), .int first]])]).length ≤ 101 := by simp; omega
    have hY : ((("d" : Str), Rec.yrs w1 [.tup [.int (max (-9999) (first - 1)), .int first]]) : Ent) ∈ es ++ [(("d" : Str), Rec.yrs w1 [.tup [.int (max (-9999) (first - 1)), .int first]])] := by simp
    rw [show (es.map entD ++ _) = _ from em] at H
    clear em
    generalize hee : es ++ [(("d" : Str), Rec.yrs w1 [.tup [.int (max (-9999) (first - 1)), .int first]])] = ee at *
    have G : Good deeds ee := ⟨nd, h3, by omega, fun e he => (pl_rec (hE e he)).1⟩
    have D1 := due_yrs (deeds := deeds) (first := first) (last := last) (fun e he => (pl_rec (hE e he)).2.1) hY rfl
    have hp : (ee.all fun e => plainR e.2) = true := List.all_eq_true.mpr fun e he => (pl_rec (hE e he)).2.2
    rw [hp] at D1
    refine w_seq ?_
    refine bd_cut (fun env s' => env = [some (.loc t), some (.int first), some (.int last), some (.loc d), some (.int (many : Nat)), some (.loc l1), x6, x7, none, none, none] ∧ Has s' ((l1, Ls (ee.map entD)) :: Z)) ?_ ?_
    · refine w_if ?_
      subst_eqs
      rename_i l5 s5 hl5 H5
      refine told_w G H5 (.inr ⟨_, rfl, by rw [D1]; exact .head _⟩) fun s' H => ?_
      subst_eqs
      exact ⟨rfl, H.drop⟩
    rintro env s' ⟨rfl, H⟩
    subst_eqs
    rename_i lw sw hlw HW
    refine bd_cut (fun env s' => Has s' Z) ?_ ?_
    · refine w_forA (fun i env s' => ∃ (x8 x9 x10 : Option D), env = [some (.loc t), some (.int first), some (.int last), some (.loc d), some (.int (many : Nat)), some (.loc l1), x6, x7, x8, x9, x10] ∧ Has s' ((lw, Ls [D.tup [], D.tup [D.tup [D.int first, D.int first], D.tup [D.int (first + 2), D.int (last + 4)]], D.tup [D.tup [D.int (first - 5), D.int (first - 4)], D.tup [D.int first, D.int last]]]) :: (l1, Ls (ee.map entD)) :: Z)) ⟨_, _, _, rfl, HW⟩ ?_ ?_ ?_
      · rintro i env s' ⟨x8, x9, x10, rfl, H⟩
        exact H.lst (.head _)
      · rintro i dd env s' hdd ⟨x8, x9, x10, rfl, H⟩
        obtain ⟨ds, rfl, hds⟩ : ∃ ds : List D, dd = .tup ds ∧ ds.length ≠ 1 := by
          have hm := List.mem_of_getElem? hdd
          simp only [List.mem_cons, List.not_mem_nil, or_false] at hm
          rcases hm with rfl | rfl | rfl
          · exact ⟨_, rfl, by simp⟩
          · exact ⟨_, rfl, by simp⟩
          · exact ⟨_, rfl, by simp⟩
        change Turns _ _ (bl_d_law_plain_1 [some (.loc t), some (.int first), some (.int last), some (.loc d), some (.int (many : Nat)), some (.loc l1), x6, x7, some (.tup ds), x9, x10] s')
        unfold bl_d_law_plain_1
        subst_eqs
        refine draw_w H (.tail _ (.tail _ ht)) (by rw [List.length_map]; omega) fun a s a0 a1 H => ?_
        subst_eqs
        obtain ⟨A, eA, hA, lA⟩ := cut_ents ee none (some a)
        obtain ⟨B, eB, hB, lB⟩ := cut_ents ee (some a) none
        refine o_slAL H (.tail _ (.head _)) fun p1 s p1l H => ?_
        rw [eA] at H
        subst_eqs
        refine o_ixD H (.tail _ (.tail _ (.tail _ hd))) (by omega) (by omega) fun w2 hw2 e2 => ?_
        subst_eqs
        rename_i p2 s p2l H
        refine o_addL H (.tail _ (.head _)) (.head _) (by simp; omega) fun p3 s p3l H => ?_
        have H7 : Has s ((p3, Ls (A.map entD ++ [.tup [.str "e", .tup [.str "years", .str w2, .tup ds]]])) :: (lw, Ls [D.tup [], D.tup [D.tup [D.int first, D.int first], D.tup [D.int (first + 2), D.int (last + 4)]], D.tup [D.tup [D.int (first - 5), D.int (first - 4)], D.tup [D.int first, D.int last]]]) :: (l1, Ls (ee.map entD)) :: Z) := H.swap.drop.swap.drop
        clear H
        subst_eqs
        refine o_slAL H7 (.tail _ (.tail _ (.head _))) fun p4 s p4l H => ?_
        rw [eB] at H
        refine o_addL H (.tail _ (.head _)) (.head _) (by simp; omega) fun p5 s p5l H => ?_
        have em2 : A.map entD ++ [.tup [.str "e", .tup [.str "years", .str w2, .tup ds]]] ++ B.map entD = (A ++ [((("e" : Str), Rec.yrs w2 ds) : Ent)] ++ B).map entD := by simp [entD, recD]
        rw [em2] at H
        have hM : ∀ e ∈ A ++ [((("e" : Str), Rec.yrs w2 ds) : Ent)] ++ B, RecOk deeds e.2 ∧ Gy e.2 := fun e he => by
          rcases List.mem_append.mp he with he | he
          · rcases List.mem_append.mp he with he | he
            · have := pl_rec (hE e (hA e he)); exact ⟨this.1, this.2.1⟩
            · rw [List.mem_singleton.mp he]; exact ⟨trivial, trivial⟩
          · have := pl_rec (hE e (hB e he)); exact ⟨this.1, this.2.1⟩
        have hY2 : ((("e" : Str), Rec.yrs w2 ds) : Ent) ∈ A ++ [((("e" : Str), Rec.yrs w2 ds) : Ent)] ++ B := by simp
        have hL2 : (A ++ [((("e" : Str), Rec.yrs w2 ds) : Ent)] ++ B).length ≤ 1000 := by simp; omega
        have hp2 : ((A ++ [((("e" : Str), Rec.yrs w2 ds) : Ent)] ++ B).all fun e => plainR e.2) = false := by
          rw [List.all_eq_false]
          exact ⟨_, hY2, by simp [plainR, hds]⟩
        have D2 := due_yrs (deeds := deeds) (first := first) (last := last) (fun e he => (hM e he).2) hY2 rfl
        rw [hp2] at D2
        generalize A ++ [((("e" : Str), Rec.yrs w2 ds) : Ent)] ++ B = mm at *
        have G2 : Good deeds mm := ⟨nd, h3, hL2, fun e he => (hM e he).1⟩
        subst_eqs
        refine w_if ?_
        subst_eqs
        rename_i l9 s9 hl9 H9
        refine told_w G2 H9 (.inr ⟨_, rfl, by rw [D2]; exact .head _⟩) fun s' H => ?_
        subst_eqs
        exact ⟨_, _, _, rfl, H.drop.drop.drop.drop⟩
      · rintro env s' ⟨x8, x9, x10, rfl, H⟩
        exact H.drop.drop
    · rintro env s' H
      subst_eqs
      exact k _ H
end
end Law
namespace Law
open PySem Mi
local macro_rules | `(tactic| ac_rfl) => `(tactic| repeat (first | exact List.mem_cons_self | assumption | apply List.mem_cons_of_mem | apply List.mem_append_right))
local macro_rules | `(tactic| eq_refl) => `(tactic| first
  | ((with_reducible refine wr_go ?_); first
    | ((with_reducible refine w_Vg ?_); first
      | with_reducible refine w_V0 ?_
      | with_reducible refine w_V1 ?_
      | with_reducible refine w_V2 ?_
      | with_reducible refine w_V3 ?_
      | with_reducible refine w_V4 ?_
      | with_reducible refine w_V5 ?_
      | with_reducible refine w_V6 ?_
      | with_reducible refine w_V7 ?_
      | with_reducible refine w_V8 ?_
      | with_reducible refine w_V9 ?_
      | with_reducible refine w_V10 ?_
      | with_reducible refine w_V11 ?_
      | with_reducible refine w_V12 ?_
      | with_reducible refine w_V13 ?_
      | with_reducible refine w_V14 ?_
      | with_reducible refine w_V15 ?_
      | with_reducible refine w_V16 ?_
      | with_reducible refine w_V17 ?_
      | with_reducible refine w_V18 ?_
      | with_reducible refine w_V19 ?_
      | with_reducible refine w_V20 ?_
      | with_reducible refine w_V21 ?_
      | with_reducible refine w_V22 ?_
      | with_reducible refine w_V23 ?_
      | with_reducible refine w_V24 ?_
      | with_reducible refine w_V25 ?_
      | with_reducible refine w_V26 ?_
      | with_reducible refine w_V27 ?_
      | with_reducible refine w_V28 ?_
      | with_reducible refine w_V29 ?_
      | with_reducible refine w_V30 ?_
      | with_reducible refine w_V31 ?_
      | refine w_V (by exact rfl) ?_)
    | with_reducible refine w_C ?_
    | with_reducible refine w_cons ?_
    | with_reducible refine w_nil ?_
    | with_reducible refine w_e2 ?_
    | with_reducible refine w_call ?_
    | with_reducible refine w_tV ?_
    | with_reducible refine w_tup ?_
    | with_reducible refine w_e1 ?_
    | with_reducible refine w_fn ?_
    | with_reducible refine w_tru ?_
    | with_reducible refine w_and ?_
    | with_reducible refine w_or ?_
    | with_reducible refine w_not ?_
    | with_reducible refine w_lst ?_
    | with_reducible refine w_mt ?_
    | with_reducible refine w_mt0 ?_
    | with_reducible refine w_rng ?_
    | with_reducible refine w_rng2 ?_
    | with_reducible refine w_iSeq ?_
    | with_reducible refine w_eif ?_
    | with_reducible refine w_eAnd ?_
    | with_reducible refine w_eOr ?_
    | with_reducible refine w_eNot ?_
    | with_reducible refine w_notT ?_
    | with_reducible refine w_chain ?_
    | with_reducible refine w_oN ?_
    | with_reducible refine w_oS ?_
    | with_reducible refine w_sl ?_
    | with_reducible refine w_lc ?_
    | with_reducible refine w_enm ?_
    | with_reducible refine w_enmS ?_
    | with_reducible refine w_zip ?_
    | with_reducible refine w_fmt ?_
    | with_reducible refine w_fs ?_
    | with_reducible refine w_jsn ?_
    | with_reducible refine w_jsc ?_
    | with_reducible refine w_dc ?_
    | ((with_reducible apply w_dict0); (focus assumption); intro l s hl H)
    | with_reducible refine w_tT ?_
    | ((with_reducible refine w_fnM ?_); simp only [List.map_cons, List.map_nil, List.cons_append, List.nil_append, List.replicate_succ, List.replicate_zero, Nat.reduceSub]))
  | ((with_reducible refine wo_go ?_); first
    | with_reducible refine o_max ?_
    | with_reducible refine o_min ?_
    | with_reducible refine o_lenT ?_
    | ((with_reducible apply o_lenL); (focus assumption); (focus (repeat (first | exact List.mem_cons_self | assumption | apply List.mem_cons_of_mem))))
    | ((with_reducible apply o_tupL); (focus assumption); (focus (repeat (first | exact List.mem_cons_self | assumption | apply List.mem_cons_of_mem))))
    | ((with_reducible apply o_sumL); (focus assumption); (focus (repeat (first | exact List.mem_cons_self | assumption | apply List.mem_cons_of_mem))))
    | ((with_reducible apply o_mul); (focus omega))
    | ((with_reducible apply o_div); (focus omega))
    | ((with_reducible apply o_mod); (focus omega))
    | ((with_reducible apply o_pow); (focus (first | omega | decide)))
    | ((with_reducible apply o_ixT); (focus (first | exact atI_zero _ _ | exact atI_one _ _ _ | exact atI_two _ _ _ _ | exact atI_three _ _ _ _ _)))
    | ((with_reducible apply o_ixL); (focus assumption); (focus (repeat (first | exact List.mem_cons_self | assumption | apply List.mem_cons_of_mem))); (focus (first | exact atI_zero _ _ | exact atI_one _ _ _ | exact atI_two _ _ _ _ | exact atI_three _ _ _ _ _)))
    | with_reducible refine o_slT ?_
    | with_reducible refine o_slA ?_
    | ((with_reducible apply o_ixZT); (focus (first | exact atI_zero _ _ | exact atI_one _ _ _ | exact atI_two _ _ _ _ | exact atI_three _ _ _ _ _)))
    | ((with_reducible apply o_ixZL); (focus assumption); (focus (repeat (first | exact List.mem_cons_self | assumption | apply List.mem_cons_of_mem))); (focus (first | exact atI_zero _ _ | exact atI_one _ _ _ | exact atI_two _ _ _ _ | exact atI_three _ _ _ _ _)))
    | with_reducible refine o_iT1 ?_
    | with_reducible refine o_iT2 ?_
    | with_reducible refine o_iT3 ?_
    | with_reducible refine o_iS1 ?_
    | with_reducible refine o_iS2 ?_
    | with_reducible refine o_iS3 ?_
    | with_reducible refine o_iI1 ?_
    | with_reducible refine o_iI2 ?_
    | with_reducible refine o_iI3 ?_
    | with_reducible refine o_iB1 ?_
    | ((with_reducible apply o_ixA); (focus (first | exact atI_zero _ _ | exact atI_one _ _ _ | exact atI_two _ _ _ _ | exact atI_three _ _ _ _ _)))
    | ((with_reducible apply o_ixAL); (focus assumption); (focus (repeat (first | exact List.mem_cons_self | assumption | apply List.mem_cons_of_mem))); (focus (first | exact atI_zero _ _ | exact atI_one _ _ _ | exact atI_two _ _ _ _ | exact atI_three _ _ _ _ _)))
    | ((with_reducible apply o_listAT); (focus assumption); intro l s hl H)
    | ((with_reducible apply o_listT); (focus assumption); intro l s hl H)
    | refine wo_some ?_)
  | ((with_reducible refine wi_go ?_); first
    | with_reducible refine wi_n ?_
    | with_reducible refine wi_t ?_
    | with_reducible refine wi_f ?_
    | ((with_reducible apply wi_yes); (focus omega))
    | ((with_reducible apply wi_no); (focus omega)))
  | ((with_reducible refine bd_go ?_); first
    | ((with_reducible refine bd_nx ?_); try simp only [List.set_cons_succ, List.set_cons_zero])
    | with_reducible refine bd_rt ?_
    | with_reducible refine bd_ct ?_
    | with_reducible refine bd_bk ?_
    | with_reducible refine bd_ex ?_)
  | with_reducible refine w_seq ?_
  | with_reducible refine w_set ?_
  | with_reducible refine wb ?_
  | ((with_reducible apply tupk); (focus exact Nat.le_of_ble_eq_true rfl))
  | with_reducible refine w_sNil ?_
  | with_reducible refine w_ret ?_
  | with_reducible refine w_expr ?_
  | with_reducible refine tru_b ?_
  | with_reducible refine tru_n ?_
  | with_reducible refine tru_i ?_
  | with_reducible refine tru_t ?_
  | ((with_reducible apply tru_l); (focus assumption); (focus (repeat (first | exact List.mem_cons_self | assumption | apply List.mem_cons_of_mem))))
  | with_reducible refine is_tup ?_
  | with_reducible refine enmk ?_
  | with_reducible refine is_str ?_
  | ((with_reducible apply is_lstH); (focus assumption); (focus (repeat (first | exact List.mem_cons_self | assumption | apply List.mem_cons_of_mem))))
  | ((with_reducible apply mt_lst); (focus assumption); (focus (repeat (first | exact List.mem_cons_self | assumption | apply List.mem_cons_of_mem))))
  | with_reducible refine w_for ?_
  | with_reducible refine mt_str ?_
  | with_reducible refine oi ?_
  | with_reducible refine w_asg ?_
  | with_reducible refine w_asgL ?_
  | with_reducible refine w_put ?_
  | ((with_reducible refine w_augg ?_); refine w_aug (by exact rfl) ?_)
  | with_reducible refine w_raise ?_
  | with_reducible refine w_retN ?_
  | with_reducible refine w_brk ?_
  | with_reducible refine w_cnt ?_
  | with_reducible refine tn_nx ?_
  | with_reducible refine nx_nx ?_
  | with_reducible refine tn_ct ?_
  | with_reducible refine tn_bk ?_
  | with_reducible refine tn_rt ?_
  | with_reducible refine tn_ex ?_
  | with_reducible refine fin_rt ?_
  | with_reducible refine fin_nx ?_
  | with_reducible refine fin_ex ?_
  | ((with_reducible apply newl); (focus assumption); (focus exact Nat.le_of_ble_eq_true rfl); intro l s hl H))
local macro_rules | `(tactic| subst_eqs) => `(tactic| repeat eq_refl)
/-! ### _law_forward, _law_frame -/
def FwdE (B : List Str) (low high : Int) (r : Rec) : Prop := ∃ (i j : Nat) (a b : Str) (w : Int), r = .gap a b w ∧ i < j ∧ B[i]? = some a ∧ B[j]? = some b ∧ low ≤ w ∧ w ≤ high
def gapW : Rec → Option Int
  | .gap _ _ w => some w
  | _ => none
def most (ents : List Ent) : Int := (ents.filterMap fun e => gapW e.2).foldl max 1
theorem most_gaps {ents : List Ent} (h : Gaps ents) : most ents = wid ents := by
  have e : (ents.filterMap fun e => gapW e.2) = (edges ents).map fun e => e.2.2 := by
    unfold edges
    rw [List.map_map]
    induction ents with
    | nil => rfl
    | cons e ents ih =>
      obtain ⟨a, b, w, q⟩ := h e (by simp)
      rw [List.filterMap_cons, q]
      simp only [gapW, List.map_cons, Function.comp, q, edgeOf]
      exact congrArg (List.cons w) (ih fun x hx => h x (by simp [hx]))
  unfold most wid
  rw [e, List.foldl_map]
theorem most_bnd {deeds : List Str} {ents : List Ent} (h : ∀ e ∈ ents, RecOk deeds e.2) : 1 ≤ most ents ∧ most ents ≤ 1000000 := by
  have key : ∀ (L : List Int) (m : Int), 1 ≤ m → m ≤ 1000000 → (∀ w ∈ L, w ≤ 1000000) → 1 ≤ L.foldl max m ∧ L.foldl max m ≤ 1000000 := by
    intro L
    induction L with
    | nil => intro m h1 h2 _; exact ⟨h1, h2⟩
    | cons w L ih =>
      intro m h1 h2 h3
      have := h3 w (by simp)
      exact ih (max m w) (by omega) (by omega) fun e' he' => h3 e' (by simp [he'])
  refine key _ 1 (by omega) (by omega) fun w hw => ?_
  obtain ⟨e, he, q⟩ := List.mem_filterMap.mp hw
  have := h e he
  cases hr : e.2 with
  | gap a b w' => rw [hr] at q this; cases q; exact this.2.2.2
  | yrs _ _ => rw [hr] at q; cases q
  | oth _ _ => rw [hr] at q; cases q
section
variable {s : Store} {t d : Nat} {Z : Hs} {K : D → Store → Prop} {E : Ex → Store → Prop} {deeds : List Str}
theorem forward_w {low high : Int} {many : Nat} (h2 : 2 ≤ deeds.length) (h3 : deeds.length ≤ 100) (hm : many ≤ 200) (hlh : low ≤ high) (hh : high ≤ 1000 ∧ -1000 ≤ low) (H : Has s Z) (ht : (t, IsTp) ∈ Z) (hd : (d, Ls (deeds.map D.str)) ∈ Z)
    (k : ∀ l lr le s' (B : List Str) (ents : List Ent), B.Perm deeds → ents.length = many → (∀ e ∈ ents, FwdE B low high e.2) → Has s' ((l, Ls [.loc lr, .loc le]) :: (le, Ls (ents.map entD)) :: (lr, Ls (B.map D.str)) :: Z) → K (.loc l) s') : WR (m_d_law_forward [.loc t, .loc d, .int (many : Nat), .int low, .int high] s) K E := by
  unfold m_d_law_forward b_d_law_forward
  subst_eqs
  refine shuffled_w h3 H ht hd fun lr s1 B hB H1 => ?_
  have hBl : B.length = deeds.length := hB.length_eq
  have hlm : (B.map D.str).length = B.length := List.length_map _
  subst_eqs
  rename_i le s2 hle H2
  refine rg (n := many) rfl (by omega) ?_
  refine bd_cut (fun env s' => ∃ (ents : List Ent) (x7 x8 x9 : Option D), ents.length = many ∧ (∀ e ∈ ents, FwdE B low high e.2) ∧ env = [some (.loc t), some (.loc d), some (.int (many : Nat)), some (.int low), some (.int high), some (.loc lr), some (.loc le), x7, x8, x9] ∧ Has s' ((le, Ls (ents.map entD)) :: (lr, Ls (B.map D.str)) :: Z)) ?_ ?_
  · refine w_forN (fun i env s' => ∃ (ents : List Ent) (x7 x8 x9 : Option D), ents.length = i ∧ (∀ e ∈ ents, FwdE B low high e.2) ∧ env = [some (.loc t), some (.loc d), some (.int (many : Nat)), some (.int low), some (.int high), some (.loc lr), some (.loc le), x7, x8, x9] ∧ Has s' ((le, Ls (ents.map entD)) :: (lr, Ls (B.map D.str)) :: Z)) ⟨[], _, _, _, rfl, by simp, rfl, H2⟩ ?_ ?_
    · rintro i env s' hi ⟨ents, x7, x8, x9, hl, ho, rfl, H⟩
      unfold bl_d_law_forward_1
      subst_eqs
      refine draw_w H (.tail _ (.tail _ ht)) (by rw [hlm]; omega) fun a s a0 a1 H => ?_
      rw [hlm] at a1
      subst_eqs
      refine draw_w H (.tail _ (.tail _ ht)) (by rw [hlm]; omega) fun b s b0 b1 H => ?_
      rw [hlm] at b1
      subst_eqs
      rename_i l5 s5 hl5 H5
      refine draw_w H5 (.tail _ (.tail _ (.tail _ ht))) (by omega) fun q s q0 q1 H => ?_
      refine o_ixZLm H (.head _) q0 (by simp; omega) fun dd hdd _ => ?_
      obtain ⟨w, rfl⟩ : ∃ w, dd = .str w := by
        simp only [List.mem_cons, List.not_mem_nil, or_false] at hdd
        rcases hdd with rfl | rfl | rfl <;> exact ⟨_, rfl⟩
      have H6 := H.drop
      clear H H5
      subst_eqs
      refine o_ixD H6 (.tail _ (.head _)) a0 (by omega) fun w1 hw1 e1 => ?_
      subst_eqs
      refine o_ixD H6 (.tail _ (.head _)) (by omega) (by omega) fun w2 hw2 e2 => ?_
      subst_eqs
      refine draw_w H6 (.tail _ (.tail _ ht)) (by omega) fun g s g0 g1 H => ?_
      subst_eqs
      refine o_app H 0 rfl (by rw [List.length_map]; omega) fun s H => ?_
      refine ⟨ents ++ [(w, .gap w1 w2 (low + g))], _, _, _, by simp [hl], ?_, rfl, by simpa [entD, recD] using H⟩
      intro e he
      rcases List.mem_append.mp he with he | he
      · exact ho e he
      · rw [List.mem_singleton.mp he]
        exact ⟨a.toNat, (a + 1 + b).toNat, w1, w2, _, rfl, by omega, e1, e2, by omega, by omega⟩
    · rintro env s' h
      exact h
  · rintro env s' ⟨ents, x7, x8, x9, hl, ho, rfl, H⟩
    subst_eqs
    rename_i l9 s9 hl9 H9
    exact k _ _ _ _ B ents hB hl ho H9
theorem frame_w {wider : Int} {ents : List Ent} {l : Nat} (hw : -1 ≤ wider ∧ wider ≤ 100) (h3 : deeds.length ≤ 100) (hn : ents.length ≤ 1000) (hg : ∀ e ∈ ents, RecOk deeds e.2) (H : Has s Z) (ht : (t, IsTp) ∈ Z) (hd : (d, Ls (deeds.map D.str)) ∈ Z) (he : (l, Ls (ents.map entD)) ∈ Z)
    (k : ∀ s' (f : Int), Has s' Z → K (bookD f (f + (2 * deeds.length * most ents + 1 + wider)) deeds ents) s') : WR (m_d_law_frame [.loc t, .loc d, .loc l, .int wider] s) K E := by
  unfold m_d_law_frame b_d_law_frame
  subst_eqs
  rename_i l1 s1 hl1 H1
  have hM := most_bnd hg
  refine wr_eq ((lcL_fm (H1.lst (.tail _ he)) entD (fun e => (gapW e.2).map D.int) ents [] (fun e he => ?_) (by simp; omega)).trans (by rfl)) ?_
  · have hr := hg e he
    obtain ⟨dg, r⟩ := e
    cases r with
    | gap a b w => simp [entD, recD, lt_d_law_frame_1, le_d_law_frame_2, ix0, ix3, gapW]
    | yrs a ds => simp [entD, recD, lt_d_law_frame_1, le_d_law_frame_2, ix0, ix3, gapW, ne_s.1]
    | oth kd rs =>
      obtain ⟨q1, q2⟩ := oth_ne hr
      simp [entD, recD, lt_d_law_frame_1, le_d_law_frame_2, ix0, ix3, gapW, q1]
  have em : ([] ++ ents.filterMap fun e => (gapW e.2).map D.int) = (ents.filterMap fun e => gapW e.2).map D.int := by
    rw [List.nil_append, List.map_filterMap]
  rw [em]
  have H2 := H1.new (.lst ((ents.filterMap fun e => gapW e.2).map D.int))
  have hfl : (ents.filterMap fun e => gapW e.2).length ≤ 1000 := Nat.le_trans (List.length_filterMap_le _ _) hn
  generalize s1 ++ [Cell.lst ((ents.filterMap fun e => gapW e.2).map D.int)] = s2 at *
  generalize s1.length = l2 at *
  refine o_addL H2 (.tail _ (.head _)) (.head _) (by simp; omega) fun l3 s3 hl3 H3 => ?_
  have emx : dMaxL [.loc l3] s3 = some (.int (most ents), s3) := by
    have g := H3.lst (.head _)
    have e1 : ([D.int 1] ++ (ents.filterMap fun e => gapW e.2).map D.int) = (1 :: ents.filterMap fun e => gapW e.2).map D.int := by simp
    rw [e1] at g
    have e2 := intsOf_map (1 :: ents.filterMap fun e => gapW e.2)
    have e3 : (1 :: ents.filterMap fun e => gapW e.2).max? = some (most ents) := by rw [List.max?_cons']; rfl
    simp only [dMaxL, lstOf_loc g, Option.bind_some, e2, e3, Option.map_some]
  subst_eqs
  refine wo_eq emx ?_
  have H4 := H3.drop.drop.drop
  clear H1 H2 H3 emx
  generalize most ents = M at *
  subst_eqs
  rename_i l5 s5 hl5 H5
  refine draw_w H5 (.tail _ ht) (by omega) fun q s q0 q1 H => ?_
  refine o_ixZLm H (.head _) q0 (by simp; omega) fun df hdf _ => ?_
  obtain ⟨f, rfl⟩ : ∃ f : Int, df = .int f := by
    simp only [List.mem_cons, List.not_mem_nil, or_false] at hdf
    rcases hdf with rfl | rfl | rfl | rfl | rfl <;> exact ⟨_, rfl⟩
  have H6 := H.drop
  clear H H5 H4
  subst_eqs
  rw [show ((deeds.map D.str).length : Int) = deeds.length by rw [List.length_map]]
  generalize 2 * (deeds.length : Int) * M + 1 + wider = need at *
  refine bd_cut (fun env s' => ∃ f' : Int, env = [some (.loc t), some (.loc d), some (.loc l), some (.int wider), some (.int M), some (.int f'), some (.int need), none, none] ∧ Has s' Z) ?_ ?_
  · refine w_if ?_
    subst_eqs
    refine wi_d (fun c => ?_) (fun c => ?_)
    · subst_eqs
      exact ⟨_, rfl, H6⟩
    · subst_eqs
      exact ⟨_, rfl, H6⟩
  · rintro env s' ⟨f', rfl, H⟩
    subst_eqs
    exact k _ f' H
end
end Law
namespace Law
open PySem Mi
local macro_rules | `(tactic| ac_rfl) => `(tactic| repeat (first | exact List.mem_cons_self | assumption | apply List.mem_cons_of_mem | apply List.mem_append_right))
local macro_rules | `(tactic| eq_refl) => `(tactic| first
  | ((with_reducible refine wr_go ?_); first
    | ((with_reducible refine w_Vg ?_); first
      | with_reducible refine w_V0 ?_
      | with_reducible refine w_V1 ?_
      | with_reducible refine w_V2 ?_
      | with_reducible refine w_V3 ?_
      | with_reducible refine w_V4 ?_
      | with_reducible refine w_V5 ?_
      | with_reducible refine w_V6 ?_
      | with_reducible refine w_V7 ?_
      | with_reducible refine w_V8 ?_
      | with_reducible refine w_V9 ?_
      | with_reducible refine w_V10 ?_
      | with_reducible refine w_V11 ?_
      | with_reducible refine w_V12 ?_
      | with_reducible refine w_V13 ?_
      | with_reducible refine w_V14 ?_
      | with_reducible refine w_V15 ?_
      | with_reducible refine w_V16 ?_
      | with_reducible refine w_V17 ?_
      | with_reducible refine w_V18 ?_
      | with_reducible refine w_V19 ?_
      | with_reducible refine w_V20 ?_
      | with_reducible refine w_V21 ?_
      | with_reducible refine w_V22 ?_
      | with_reducible refine w_V23 ?_
      | with_reducible refine w_V24 ?_
      | with_reducible refine w_V25 ?_
      | with_reducible refine w_V26 ?_
      | with_reducible refine w_V27 ?_
      | with_reducible refine w_V28 ?_
      | with_reducible refine w_V29 ?_
      | with_reducible refine w_V30 ?_
      | with_reducible refine w_V31 ?_
      | refine w_V (by exact rfl) ?_)
    | with_reducible refine w_C ?_
    | with_reducible refine w_cons ?_
    | with_reducible refine w_nil ?_
    | with_reducible refine w_e2 ?_
    | with_reducible refine w_call ?_
    | with_reducible refine w_tV ?_
    | with_reducible refine w_tup ?_
    | with_reducible refine w_e1 ?_
    | with_reducible refine w_fn ?_
    | with_reducible refine w_tru ?_
    | with_reducible refine w_and ?_
    | with_reducible refine w_or ?_
    | with_reducible refine w_not ?_
    | with_reducible refine w_lst ?_
    | with_reducible refine w_mt ?_
    | with_reducible refine w_mt0 ?_
    | with_reducible refine w_rng ?_
    | with_reducible refine w_rng2 ?_
    | with_reducible refine w_iSeq ?_
    | with_reducible refine w_eif ?_
    | with_reducible refine w_eAnd ?_
    | with_reducible refine w_eOr ?_
    | with_reducible refine w_eNot ?_
    | with_reducible refine w_notT ?_
    | with_reducible refine w_chain ?_
    | with_reducible refine w_oN ?_
    | with_reducible refine w_oS ?_
    | with_reducible refine w_sl ?_
    | with_reducible refine w_lc ?_
    | with_reducible refine w_enm ?_
    | with_reducible refine w_enmS ?_
    | with_reducible refine w_zip ?_
    | with_reducible refine w_fmt ?_
    | with_reducible refine w_fs ?_
    | with_reducible refine w_jsn ?_
    | with_reducible refine w_jsc ?_
    | with_reducible refine w_dc ?_
    | ((with_reducible apply w_dict0); (focus assumption); intro l s hl H)
    | with_reducible refine w_tT ?_
    | ((with_reducible refine w_fnM ?_); simp only [List.map_cons, List.map_nil, List.cons_append, List.nil_append, List.replicate_succ, List.replicate_zero, Nat.reduceSub]))
  | ((with_reducible refine wo_go ?_); first
    | with_reducible refine o_max ?_
    | with_reducible refine o_min ?_
    | with_reducible refine o_lenT ?_
    | ((with_reducible apply o_lenL); (focus assumption); (focus (repeat (first | exact List.mem_cons_self | assumption | apply List.mem_cons_of_mem))))
    | ((with_reducible apply o_tupL); (focus assumption); (focus (repeat (first | exact List.mem_cons_self | assumption | apply List.mem_cons_of_mem))))
    | ((with_reducible apply o_sumL); (focus assumption); (focus (repeat (first | exact List.mem_cons_self | assumption | apply List.mem_cons_of_mem))))
    | ((with_reducible apply o_mul); (focus omega))
    | ((with_reducible apply o_div); (focus omega))
    | ((with_reducible apply o_mod); (focus omega))
    | ((with_reducible apply o_pow); (focus (first | omega | decide)))
    | ((with_reducible apply o_ixT); (focus (first | exact atI_zero _ _ | exact atI_one _ _ _ | exact atI_two _ _ _ _ | exact atI_three _ _ _ _ _)))
    | ((with_reducible apply o_ixL); (focus assumption); (focus (repeat (first | exact List.mem_cons_self | assumption | apply List.mem_cons_of_mem))); (focus (first | exact atI_zero _ _ | exact atI_one _ _ _ | exact atI_two _ _ _ _ | exact atI_three _ _ _ _ _)))
    | with_reducible refine o_slT ?_
    | with_reducible refine o_slA ?_
    | ((with_reducible apply o_ixZT); (focus (first | exact atI_zero _ _ | exact atI_one _ _ _ | exact atI_two _ _ _ _ | exact atI_three _ _ _ _ _)))
    | ((with_reducible apply o_ixZL); (focus assumption); (focus (repeat (first | exact List.mem_cons_self | assumption | apply List.mem_cons_of_mem))); (focus (first | exact atI_zero _ _ | exact atI_one _ _ _ | exact atI_two _ _ _ _ | exact atI_three _ _ _ _ _)))
    | with_reducible refine o_iT1 ?_
    | with_reducible refine o_iT2 ?_
    | with_reducible refine o_iT3 ?_
    | with_reducible refine o_iS1 ?_
    | with_reducible refine o_iS2 ?_
    | with_reducible refine o_iS3 ?_
    | with_reducible refine o_iI1 ?_
    | with_reducible refine o_iI2 ?_
    | with_reducible refine o_iI3 ?_
    | with_reducible refine o_iB1 ?_
    | ((with_reducible apply o_ixA); (focus (first | exact atI_zero _ _ | exact atI_one _ _ _ | exact atI_two _ _ _ _ | exact atI_three _ _ _ _ _)))
    | ((with_reducible apply o_ixAL); (focus assumption); (focus (repeat (first | exact List.mem_cons_self | assumption | apply List.mem_cons_of_mem))); (focus (first | exact atI_zero _ _ | exact atI_one _ _ _ | exact atI_two _ _ _ _ | exact atI_three _ _ _ _ _)))
    | ((with_reducible apply o_listAT); (focus assumption); intro l s hl H)
    | ((with_reducible apply o_listT); (focus assumption); intro l s hl H)
    | refine wo_some ?_)
  | ((with_reducible refine wi_go ?_); first
    | with_reducible refine wi_n ?_
    | with_reducible refine wi_t ?_
    | with_reducible refine wi_f ?_
    | ((with_reducible apply wi_yes); (focus omega))
    | ((with_reducible apply wi_no); (focus omega)))
  | ((with_reducible refine bd_go ?_); first
    | ((with_reducible refine bd_nx ?_); try simp only [List.set_cons_succ, List.set_cons_zero])
    | with_reducible refine bd_rt ?_
    | with_reducible refine bd_ct ?_
    | with_reducible refine bd_bk ?_
    | with_reducible refine bd_ex ?_)
  | with_reducible refine w_seq ?_
  | with_reducible refine w_set ?_
  | with_reducible refine wb ?_
  | ((with_reducible apply tupk); (focus exact Nat.le_of_ble_eq_true rfl))
  | with_reducible refine w_sNil ?_
  | with_reducible refine w_ret ?_
  | with_reducible refine w_expr ?_
  | with_reducible refine tru_b ?_
  | with_reducible refine tru_n ?_
  | with_reducible refine tru_i ?_
  | with_reducible refine tru_t ?_
  | ((with_reducible apply tru_l); (focus assumption); (focus (repeat (first | exact List.mem_cons_self | assumption | apply List.mem_cons_of_mem))))
  | with_reducible refine is_tup ?_
  | with_reducible refine enmk ?_
  | with_reducible refine is_str ?_
  | ((with_reducible apply is_lstH); (focus assumption); (focus (repeat (first | exact List.mem_cons_self | assumption | apply List.mem_cons_of_mem))))
  | ((with_reducible apply mt_lst); (focus assumption); (focus (repeat (first | exact List.mem_cons_self | assumption | apply List.mem_cons_of_mem))))
  | with_reducible refine w_for ?_
  | with_reducible refine mt_str ?_
  | with_reducible refine oi ?_
  | with_reducible refine w_asg ?_
  | with_reducible refine w_asgL ?_
  | with_reducible refine w_put ?_
  | ((with_reducible refine w_augg ?_); refine w_aug (by exact rfl) ?_)
  | with_reducible refine w_raise ?_
  | with_reducible refine w_retN ?_
  | with_reducible refine w_brk ?_
  | with_reducible refine w_cnt ?_
  | with_reducible refine tn_nx ?_
  | with_reducible refine nx_nx ?_
  | with_reducible refine tn_ct ?_
  | with_reducible refine tn_bk ?_
  | with_reducible refine tn_rt ?_
  | with_reducible refine tn_ex ?_
  | with_reducible refine fin_rt ?_
  | with_reducible refine fin_nx ?_
  | with_reducible refine fin_ex ?_
  | ((with_reducible apply newl); (focus assumption); (focus exact Nat.le_of_ble_eq_true rfl); intro l s hl H))
local macro_rules | `(tactic| subst_eqs) => `(tactic| repeat eq_refl)
/-! ### the dues of gap books -/
section
variable {deeds : List Str} {ents : List Ent}
theorem gy_of (h : ∀ e ∈ ents, gapOk e.2 = true) : ∀ e ∈ ents, Gy e.2 := fun e he => by
  have := h e he
  cases q : e.2 with
  | oth _ _ => rw [q] at this; simp [gapOk] at this
  | _ => trivial
theorem pl_of (h : ∀ e ∈ ents, gapOk e.2 = true) : (ents.all fun e => plainR e.2) = true := List.all_eq_true.mpr fun e he => by
  have := h e he
  cases q : e.2 with
  | gap _ _ _ => rfl
  | yrs _ _ => rw [q] at this; simp [gapOk] at this
  | oth _ _ => rw [q] at this; simp [gapOk] at this
theorem due_gaps {f wider : Int} (h : ∀ e ∈ ents, gapOk e.2 = true) :
    dueL f (f + (2 * deeds.length * most ents + 1 + wider)) deeds ents = [.str "both", .bl true, .bl (decide (0 ≤ wider) && settles (edges ents) (deeds.length + 1) zero), .bl (decide (0 ≤ wider) && settles (edges ents) (deeds.length + 1) zero && strictB ents)] := by
  have hg : (ents.all fun e => gapOk e.2) = true := List.all_eq_true.mpr h
  have hm := most_gaps (gaps_of hg)
  have hr : roomy f (f + (2 * deeds.length * most ents + 1 + wider)) deeds.length (wid ents) = decide (0 ≤ wider) := by
    unfold roomy
    rw [hm]
    generalize 2 * (deeds.length : Int) * wid ents = x
    rw [Bool.eq_iff_iff, Bool.not_eq_true', decide_eq_false_iff_not, decide_eq_true_iff]
    omega
  unfold dueL orderB
  rw [hg, hr, way_gy (gy_of h), pl_of h, Bool.true_and]
theorem due_narrow {f : Int} (h : ∀ e ∈ ents, gapOk e.2 = true) : dueL f (f + (2 * deeds.length * most ents + 1 + -1)) deeds ents = [.str "both", .bl true, .bl false, .bl false] := by
  rw [due_gaps h]; rfl
theorem due_neg {f l : Int} (h : ∀ e ∈ ents, ∃ a b w, e.2 = .gap a b w) {e : Ent} (he : e ∈ ents) {a b : Str} {w : Int} (hr : e.2 = .gap a b w) (hw : w < 0) : dueL f l deeds ents = [.str "both", .bl true, .bl false, .bl false] := by
  have ho : orderB f l deeds ents = false := by
    unfold orderB
    have : (ents.all fun e => gapOk e.2) = false := by
      rw [List.all_eq_false]
      exact ⟨e, he, by rw [hr]; simp [gapOk]; omega⟩
    rw [this]; rfl
  have hy : ∀ e ∈ ents, Gy e.2 := fun e he => by obtain ⟨a, b, w, q⟩ := h e he; rw [q]; trivial
  have hp : (ents.all fun e => plainR e.2) = true := List.all_eq_true.mpr fun e he => by obtain ⟨a, b, w, q⟩ := h e he; rw [q]; rfl
  unfold dueL
  rw [way_gy hy, ho, hp]
  rfl
theorem ixS_at {B : List Str} (nd : B.Nodup) {i : Nat} {a : Str} (h : B[i]? = some a) : ixS B a = i := by
  obtain ⟨hi, e⟩ := List.getElem?_eq_some_iff.mp h
  have hm : a ∈ B := List.mem_of_getElem? h
  have e2 := ixS_get hm
  have pw := List.pairwise_iff_getElem.mp nd
  have e3 := e2.trans e.symm
  rcases Nat.lt_trichotomy (ixS B a) i with c | c | c
  · exact absurd e3 (pw _ _ (ixS_lt hm) hi c)
  · exact c
  · exact absurd e3.symm (pw _ _ hi (ixS_lt hm) c)
theorem fwd_gap {B : List Str} {low high : Int} {r : Rec} (h : FwdE B low high r) (h0 : 0 ≤ low) : gapOk r = true := by
  obtain ⟨i, j, a, b, w, rfl, _, _, _, h1, _⟩ := h
  simp [gapOk]; omega
theorem fwd_settles {B : List Str} (nd : B.Nodup) {low high : Int} (h : ∀ e ∈ ents, FwdE B low high e.2) : settles (edges ents) (B.length + 1) zero = true := by
  refine settles_row (rk := ixS B) fun e he => ?_
  obtain ⟨x, hx, rfl⟩ := List.mem_map.mp he
  obtain ⟨i, j, a, b, w, q, hij, ha, hb, _, _⟩ := h x hx
  rw [q]
  show ixS B a < ixS B b ∧ ixS B b < B.length
  rw [ixS_at nd ha, ixS_at nd hb]
  exact ⟨hij, (List.getElem?_eq_some_iff.mp hb).1⟩
theorem fwd_rec {B : List Str} {low high : Int} {r : Rec} (hB : B.Perm deeds) (h : FwdE B low high r) (h1 : -1000000 ≤ low) (h2 : high ≤ 1000000) : RecOk deeds r := by
  obtain ⟨i, j, a, b, w, rfl, hij, ha, hb, w1, w2⟩ := h
  exact ⟨hB.mem_iff.mp (List.mem_of_getElem? ha), hB.mem_iff.mp (List.mem_of_getElem? hb), by omega, by omega⟩
theorem fwd_due {B : List Str} (nd : deeds.Nodup) (hB : B.Perm deeds) {low high f wider : Int} (h0 : 0 ≤ low) (hw : 0 ≤ wider) (h : ∀ e ∈ ents, FwdE B low high e.2) :
    dueL f (f + (2 * deeds.length * most ents + 1 + wider)) deeds ents = [.str "both", .bl true, .bl true, .bl (strictB ents)] := by
  rw [due_gaps fun e he => fwd_gap (h e he) h0]
  have := fwd_settles (hB.nodup_iff.mpr nd) h
  rw [hB.length_eq] at this
  rw [this]
  simp [hw]
end
end Law
namespace Law
open PySem Mi
local macro_rules | `(tactic| ac_rfl) => `(tactic| repeat (first | exact List.mem_cons_self | assumption | apply List.mem_cons_of_mem | apply List.mem_append_right))
local macro_rules | `(tactic| eq_refl) => `(tactic| first
  | ((with_reducible refine wr_go ?_); first
    | ((with_reducible refine w_Vg ?_); first
      | with_reducible refine w_V0 ?_
      | with_reducible refine w_V1 ?_
      | with_reducible refine w_V2 ?_
      | with_reducible refine w_V3 ?_
      | with_reducible refine w_V4 ?_
      | with_reducible refine w_V5 ?_
      | with_reducible refine w_V6 ?_
      | with_reducible refine w_V7 ?_
      | with_reducible refine w_V8 ?_
      | with_reducible refine w_V9 ?_
      | with_reducible refine w_V10 ?_
      | with_reducible refine w_V11 ?_
      | with_reducible refine w_V12 ?_
      | with_reducible refine w_V13 ?_
      | with_reducible refine w_V14 ?_
      | with_reducible refine w_V15 ?_
      | with_reducible refine w_V16 ?_
      | with_reducible refine w_V17 ?_
      | with_reducible refine w_V18 ?_
      | with_reducible refine w_V19 ?_
      | with_reducible refine w_V20 ?_
      | with_reducible refine w_V21 ?_
      | with_reducible refine w_V22 ?_
      | with_reducible refine w_V23 ?_
      | with_reducible refine w_V24 ?_
      | with_reducible refine w_V25 ?_
      | with_reducible refine w_V26 ?_
      | with_reducible refine w_V27 ?_
      | with_reducible refine w_V28 ?_
      | with_reducible refine w_V29 ?_
      | with_reducible refine w_V30 ?_
      | with_reducible refine w_V31 ?_
      | refine w_V (by exact rfl) ?_)
    | with_reducible refine w_C ?_
    | with_reducible refine w_cons ?_
    | with_reducible refine w_nil ?_
    | with_reducible refine w_e2 ?_
    | with_reducible refine w_call ?_
    | with_reducible refine w_tV ?_
    | with_reducible refine w_tup ?_
    | with_reducible refine w_e1 ?_
    | with_reducible refine w_fn ?_
    | with_reducible refine w_tru ?_
    | with_reducible refine w_and ?_
    | with_reducible refine w_or ?_
    | with_reducible refine w_not ?_
    | with_reducible refine w_lst ?_
    | with_reducible refine w_mt ?_
    | with_reducible refine w_mt0 ?_
    | with_reducible refine w_rng ?_
    | with_reducible refine w_rng2 ?_
    | with_reducible refine w_iSeq ?_
    | with_reducible refine w_eif ?_
    | with_reducible refine w_eAnd ?_
    | with_reducible refine w_eOr ?_
    | with_reducible refine w_eNot ?_
    | with_reducible refine w_notT ?_
    | with_reducible refine w_chain ?_
    | with_reducible refine w_oN ?_
    | with_reducible refine w_oS ?_
    | with_reducible refine w_sl ?_
    | with_reducible refine w_lc ?_
    | with_reducible refine w_enm ?_
    | with_reducible refine w_enmS ?_
    | with_reducible refine w_zip ?_
    | with_reducible refine w_fmt ?_
    | with_reducible refine w_fs ?_
    | with_reducible refine w_jsn ?_
    | with_reducible refine w_jsc ?_
    | with_reducible refine w_dc ?_
    | ((with_reducible apply w_dict0); (focus assumption); intro l s hl H)
    | with_reducible refine w_tT ?_
    | ((with_reducible refine w_fnM ?_); simp only [List.map_cons, List.map_nil, List.cons_append, List.nil_append, List.replicate_succ, List.replicate_zero, Nat.reduceSub]))
  | ((with_reducible refine wo_go ?_); first
    | with_reducible refine o_max ?_
    | with_reducible refine o_min ?_
    | with_reducible refine o_lenT ?_
    | ((with_reducible apply o_lenL); (focus assumption); (focus (repeat (first | exact List.mem_cons_self | assumption | apply List.mem_cons_of_mem))))
    | ((with_reducible apply o_tupL); (focus assumption); (focus (repeat (first | exact List.mem_cons_self | assumption | apply List.mem_cons_of_mem))))
    | ((with_reducible apply o_sumL); (focus assumption); (focus (repeat (first | exact List.mem_cons_self | assumption | apply List.mem_cons_of_mem))))
    | ((with_reducible apply o_mul); (focus omega))
    | ((with_reducible apply o_div); (focus omega))
    | ((with_reducible apply o_mod); (focus omega))
    | ((with_reducible apply o_pow); (focus (first | omega | decide)))
    | ((with_reducible apply o_ixT); (focus (first | exact atI_zero _ _ | exact atI_one _ _ _ | exact atI_two _ _ _ _ | exact atI_three _ _ _ _ _)))
    | ((with_reducible apply o_ixL); (focus assumption); (focus (repeat (first | exact List.mem_cons_self | assumption | apply List.mem_cons_of_mem))); (focus (first | exact atI_zero _ _ | exact atI_one _ _ _ | exact atI_two _ _ _ _ | exact atI_three _ _ _ _ _)))
    | with_reducible refine o_slT ?_
    | with_reducible refine o_slA ?_
    | ((with_reducible apply o_ixZT); (focus (first | exact atI_zero _ _ | exact atI_one _ _ _ | exact atI_two _ _ _ _ | exact atI_three _ _ _ _ _)))
    | ((with_reducible apply o_ixZL); (focus assumption); (focus (repeat (first | exact List.mem_cons_self | assumption | apply List.mem_cons_of_mem))); (focus (first | exact atI_zero _ _ | exact atI_one _ _ _ | exact atI_two _ _ _ _ | exact atI_three _ _ _ _ _)))
    | with_reducible refine o_iT1 ?_
    | with_reducible refine o_iT2 ?_
    | with_reducible refine o_iT3 ?_
    | with_reducible refine o_iS1 ?_
    | with_reducible refine o_iS2 ?_
    | with_reducible refine o_iS3 ?_
    | with_reducible refine o_iI1 ?_
    | with_reducible refine o_iI2 ?_
    | with_reducible refine o_iI3 ?_
    | with_reducible refine o_iB1 ?_
    | ((with_reducible apply o_ixA); (focus (first | exact atI_zero _ _ | exact atI_one _ _ _ | exact atI_two _ _ _ _ | exact atI_three _ _ _ _ _)))
    | ((with_reducible apply o_ixAL); (focus assumption); (focus (repeat (first | exact List.mem_cons_self | assumption | apply List.mem_cons_of_mem))); (focus (first | exact atI_zero _ _ | exact atI_one _ _ _ | exact atI_two _ _ _ _ | exact atI_three _ _ _ _ _)))
    | ((with_reducible apply o_listAT); (focus assumption); intro l s hl H)
    | ((with_reducible apply o_listT); (focus assumption); intro l s hl H)
    | refine wo_some ?_)
  | ((with_reducible refine wi_go ?_); first
    | with_reducible refine wi_n ?_
    | with_reducible refine wi_t ?_
    | with_reducible refine wi_f ?_
    | ((with_reducible apply wi_yes); (focus omega))
    | ((with_reducible apply wi_no); (focus omega)))
  | ((with_reducible refine bd_go ?_); first
    | ((with_reducible refine bd_nx ?_); try simp only [List.set_cons_succ, List.set_cons_zero])
    | with_reducible refine bd_rt ?_
    | with_reducible refine bd_ct ?_
    | with_reducible refine bd_bk ?_
    | with_reducible refine bd_ex ?_)
  | with_reducible refine w_seq ?_
  | with_reducible refine w_set ?_
  | with_reducible refine wb ?_
  | ((with_reducible apply tupk); (focus exact Nat.le_of_ble_eq_true rfl))
  | with_reducible refine w_sNil ?_
  | with_reducible refine w_ret ?_
  | with_reducible refine w_expr ?_
  | with_reducible refine tru_b ?_
  | with_reducible refine tru_n ?_
  | with_reducible refine tru_i ?_
  | with_reducible refine tru_t ?_
  | ((with_reducible apply tru_l); (focus assumption); (focus (repeat (first | exact List.mem_cons_self | assumption | apply List.mem_cons_of_mem))))
  | with_reducible refine is_tup ?_
  | with_reducible refine enmk ?_
  | with_reducible refine is_str ?_
  | ((with_reducible apply is_lstH); (focus assumption); (focus (repeat (first | exact List.mem_cons_self | assumption | apply List.mem_cons_of_mem))))
  | ((with_reducible apply mt_lst); (focus assumption); (focus (repeat (first | exact List.mem_cons_self | assumption | apply List.mem_cons_of_mem))))
  | with_reducible refine w_for ?_
  | with_reducible refine mt_str ?_
  | with_reducible refine oi ?_
  | with_reducible refine w_asg ?_
  | with_reducible refine w_asgL ?_
  | with_reducible refine w_put ?_
  | ((with_reducible refine w_augg ?_); refine w_aug (by exact rfl) ?_)
  | with_reducible refine w_raise ?_
  | with_reducible refine w_retN ?_
  | with_reducible refine w_brk ?_
  | with_reducible refine w_cnt ?_
  | with_reducible refine tn_nx ?_
  | with_reducible refine nx_nx ?_
  | with_reducible refine tn_ct ?_
  | with_reducible refine tn_bk ?_
  | with_reducible refine tn_rt ?_
  | with_reducible refine tn_ex ?_
  | with_reducible refine fin_rt ?_
  | with_reducible refine fin_nx ?_
  | with_reducible refine fin_ex ?_
  | ((with_reducible apply newl); (focus assumption); (focus exact Nat.le_of_ble_eq_true rfl); intro l s hl H))
local macro_rules | `(tactic| subst_eqs) => `(tactic| repeat eq_refl)
/-! ### _law_orders -/
section
variable {s : Store} {t d : Nat} {Z : Hs} {K : D → Store → Prop} {E : Ex → Store → Prop} {deeds : List Str}
theorem orders_few {low high many : Int} (nd : deeds.Nodup) (h3 : deeds.length < 2) (H : Has s Z) (ht : (t, IsTp) ∈ Z) (hd : (d, Ls (deeds.map D.str)) ∈ Z)
    (k : ∀ s', Has s' Z → K (.bl true) s') : WR (m_d_law_orders [.loc t, .loc d, .int low, .int high, .int many] s) K E := by
  have hlm : (deeds.map D.str).length = deeds.length := List.length_map _
  unfold m_d_law_orders b_d_law_orders
  subst_eqs
  refine w_if ?_
  subst_eqs
  rename_i l1 s1 hl1 H1
  have G : Good deeds [] := ⟨nd, by omega, by simp, by simp⟩
  refine frame_w (ents := []) (by omega) (by omega) (by simp) (by simp) H1 (.tail _ ht) (.tail _ hd) (.head _) fun s2 f H2 => ?_
  have D1 := fwd_due (ents := []) (f := f) (wider := 0) nd (List.Perm.refl deeds) (low := 0) (high := 0) (by omega) (by omega) (by simp)
  have D2 := due_narrow (deeds := deeds) (ents := []) (f := f) (by simp)
  have D2 : dueL f (f + (2 * deeds.length * most [] + 1 + 0) - 1) deeds [] = [.str "both", .bl true, .bl false, .bl false] := by
    rw [← D2]; congr 1; omega
  have hs : strictB [] = true := rfl
  rw [hs] at D1
  unfold bookD
  subst_eqs
  rename_i l3 s3 hl3 H3
  generalize f + (2 * (deeds.length : Int) * most [] + 1 + 0) = g at *
  change WR (m_d_law_told [bookD f g deeds [], .loc l3] s3) _ _
  refine told_w G H3 (.inr ⟨_, rfl, by rw [D1]; exact .head _⟩) fun s' H => ?_
  subst_eqs
  rename_i l4 s4 hl4 H4
  change WR (m_d_law_told [bookD f (g - 1) deeds [], .loc l4] s4) _ _
  refine told_w G H4 (.inr ⟨_, rfl, by rw [D2]; exact .head _⟩) fun s' H => ?_
  subst_eqs
  exact k _ H.drop.drop.drop
end
end Law
namespace Law
open PySem Mi
local macro_rules | `(tactic| ac_rfl) => `(tactic| repeat (first | exact List.mem_cons_self | assumption | apply List.mem_cons_of_mem | apply List.mem_append_right))
local macro_rules | `(tactic| eq_refl) => `(tactic| first
  | ((with_reducible refine wr_go ?_); first
    | ((with_reducible refine w_Vg ?_); first
      | with_reducible refine w_V0 ?_
      | with_reducible refine w_V1 ?_
      | with_reducible refine w_V2 ?_
      | with_reducible refine w_V3 ?_
      | with_reducible refine w_V4 ?_
      | with_reducible refine w_V5 ?_
      | with_reducible refine w_V6 ?_
      | with_reducible refine w_V7 ?_
      | with_reducible refine w_V8 ?_
      | with_reducible refine w_V9 ?_
      | with_reducible refine w_V10 ?_
      | with_reducible refine w_V11 ?_
      | with_reducible refine w_V12 ?_
      | with_reducible refine w_V13 ?_
      | with_reducible refine w_V14 ?_
      | with_reducible refine w_V15 ?_
      | with_reducible refine w_V16 ?_
      | with_reducible refine w_V17 ?_
      | with_reducible refine w_V18 ?_
      | with_reducible refine w_V19 ?_
      | with_reducible refine w_V20 ?_
      | with_reducible refine w_V21 ?_
      | with_reducible refine w_V22 ?_
      | with_reducible refine w_V23 ?_
      | with_reducible refine w_V24 ?_
      | with_reducible refine w_V25 ?_
      | with_reducible refine w_V26 ?_
      | with_reducible refine w_V27 ?_
      | with_reducible refine w_V28 ?_
      | with_reducible refine w_V29 ?_
      | with_reducible refine w_V30 ?_
      | with_reducible refine w_V31 ?_
      | refine w_V (by exact rfl) ?_)
    | with_reducible refine w_C ?_
    | with_reducible refine w_cons ?_
    | with_reducible refine w_nil ?_
    | with_reducible refine w_e2 ?_
    | with_reducible refine w_call ?_
    | with_reducible refine w_tV ?_
    | with_reducible refine w_tup ?_
    | with_reducible refine w_e1 ?_
    | with_reducible refine w_fn ?_
    | with_reducible refine w_tru ?_
    | with_reducible refine w_and ?_
    | with_reducible refine w_or ?_
    | with_reducible refine w_not ?_
    | with_reducible refine w_lst ?_
    | with_reducible refine w_mt ?_
    | with_reducible refine w_mt0 ?_
    | with_reducible refine w_rng ?_
    | with_reducible refine w_rng2 ?_
    | with_reducible refine w_iSeq ?_
    | with_reducible refine w_eif ?_
    | with_reducible refine w_eAnd ?_
    | with_reducible refine w_eOr ?_
    | with_reducible refine w_eNot ?_
    | with_reducible refine w_notT ?_
    | with_reducible refine w_chain ?_
    | with_reducible refine w_oN ?_
    | with_reducible refine w_oS ?_
    | with_reducible refine w_sl ?_
    | with_reducible refine w_lc ?_
    | with_reducible refine w_enm ?_
    | with_reducible refine w_enmS ?_
    | with_reducible refine w_zip ?_
    | with_reducible refine w_fmt ?_
    | with_reducible refine w_fs ?_
    | with_reducible refine w_jsn ?_
    | with_reducible refine w_jsc ?_
    | with_reducible refine w_dc ?_
    | ((with_reducible apply w_dict0); (focus assumption); intro l s hl H)
    | with_reducible refine w_tT ?_
    | ((with_reducible refine w_fnM ?_); simp only [List.map_cons, List.map_nil, List.cons_append, List.nil_append, List.replicate_succ, List.replicate_zero, Nat.reduceSub]))
  | ((with_reducible refine wo_go ?_); first
    | with_reducible refine o_max ?_
    | with_reducible refine o_min ?_
    | with_reducible refine o_lenT ?_
    | ((with_reducible apply o_lenL); (focus assumption); (focus (repeat (first | exact List.mem_cons_self | assumption | apply List.mem_cons_of_mem))))
    | ((with_reducible apply o_tupL); (focus assumption); (focus (repeat (first | exact List.mem_cons_self | assumption | apply List.mem_cons_of_mem))))
    | ((with_reducible apply o_sumL); (focus assumption); (focus (repeat (first | exact List.mem_cons_self | assumption | apply List.mem_cons_of_mem))))
    | ((with_reducible apply o_mul); (focus omega))
    | ((with_reducible apply o_div); (focus omega))
    | ((with_reducible apply o_mod); (focus omega))
    | ((with_reducible apply o_pow); (focus (first | omega | decide)))
    | ((with_reducible apply o_ixT); (focus (first | exact atI_zero _ _ | exact atI_one _ _ _ | exact atI_two _ _ _ _ | exact atI_three _ _ _ _ _)))
    | ((with_reducible apply o_ixL); (focus assumption); (focus (repeat (first | exact List.mem_cons_self | assumption | apply List.mem_cons_of_mem))); (focus (first | exact atI_zero _ _ | exact atI_one _ _ _ | exact atI_two _ _ _ _ | exact atI_three _ _ _ _ _)))
    | with_reducible refine o_slT ?_
    | with_reducible refine o_slA ?_
    | ((with_reducible apply o_ixZT); (focus (first | exact atI_zero _ _ | exact atI_one _ _ _ | exact atI_two _ _ _ _ | exact atI_three _ _ _ _ _)))
    | ((with_reducible apply o_ixZL); (focus assumption); (focus (repeat (first | exact List.mem_cons_self | assumption | apply List.mem_cons_of_mem))); (focus (first | exact atI_zero _ _ | exact atI_one _ _ _ | exact atI_two _ _ _ _ | exact atI_three _ _ _ _ _)))
    | with_reducible refine o_iT1 ?_
    | with_reducible refine o_iT2 ?_
    | with_reducible refine o_iT3 ?_
    | with_reducible refine o_iS1 ?_
    | with_reducible refine o_iS2 ?_
    | with_reducible refine o_iS3 ?_
    | with_reducible refine o_iI1 ?_
    | with_reducible refine o_iI2 ?_
    | with_reducible refine o_iI3 ?_
    | with_reducible refine o_iB1 ?_
    | ((with_reducible apply o_ixA); (focus (first | exact atI_zero _ _ | exact atI_one _ _ _ | exact atI_two _ _ _ _ | exact atI_three _ _ _ _ _)))
    | ((with_reducible apply o_ixAL); (focus assumption); (focus (repeat (first | exact List.mem_cons_self | assumption | apply List.mem_cons_of_mem))); (focus (first | exact atI_zero _ _ | exact atI_one _ _ _ | exact atI_two _ _ _ _ | exact atI_three _ _ _ _ _)))
    | ((with_reducible apply o_listAT); (focus assumption); intro l s hl H)
    | ((with_reducible apply o_listT); (focus assumption); intro l s hl H)
    | refine wo_some ?_)
  | ((with_reducible refine wi_go ?_); first
    | with_reducible refine wi_n ?_
    | with_reducible refine wi_t ?_
    | with_reducible refine wi_f ?_
    | ((with_reducible apply wi_yes); (focus omega))
    | ((with_reducible apply wi_no); (focus omega)))
  | ((with_reducible refine bd_go ?_); first
    | ((with_reducible refine bd_nx ?_); try simp only [List.set_cons_succ, List.set_cons_zero])
    | with_reducible refine bd_rt ?_
    | with_reducible refine bd_ct ?_
    | with_reducible refine bd_bk ?_
    | with_reducible refine bd_ex ?_)
  | with_reducible refine w_seq ?_
  | with_reducible refine w_set ?_
  | with_reducible refine wb ?_
  | ((with_reducible apply tupk); (focus exact Nat.le_of_ble_eq_true rfl))
  | with_reducible refine w_sNil ?_
  | with_reducible refine w_ret ?_
  | with_reducible refine w_expr ?_
  | with_reducible refine tru_b ?_
  | with_reducible refine tru_n ?_
  | with_reducible refine tru_i ?_
  | with_reducible refine tru_t ?_
  | ((with_reducible apply tru_l); (focus assumption); (focus (repeat (first | exact List.mem_cons_self | assumption | apply List.mem_cons_of_mem))))
  | with_reducible refine is_tup ?_
  | with_reducible refine enmk ?_
  | with_reducible refine is_str ?_
  | ((with_reducible apply is_lstH); (focus assumption); (focus (repeat (first | exact List.mem_cons_self | assumption | apply List.mem_cons_of_mem))))
  | ((with_reducible apply mt_lst); (focus assumption); (focus (repeat (first | exact List.mem_cons_self | assumption | apply List.mem_cons_of_mem))))
  | with_reducible refine w_for ?_
  | with_reducible refine mt_str ?_
  | with_reducible refine oi ?_
  | with_reducible refine w_asg ?_
  | with_reducible refine w_asgL ?_
  | with_reducible refine w_put ?_
  | ((with_reducible refine w_augg ?_); refine w_aug (by exact rfl) ?_)
  | with_reducible refine w_raise ?_
  | with_reducible refine w_retN ?_
  | with_reducible refine w_brk ?_
  | with_reducible refine w_cnt ?_
  | with_reducible refine tn_nx ?_
  | with_reducible refine nx_nx ?_
  | with_reducible refine tn_ct ?_
  | with_reducible refine tn_bk ?_
  | with_reducible refine tn_rt ?_
  | with_reducible refine tn_ex ?_
  | with_reducible refine fin_rt ?_
  | with_reducible refine fin_nx ?_
  | with_reducible refine fin_ex ?_
  | ((with_reducible apply newl); (focus assumption); (focus exact Nat.le_of_ble_eq_true rfl); intro l s hl H))
local macro_rules | `(tactic| subst_eqs) => `(tactic| repeat eq_refl)
section
variable {s : Store} {t d : Nat} {Z : Hs} {K : D → Store → Prop} {E : Ex → Store → Prop} {deeds : List Str}
theorem pkA {xs : List D} {l : Nat} {j : Int} {y : D} {env : Sl} {P : RS → Prop} (H : Has s Z) (i : Nat) (hi : Z[i]? = some (l, Ls xs)) (h0 : 0 ≤ j) (h1 : j < xs.length) (q : ∀ s', Has s' (Z.set i (l, Ls (xs.set j.toNat y))) → P (.nx env s')) : PutK pAny (.loc l) (.int j) y env s P := by
  obtain ⟨n, rfl⟩ := Int.eq_ofNat_of_zero_le h0
  have g := H.lst (List.mem_of_getElem? hi)
  have e := pList_loc g n (by omega) y
  refine putk (s'' := s.set l (.lst (xs.set n y))) ?_ (q _ (H.put i hi rfl))
  rw [pAny_loc g, e]
def gapB : Rec → Bool
  | .gap _ _ w => decide (w = 0)
  | _ => false
theorem strict_low {ents : List Ent} {B : List Str} {low high : Int} (h : ∀ e ∈ ents, FwdE B low high e.2) (hl : 1 ≤ low) : strictB ents = true := by
  unfold strictB
  rw [List.all_eq_true]
  intro e he
  obtain ⟨x, hx, rfl⟩ := List.mem_map.mp he
  obtain ⟨i, j, a, b, w, q, _, _, _, w1, _⟩ := h x hx
  rw [q]
  simp only [edgeOf]
  exact decide_eq_true (by omega)
def oneZ (e : Ent) : Option D := if gapB e.2 = true then some (.int 1) else none
theorem strict_zero {ents : List Ent} {B : List Str} {low high : Int} (h : ∀ e ∈ ents, FwdE B low high e.2) (hl : 0 ≤ low) : strictB ents = decide (((ents.filterMap oneZ).length : Int) = 0) := by
  unfold strictB
  rw [Bool.eq_iff_iff, List.all_eq_true, decide_eq_true_iff]
  have e0 : ((ents.filterMap oneZ).length : Int) = 0 ↔ ∀ e ∈ ents, oneZ e = none := by
    rw [← List.filterMap_eq_nil_iff, ← List.length_eq_zero_iff]
    omega
  rw [e0]
  constructor
  · intro q x hx
    obtain ⟨i, j, a, b, w, q2, _⟩ := h x hx
    have := q (edgeOf x.2) (List.mem_map.mpr ⟨x, hx, rfl⟩)
    rw [q2] at this
    have h1 : (1 : Int) ≤ w := of_decide_eq_true this
    have h2 : ¬ w = 0 := by omega
    unfold oneZ
    rw [q2]
    simp [gapB, h2]
  · intro q e he
    obtain ⟨x, hx, rfl⟩ := List.mem_map.mp he
    obtain ⟨i, j, a, b, w, q2, _, _, _, w1, _⟩ := h x hx
    have := q x hx
    unfold oneZ at this
    rw [q2] at this ⊢
    have h1 : ¬ w = 0 := by simpa [gapB] using this
    show decide ((1 : Int) ≤ w) = true
    exact decide_eq_true (by omega)
theorem orders_w {low high : Int} {many : Nat} (nd : deeds.Nodup) (h2 : 2 ≤ deeds.length) (h3 : deeds.length ≤ 100) (hm : many ≤ 200) (h0 : 0 ≤ low) (hlh : low ≤ high) (hh : high ≤ 1000) (H : Has s Z) (ht : (t, IsTp) ∈ Z) (hd : (d, Ls (deeds.map D.str)) ∈ Z)
    (k : ∀ s', Has s' Z → K (.bl true) s') : WR (m_d_law_orders [.loc t, .loc d, .int low, .int high, .int (many : Nat)] s) K E := by
  have hlm : (deeds.map D.str).length = deeds.length := List.length_map _
  unfold m_d_law_orders b_d_law_orders
  subst_eqs
  refine w_if ?_
  subst_eqs
  refine forward_w h2 h3 hm hlh ⟨hh, by omega⟩ H ht hd fun l lr le s1 B ents hB hl ho H1 => ?_
  have hBl : B.length = deeds.length := hB.length_eq
  have nB : B.Nodup := hB.nodup_iff.mpr nd
  have hgap : ∀ e ∈ ents, gapOk e.2 = true := fun e he => fwd_gap (ho e he) h0
  have hrec : ∀ e ∈ ents, RecOk deeds e.2 := fun e he => fwd_rec hB (ho e he) (by omega) (by omega)
  have G : Good deeds ents := ⟨nd, h3, by omega, hrec⟩
  subst_eqs
  refine asgL (env2 := [some (.loc t), some (.loc d), some (.int low), some (.int high), some (.int (many : Nat)), none, none, some (.loc lr), some (.loc le), none, none, none, none, none, none, none, none, none, none, none]) H1 (.head _) rfl rfl ?_
  have H2 := H1.drop
  clear H H1
  eq_refl
  refine w_seq ?_
  refine bd_cut (fun env s' => env = [some (.loc t), some (.loc d), some (.int low), some (.int high), some (.int (many : Nat)), none, none, some (.loc lr), some (.loc le), some (.bl (strictB ents)), none, none, none, none, none, none, none, none, none, none] ∧ Has s' ((le, Ls (ents.map entD)) :: (lr, Ls (B.map D.str)) :: Z)) ?_ ?_
  · subst_eqs
    refine wi_d (fun c => ?_) (fun c => ?_)
    · exact ⟨by rw [strict_low ho c]; rfl, H2⟩
    · have el := lcL_fm (gd := fun s2 => s2[le]? = some (Cell.lst (ents.map entD))) (g := gT 2 (gsC (gN 18) (gsC (gN 19) gsN))) (t := lt_d_law_orders_2) (e := le_d_law_orders_3) (env := [some (.loc t), some (.loc d), some (.int low), some (.int high), some (.int (many : Nat)), none, none, some (.loc lr), some (.loc le), none, none, none, none, none, none, none, none, none, none, none]) (s := s1) (H2.lst (.head _)) entD oneZ ents [] (fun e he => by
        obtain ⟨i, j, a, b, w, q2, _⟩ := ho e he
        obtain ⟨dg, r⟩ := e
        simp only at q2
        subst q2
        by_cases cw : w = 0 <;> simp [entD, recD, lt_d_law_orders_2, le_d_law_orders_3, ix3, oneZ, gapB, cw]) (by simp; omega)
      subst_eqs
      refine wr_eq el ?_
      rw [List.nil_append]
      have H3 := H2.new (.lst (ents.filterMap oneZ))
      generalize s1 ++ [Cell.lst (ents.filterMap oneZ)] = s3 at *
      generalize s1.length = l3 at *
      subst_eqs
      exact ⟨by rw [strict_zero ho h0]; rfl, H3.drop⟩
  rintro env s' ⟨rfl, H⟩
  refine w_seq ?_
  refine bd_cut (fun env s' => env = [some (.loc t), some (.loc d), some (.int low), some (.int high), some (.int (many : Nat)), none, none, some (.loc lr), some (.loc le), some (.bl (strictB ents)), none, none, none, none, none, none, none, none, none, none] ∧ Has s' ((le, Ls (ents.map entD)) :: (lr, Ls (B.map D.str)) :: Z)) ?_ ?_
  · refine w_if ?_
    subst_eqs
    refine frame_w (by omega) h3 (by omega) hrec H (.tail _ (.tail _ ht)) (.tail _ (.tail _ hd)) (.head _) fun s2 f H2 => ?_
    subst_eqs
    rename_i l3 s3 hl3 H3
    refine told_w G H3 (.inr ⟨_, rfl, by rw [fwd_due nd hB h0 (by omega) ho]; exact .head _⟩) fun s' H => ?_
    subst_eqs
    exact ⟨rfl, H.drop⟩
  rintro env s' ⟨rfl, H⟩
  refine w_seq ?_
  refine bd_cut (fun env s' => env = [some (.loc t), some (.loc d), some (.int low), some (.int high), some (.int (many : Nat)), none, none, some (.loc lr), some (.loc le), some (.bl (strictB ents)), none, none, none, none, none, none, none, none, none, none] ∧ Has s' ((le, Ls (ents.map entD)) :: (lr, Ls (B.map D.str)) :: Z)) ?_ ?_
  · refine w_if ?_
    subst_eqs
    refine frame_w (by omega) h3 (by omega) hrec H (.tail _ (.tail _ ht)) (.tail _ (.tail _ hd)) (.head _) fun s2 f H2 => ?_
    subst_eqs
    rename_i l3 s3 hl3 H3
    refine told_w G H3 (.inr ⟨_, rfl, by rw [due_narrow hgap]; exact .head _⟩) fun s' H => ?_
    subst_eqs
    exact ⟨rfl, H.drop⟩
  rintro env s' ⟨rfl, H⟩
  subst_eqs
  refine draw_w H (.tail _ (.tail _ ht)) (by omega) fun wider s wi0 wi1 H => ?_
  subst_eqs
  refine draw_w H (.tail _ (.tail _ ht)) (by rw [List.length_map]; omega) fun at' s at0 at1 H => ?_
  rw [List.length_map] at at1
  subst_eqs
  have hlb : (B.map D.str).length = B.length := List.length_map _
  refine draw_w H (.tail _ (.tail _ ht)) (by rw [hlb]; omega) fun to s to0 to1 H => ?_
  rw [hlb] at to1
  obtain ⟨A1, eA, hA, lA⟩ := cut_ents ents none (some at')
  obtain ⟨A2, eB, hA2, lB⟩ := cut_ents ents (some at') none
  subst_eqs
  rename_i lw sw hlw HW
  refine bd_cut (fun env s' => ∃ x13 x14, env = [some (.loc t), some (.loc d), some (.int low), some (.int high), some (.int (many : Nat)), none, none, some (.loc lr), some (.loc le), some (.bl (strictB ents)), some (.int wider), some (.int at'), some (.int to), x13, x14, none, none, none, none, none] ∧ Has s' ((le, Ls (ents.map entD)) :: (lr, Ls (B.map D.str)) :: Z)) ?_ ?_
  · refine w_forA (fun i env s' => ∃ x13 x14, env = [some (.loc t), some (.loc d), some (.int low), some (.int high), some (.int (many : Nat)), none, none, some (.loc lr), some (.loc le), some (.bl (strictB ents)), some (.int wider), some (.int at'), some (.int to), x13, x14, none, none, none, none, none] ∧ Has s' ((lw, Ls [.int 0, .int 1, .int high]) :: (le, Ls (ents.map entD)) :: (lr, Ls (B.map D.str)) :: Z)) ⟨_, _, rfl, HW⟩ ?_ ?_ ?_
    · rintro i env s' ⟨x13, x14, rfl, H⟩
      exact H.lst (.head _)
    · rintro i dd env s' hdd ⟨x13, x14, rfl, H⟩
      obtain ⟨lst, rfl, hl0, hl1⟩ : ∃ v : Int, dd = .int v ∧ 0 ≤ v ∧ v ≤ 1000 := by
        have hm := List.mem_of_getElem? hdd
        simp only [List.mem_cons, List.not_mem_nil, or_false] at hm
        rcases hm with rfl | rfl | rfl
        · exact ⟨_, rfl, by omega, by omega⟩
        · exact ⟨_, rfl, by omega, by omega⟩
        · exact ⟨_, rfl, by omega, by omega⟩
      change Turns _ _ (bl_d_law_orders_1 [some (.loc t), some (.loc d), some (.int low), some (.int high), some (.int (many : Nat)), none, none, some (.loc lr), some (.loc le), some (.bl (strictB ents)), some (.int wider), some (.int at'), some (.int to), some (.int lst), x14, none, none, none, none, none] s')
      unfold bl_d_law_orders_1
      subst_eqs
      refine o_slAL H (.tail _ (.head _)) fun p1 s p1l H => ?_
      rw [eA] at H
      have em : ((B.map D.str).length : Int) = B.length := by rw [hlb]
      subst_eqs
      rw [em]
      refine o_ixD H (.tail _ (.tail _ (.tail _ (.head _)))) (by omega) (by omega) fun w1 hw1 e1 => ?_
      subst_eqs
      refine o_ixD H (.tail _ (.tail _ (.tail _ (.head _)))) (by omega) (by omega) fun w2 hw2 e2 => ?_
      subst_eqs
      rename_i p2 s p2l H
      refine o_addL H (.tail _ (.head _)) (.head _) (by simp; omega) fun p3 s p3l H => ?_
      subst_eqs
      refine o_slAL H (.tail _ (.tail _ (.tail _ (.tail _ (.head _))))) fun p4 s p4l H => ?_
      rw [eB] at H
      refine o_addL H (.tail _ (.head _)) (.head _) (by simp; omega) fun p5 s p5l H => ?_
      have em2 : A1.map entD ++ [.tup [.str "cy", .tup [.str "gap", .str w1, .str w2, .int lst]]] ++ A2.map entD = (A1 ++ [((("cy" : Str), Rec.gap w1 w2 lst) : Ent)] ++ A2).map entD := by simp [entD, recD]
      rw [em2] at H
      have hM : ∀ e ∈ A1 ++ [((("cy" : Str), Rec.gap w1 w2 lst) : Ent)] ++ A2, RecOk deeds e.2 := fun e he => by
        rcases List.mem_append.mp he with he | he
        · rcases List.mem_append.mp he with he | he
          · exact hrec e (hA e he)
          · rw [List.mem_singleton.mp he]; exact ⟨hB.mem_iff.mp hw1, hB.mem_iff.mp hw2, by omega, by omega⟩
        · exact hrec e (hA2 e he)
      have hL2 : (A1 ++ [((("cy" : Str), Rec.gap w1 w2 lst) : Ent)] ++ A2).length ≤ 1000 := by simp; omega
      generalize A1 ++ [((("cy" : Str), Rec.gap w1 w2 lst) : Ent)] ++ A2 = mm at *
      have G2 : Good deeds mm := ⟨nd, h3, hL2, hM⟩
      subst_eqs
      refine w_if ?_
      subst_eqs
      refine frame_w (by omega) h3 (by omega) hM H (.tail _ (.tail _ (.tail _ (.tail _ (.tail _ (.tail _ (.tail _ (.tail _ ht)))))))) (.tail _ (.tail _ (.tail _ (.tail _ (.tail _ (.tail _ (.tail _ (.tail _ hd)))))))) (.head _) fun s2 f H2 => ?_
      subst_eqs
      refine told_w G2 H2 (.inl rfl) fun s' H => ?_
      subst_eqs
      exact ⟨_, _, rfl, H.drop.drop.drop.drop.drop⟩
    · rintro env s' ⟨x13, x14, rfl, H⟩
      exact ⟨_, _, rfl, H.drop⟩
  rintro env s' ⟨x13, x14, rfl, H⟩
  subst_eqs
  refine o_ixD H (.tail _ (.head _)) (by omega) (by omega) fun x hx ex => ?_
  subst_eqs
  refine o_ixD H (.tail _ (.head _)) (by omega) (by omega) fun y hy ey => ?_
  subst_eqs
  refine o_ixD H (.tail _ (.head _)) (by omega) (by omega) fun y2 hy2 ey2 => ?_
  subst_eqs
  refine o_ixD H (.tail _ (.head _)) (by omega) (by omega) fun x2 hx2 ex2 => ?_
  have q1 : y2 = y := Option.some.inj (ey2.symm.trans ey)
  have q2 : x2 = x := Option.some.inj (ex2.symm.trans ex)
  subst q1 q2
  have hxd := hB.mem_iff.mp hx
  have hyd := hB.mem_iff.mp hy
  subst_eqs
  rename_i lp sp hlp HP
  have emp : [D.tup [.str "a", .tup [.str "gap", .str x2, .str y2, .int 0]], D.tup [.str "a", .tup [.str "gap", .str y2, .str x2, .int 0]]] = ([(("a" : Str), Rec.gap x2 y2 0), (("a" : Str), Rec.gap y2 x2 0)] : List Ent).map entD := rfl
  rw [emp] at HP
  have hP : ∀ e ∈ ([(("a" : Str), Rec.gap x2 y2 0), (("a" : Str), Rec.gap y2 x2 0)] : List Ent), RecOk deeds e.2 ∧ gapOk e.2 = true := fun e he => by
    simp only [List.mem_cons, List.not_mem_nil, or_false] at he
    rcases he with rfl | rfl
    · exact ⟨⟨hxd, hyd, by omega, by omega⟩, rfl⟩
    · exact ⟨⟨hyd, hxd, by omega, by omega⟩, rfl⟩
  have hPs : settles (edges ([(("a" : Str), Rec.gap x2 y2 0), (("a" : Str), Rec.gap y2 x2 0)] : List Ent)) (deeds.length + 1) zero = true := settles_now (fun e he => by
    have he : e ∈ [((x2, y2, 0) : Edge), (y2, x2, 0)] := he
    simp only [List.mem_cons, List.not_mem_nil, or_false] at he
    rcases he with rfl | rfl <;> exact Int.le_refl _) _
  have hPt : strictB ([(("a" : Str), Rec.gap x2 y2 0), (("a" : Str), Rec.gap y2 x2 0)] : List Ent) = false := rfl
  have GP : Good deeds ([(("a" : Str), Rec.gap x2 y2 0), (("a" : Str), Rec.gap y2 x2 0)] : List Ent) := ⟨nd, h3, by simp, fun e he => (hP e he).1⟩
  have hw0 : decide (0 ≤ wider) = true := decide_eq_true wi0
  refine bd_cut (fun env s' => env = [some (.loc t), some (.loc d), some (.int low), some (.int high), some (.int (many : Nat)), none, none, some (.loc lr), some (.loc le), some (.bl (strictB ents)), some (.int wider), some (.int at'), some (.int to), x13, x14, some (.loc lp), none, none, none, none] ∧ Has s' ((lp, Ls (([(("a" : Str), Rec.gap x2 y2 0), (("a" : Str), Rec.gap y2 x2 0)] : List Ent).map entD)) :: (le, Ls (ents.map entD)) :: (lr, Ls (B.map D.str)) :: Z)) ?_ ?_
  · refine w_if ?_
    subst_eqs
    refine frame_w (by omega) h3 (by simp) (fun e he => (hP e he).1) HP (.tail _ (.tail _ (.tail _ ht))) (.tail _ (.tail _ (.tail _ hd))) (.head _) fun s2 f H2 => ?_
    subst_eqs
    rename_i l3 s3 hl3 H3
    refine told_w GP H3 (.inr ⟨_, rfl, by rw [due_gaps fun e he => (hP e he).2, hPs, hPt, hw0]; exact .head _⟩) fun s' H => ?_
    subst_eqs
    exact ⟨rfl, H.drop⟩
  rintro env s' ⟨rfl, H⟩
  subst_eqs
  refine o_ixD H (.tail _ (.tail _ (.head _))) (by omega) (by omega) fun x1 hx1 ex1 => ?_
  subst_eqs
  refine o_ixD H (.tail _ (.tail _ (.head _))) (by omega) (by omega) fun y1 hy1 ey1 => ?_
  have q1 : y1 = y2 := Option.some.inj (ey1.symm.trans ey)
  have q2 : x1 = x2 := Option.some.inj (ex1.symm.trans ex)
  subst q1 q2
  subst_eqs
  refine draw_w H (.tail _ (.tail _ (.tail _ ht))) (by omega) fun pd s pd0 pd1 H => ?_
  refine pkA H 0 rfl pd0 (by simp; omega) fun s H => ?_
  obtain ⟨P2, hP2, hP3⟩ : ∃ P2 : List Ent, (([(("a" : Str), Rec.gap x1 y1 0), (("a" : Str), Rec.gap y1 x1 0)] : List Ent).map entD).set pd.toNat (.tup [.str "a", .tup [.str "gap", .str x1, .str y1, .int high]]) = P2.map entD ∧ P2 = ([(("a" : Str), Rec.gap x1 y1 0), (("a" : Str), Rec.gap y1 x1 0)] : List Ent).set pd.toNat (("a" : Str), Rec.gap x1 y1 high) := ⟨_, by rw [List.map_set]; rfl, rfl⟩
  rw [hP2] at H
  have hP4 : P2 = [(("a" : Str), Rec.gap x1 y1 high), (("a" : Str), Rec.gap y1 x1 0)] ∨ P2 = [(("a" : Str), Rec.gap x1 y1 0), (("a" : Str), Rec.gap x1 y1 high)] := by
    have hc : pd = 0 ∨ pd = 1 := by omega
    rcases hc with rfl | rfl
    · exact .inl hP3
    · exact .inr hP3
  have hP5 : ∀ e ∈ P2 ++ [((("a" : Str), Rec.gap y1 x1 1) : Ent)], RecOk deeds e.2 ∧ gapOk e.2 = true := fun e he => by
    rcases List.mem_append.mp he with he | he
    · rcases hP4 with rfl | rfl
      · simp only [List.mem_cons, List.not_mem_nil, or_false] at he
        rcases he with rfl | rfl
        · exact ⟨⟨hxd, hyd, by omega, by omega⟩, decide_eq_true (by omega)⟩
        · exact ⟨⟨hyd, hxd, by omega, by omega⟩, rfl⟩
      · simp only [List.mem_cons, List.not_mem_nil, or_false] at he
        rcases he with rfl | rfl
        · exact ⟨⟨hxd, hyd, by omega, by omega⟩, rfl⟩
        · exact ⟨⟨hxd, hyd, by omega, by omega⟩, decide_eq_true (by omega)⟩
    · rw [List.mem_singleton.mp he]
      exact ⟨⟨hyd, hxd, by omega, by omega⟩, rfl⟩
  have hP6 : settles (edges (P2 ++ [((("a" : Str), Rec.gap y1 x1 1) : Ent)])) (deeds.length + 1) zero = false := by
    refine settles_not (a := x1) (b := y1) (p := high) (q := 1) ?_ ?_ (by omega) _ _
    · unfold edges
      rcases hP4 with rfl | rfl <;> simp [edgeOf]
    · unfold edges
      simp [edgeOf]
  have hP7 : (P2 ++ [((("a" : Str), Rec.gap y1 x1 1) : Ent)]).length ≤ 1000 := by rcases hP4 with rfl | rfl <;> simp
  have hP8 : P2.length = 2 := by rcases hP4 with rfl | rfl <;> rfl
  subst_eqs
  refine o_ixD H (.tail _ (.tail _ (.head _))) (by omega) (by omega) fun y3 hy3 ey3 => ?_
  subst_eqs
  refine o_ixD H (.tail _ (.tail _ (.head _))) (by omega) (by omega) fun x3 hx3 ex3 => ?_
  have q1 : y3 = y1 := Option.some.inj (ey3.symm.trans ey)
  have q2 : x3 = x1 := Option.some.inj (ex3.symm.trans ex)
  subst q1 q2
  subst_eqs
  refine o_app H 0 rfl (by rw [List.length_map]; omega) fun s H => ?_
  have emq : P2.map entD ++ [.tup [.str "a", .tup [.str "gap", .str y3, .str x3, .int 1]]] = (P2 ++ [((("a" : Str), Rec.gap y3 x3 1) : Ent)]).map entD := by simp [entD, recD]
  rw [emq] at H
  generalize P2 ++ [((("a" : Str), Rec.gap y3 x3 1) : Ent)] = P3 at *
  have GP3 : Good deeds P3 := ⟨nd, h3, hP7, fun e he => (hP5 e he).1⟩
  have H : Has s ((lp, Ls (P3.map entD)) :: (le, Ls (ents.map entD)) :: (lr, Ls (B.map D.str)) :: Z) := H
  subst_eqs
  refine bd_cut (fun env s' => ∃ x15, env = [some (.loc t), some (.loc d), some (.int low), some (.int high), some (.int (many : Nat)), none, none, some (.loc lr), some (.loc le), some (.bl (strictB ents)), some (.int wider), some (.int at'), some (.int to), x13, x14, x15, none, none, none, none] ∧ Has s' ((le, Ls (ents.map entD)) :: (lr, Ls (B.map D.str)) :: Z)) ?_ ?_
  · refine w_if ?_
    subst_eqs
    refine frame_w (by omega) h3 hP7 (fun e he => (hP5 e he).1) H (.tail _ (.tail _ (.tail _ ht))) (.tail _ (.tail _ (.tail _ hd))) (.head _) fun s2 f H2 => ?_
    subst_eqs
    rename_i l3 s3 hl3 H3
    refine told_w GP3 H3 (.inr ⟨_, rfl, by rw [due_gaps fun e he => (hP5 e he).2, hP6, hw0]; exact .head _⟩) fun s' H => ?_
    subst_eqs
    exact ⟨_, rfl, H.drop.drop⟩
  rintro env s' ⟨x15, rfl, H⟩
  subst_eqs
  refine o_slAL H (.head _) fun p1 s p1l H => ?_
  rw [eA] at H
  subst_eqs
  refine o_ixD H (.tail _ (.tail _ (.head _))) (by omega) (by omega) fun w1 hw1 e1 => ?_
  subst_eqs
  refine o_ixD H (.tail _ (.tail _ (.head _))) (by omega) (by omega) fun w2 hw2 e2 => ?_
  subst_eqs
  refine draw_w H (.tail _ (.tail _ (.tail _ ht))) (by omega) fun g s g0 g1 H => ?_
  subst_eqs
  rename_i p2 s p2l H
  refine o_addL H (.tail _ (.head _)) (.head _) (by simp; omega) fun p3 s p3l H => ?_
  subst_eqs
  refine o_slAL H (.tail _ (.tail _ (.tail _ (.head _)))) fun p4 s p4l H => ?_
  rw [eB] at H
  refine o_addL H (.tail _ (.head _)) (.head _) (by simp; omega) fun p5 s p5l H => ?_
  have em2 : A1.map entD ++ [.tup [.str "cy", .tup [.str "gap", .str w1, .str w2, .int (0 - 1 - g)]]] ++ A2.map entD = (A1 ++ [((("cy" : Str), Rec.gap w1 w2 (0 - 1 - g)) : Ent)] ++ A2).map entD := by simp [entD, recD]
  rw [em2] at H
  have hM : ∀ e ∈ A1 ++ [((("cy" : Str), Rec.gap w1 w2 (0 - 1 - g)) : Ent)] ++ A2, RecOk deeds e.2 ∧ ∃ a b w, e.2 = .gap a b w := fun e he => by
    have ho2 : ∀ e ∈ ents, ∃ a b w, e.2 = .gap a b w := fun e he => by obtain ⟨i, j, a, b, w, q, _⟩ := ho e he; exact ⟨a, b, w, q⟩
    rcases List.mem_append.mp he with he | he
    · rcases List.mem_append.mp he with he | he
      · exact ⟨hrec e (hA e he), ho2 e (hA e he)⟩
      · rw [List.mem_singleton.mp he]; exact ⟨⟨hB.mem_iff.mp hw1, hB.mem_iff.mp hw2, by omega, by omega⟩, _, _, _, rfl⟩
    · exact ⟨hrec e (hA2 e he), ho2 e (hA2 e he)⟩
  have hL2 : (A1 ++ [((("cy" : Str), Rec.gap w1 w2 (0 - 1 - g)) : Ent)] ++ A2).length ≤ 1000 := by simp; omega
  have hY : ((("cy" : Str), Rec.gap w1 w2 (0 - 1 - g)) : Ent) ∈ A1 ++ [((("cy" : Str), Rec.gap w1 w2 (0 - 1 - g)) : Ent)] ++ A2 := by simp
  generalize A1 ++ [((("cy" : Str), Rec.gap w1 w2 (0 - 1 - g)) : Ent)] ++ A2 = mm at *
  have G2 : Good deeds mm := ⟨nd, h3, hL2, fun e he => (hM e he).1⟩
  subst_eqs
  refine bd_cut (fun env s' => ∃ x16, env = [some (.loc t), some (.loc d), some (.int low), some (.int high), some (.int (many : Nat)), none, none, some (.loc lr), some (.loc le), some (.bl (strictB ents)), some (.int wider), some (.int at'), some (.int to), x13, x14, x15, x16, none, none, none] ∧ Has s' ((le, Ls (ents.map entD)) :: (lr, Ls (B.map D.str)) :: Z)) ?_ ?_
  · refine w_if ?_
    subst_eqs
    refine frame_w (by omega) h3 hL2 (fun e he => (hM e he).1) H (.tail _ (.tail _ (.tail _ (.tail _ (.tail _ (.tail _ (.tail _ ht))))))) (.tail _ (.tail _ (.tail _ (.tail _ (.tail _ (.tail _ (.tail _ hd))))))) (.head _) fun s2 f H2 => ?_
    subst_eqs
    rename_i l3 s3 hl3 H3
    refine told_w G2 H3 (.inr ⟨_, rfl, by rw [due_neg (fun e he => (hM e he).2) hY rfl (by omega)]; exact .head _⟩) fun s' H => ?_
    subst_eqs
    exact ⟨_, rfl, H.drop.drop.drop.drop.drop.drop⟩
  rintro env s' ⟨x16, rfl, H⟩
  subst_eqs
  refine frame_w (by omega) h3 (by omega) hrec H (.tail _ (.tail _ ht)) (.tail _ (.tail _ hd)) (.head _) fun s2 f H2 => ?_
  unfold bookD
  generalize f + (2 * (deeds.length : Int) * most ents + 1 + wider) = g2 at *
  subst_eqs
  refine o_ixD H2 (.tail _ (.head _)) (by omega) (by omega) fun w3 hw3 e3 => ?_
  subst_eqs
  refine o_insert H2 0 rfl at0 (by rw [List.length_map]; omega) (by rw [List.length_map]; omega) fun s H => ?_
  have em3 : (ents.map entD).take at'.toNat ++ [.tup [.str "cy", .tup [.str "years", .str w3, .tup [.tup [.int f, .int g2]]]]] ++ (ents.map entD).drop at'.toNat = (ents.take at'.toNat ++ [((("cy" : Str), Rec.yrs w3 [.tup [.int f, .int g2]]) : Ent)] ++ ents.drop at'.toNat).map entD := by simp [entD, recD]
  rw [em3] at H
  have hN : ∀ e ∈ ents.take at'.toNat ++ [((("cy" : Str), Rec.yrs w3 [.tup [.int f, .int g2]]) : Ent)] ++ ents.drop at'.toNat, RecOk deeds e.2 ∧ Gy e.2 ∧ plainR e.2 = true := fun e he => by
    have ho2 : ∀ e ∈ ents, RecOk deeds e.2 ∧ Gy e.2 ∧ plainR e.2 = true := fun e he => by
      obtain ⟨i, j, a, b, w, q, _⟩ := ho e he
      exact ⟨hrec e he, by rw [q]; trivial, by rw [q]; rfl⟩
    rcases List.mem_append.mp he with he | he
    · rcases List.mem_append.mp he with he | he
      · exact ho2 e (List.mem_of_mem_take he)
      · rw [List.mem_singleton.mp he]; exact ⟨trivial, trivial, rfl⟩
    · exact ho2 e (List.mem_of_mem_drop he)
  have hN2 : (ents.take at'.toNat ++ [((("cy" : Str), Rec.yrs w3 [.tup [.int f, .int g2]]) : Ent)] ++ ents.drop at'.toNat).length ≤ 1000 := by simp; omega
  have hN3 : ((("cy" : Str), Rec.yrs w3 [.tup [.int f, .int g2]]) : Ent) ∈ ents.take at'.toNat ++ [((("cy" : Str), Rec.yrs w3 [.tup [.int f, .int g2]]) : Ent)] ++ ents.drop at'.toNat := by simp
  generalize ents.take at'.toNat ++ [((("cy" : Str), Rec.yrs w3 [.tup [.int f, .int g2]]) : Ent)] ++ ents.drop at'.toNat = nn at *
  have GN : Good deeds nn := ⟨nd, h3, hN2, fun e he => (hN e he).1⟩
  have H : Has s ((le, Ls (nn.map entD)) :: (lr, Ls (B.map D.str)) :: Z) := H
  have hp : (nn.all fun e => plainR e.2) = true := List.all_eq_true.mpr fun e he => (hN e he).2.2
  have D3 := due_yrs (deeds := deeds) (first := f) (last := g2) (fun e he => (hN e he).2.1) hN3 rfl
  rw [hp] at D3
  subst_eqs
  rename_i l9 s9 hl9 H9
  change WR (m_d_law_told [bookD f g2 deeds nn, .loc l9] s9) _ _
  refine told_w GN H9 (.inr ⟨_, rfl, by rw [D3]; exact .head _⟩) fun s' H => ?_
  subst_eqs
  exact k _ H.drop.drop.drop
end
end Law
namespace Law
open PySem Mi
local macro_rules | `(tactic| ac_rfl) => `(tactic| repeat (first | exact List.mem_cons_self | assumption | apply List.mem_cons_of_mem | apply List.mem_append_right))
local macro_rules | `(tactic| eq_refl) => `(tactic| first
  | ((with_reducible refine wr_go ?_); first
    | ((with_reducible refine w_Vg ?_); first
      | with_reducible refine w_V0 ?_
      | with_reducible refine w_V1 ?_
      | with_reducible refine w_V2 ?_
      | with_reducible refine w_V3 ?_
      | with_reducible refine w_V4 ?_
      | with_reducible refine w_V5 ?_
      | with_reducible refine w_V6 ?_
      | with_reducible refine w_V7 ?_
      | with_reducible refine w_V8 ?_
      | with_reducible refine w_V9 ?_
      | with_reducible refine w_V10 ?_
      | with_reducible refine w_V11 ?_
      | with_reducible refine w_V12 ?_
      | with_reducible refine w_V13 ?_
      | with_reducible refine w_V14 ?_
      | with_reducible refine w_V15 ?_
      | with_reducible refine w_V16 ?_
      | with_reducible refine w_V17 ?_
      | with_reducible refine w_V18 ?_
      | with_reducible refine w_V19 ?_
      | with_reducible refine w_V20 ?_
      | with_reducible refine w_V21 ?_
      | with_reducible refine w_V22 ?_
      | with_reducible refine w_V23 ?_
      | with_reducible refine w_V24 ?_
      | with_reducible refine w_V25 ?_
      | with_reducible refine w_V26 ?_
      | with_reducible refine w_V27 ?_
      | with_reducible refine w_V28 ?_
      | with_reducible refine w_V29 ?_
      | with_reducible refine w_V30 ?_
      | with_reducible refine w_V31 ?_
      | refine w_V (by exact rfl) ?_)
    | with_reducible refine w_C ?_
    | with_reducible refine w_cons ?_
    | with_reducible refine w_nil ?_
    | with_reducible refine w_e2 ?_
    | with_reducible refine w_call ?_
    | with_reducible refine w_tV ?_
    | with_reducible refine w_tup ?_
    | with_reducible refine w_e1 ?_
    | with_reducible refine w_fn ?_
    | with_reducible refine w_tru ?_
    | with_reducible refine w_and ?_
    | with_reducible refine w_or ?_
    | with_reducible refine w_not ?_
    | with_reducible refine w_lst ?_
    | with_reducible refine w_mt ?_
    | with_reducible refine w_mt0 ?_
    | with_reducible refine w_rng ?_
    | with_reducible refine w_rng2 ?_
    | with_reducible refine w_iSeq ?_
    | with_reducible refine w_eif ?_
    | with_reducible refine w_eAnd ?_
    | with_reducible refine w_eOr ?_
    | with_reducible refine w_eNot ?_
    | with_reducible refine w_notT ?_
    | with_reducible refine w_chain ?_
    | with_reducible refine w_oN ?_
    | with_reducible refine w_oS ?_
    | with_reducible refine w_sl ?_
    | with_reducible refine w_lc ?_
    | with_reducible refine w_enm ?_
    | with_reducible refine w_enmS ?_
    | with_reducible refine w_zip ?_
    | with_reducible refine w_fmt ?_
    | with_reducible refine w_fs ?_
    | with_reducible refine w_jsn ?_
    | with_reducible refine w_jsc ?_
    | with_reducible refine w_dc ?_
    | ((with_reducible apply w_dict0); (focus assumption); intro l s hl H)
    | with_reducible refine w_tT ?_
    | ((with_reducible refine w_fnM ?_); simp only [List.map_cons, List.map_nil, List.cons_append, List.nil_append, List.replicate_succ, List.replicate_zero, Nat.reduceSub]))
  | ((with_reducible refine wo_go ?_); first
    | with_reducible refine o_max ?_
    | with_reducible refine o_min ?_
    | with_reducible refine o_lenT ?_
    | ((with_reducible apply o_lenL); (focus assumption); (focus (repeat (first | exact List.mem_cons_self | assumption | apply List.mem_cons_of_mem))))
    | ((with_reducible apply o_tupL); (focus assumption); (focus (repeat (first | exact List.mem_cons_self | assumption | apply List.mem_cons_of_mem))))
    | ((with_reducible apply o_sumL); (focus assumption); (focus (repeat (first | exact List.mem_cons_self | assumption | apply List.mem_cons_of_mem))))
    | ((with_reducible apply o_mul); (focus omega))
    | ((with_reducible apply o_div); (focus omega))
    | ((with_reducible apply o_mod); (focus omega))
    | ((with_reducible apply o_pow); (focus (first | omega | decide)))
    | ((with_reducible apply o_ixT); (focus (first | exact atI_zero _ _ | exact atI_one _ _ _ | exact atI_two _ _ _ _ | exact atI_three _ _ _ _ _)))
    | ((with_reducible apply o_ixL); (focus assumption); (focus (repeat (first | exact List.mem_cons_self | assumption | apply List.mem_cons_of_mem))); (focus (first | exact atI_zero _ _ | exact atI_one _ _ _ | exact atI_two _ _ _ _ | exact atI_three _ _ _ _ _)))
    | with_reducible refine o_slT ?_
    | with_reducible refine o_slA ?_
    | ((with_reducible apply o_ixZT); (focus (first | exact atI_zero _ _ | exact atI_one _ _ _ | exact atI_two _ _ _ _ | exact atI_three _ _ _ _ _)))
    | ((with_reducible apply o_ixZL); (focus assumption); (focus (repeat (first | exact List.mem_cons_self | assumption | apply List.mem_cons_of_mem))); (focus (first | exact atI_zero _ _ | exact atI_one _ _ _ | exact atI_two _ _ _ _ | exact atI_three _ _ _ _ _)))
    | with_reducible refine o_iT1 ?_
    | with_reducible refine o_iT2 ?_
    | with_reducible refine o_iT3 ?_
    | with_reducible refine o_iS1 ?_
    | with_reducible refine o_iS2 ?_
    | with_reducible refine o_iS3 ?_
    | with_reducible refine o_iI1 ?_
    | with_reducible refine o_iI2 ?_
    | with_reducible refine o_iI3 ?_
    | with_reducible refine o_iB1 ?_
    | ((with_reducible apply o_ixA); (focus (first | exact atI_zero _ _ | exact atI_one _ _ _ | exact atI_two _ _ _ _ | exact atI_three _ _ _ _ _)))
    | ((with_reducible apply o_ixAL); (focus assumption); (focus (repeat (first | exact List.mem_cons_self | assumption | apply List.mem_cons_of_mem))); (focus (first | exact atI_zero _ _ | exact atI_one _ _ _ | exact atI_two _ _ _ _ | exact atI_three _ _ _ _ _)))
    | ((with_reducible apply o_listAT); (focus assumption); intro l s hl H)
    | ((with_reducible apply o_listT); (focus assumption); intro l s hl H)
    | refine wo_some ?_)
  | ((with_reducible refine wi_go ?_); first
    | with_reducible refine wi_n ?_
    | with_reducible refine wi_t ?_
    | with_reducible refine wi_f ?_
    | ((with_reducible apply wi_yes); (focus omega))
    | ((with_reducible apply wi_no); (focus omega)))
  | ((with_reducible refine bd_go ?_); first
    | ((with_reducible refine bd_nx ?_); try simp only [List.set_cons_succ, List.set_cons_zero])
    | with_reducible refine bd_rt ?_
    | with_reducible refine bd_ct ?_
    | with_reducible refine bd_bk ?_
    | with_reducible refine bd_ex ?_)
  | with_reducible refine w_seq ?_
  | with_reducible refine w_set ?_
  | with_reducible refine wb ?_
  | ((with_reducible apply tupk); (focus exact Nat.le_of_ble_eq_true rfl))
  | with_reducible refine w_sNil ?_
  | with_reducible refine w_ret ?_
  | with_reducible refine w_expr ?_
  | with_reducible refine tru_b ?_
  | with_reducible refine tru_n ?_
  | with_reducible refine tru_i ?_
  | with_reducible refine tru_t ?_
  | ((with_reducible apply tru_l); (focus assumption); (focus (repeat (first | exact List.mem_cons_self | assumption | apply List.mem_cons_of_mem))))
  | with_reducible refine is_tup ?_
  | with_reducible refine enmk ?_
  | with_reducible refine is_str ?_
  | ((with_reducible apply is_lstH); (focus assumption); (focus (repeat (first | exact List.mem_cons_self | assumption | apply List.mem_cons_of_mem))))
  | ((with_reducible apply mt_lst); (focus assumption); (focus (repeat (first | exact List.mem_cons_self | assumption | apply List.mem_cons_of_mem))))
  | with_reducible refine w_for ?_
  | with_reducible refine mt_str ?_
  | with_reducible refine oi ?_
  | with_reducible refine w_asg ?_
  | with_reducible refine w_asgL ?_
  | with_reducible refine w_put ?_
  | ((with_reducible refine w_augg ?_); refine w_aug (by exact rfl) ?_)
  | with_reducible refine w_raise ?_
  | with_reducible refine w_retN ?_
  | with_reducible refine w_brk ?_
  | with_reducible refine w_cnt ?_
  | with_reducible refine tn_nx ?_
  | with_reducible refine nx_nx ?_
  | with_reducible refine tn_ct ?_
  | with_reducible refine tn_bk ?_
  | with_reducible refine tn_rt ?_
  | with_reducible refine tn_ex ?_
  | with_reducible refine fin_rt ?_
  | with_reducible refine fin_nx ?_
  | with_reducible refine fin_ex ?_
  | ((with_reducible apply newl); (focus assumption); (focus exact Nat.le_of_ble_eq_true rfl); intro l s hl H))
local macro_rules | `(tactic| subst_eqs) => `(tactic| repeat eq_refl)
/-! ### one other record -/
section
variable {deeds : List Str}
def wayK (k : Str) : Str := if k = ("over" : Str) then ("post" : Str) else ("ante" : Str)
theorem set_cases {es : List Ent} {n : Nat} {x e : Ent} (he : e ∈ es.set n x) (h : ∀ e ∈ es, gapOk e.2 = true) : e.2.kind = "gap" ∨ e = x := by
  rcases List.mem_or_eq_of_mem_set he with he | he
  · left
    have := h e he
    cases q : e.2 with
    | gap _ _ _ => rfl
    | yrs _ _ => rw [q] at this; simp [gapOk] at this
    | oth _ _ => rw [q] at this; simp [gapOk] at this
  · exact .inr he
theorem due_oth {f l : Int} {es : List Ent} {n : Nat} {dg k : Str} {r : List D} (hk : k = "over" ∨ k = "under") (hn : n < es.length) (h : ∀ e ∈ es, gapOk e.2 = true) :
    dueL f l deeds (es.set n (dg, .oth k r)) = [.str (wayK k), .bl false, .bl false, .bl false] := by
  obtain ⟨n1, n2, n3, n4, n5, n6, n7⟩ := ne_s
  have hx : ((dg, .oth k r) : Ent) ∈ es.set n (dg, .oth k r) := List.mem_of_getElem? (i := n) (by rw [List.getElem?_set_self hn])
  have hkk : k ∈ kinds (es.set n (dg, .oth k r)) := List.mem_map.mpr ⟨_, hx, rfl⟩
  have hno : ∀ z : Str, ¬ z = "gap" → ¬ z = k → z ∉ kinds (es.set n (dg, .oth k r)) := fun z h1 h2 hm => by
    obtain ⟨e, he, hq⟩ := List.mem_map.mp hm
    rcases set_cases he h with q | q
    · exact h1 (hq.symm.trans q)
    · rw [q] at hq; exact h2 hq.symm
  have hp : ((es.set n (dg, .oth k r)).all fun e => plainR e.2) = false := by
    rw [List.all_eq_false]; exact ⟨_, hx, by simp [plainR]⟩
  have hg : ((es.set n (dg, .oth k r)).all fun e => gapOk e.2) = false := by
    rw [List.all_eq_false]; exact ⟨_, hx, by simp [gapOk]⟩
  have ho : orderB f l deeds (es.set n (dg, .oth k r)) = false := by unfold orderB; rw [hg]; rfl
  have m1 : ¬ (("one" : Str) = "over") ∧ ¬ (("one" : Str) = "under") ∧ ¬ (("under" : Str) = "over") ∧ ¬ (("over" : Str) = "under") := by decide +kernel
  obtain ⟨m1, m2, m3, m4⟩ := m1
  unfold dueL
  rw [hp, ho]
  have hw : wayS (kinds (es.set n (dg, .oth k r))) = wayK k := by
    unfold wayS wayK
    rcases hk with rfl | rfl
    · rw [if_neg (fun q => q.elim (hno _ n6 m1) (fun q => hno _ n2 m3 q.1)), if_neg (hno _ n2 m3), if_pos hkk, if_pos rfl]
    · rw [if_neg (fun q => q.elim (hno _ n6 m2) (fun q => hno _ n4 m4 q.2)), if_pos hkk, if_neg m3]
  rw [hw]
  rfl
end
/-! ### _law_wide -/
section
variable {s : Store} {t : Nat} {Z : Hs} {K : D → Store → Prop} {E : Ex → Store → Prop}
theorem wide_w (H : Has s Z) (ht : (t, IsTp) ∈ Z) (k : ∀ s', Has s' Z → K (.bl true) s') : WR (m_d_law_wide [.loc t] s) K E := by
  unfold m_d_law_wide b_d_law_wide
  subst_eqs
  refine names_w (many := 40) (by omega) H ht fun d s1 deeds hdl nd H1 => ?_
  have hlm : (deeds.map D.str).length = deeds.length := List.length_map _
  subst_eqs
  refine forward_w (many := 81) (by omega) (by omega) (by omega) (low := 1) (high := 37) (by omega) (by omega) H1 (.tail _ ht) (.head _) fun l lr le s2 B e0 hB hl0 ho0 H2 => ?_
  have hBl : B.length = deeds.length := hB.length_eq
  have nB : B.Nodup := hB.nodup_iff.mpr nd
  subst_eqs
  refine asgL (env2 := [some (.loc t), some (.loc d), some (.loc lr), some (.loc le), none, none, none, none, none]) H2 (.head _) rfl rfl ?_
  have H3 := H2.drop
  clear H H1 H2
  subst_eqs
  refine rg (n := 39) rfl (by omega) ?_
  refine bd_cut (fun env s' => ∃ (ents : List Ent) (x4 : Option D), ents.length = 120 ∧ (∀ e ∈ ents, FwdE B 1 37 e.2) ∧ env = [some (.loc t), some (.loc d), some (.loc lr), some (.loc le), x4, none, none, none, none] ∧ Has s' ((le, Ls (ents.map entD)) :: (lr, Ls (B.map D.str)) :: (d, Ls (deeds.map D.str)) :: Z)) ?_ ?_
  · refine w_forN (fun i env s' => ∃ (ents : List Ent) (x4 : Option D), ents.length = 81 + i ∧ (∀ e ∈ ents, FwdE B 1 37 e.2) ∧ env = [some (.loc t), some (.loc d), some (.loc lr), some (.loc le), x4, none, none, none, none] ∧ Has s' ((le, Ls (ents.map entD)) :: (lr, Ls (B.map D.str)) :: (d, Ls (deeds.map D.str)) :: Z)) ⟨e0, _, hl0, ho0, rfl, H3⟩ ?_ ?_
    · rintro i env s' hi ⟨ents, x4, hl, ho, rfl, H⟩
      unfold bl_d_law_wide_2
      subst_eqs
      refine o_ixD H (.tail _ (.head _)) (by omega) (by omega) fun a ha ea => ?_
      subst_eqs
      refine o_ixD H (.tail _ (.head _)) (by omega) (by omega) fun b hb eb => ?_
      subst_eqs
      refine draw_w H (.tail _ (.tail _ (.tail _ ht))) (by omega) fun g s g0 g1 H => ?_
      subst_eqs
      refine o_app H 0 rfl (by rw [List.length_map]; omega) fun s H => ?_
      refine ⟨ents ++ [((("chain" : Str), Rec.gap a b (10 + g)) : Ent)], _, by simp [hl]; omega, ?_, rfl, by simpa [entD, recD] using H⟩
      intro e he
      rcases List.mem_append.mp he with he | he
      · exact ho e he
      · rw [List.mem_singleton.mp he]
        exact ⟨i, i + 1, a, b, _, rfl, by omega, by simpa using ea, by simpa using eb, by omega, by omega⟩
    · rintro env s' ⟨ents, x4, hl, ho, rfl, H⟩
      exact ⟨ents, _, by omega, ho, rfl, H⟩
  rintro env s' ⟨ents, x4, hl, ho, rfl, H⟩
  subst_eqs
  refine o_ixD H (.tail _ (.head _)) (by omega) (by omega) fun a ha ea => ?_
  subst_eqs
  refine o_ixD H (.tail _ (.head _)) (by omega) (by omega) fun b hb eb => ?_
  subst_eqs
  refine draw_w H (.tail _ (.tail _ (.tail _ ht))) (by omega) fun pd s pd0 pd1 H => ?_
  refine pkA H 0 rfl pd0 (by rw [List.length_map]; omega) fun s H => ?_
  have em1 : (ents.map entD).set pd.toNat (.tup [.str "top", .tup [.str "gap", .str a, .str b, .int 37]]) = (ents.set pd.toNat ((("top" : Str), Rec.gap a b 37) : Ent)).map entD := by rw [List.map_set]; rfl
  rw [em1] at H
  have hF : ∀ e ∈ ents.set pd.toNat ((("top" : Str), Rec.gap a b 37) : Ent), FwdE B 1 37 e.2 := fun e he => by
    rcases List.mem_or_eq_of_mem_set he with he | he
    · exact ho e he
    · rw [he]; exact ⟨38, 39, a, b, _, rfl, by omega, by simpa using ea, by simpa using eb, by omega, by omega⟩
  have hFl : (ents.set pd.toNat ((("top" : Str), Rec.gap a b 37) : Ent)).length = 120 := by rw [List.length_set]; exact hl
  generalize ents.set pd.toNat ((("top" : Str), Rec.gap a b 37) : Ent) = es at *
  have hrec : ∀ e ∈ es, RecOk deeds e.2 := fun e he => fwd_rec hB (hF e he) (by omega) (by omega)
  have hgap : ∀ e ∈ es, gapOk e.2 = true := fun e he => fwd_gap (hF e he) (by omega)
  have G : Good deeds es := ⟨nd, by omega, by omega, hrec⟩
  have H : Has s ((le, Ls (es.map entD)) :: (lr, Ls (B.map D.str)) :: (d, Ls (deeds.map D.str)) :: Z) := H
  subst_eqs
  refine frame_w (by omega) (by omega) (by omega) hrec H (.tail _ (.tail _ (.tail _ ht))) (.tail _ (.tail _ (.head _))) (.head _) fun s2 f H2 => ?_
  have D1 := fwd_due (f := f) (wider := 0) nd hB (by omega) (by omega) hF
  have D2 := due_narrow (deeds := deeds) (f := f) hgap
  have D2 : dueL f (f + (2 * deeds.length * most es + 1 + 0) - 1) deeds es = [.str "both", .bl true, .bl false, .bl false] := by
    have e : f + (2 * deeds.length * most es + 1 + 0) - 1 = f + (2 * deeds.length * most es + 1 + -1) := by omega
    rw [e]; exact D2
  rw [strict_low hF (by omega)] at D1
  unfold bookD
  generalize f + (2 * (deeds.length : Int) * most es + 1 + 0) = g at *
  subst_eqs
  refine bd_cut (fun env s' => env = [some (.loc t), some (.loc d), some (.loc lr), some (.loc le), x4, some (.tup [.int f, .int g, .tup (deeds.map D.str), .tup (es.map entD)]), none, none, none] ∧ Has s' ((le, Ls (es.map entD)) :: (lr, Ls (B.map D.str)) :: (d, Ls (deeds.map D.str)) :: Z)) ?_ ?_
  · refine w_if ?_
    subst_eqs
    rename_i l3 s3 hl3 H3
    change WR (m_d_law_told [bookD f g deeds es, .loc l3] s3) _ _
    refine told_w G H3 (.inr ⟨_, rfl, by rw [D1]; exact .head _⟩) fun s' H => ?_
    subst_eqs
    exact ⟨rfl, H.drop⟩
  rintro env s' ⟨rfl, H⟩
  refine w_seq ?_
  refine bd_cut (fun env s' => env = [some (.loc t), some (.loc d), some (.loc lr), some (.loc le), x4, some (.tup [.int f, .int g, .tup (deeds.map D.str), .tup (es.map entD)]), none, none, none] ∧ Has s' ((le, Ls (es.map entD)) :: (lr, Ls (B.map D.str)) :: (d, Ls (deeds.map D.str)) :: Z)) ?_ ?_
  · refine w_if ?_
    subst_eqs
    rename_i l3 s3 hl3 H3
    change WR (m_d_law_told [bookD f (g - 1) deeds es, .loc l3] s3) _ _
    refine told_w G H3 (.inr ⟨_, rfl, by rw [D2]; exact .head _⟩) fun s' H => ?_
    subst_eqs
    exact ⟨rfl, H.drop⟩
  rintro env s' ⟨rfl, H⟩
  subst_eqs
  refine o_ixD H (.tail _ (.head _)) (by omega) (by omega) fun w39 hw39 e39 => ?_
  subst_eqs
  refine draw_w H (.tail _ (.tail _ (.tail _ ht))) (by omega) fun q s q0 q1 H => ?_
  subst_eqs
  refine o_ixD H (.tail _ (.head _)) (by omega) (by omega) fun wq hwq eq => ?_
  subst_eqs
  have em0 : ((es.map entD).length : Int) - 1 = 119 := by rw [List.length_map]; omega
  rw [em0]
  refine pkA H 0 rfl (by omega) (by rw [List.length_map]; omega) fun s H => ?_
  have em1 : (es.map entD).set (119 : Int).toNat (.tup [.str "last", .tup [.str "gap", .str w39, .str wq, .int 37]]) = (es.set 119 ((("last" : Str), Rec.gap w39 wq 37) : Ent)).map entD := by rw [List.map_set]; rfl
  rw [em1] at H
  have hb : ∀ r : Rec, RecOk deeds r → ∀ dg : Str, ∀ e ∈ es.set 119 ((dg, r) : Ent), RecOk deeds e.2 := fun r hr dg e he => by
    rcases List.mem_or_eq_of_mem_set he with he | he
    · exact hrec e he
    · rw [he]; exact hr
  have hbl : ∀ x : Ent, (es.set 119 x).length ≤ 1000 := fun x => by rw [List.length_set]; omega
  have H : Has s ((le, Ls ((es.set 119 ((("last" : Str), Rec.gap w39 wq 37) : Ent)).map entD)) :: (lr, Ls (B.map D.str)) :: (d, Ls (deeds.map D.str)) :: Z) := H
  have hr1 := hb (Rec.gap w39 wq 37) ⟨hB.mem_iff.mp hw39, hB.mem_iff.mp hwq, by omega, by omega⟩ "last"
  have G1 : Good deeds (es.set 119 ((("last" : Str), Rec.gap w39 wq 37) : Ent)) := ⟨nd, by omega, hbl _, hr1⟩
  refine w_seq ?_
  refine bd_cut (fun env s' => env = [some (.loc t), some (.loc d), some (.loc lr), some (.loc le), x4, some (.tup [.int f, .int g, .tup (deeds.map D.str), .tup (es.map entD)]), some (.int 119), none, none] ∧ Has s' ((le, Ls ((es.set 119 ((("last" : Str), Rec.gap w39 wq 37) : Ent)).map entD)) :: (lr, Ls (B.map D.str)) :: (d, Ls (deeds.map D.str)) :: Z)) ?_ ?_
  · refine w_if ?_
    subst_eqs
    refine frame_w (by omega) (by omega) (hbl _) hr1 H (.tail _ (.tail _ (.tail _ ht))) (.tail _ (.tail _ (.head _))) (.head _) fun s2 f2 H2 => ?_
    subst_eqs
    refine told_w G1 H2 (.inl rfl) fun s' H => ?_
    subst_eqs
    exact ⟨rfl, H⟩
  rintro env s' ⟨rfl, H⟩
  subst_eqs
  refine o_ixD H (.tail _ (.head _)) (by omega) (by omega) fun r0 hr0 er0 => ?_
  subst_eqs
  refine o_ixD H (.tail _ (.head _)) (by omega) (by omega) fun r1 _ er1 => ?_
  subst_eqs
  refine o_ixD H (.tail _ (.head _)) (by omega) (by omega) fun r2 _ er2 => ?_
  subst_eqs
  refine o_ixD H (.tail _ (.head _)) (by omega) (by omega) fun r3 _ er3 => ?_
  subst_eqs
  refine o_ixD H (.tail _ (.head _)) (by omega) (by omega) fun r4 _ er4 => ?_
  subst_eqs
  refine o_ixD H (.tail _ (.head _)) (by omega) (by omega) fun r5 _ er5 => ?_
  subst_eqs
  rename_i lw sw hlw HW
  have hrow : ∀ {i : Nat} {w : Str}, B[i]? = some w → w ∈ deeds := fun h => hB.mem_iff.mp (List.mem_of_getElem? h)
  refine bd_cut (fun env s' => ∃ (x : Ent) (x7 x8 : Option D), RecOk deeds x.2 ∧ env = [some (.loc t), some (.loc d), some (.loc lr), some (.loc le), x4, some (.tup [.int f, .int g, .tup (deeds.map D.str), .tup (es.map entD)]), some (.int 119), x7, x8] ∧ Has s' ((le, Ls ((es.set 119 x).map entD)) :: (lr, Ls (B.map D.str)) :: (d, Ls (deeds.map D.str)) :: Z)) ?_ ?_
  · refine w_forA (fun i env s' => ∃ (x : Ent) (x7 x8 : Option D), RecOk deeds x.2 ∧ env = [some (.loc t), some (.loc d), some (.loc lr), some (.loc le), x4, some (.tup [.int f, .int g, .tup (deeds.map D.str), .tup (es.map entD)]), some (.int 119), x7, x8] ∧ Has s' ((lw, Ls [.tup [.tup [.str "over", .str r0, .int 1, .tup [.tup [.str r1, .int 0], .tup [.str r2, .int 0]]], .str "post"], .tup [.tup [.str "under", .str r3, .int 1, .tup [.tup [.str r4, .int 0], .tup [.str r5, .int 0]]], .str "ante"]]) :: (le, Ls ((es.set 119 x).map entD)) :: (lr, Ls (B.map D.str)) :: (d, Ls (deeds.map D.str)) :: Z)) ⟨_, _, _, hr1 _ (List.mem_of_getElem? (i := 119) (by rw [List.getElem?_set_self (by omega)])), rfl, HW⟩ ?_ ?_ ?_
    · rintro i env s' ⟨x, x7, x8, hx, rfl, H⟩
      exact H.lst (.head _)
    · rintro i dd env s' hdd ⟨x, x7, x8, hx, rfl, H⟩
      obtain ⟨kd, way, rr, hkd, hwy, rfl⟩ : ∃ (kd way : Str) (rr : List D), (kd = "over" ∨ kd = "under") ∧ way = wayK kd ∧ dd = .tup [.tup (.str kd :: rr), .str way] := by
        have hm := List.mem_of_getElem? hdd
        simp only [List.mem_cons, List.not_mem_nil, or_false] at hm
        rcases hm with rfl | rfl
        · exact ⟨_, _, _, .inl rfl, by decide +kernel, rfl⟩
        · exact ⟨_, _, _, .inr rfl, by decide +kernel, rfl⟩
      change Turns _ _ (bl_d_law_wide_1 [some (.loc t), some (.loc d), some (.loc lr), some (.loc le), x4, some (.tup [.int f, .int g, .tup (deeds.map D.str), .tup (es.map entD)]), some (.int 119), some (.tup (.str kd :: rr)), some (.str way)] s')
      unfold bl_d_law_wide_1
      subst_eqs
      refine pkA H 1 rfl (by omega) (by rw [List.length_map, List.length_set]; omega) fun s H => ?_
      have em2 : ((es.set 119 x).map entD).set (119 : Int).toNat (.tup [.str "last", .tup (.str kd :: rr)]) = (es.set 119 ((("last" : Str), Rec.oth kd rr) : Ent)).map entD := by
        have : ((119 : Int).toNat) = 119 := rfl
        rw [this, List.map_set, List.map_set, List.set_set]; rfl
      rw [em2] at H
      have hro : RecOk deeds (Rec.oth kd rr) := by rcases hkd with h | h; exact .inr (.inl h); exact .inl h
      have hr2 := hb (Rec.oth kd rr) hro "last"
      have G2 : Good deeds (es.set 119 ((("last" : Str), Rec.oth kd rr) : Ent)) := ⟨nd, by omega, hbl _, hr2⟩
      have H : Has s ((lw, Ls [.tup [.tup [.str "over", .str r0, .int 1, .tup [.tup [.str r1, .int 0], .tup [.str r2, .int 0]]], .str "post"], .tup [.tup [.str "under", .str r3, .int 1, .tup [.tup [.str r4, .int 0], .tup [.str r5, .int 0]]], .str "ante"]]) :: (le, Ls ((es.set 119 ((("last" : Str), Rec.oth kd rr) : Ent)).map entD)) :: (lr, Ls (B.map D.str)) :: (d, Ls (deeds.map D.str)) :: Z) := H
      subst_eqs
      refine w_if ?_
      subst_eqs
      refine frame_w (by omega) (by omega) (hbl _) hr2 H (.tail _ (.tail _ (.tail _ (.tail _ ht)))) (.tail _ (.tail _ (.tail _ (.head _)))) (.tail _ (.head _)) fun s2 f2 H2 => ?_
      have D3 := fun l2 => due_oth (deeds := deeds) (f := f2) (l := l2) (es := es) (n := 119) (dg := "last") (k := kd) (r := rr) hkd (by omega) hgap
      rw [← hwy] at D3
      generalize f2 + (2 * (deeds.length : Int) * most (es.set 119 ((("last" : Str), Rec.oth kd rr) : Ent)) + 1 + 0) = g2 at *
      subst_eqs
      rename_i l3 s3 hl3 H3
      refine told_w G2 H3 (.inr ⟨_, rfl, by rw [D3]; exact .head _⟩) fun s' H => ?_
      subst_eqs
      exact ⟨_, _, _, hro, rfl, H.drop⟩
    · rintro env s' ⟨x, x7, x8, hx, rfl, H⟩
      exact ⟨_, _, _, hx, rfl, H.drop⟩
  rintro env s' ⟨x, x7, x8, hx, rfl, H⟩
  subst_eqs
  refine o_ixD H (.tail _ (.head _)) (by omega) (by omega) fun w3 hw3 ew3 => ?_
  subst_eqs
  refine o_ixD H (.tail _ (.head _)) (by omega) (by omega) fun w4 hw4 ew4 => ?_
  subst_eqs
  refine pkA H 0 rfl (by omega) (by rw [List.length_map, List.length_set]; omega) fun s H => ?_
  have em3 : ((es.set 119 x).map entD).set (119 : Int).toNat (.tup [.str "last", .tup [.str "gap", .str w3, .str w4, .int 0]]) = (es.set 119 ((("last" : Str), Rec.gap w3 w4 0) : Ent)).map entD := by
    have : ((119 : Int).toNat) = 119 := rfl
    rw [this, List.map_set, List.map_set, List.set_set]; rfl
  rw [em3] at H
  have hF2 : ∀ e ∈ es.set 119 ((("last" : Str), Rec.gap w3 w4 0) : Ent), FwdE B 0 37 e.2 := fun e he => by
    rcases List.mem_or_eq_of_mem_set he with he | he
    · obtain ⟨i, j, a, b, w, q, hij, ha, hb, w1, w2⟩ := hF e he
      exact ⟨i, j, a, b, w, q, hij, ha, hb, by omega, w2⟩
    · rw [he]; exact ⟨3, 4, w3, w4, _, rfl, by omega, by simpa using ew3, by simpa using ew4, by omega, by omega⟩
  have hr4 : ∀ e ∈ es.set 119 ((("last" : Str), Rec.gap w3 w4 0) : Ent), RecOk deeds e.2 := fun e he => fwd_rec hB (hF2 e he) (by omega) (by omega)
  have G4 : Good deeds (es.set 119 ((("last" : Str), Rec.gap w3 w4 0) : Ent)) := ⟨nd, by omega, hbl _, hr4⟩
  have D4 := fun f => fwd_due (f := f) (wider := 0) nd hB (by omega) (by omega) hF2
  have hs0 : strictB (es.set 119 ((("last" : Str), Rec.gap w3 w4 0) : Ent)) = false := by
    unfold strictB
    rw [List.all_eq_false]
    refine ⟨(w3, w4, 0), List.mem_map.mpr ⟨((("last" : Str), Rec.gap w3 w4 0) : Ent), List.mem_of_getElem? (i := 119) (by rw [List.getElem?_set_self (by omega)]), rfl⟩, by simp⟩
  have H : Has s ((le, Ls ((es.set 119 ((("last" : Str), Rec.gap w3 w4 0) : Ent)).map entD)) :: (lr, Ls (B.map D.str)) :: (d, Ls (deeds.map D.str)) :: Z) := H
  rw [hs0] at D4
  have hl4 := hbl ((("last" : Str), Rec.gap w3 w4 0) : Ent)
  generalize es.set 119 ((("last" : Str), Rec.gap w3 w4 0) : Ent) = es4 at *
  subst_eqs
  refine frame_w (by omega) (by omega) hl4 hr4 H (.tail _ (.tail _ (.tail _ ht))) (.tail _ (.tail _ (.head _))) (.head _) fun s2 f4 H2 => ?_
  have D5 := D4 f4
  generalize f4 + (2 * (deeds.length : Int) * most es4 + 1 + 0) = g4 at *
  subst_eqs
  rename_i l3 s3 hl3 H3
  refine told_w G4 H3 (.inr ⟨_, rfl, by rw [D5]; exact .head _⟩) fun s' H => ?_
  subst_eqs
  exact k _ H.drop.drop.drop.drop
end
end Law
namespace Law
open PySem Mi
local macro_rules | `(tactic| ac_rfl) => `(tactic| repeat (first | exact List.mem_cons_self | assumption | apply List.mem_cons_of_mem | apply List.mem_append_right))
local macro_rules | `(tactic| eq_refl) => `(tactic| first
  | ((with_reducible refine wr_go ?_); first
    | ((with_reducible refine w_Vg ?_); first
      | with_reducible refine w_V0 ?_
      | with_reducible refine w_V1 ?_
      | with_reducible refine w_V2 ?_
      | with_reducible refine w_V3 ?_
      | with_reducible refine w_V4 ?_
      | with_reducible refine w_V5 ?_
      | with_reducible refine w_V6 ?_
      | with_reducible refine w_V7 ?_
      | with_reducible refine w_V8 ?_
      | with_reducible refine w_V9 ?_
      | with_reducible refine w_V10 ?_
      | with_reducible refine w_V11 ?_
      | with_reducible refine w_V12 ?_
      | with_reducible refine w_V13 ?_
      | with_reducible refine w_V14 ?_
      | with_reducible refine w_V15 ?_
      | with_reducible refine w_V16 ?_
      | with_reducible refine w_V17 ?_
      | with_reducible refine w_V18 ?_
      | with_reducible refine w_V19 ?_
      | with_reducible refine w_V20 ?_
      | with_reducible refine w_V21 ?_
      | with_reducible refine w_V22 ?_
      | with_reducible refine w_V23 ?_
      | with_reducible refine w_V24 ?_
      | with_reducible refine w_V25 ?_
      | with_reducible refine w_V26 ?_
      | with_reducible refine w_V27 ?_
      | with_reducible refine w_V28 ?_
      | with_reducible refine w_V29 ?_
      | with_reducible refine w_V30 ?_
      | with_reducible refine w_V31 ?_
      | refine w_V (by exact rfl) ?_)
    | with_reducible refine w_C ?_
    | with_reducible refine w_cons ?_
    | with_reducible refine w_nil ?_
    | with_reducible refine w_e2 ?_
    | with_reducible refine w_call ?_
    | with_reducible refine w_tV ?_
    | with_reducible refine w_tup ?_
    | with_reducible refine w_e1 ?_
    | with_reducible refine w_fn ?_
    | with_reducible refine w_tru ?_
    | with_reducible refine w_and ?_
    | with_reducible refine w_or ?_
    | with_reducible refine w_not ?_
    | with_reducible refine w_lst ?_
    | with_reducible refine w_mt ?_
    | with_reducible refine w_mt0 ?_
    | with_reducible refine w_rng ?_
    | with_reducible refine w_rng2 ?_
    | with_reducible refine w_iSeq ?_
    | with_reducible refine w_eif ?_
    | with_reducible refine w_eAnd ?_
    | with_reducible refine w_eOr ?_
    | with_reducible refine w_eNot ?_
    | with_reducible refine w_notT ?_
    | with_reducible refine w_chain ?_
    | with_reducible refine w_oN ?_
    | with_reducible refine w_oS ?_
    | with_reducible refine w_sl ?_
    | with_reducible refine w_lc ?_
    | with_reducible refine w_enm ?_
    | with_reducible refine w_enmS ?_
    | with_reducible refine w_zip ?_
    | with_reducible refine w_fmt ?_
    | with_reducible refine w_fs ?_
    | with_reducible refine w_jsn ?_
    | with_reducible refine w_jsc ?_
    | with_reducible refine w_dc ?_
    | ((with_reducible apply w_dict0); (focus assumption); intro l s hl H)
    | with_reducible refine w_tT ?_
    | ((with_reducible refine w_fnM ?_); simp only [List.map_cons, List.map_nil, List.cons_append, List.nil_append, List.replicate_succ, List.replicate_zero, Nat.reduceSub]))
  | ((with_reducible refine wo_go ?_); first
    | with_reducible refine o_max ?_
    | with_reducible refine o_min ?_
    | with_reducible refine o_lenT ?_
    | ((with_reducible apply o_lenL); (focus assumption); (focus (repeat (first | exact List.mem_cons_self | assumption | apply List.mem_cons_of_mem))))
    | ((with_reducible apply o_tupL); (focus assumption); (focus (repeat (first | exact List.mem_cons_self | assumption | apply List.mem_cons_of_mem))))
    | ((with_reducible apply o_sumL); (focus assumption); (focus (repeat (first | exact List.mem_cons_self | assumption | apply List.mem_cons_of_mem))))
    | ((with_reducible apply o_mul); (focus omega))
    | ((with_reducible apply o_div); (focus omega))
    | ((with_reducible apply o_mod); (focus omega))
    | ((with_reducible apply o_pow); (focus (first | omega | decide)))
    | ((with_reducible apply o_ixT); (focus (first | exact atI_zero _ _ | exact atI_one _ _ _ | exact atI_two _ _ _ _ | exact atI_three _ _ _ _ _)))
    | ((with_reducible apply o_ixL); (focus assumption); (focus (repeat (first | exact List.mem_cons_self | assumption | apply List.mem_cons_of_mem))); (focus (first | exact atI_zero _ _ | exact atI_one _ _ _ | exact atI_two _ _ _ _ | exact atI_three _ _ _ _ _)))
    | with_reducible refine o_slT ?_
    | with_reducible refine o_slA ?_
    | ((with_reducible apply o_ixZT); (focus (first | exact atI_zero _ _ | exact atI_one _ _ _ | exact atI_two _ _ _ _ | exact atI_three _ _ _ _ _)))
    | ((with_reducible apply o_ixZL); (focus assumption); (focus (repeat (first | exact List.mem_cons_self | assumption | apply List.mem_cons_of_mem))); (focus (first | exact atI_zero _ _ | exact atI_one _ _ _ | exact atI_two _ _ _ _ | exact atI_three _ _ _ _ _)))
    | with_reducible refine o_iT1 ?_
    | with_reducible refine o_iT2 ?_
    | with_reducible refine o_iT3 ?_
    | with_reducible refine o_iS1 ?_
    | with_reducible refine o_iS2 ?_
    | with_reducible refine o_iS3 ?_
    | with_reducible refine o_iI1 ?_
    | with_reducible refine o_iI2 ?_
    | with_reducible refine o_iI3 ?_
    | with_reducible refine o_iB1 ?_
    | ((with_reducible apply o_ixA); (focus (first | exact atI_zero _ _ | exact atI_one _ _ _ | exact atI_two _ _ _ _ | exact atI_three _ _ _ _ _)))
    | ((with_reducible apply o_ixAL); (focus assumption); (focus (repeat (first | exact List.mem_cons_self | assumption | apply List.mem_cons_of_mem))); (focus (first | exact atI_zero _ _ | exact atI_one _ _ _ | exact atI_two _ _ _ _ | exact atI_three _ _ _ _ _)))
    | ((with_reducible apply o_listAT); (focus assumption); intro l s hl H)
    | ((with_reducible apply o_listT); (focus assumption); intro l s hl H)
    | refine wo_some ?_)
  | ((with_reducible refine wi_go ?_); first
    | with_reducible refine wi_n ?_
    | with_reducible refine wi_t ?_
    | with_reducible refine wi_f ?_
    | ((with_reducible apply wi_yes); (focus omega))
    | ((with_reducible apply wi_no); (focus omega)))
  | ((with_reducible refine bd_go ?_); first
    | ((with_reducible refine bd_nx ?_); try simp only [List.set_cons_succ, List.set_cons_zero])
    | with_reducible refine bd_rt ?_
    | with_reducible refine bd_ct ?_
    | with_reducible refine bd_bk ?_
    | with_reducible refine bd_ex ?_)
  | with_reducible refine w_seq ?_
  | with_reducible refine w_set ?_
  | with_reducible refine wb ?_
  | ((with_reducible apply tupk); (focus exact Nat.le_of_ble_eq_true rfl))
  | with_reducible refine w_sNil ?_
  | with_reducible refine w_ret ?_
  | with_reducible refine w_expr ?_
  | with_reducible refine tru_b ?_
  | with_reducible refine tru_n ?_
  | with_reducible refine tru_i ?_
  | with_reducible refine tru_t ?_
  | ((with_reducible apply tru_l); (focus assumption); (focus (repeat (first | exact List.mem_cons_self | assumption | apply List.mem_cons_of_mem))))
  | with_reducible refine is_tup ?_
  | with_reducible refine enmk ?_
  | with_reducible refine is_str ?_
  | ((with_reducible apply is_lstH); (focus assumption); (focus (repeat (first | exact List.mem_cons_self | assumption | apply List.mem_cons_of_mem))))
  | ((with_reducible apply mt_lst); (focus assumption); (focus (repeat (first | exact List.mem_cons_self | assumption | apply List.mem_cons_of_mem))))
  | with_reducible refine w_for ?_
  | with_reducible refine mt_str ?_
  | with_reducible refine oi ?_
  | with_reducible refine w_asg ?_
  | with_reducible refine w_asgL ?_
  | with_reducible refine w_put ?_
  | ((with_reducible refine w_augg ?_); refine w_aug (by exact rfl) ?_)
  | with_reducible refine w_raise ?_
  | with_reducible refine w_retN ?_
  | with_reducible refine w_brk ?_
  | with_reducible refine w_cnt ?_
  | with_reducible refine tn_nx ?_
  | with_reducible refine nx_nx ?_
  | with_reducible refine tn_ct ?_
  | with_reducible refine tn_bk ?_
  | with_reducible refine tn_rt ?_
  | with_reducible refine tn_ex ?_
  | with_reducible refine fin_rt ?_
  | with_reducible refine fin_nx ?_
  | with_reducible refine fin_ex ?_
  | ((with_reducible apply newl); (focus assumption); (focus exact Nat.le_of_ble_eq_true rfl); intro l s hl H))
local macro_rules | `(tactic| subst_eqs) => `(tactic| repeat eq_refl)
/-! ### the law -/
theorem cut_one (xs : List Str) : cutD (xs.map D.str) none (some 1) = (xs.take 1).map D.str := by
  unfold cutD
  cases xs with
  | nil => rfl
  | cons x xs =>
    have h : HT.sIx ((x :: xs).map D.str).length ((x :: xs).map D.str).length (some 1) - HT.sIx ((x :: xs).map D.str).length 0 none = 1 := by
      simp [HT.sIx]
    rw [h]
    simp [HT.sIx]
theorem law_true (ns : List Int) (hn : ns.length ≤ 63) : ∃ s, m_law [.fl (ns.map D.int)] [] = .ok (.bl true) s := by
  obtain ⟨t, s0, e0, H0⟩ := tape_w hn
  suffices h : WR (m_law [.fl (ns.map D.int)] []) (fun d _ => d = .bl true) NoE by
    obtain ⟨v, s, e, hv⟩ := wr_out h
    exact ⟨s, by rw [e, hv]⟩
  have ht : (t, IsTp) ∈ [(t, IsTp)] := .head _
  unfold m_law b_law
  subst_eqs
  refine wr_eq e0 ?_
  subst_eqs
  refine draw_w H0 ht (by omega) fun j s j0 j1 H => ?_
  obtain ⟨n1, hn1⟩ : ∃ n : Nat, 2 + j = n := ⟨(2 + j).toNat, by omega⟩
  subst_eqs
  rw [hn1]
  refine names_w (by omega) H ht fun d s A hA nA H => ?_
  have ht2 : (t, IsTp) ∈ [(d, Ls (A.map D.str)), (t, IsTp)] := .tail _ (.head _)
  subst_eqs
  refine draw_w H ht2 (by omega) fun j2 s j20 j21 H => ?_
  subst_eqs
  rename_i l5 s5 hl5 H5
  refine draw_w H5 (.tail _ ht2) (by omega) fun j3 s j30 j31 H => ?_
  refine o_ixZLm H (.head _) j30 (by simp; omega) fun v hv _ => ?_
  obtain ⟨first, rfl⟩ : ∃ f : Int, v = .int f := by
    simp only [List.mem_cons, List.not_mem_nil, or_false] at hv
    rcases hv with rfl | rfl | rfl | rfl | rfl <;> exact ⟨_, rfl⟩
  have H := H.drop
  subst_eqs
  refine draw_w H ht2 (by omega) fun j4 s j40 j41 H => ?_
  subst_eqs
  refine draw_w H ht2 (by omega) fun j5 s j50 j51 H => ?_
  obtain ⟨m5, rfl⟩ : ∃ n : Nat, j5 = n := ⟨j5.toNat, by omega⟩
  subst_eqs
  refine bd_cut (fun env s' => env = [some (.fl (ns.map D.int)), some (.loc t), some (.loc d), some (.int first), some (.int (first + 1 + j4)), some (.int (m5 : Nat)), none] ∧ Has s' [(d, Ls (A.map D.str)), (t, IsTp)]) ?_ ?_
  · refine w_if ?_
    subst_eqs
    refine ways_w nA (by omega) (by omega) (by omega) H ht2 (.head _) fun s H => ?_
    subst_eqs
    refine plain_w2 nA (by omega) (by omega) (by omega) H ht2 (.head _) fun s H => ?_
    subst_eqs
    exact ⟨rfl, H⟩
  rintro env s' ⟨rfl, H⟩
  have H := H.drop
  subst_eqs
  refine draw_w H ht (by omega) fun j6 s j60 j61 H => ?_
  obtain ⟨n2, hn2⟩ : ∃ n : Nat, 2 + j6 = n := ⟨(2 + j6).toNat, by omega⟩
  subst_eqs
  rw [hn2]
  refine names_w (by omega) H ht fun d2 s A2 hA2 nA2 H => ?_
  have ht3 : (t, IsTp) ∈ [(d2, Ls (A2.map D.str)), (t, IsTp)] := .tail _ (.head _)
  subst_eqs
  refine draw_w H ht3 (by omega) fun low s low0 low1 H => ?_
  subst_eqs
  refine bd_cut (fun env s' => env = [some (.fl (ns.map D.int)), some (.loc t), some (.loc d2), some (.int first), some (.int (first + 1 + j4)), some (.int (m5 : Nat)), some (.int low)] ∧ Has s' [(d2, Ls (A2.map D.str)), (t, IsTp)]) ?_ ?_
  · refine w_if ?_
    subst_eqs
    refine draw_w H ht3 (by omega) fun j7 s j70 j71 H => ?_
    subst_eqs
    refine draw_w H ht3 (by omega) fun j8 s j80 j81 H => ?_
    obtain ⟨n3, hn3⟩ : ∃ n : Nat, 1 + j8 = n := ⟨(1 + j8).toNat, by omega⟩
    subst_eqs
    rw [hn3]
    refine orders_w nA2 (by omega) (by omega) (by omega) (by omega) (by omega) (by omega) H ht3 (.head _) fun s H => ?_
    subst_eqs
    exact ⟨rfl, H⟩
  rintro env s' ⟨rfl, H⟩
  subst_eqs
  refine bd_cut (fun env s' => env = [some (.fl (ns.map D.int)), some (.loc t), some (.loc d2), some (.int first), some (.int (first + 1 + j4)), some (.int (m5 : Nat)), some (.int low)] ∧ Has s' [(d2, Ls (A2.map D.str)), (t, IsTp)]) ?_ ?_
  · refine w_if ?_
    subst_eqs
    refine o_slAL H (.head _) fun p1 s p1l H => ?_
    rw [cut_one] at H
    subst_eqs
    refine orders_few (List.Nodup.sublist (List.take_sublist 1 A2) nA2) (by rw [List.length_take]; omega) H (.tail _ ht3) (.head _) fun s H => ?_
    subst_eqs
    rename_i l6 s6 hl6 H6
    refine orders_few (deeds := []) (by simp) (by simp) H6 (.tail _ (.tail _ ht3)) (.head _) fun s H => ?_
    subst_eqs
    exact ⟨rfl, H.drop.drop⟩
  rintro env s' ⟨rfl, H⟩
  refine w_seq ?_
  refine w_if ?_
  subst_eqs
  refine draw_w H ht3 (by omega) fun j9 s j90 j91 H => ?_
  subst_eqs
  refine wi_d (fun c => ?_) (fun c => ?_)
  · subst_eqs
    refine wide_w H ht3 fun s H => ?_
    subst_eqs
  · subst_eqs
end Law
namespace Law
open PySem PySem.Spec PyProof.Rows L2 Mi
theorem all_mk {P : Program} {w : World} {K : PySem.W.Frag} {h : Heap} {mg : Str → Option Value} {fa : Addr} (X : K.In h) (G : h.Ns mainGlobals mg) (hfa : mg "law" = some (.ref fa))
  {f_way_of : Addr} {od_way_of an_way_of : Option Addr} {sl_way_of : Array (Option Value)} {oc_way_of kV_way_of dc_way_of pm_way_of cd_way_of ct_way_of : Value} (a_way_of : PySem.W.nsIn K mainGlobals "way_of" = some (some (.ref f_way_of))) (l_way_of : K.lookup f_way_of = some ⟨oc_way_of, od_way_of, .func (PySem.W.fnOf "way_of" "way_of" (defArgs s_way_of) (defBody s_way_of) (defScope s_way_of) .none kV_way_of dc_way_of pm_way_of an_way_of cd_way_of ct_way_of), sl_way_of⟩) (c_way_of : PySem.W.codeIn K cd_way_of "way_of" = true) (k_way_of : PySem.W.keepIn K (.ref f_way_of) = true)
  {f_plain_record : Addr} {od_plain_record an_plain_record : Option Addr} {sl_plain_record : Array (Option Value)} {oc_plain_record kV_plain_record dc_plain_record pm_plain_record cd_plain_record ct_plain_record : Value} (a_plain_record : PySem.W.nsIn K mainGlobals "plain_record" = some (some (.ref f_plain_record))) (l_plain_record : K.lookup f_plain_record = some ⟨oc_plain_record, od_plain_record, .func (PySem.W.fnOf "plain_record" "plain_record" (defArgs s_plain_record) (defBody s_plain_record) (defScope s_plain_record) .none kV_plain_record dc_plain_record pm_plain_record an_plain_record cd_plain_record ct_plain_record), sl_plain_record⟩) (c_plain_record : PySem.W.codeIn K cd_plain_record "plain_record" = true) (k_plain_record : PySem.W.keepIn K (.ref f_plain_record) = true)
  {f_is_plain : Addr} {od_is_plain an_is_plain : Option Addr} {sl_is_plain : Array (Option Value)} {oc_is_plain kV_is_plain dc_is_plain pm_is_plain cd_is_plain ct_is_plain : Value} (a_is_plain : PySem.W.nsIn K mainGlobals "is_plain" = some (some (.ref f_is_plain))) (l_is_plain : K.lookup f_is_plain = some ⟨oc_is_plain, od_is_plain, .func (PySem.W.fnOf "is_plain" "is_plain" (defArgs s_is_plain) (defBody s_is_plain) (defScope s_is_plain) .none kV_is_plain dc_is_plain pm_is_plain an_is_plain cd_is_plain ct_is_plain), sl_is_plain⟩) (c_is_plain : PySem.W.codeIn K cd_is_plain "is_plain" = true) (k_is_plain : PySem.W.keepIn K (.ref f_is_plain) = true)
  {f_order_settles : Addr} {od_order_settles an_order_settles : Option Addr} {sl_order_settles : Array (Option Value)} {oc_order_settles kV_order_settles dc_order_settles pm_order_settles cd_order_settles ct_order_settles : Value} (a_order_settles : PySem.W.nsIn K mainGlobals "order_settles" = some (some (.ref f_order_settles))) (l_order_settles : K.lookup f_order_settles = some ⟨oc_order_settles, od_order_settles, .func (PySem.W.fnOf "order_settles" "order_settles" (defArgs s_order_settles) (defBody s_order_settles) (defScope s_order_settles) .none kV_order_settles dc_order_settles pm_order_settles an_order_settles cd_order_settles ct_order_settles), sl_order_settles⟩) (c_order_settles : PySem.W.codeIn K cd_order_settles "order_settles" = true) (k_order_settles : PySem.W.keepIn K (.ref f_order_settles) = true)
  {f_is_order : Addr} {od_is_order an_is_order : Option Addr} {sl_is_order : Array (Option Value)} {oc_is_order kV_is_order dc_is_order pm_is_order cd_is_order ct_is_order : Value} (a_is_order : PySem.W.nsIn K mainGlobals "is_order" = some (some (.ref f_is_order))) (l_is_order : K.lookup f_is_order = some ⟨oc_is_order, od_is_order, .func (PySem.W.fnOf "is_order" "is_order" (defArgs s_is_order) (defBody s_is_order) (defScope s_is_order) .none kV_is_order dc_is_order pm_is_order an_is_order cd_is_order ct_is_order), sl_is_order⟩) (c_is_order : PySem.W.codeIn K cd_is_order "is_order" = true) (k_is_order : PySem.W.keepIn K (.ref f_is_order) = true)
  {f_is_strict : Addr} {od_is_strict an_is_strict : Option Addr} {sl_is_strict : Array (Option Value)} {oc_is_strict kV_is_strict dc_is_strict pm_is_strict cd_is_strict ct_is_strict : Value} (a_is_strict : PySem.W.nsIn K mainGlobals "is_strict" = some (some (.ref f_is_strict))) (l_is_strict : K.lookup f_is_strict = some ⟨oc_is_strict, od_is_strict, .func (PySem.W.fnOf "is_strict" "is_strict" (defArgs s_is_strict) (defBody s_is_strict) (defScope s_is_strict) .none kV_is_strict dc_is_strict pm_is_strict an_is_strict cd_is_strict ct_is_strict), sl_is_strict⟩) (c_is_strict : PySem.W.codeIn K cd_is_strict "is_strict" = true) (k_is_strict : PySem.W.keepIn K (.ref f_is_strict) = true)
  {f_d_law_tape : Addr} {od_d_law_tape an_d_law_tape : Option Addr} {sl_d_law_tape : Array (Option Value)} {oc_d_law_tape kV_d_law_tape dc_d_law_tape pm_d_law_tape cd_d_law_tape ct_d_law_tape : Value} (a_d_law_tape : PySem.W.nsIn K mainGlobals "_law_tape" = some (some (.ref f_d_law_tape))) (l_d_law_tape : K.lookup f_d_law_tape = some ⟨oc_d_law_tape, od_d_law_tape, .func (PySem.W.fnOf "_law_tape" "_law_tape" (defArgs s_d_law_tape) (defBody s_d_law_tape) (defScope s_d_law_tape) .none kV_d_law_tape dc_d_law_tape pm_d_law_tape an_d_law_tape cd_d_law_tape ct_d_law_tape), sl_d_law_tape⟩) (c_d_law_tape : PySem.W.codeIn K cd_d_law_tape "_law_tape" = true) (k_d_law_tape : PySem.W.keepIn K (.ref f_d_law_tape) = true)
  {f_d_law_draw : Addr} {od_d_law_draw an_d_law_draw : Option Addr} {sl_d_law_draw : Array (Option Value)} {oc_d_law_draw kV_d_law_draw dc_d_law_draw pm_d_law_draw cd_d_law_draw ct_d_law_draw : Value} (a_d_law_draw : PySem.W.nsIn K mainGlobals "_law_draw" = some (some (.ref f_d_law_draw))) (l_d_law_draw : K.lookup f_d_law_draw = some ⟨oc_d_law_draw, od_d_law_draw, .func (PySem.W.fnOf "_law_draw" "_law_draw" (defArgs s_d_law_draw) (defBody s_d_law_draw) (defScope s_d_law_draw) .none kV_d_law_draw dc_d_law_draw pm_d_law_draw an_d_law_draw cd_d_law_draw ct_d_law_draw), sl_d_law_draw⟩) (c_d_law_draw : PySem.W.codeIn K cd_d_law_draw "_law_draw" = true) (k_d_law_draw : PySem.W.keepIn K (.ref f_d_law_draw) = true)
  {f_d_law_names : Addr} {od_d_law_names an_d_law_names : Option Addr} {sl_d_law_names : Array (Option Value)} {oc_d_law_names kV_d_law_names dc_d_law_names pm_d_law_names cd_d_law_names ct_d_law_names : Value} (a_d_law_names : PySem.W.nsIn K mainGlobals "_law_names" = some (some (.ref f_d_law_names))) (l_d_law_names : K.lookup f_d_law_names = some ⟨oc_d_law_names, od_d_law_names, .func (PySem.W.fnOf "_law_names" "_law_names" (defArgs s_d_law_names) (defBody s_d_law_names) (defScope s_d_law_names) .none kV_d_law_names dc_d_law_names pm_d_law_names an_d_law_names cd_d_law_names ct_d_law_names), sl_d_law_names⟩) (c_d_law_names : PySem.W.codeIn K cd_d_law_names "_law_names" = true) (k_d_law_names : PySem.W.keepIn K (.ref f_d_law_names) = true)
  {f_d_law_shuffled : Addr} {od_d_law_shuffled an_d_law_shuffled : Option Addr} {sl_d_law_shuffled : Array (Option Value)} {oc_d_law_shuffled kV_d_law_shuffled dc_d_law_shuffled pm_d_law_shuffled cd_d_law_shuffled ct_d_law_shuffled : Value} (a_d_law_shuffled : PySem.W.nsIn K mainGlobals "_law_shuffled" = some (some (.ref f_d_law_shuffled))) (l_d_law_shuffled : K.lookup f_d_law_shuffled = some ⟨oc_d_law_shuffled, od_d_law_shuffled, .func (PySem.W.fnOf "_law_shuffled" "_law_shuffled" (defArgs s_d_law_shuffled) (defBody s_d_law_shuffled) (defScope s_d_law_shuffled) .none kV_d_law_shuffled dc_d_law_shuffled pm_d_law_shuffled an_d_law_shuffled cd_d_law_shuffled ct_d_law_shuffled), sl_d_law_shuffled⟩) (c_d_law_shuffled : PySem.W.codeIn K cd_d_law_shuffled "_law_shuffled" = true) (k_d_law_shuffled : PySem.W.keepIn K (.ref f_d_law_shuffled) = true)
  {f_d_law_dates : Addr} {od_d_law_dates an_d_law_dates : Option Addr} {sl_d_law_dates : Array (Option Value)} {oc_d_law_dates kV_d_law_dates dc_d_law_dates pm_d_law_dates cd_d_law_dates ct_d_law_dates : Value} (a_d_law_dates : PySem.W.nsIn K mainGlobals "_law_dates" = some (some (.ref f_d_law_dates))) (l_d_law_dates : K.lookup f_d_law_dates = some ⟨oc_d_law_dates, od_d_law_dates, .func (PySem.W.fnOf "_law_dates" "_law_dates" (defArgs s_d_law_dates) (defBody s_d_law_dates) (defScope s_d_law_dates) .none kV_d_law_dates dc_d_law_dates pm_d_law_dates an_d_law_dates cd_d_law_dates ct_d_law_dates), sl_d_law_dates⟩) (c_d_law_dates : PySem.W.codeIn K cd_d_law_dates "_law_dates" = true) (k_d_law_dates : PySem.W.keepIn K (.ref f_d_law_dates) = true)
  {f_d_law_base : Addr} {od_d_law_base an_d_law_base : Option Addr} {sl_d_law_base : Array (Option Value)} {oc_d_law_base kV_d_law_base dc_d_law_base pm_d_law_base cd_d_law_base ct_d_law_base : Value} (a_d_law_base : PySem.W.nsIn K mainGlobals "_law_base" = some (some (.ref f_d_law_base))) (l_d_law_base : K.lookup f_d_law_base = some ⟨oc_d_law_base, od_d_law_base, .func (PySem.W.fnOf "_law_base" "_law_base" (defArgs s_d_law_base) (defBody s_d_law_base) (defScope s_d_law_base) .none kV_d_law_base dc_d_law_base pm_d_law_base an_d_law_base cd_d_law_base ct_d_law_base), sl_d_law_base⟩) (c_d_law_base : PySem.W.codeIn K cd_d_law_base "_law_base" = true) (k_d_law_base : PySem.W.keepIn K (.ref f_d_law_base) = true)
  {f_d_law_others : Addr} {od_d_law_others an_d_law_others : Option Addr} {sl_d_law_others : Array (Option Value)} {oc_d_law_others kV_d_law_others dc_d_law_others pm_d_law_others cd_d_law_others ct_d_law_others : Value} (a_d_law_others : PySem.W.nsIn K mainGlobals "_law_others" = some (some (.ref f_d_law_others))) (l_d_law_others : K.lookup f_d_law_others = some ⟨oc_d_law_others, od_d_law_others, .func (PySem.W.fnOf "_law_others" "_law_others" (defArgs s_d_law_others) (defBody s_d_law_others) (defScope s_d_law_others) .none kV_d_law_others dc_d_law_others pm_d_law_others an_d_law_others cd_d_law_others ct_d_law_others), sl_d_law_others⟩) (c_d_law_others : PySem.W.codeIn K cd_d_law_others "_law_others" = true) (k_d_law_others : PySem.W.keepIn K (.ref f_d_law_others) = true)
  {f_d_law_loop : Addr} {od_d_law_loop an_d_law_loop : Option Addr} {sl_d_law_loop : Array (Option Value)} {oc_d_law_loop kV_d_law_loop dc_d_law_loop pm_d_law_loop cd_d_law_loop ct_d_law_loop : Value} (a_d_law_loop : PySem.W.nsIn K mainGlobals "_law_loop" = some (some (.ref f_d_law_loop))) (l_d_law_loop : K.lookup f_d_law_loop = some ⟨oc_d_law_loop, od_d_law_loop, .func (PySem.W.fnOf "_law_loop" "_law_loop" (defArgs s_d_law_loop) (defBody s_d_law_loop) (defScope s_d_law_loop) .none kV_d_law_loop dc_d_law_loop pm_d_law_loop an_d_law_loop cd_d_law_loop ct_d_law_loop), sl_d_law_loop⟩) (c_d_law_loop : PySem.W.codeIn K cd_d_law_loop "_law_loop" = true) (k_d_law_loop : PySem.W.keepIn K (.ref f_d_law_loop) = true)
  {f_d_law_due : Addr} {od_d_law_due an_d_law_due : Option Addr} {sl_d_law_due : Array (Option Value)} {oc_d_law_due kV_d_law_due dc_d_law_due pm_d_law_due cd_d_law_due ct_d_law_due : Value} (a_d_law_due : PySem.W.nsIn K mainGlobals "_law_due" = some (some (.ref f_d_law_due))) (l_d_law_due : K.lookup f_d_law_due = some ⟨oc_d_law_due, od_d_law_due, .func (PySem.W.fnOf "_law_due" "_law_due" (defArgs s_d_law_due) (defBody s_d_law_due) (defScope s_d_law_due) .none kV_d_law_due dc_d_law_due pm_d_law_due an_d_law_due cd_d_law_due ct_d_law_due), sl_d_law_due⟩) (c_d_law_due : PySem.W.codeIn K cd_d_law_due "_law_due" = true) (k_d_law_due : PySem.W.keepIn K (.ref f_d_law_due) = true)
  {f_d_law_told : Addr} {od_d_law_told an_d_law_told : Option Addr} {sl_d_law_told : Array (Option Value)} {oc_d_law_told kV_d_law_told dc_d_law_told pm_d_law_told cd_d_law_told ct_d_law_told : Value} (a_d_law_told : PySem.W.nsIn K mainGlobals "_law_told" = some (some (.ref f_d_law_told))) (l_d_law_told : K.lookup f_d_law_told = some ⟨oc_d_law_told, od_d_law_told, .func (PySem.W.fnOf "_law_told" "_law_told" (defArgs s_d_law_told) (defBody s_d_law_told) (defScope s_d_law_told) .none kV_d_law_told dc_d_law_told pm_d_law_told an_d_law_told cd_d_law_told ct_d_law_told), sl_d_law_told⟩) (c_d_law_told : PySem.W.codeIn K cd_d_law_told "_law_told" = true) (k_d_law_told : PySem.W.keepIn K (.ref f_d_law_told) = true)
  {f_d_law_ways : Addr} {od_d_law_ways an_d_law_ways : Option Addr} {sl_d_law_ways : Array (Option Value)} {oc_d_law_ways kV_d_law_ways dc_d_law_ways pm_d_law_ways cd_d_law_ways ct_d_law_ways : Value} (a_d_law_ways : PySem.W.nsIn K mainGlobals "_law_ways" = some (some (.ref f_d_law_ways))) (l_d_law_ways : K.lookup f_d_law_ways = some ⟨oc_d_law_ways, od_d_law_ways, .func (PySem.W.fnOf "_law_ways" "_law_ways" (defArgs s_d_law_ways) (defBody s_d_law_ways) (defScope s_d_law_ways) .none kV_d_law_ways dc_d_law_ways pm_d_law_ways an_d_law_ways cd_d_law_ways ct_d_law_ways), sl_d_law_ways⟩) (c_d_law_ways : PySem.W.codeIn K cd_d_law_ways "_law_ways" = true) (k_d_law_ways : PySem.W.keepIn K (.ref f_d_law_ways) = true)
  {f_d_law_plain : Addr} {od_d_law_plain an_d_law_plain : Option Addr} {sl_d_law_plain : Array (Option Value)} {oc_d_law_plain kV_d_law_plain dc_d_law_plain pm_d_law_plain cd_d_law_plain ct_d_law_plain : Value} (a_d_law_plain : PySem.W.nsIn K mainGlobals "_law_plain" = some (some (.ref f_d_law_plain))) (l_d_law_plain : K.lookup f_d_law_plain = some ⟨oc_d_law_plain, od_d_law_plain, .func (PySem.W.fnOf "_law_plain" "_law_plain" (defArgs s_d_law_plain) (defBody s_d_law_plain) (defScope s_d_law_plain) .none kV_d_law_plain dc_d_law_plain pm_d_law_plain an_d_law_plain cd_d_law_plain ct_d_law_plain), sl_d_law_plain⟩) (c_d_law_plain : PySem.W.codeIn K cd_d_law_plain "_law_plain" = true) (k_d_law_plain : PySem.W.keepIn K (.ref f_d_law_plain) = true)
  {f_d_law_forward : Addr} {od_d_law_forward an_d_law_forward : Option Addr} {sl_d_law_forward : Array (Option Value)} {oc_d_law_forward kV_d_law_forward dc_d_law_forward pm_d_law_forward cd_d_law_forward ct_d_law_forward : Value} (a_d_law_forward : PySem.W.nsIn K mainGlobals "_law_forward" = some (some (.ref f_d_law_forward))) (l_d_law_forward : K.lookup f_d_law_forward = some ⟨oc_d_law_forward, od_d_law_forward, .func (PySem.W.fnOf "_law_forward" "_law_forward" (defArgs s_d_law_forward) (defBody s_d_law_forward) (defScope s_d_law_forward) .none kV_d_law_forward dc_d_law_forward pm_d_law_forward an_d_law_forward cd_d_law_forward ct_d_law_forward), sl_d_law_forward⟩) (c_d_law_forward : PySem.W.codeIn K cd_d_law_forward "_law_forward" = true) (k_d_law_forward : PySem.W.keepIn K (.ref f_d_law_forward) = true)
  {f_d_law_frame : Addr} {od_d_law_frame an_d_law_frame : Option Addr} {sl_d_law_frame : Array (Option Value)} {oc_d_law_frame kV_d_law_frame dc_d_law_frame pm_d_law_frame cd_d_law_frame ct_d_law_frame : Value} (a_d_law_frame : PySem.W.nsIn K mainGlobals "_law_frame" = some (some (.ref f_d_law_frame))) (l_d_law_frame : K.lookup f_d_law_frame = some ⟨oc_d_law_frame, od_d_law_frame, .func (PySem.W.fnOf "_law_frame" "_law_frame" (defArgs s_d_law_frame) (defBody s_d_law_frame) (defScope s_d_law_frame) .none kV_d_law_frame dc_d_law_frame pm_d_law_frame an_d_law_frame cd_d_law_frame ct_d_law_frame), sl_d_law_frame⟩) (c_d_law_frame : PySem.W.codeIn K cd_d_law_frame "_law_frame" = true) (k_d_law_frame : PySem.W.keepIn K (.ref f_d_law_frame) = true)
  {f_d_law_orders : Addr} {od_d_law_orders an_d_law_orders : Option Addr} {sl_d_law_orders : Array (Option Value)} {oc_d_law_orders kV_d_law_orders dc_d_law_orders pm_d_law_orders cd_d_law_orders ct_d_law_orders : Value} (a_d_law_orders : PySem.W.nsIn K mainGlobals "_law_orders" = some (some (.ref f_d_law_orders))) (l_d_law_orders : K.lookup f_d_law_orders = some ⟨oc_d_law_orders, od_d_law_orders, .func (PySem.W.fnOf "_law_orders" "_law_orders" (defArgs s_d_law_orders) (defBody s_d_law_orders) (defScope s_d_law_orders) .none kV_d_law_orders dc_d_law_orders pm_d_law_orders an_d_law_orders cd_d_law_orders ct_d_law_orders), sl_d_law_orders⟩) (c_d_law_orders : PySem.W.codeIn K cd_d_law_orders "_law_orders" = true) (k_d_law_orders : PySem.W.keepIn K (.ref f_d_law_orders) = true)
  {f_d_law_wide : Addr} {od_d_law_wide an_d_law_wide : Option Addr} {sl_d_law_wide : Array (Option Value)} {oc_d_law_wide kV_d_law_wide dc_d_law_wide pm_d_law_wide cd_d_law_wide ct_d_law_wide : Value} (a_d_law_wide : PySem.W.nsIn K mainGlobals "_law_wide" = some (some (.ref f_d_law_wide))) (l_d_law_wide : K.lookup f_d_law_wide = some ⟨oc_d_law_wide, od_d_law_wide, .func (PySem.W.fnOf "_law_wide" "_law_wide" (defArgs s_d_law_wide) (defBody s_d_law_wide) (defScope s_d_law_wide) .none kV_d_law_wide dc_d_law_wide pm_d_law_wide an_d_law_wide cd_d_law_wide ct_d_law_wide), sl_d_law_wide⟩) (c_d_law_wide : PySem.W.codeIn K cd_d_law_wide "_law_wide" = true) (k_d_law_wide : PySem.W.keepIn K (.ref f_d_law_wide) = true)
  {f_law : Addr} {od_law an_law : Option Addr} {sl_law : Array (Option Value)} {oc_law kV_law dc_law pm_law cd_law ct_law : Value} (a_law : PySem.W.nsIn K mainGlobals "law" = some (some (.ref f_law))) (l_law : K.lookup f_law = some ⟨oc_law, od_law, .func (PySem.W.fnOf "law" "law" (defArgs s_law) (defBody s_law) (defScope s_law) .none kV_law dc_law pm_law an_law cd_law ct_law), sl_law⟩) (c_law : PySem.W.codeIn K cd_law "law" = true) (k_law : PySem.W.keepIn K (.ref f_law) = true)
  (z_all : PySem.W.nsIn K mainGlobals "all" = some none)
  (z_bool : PySem.W.nsIn K mainGlobals "bool" = some none)
  (z_int : PySem.W.nsIn K mainGlobals "int" = some none)
  (z_isinstance : PySem.W.nsIn K mainGlobals "isinstance" = some none)
  (z_len : PySem.W.nsIn K mainGlobals "len" = some none)
  (z_list : PySem.W.nsIn K mainGlobals "list" = some none)
  (z_max : PySem.W.nsIn K mainGlobals "max" = some none)
  (z_range : PySem.W.nsIn K mainGlobals "range" = some none)
  (z_sorted : PySem.W.nsIn K mainGlobals "sorted" = some none)
  (z_str : PySem.W.nsIn K mainGlobals "str" = some none)
  (z_tuple : PySem.W.nsIn K mainGlobals "tuple" = some none) :
  ∃ fd : FuncData, (∀ (s : Shared) (v : Value), BindsTo s fd ⟨[v], []⟩ [("script", v)]) ∧ ∀ base : Heap, K.In base → base.Ns mainGlobals mg → FnOk P w K mg base (L2.CX P w) 6 fa fd ["script"] (spLaw K) := by
  cases hfa.symm.trans (PySem.W.mg_of X G a_law)
  have Z : ∃ Z : Fx K mg, Z.a_law = fa ∧ Z.d_law = PySem.W.fnOf "law" "law" (defArgs s_law) (defBody s_law) (defScope s_law) .none kV_law dc_law pm_law an_law cd_law ct_law := ⟨{
    a_way_of := f_way_of, d_way_of := _, F_way_of := fun_mk (st := s_way_of) l_way_of c_way_of k_way_of, g_way_of := PySem.W.mg_of X G a_way_of,
    a_plain_record := f_plain_record, d_plain_record := _, F_plain_record := fun_mk (st := s_plain_record) l_plain_record c_plain_record k_plain_record, g_plain_record := PySem.W.mg_of X G a_plain_record,
    a_is_plain := f_is_plain, d_is_plain := _, F_is_plain := fun_mk (st := s_is_plain) l_is_plain c_is_plain k_is_plain, g_is_plain := PySem.W.mg_of X G a_is_plain,
    a_order_settles := f_order_settles, d_order_settles := _, F_order_settles := fun_mk (st := s_order_settles) l_order_settles c_order_settles k_order_settles, g_order_settles := PySem.W.mg_of X G a_order_settles,
    a_is_order := f_is_order, d_is_order := _, F_is_order := fun_mk (st := s_is_order) l_is_order c_is_order k_is_order, g_is_order := PySem.W.mg_of X G a_is_order,
    a_is_strict := f_is_strict, d_is_strict := _, F_is_strict := fun_mk (st := s_is_strict) l_is_strict c_is_strict k_is_strict, g_is_strict := PySem.W.mg_of X G a_is_strict,
    a_d_law_tape := f_d_law_tape, d_d_law_tape := _, F_d_law_tape := fun_mk (st := s_d_law_tape) l_d_law_tape c_d_law_tape k_d_law_tape, g_d_law_tape := PySem.W.mg_of X G a_d_law_tape,
    a_d_law_draw := f_d_law_draw, d_d_law_draw := _, F_d_law_draw := fun_mk (st := s_d_law_draw) l_d_law_draw c_d_law_draw k_d_law_draw, g_d_law_draw := PySem.W.mg_of X G a_d_law_draw,
    a_d_law_names := f_d_law_names, d_d_law_names := _, F_d_law_names := fun_mk (st := s_d_law_names) l_d_law_names c_d_law_names k_d_law_names, g_d_law_names := PySem.W.mg_of X G a_d_law_names,
    a_d_law_shuffled := f_d_law_shuffled, d_d_law_shuffled := _, F_d_law_shuffled := fun_mk (st := s_d_law_shuffled) l_d_law_shuffled c_d_law_shuffled k_d_law_shuffled, g_d_law_shuffled := PySem.W.mg_of X G a_d_law_shuffled,
    a_d_law_dates := f_d_law_dates, d_d_law_dates := _, F_d_law_dates := fun_mk (st := s_d_law_dates) l_d_law_dates c_d_law_dates k_d_law_dates, g_d_law_dates := PySem.W.mg_of X G a_d_law_dates,
    a_d_law_base := f_d_law_base, d_d_law_base := _, F_d_law_base := fun_mk (st := s_d_law_base) l_d_law_base c_d_law_base k_d_law_base, g_d_law_base := PySem.W.mg_of X G a_d_law_base,
    a_d_law_others := f_d_law_others, d_d_law_others := _, F_d_law_others := fun_mk (st := s_d_law_others) l_d_law_others c_d_law_others k_d_law_others, g_d_law_others := PySem.W.mg_of X G a_d_law_others,
    a_d_law_loop := f_d_law_loop, d_d_law_loop := _, F_d_law_loop := fun_mk (st := s_d_law_loop) l_d_law_loop c_d_law_loop k_d_law_loop, g_d_law_loop := PySem.W.mg_of X G a_d_law_loop,
    a_d_law_due := f_d_law_due, d_d_law_due := _, F_d_law_due := fun_mk (st := s_d_law_due) l_d_law_due c_d_law_due k_d_law_due, g_d_law_due := PySem.W.mg_of X G a_d_law_due,
    a_d_law_told := f_d_law_told, d_d_law_told := _, F_d_law_told := fun_mk (st := s_d_law_told) l_d_law_told c_d_law_told k_d_law_told, g_d_law_told := PySem.W.mg_of X G a_d_law_told,
    a_d_law_ways := f_d_law_ways, d_d_law_ways := _, F_d_law_ways := fun_mk (st := s_d_law_ways) l_d_law_ways c_d_law_ways k_d_law_ways, g_d_law_ways := PySem.W.mg_of X G a_d_law_ways,
    a_d_law_plain := f_d_law_plain, d_d_law_plain := _, F_d_law_plain := fun_mk (st := s_d_law_plain) l_d_law_plain c_d_law_plain k_d_law_plain, g_d_law_plain := PySem.W.mg_of X G a_d_law_plain,
    a_d_law_forward := f_d_law_forward, d_d_law_forward := _, F_d_law_forward := fun_mk (st := s_d_law_forward) l_d_law_forward c_d_law_forward k_d_law_forward, g_d_law_forward := PySem.W.mg_of X G a_d_law_forward,
    a_d_law_frame := f_d_law_frame, d_d_law_frame := _, F_d_law_frame := fun_mk (st := s_d_law_frame) l_d_law_frame c_d_law_frame k_d_law_frame, g_d_law_frame := PySem.W.mg_of X G a_d_law_frame,
    a_d_law_orders := f_d_law_orders, d_d_law_orders := _, F_d_law_orders := fun_mk (st := s_d_law_orders) l_d_law_orders c_d_law_orders k_d_law_orders, g_d_law_orders := PySem.W.mg_of X G a_d_law_orders,
    a_d_law_wide := f_d_law_wide, d_d_law_wide := _, F_d_law_wide := fun_mk (st := s_d_law_wide) l_d_law_wide c_d_law_wide k_d_law_wide, g_d_law_wide := PySem.W.mg_of X G a_d_law_wide,
    a_law := fa, d_law := _, F_law := fun_mk (st := s_law) l_law c_law k_law, g_law := PySem.W.mg_of X G a_law,
    b_all := PySem.W.mg_none_of X G z_all,
    b_bool := PySem.W.mg_none_of X G z_bool,
    b_int := PySem.W.mg_none_of X G z_int,
    b_isinstance := PySem.W.mg_none_of X G z_isinstance,
    b_len := PySem.W.mg_none_of X G z_len,
    b_list := PySem.W.mg_none_of X G z_list,
    b_max := PySem.W.mg_none_of X G z_max,
    b_range := PySem.W.mg_none_of X G z_range,
    b_sorted := PySem.W.mg_none_of X G z_sorted,
    b_str := PySem.W.mg_none_of X G z_str,
    b_tuple := PySem.W.mg_none_of X G z_tuple
  }, rfl, rfl⟩
  obtain ⟨Z, e1, e2⟩ := Z
  rw [← e1]
  exact ⟨Z.d_law, fun s v => e2 ▸ .of_eq rfl, fun base _ _ => FnOk.imp (ok_law Z) (law_imp law_true)⟩
end Law
open PySem PySem.W PyProof.Rows
set_option maxHeartbeats 0 in
theorem PySem.Challenge.cw_beforeinall_k13_ways_and_orders_holds : PySem.Challenge.rw_beforeinall_k13_ways_and_orders.Holds := by
  w_on; o_law; k_head; (case hw => w_witness2)
  k_fill
  refine L2.walk_of (l := PySem.Challenge.rw_beforeinall_k13_ways_and_orders) (n := 63) (k := 6) (x := "script") (CX := fun w => L2.CX PySem.Challenge.rw_beforeinall_k13_ways_and_orders.prog w) (sp := fun w => Mi.spLaw _) rfl (by decide) rfl ⟨rfl, by decide, by decide⟩ (fun w h Y => PySem.W.kIn_of Y) ?F (fun _ _ a ns hl hO hS => ⟨a, ns, rfl, hS, hl, hO, fun _ => rfl⟩) (fun _ _ _ _ _ h => Mi.cx_none h)
  case F =>
    intro w mg fa h KX G hmg
    refine' Law.all_mk KX G hmg ?a_way_of ?l_way_of ?c_way_of ?k_way_of ?a_plain_record ?l_plain_record ?c_plain_record ?k_plain_record ?a_is_plain ?l_is_plain ?c_is_plain ?k_is_plain ?a_order_settles ?l_order_settles ?c_order_settles ?k_order_settles ?a_is_order ?l_is_order ?c_is_order ?k_is_order ?a_is_strict ?l_is_strict ?c_is_strict ?k_is_strict ?a_d_law_tape ?l_d_law_tape ?c_d_law_tape ?k_d_law_tape ?a_d_law_draw ?l_d_law_draw ?c_d_law_draw ?k_d_law_draw ?a_d_law_names ?l_d_law_names ?c_d_law_names ?k_d_law_names ?a_d_law_shuffled ?l_d_law_shuffled ?c_d_law_shuffled ?k_d_law_shuffled ?a_d_law_dates ?l_d_law_dates ?c_d_law_dates ?k_d_law_dates ?a_d_law_base ?l_d_law_base ?c_d_law_base ?k_d_law_base ?a_d_law_others ?l_d_law_others ?c_d_law_others ?k_d_law_others ?a_d_law_loop ?l_d_law_loop ?c_d_law_loop ?k_d_law_loop ?a_d_law_due ?l_d_law_due ?c_d_law_due ?k_d_law_due ?a_d_law_told ?l_d_law_told ?c_d_law_told ?k_d_law_told ?a_d_law_ways ?l_d_law_ways ?c_d_law_ways ?k_d_law_ways ?a_d_law_plain ?l_d_law_plain ?c_d_law_plain ?k_d_law_plain ?a_d_law_forward ?l_d_law_forward ?c_d_law_forward ?k_d_law_forward ?a_d_law_frame ?l_d_law_frame ?c_d_law_frame ?k_d_law_frame ?a_d_law_orders ?l_d_law_orders ?c_d_law_orders ?k_d_law_orders ?a_d_law_wide ?l_d_law_wide ?c_d_law_wide ?k_d_law_wide ?a_law ?l_law ?c_law ?k_law ?z_all ?z_bool ?z_int ?z_isinstance ?z_len ?z_list ?z_max ?z_range ?z_sorted ?z_str ?z_tuple
    (case a_way_of => k_is); (case l_way_of => k_is); (case c_way_of => k_is); (case k_way_of => k_is); (case a_plain_record => k_is); (case l_plain_record => k_is); (case c_plain_record => k_is); (case k_plain_record => k_is); (case a_is_plain => k_is); (case l_is_plain => k_is); (case c_is_plain => k_is); (case k_is_plain => k_is); (case a_order_settles => k_is); (case l_order_settles => k_is); (case c_order_settles => k_is); (case k_order_settles => k_is); (case a_is_order => k_is); (case l_is_order => k_is); (case c_is_order => k_is); (case k_is_order => k_is); (case a_is_strict => k_is); (case l_is_strict => k_is); (case c_is_strict => k_is); (case k_is_strict => k_is); (case a_d_law_tape => k_is); (case l_d_law_tape => k_is); (case c_d_law_tape => k_is); (case k_d_law_tape => k_is); (case a_d_law_draw => k_is); (case l_d_law_draw => k_is); (case c_d_law_draw => k_is); (case k_d_law_draw => k_is); (case a_d_law_names => k_is); (case l_d_law_names => k_is); (case c_d_law_names => k_is); (case k_d_law_names => k_is); (case a_d_law_shuffled => k_is); (case l_d_law_shuffled => k_is); (case c_d_law_shuffled => k_is); (case k_d_law_shuffled => k_is); (case a_d_law_dates => k_is); (case l_d_law_dates => k_is); (case c_d_law_dates => k_is); (case k_d_law_dates => k_is); (case a_d_law_base => k_is); (case l_d_law_base => k_is); (case c_d_law_base => k_is); (case k_d_law_base => k_is); (case a_d_law_others => k_is); (case l_d_law_others => k_is); (case c_d_law_others => k_is); (case k_d_law_others => k_is); (case a_d_law_loop => k_is); (case l_d_law_loop => k_is); (case c_d_law_loop => k_is); (case k_d_law_loop => k_is); (case a_d_law_due => k_is); (case l_d_law_due => k_is); (case c_d_law_due => k_is); (case k_d_law_due => k_is); (case a_d_law_told => k_is); (case l_d_law_told => k_is); (case c_d_law_told => k_is); (case k_d_law_told => k_is); (case a_d_law_ways => k_is); (case l_d_law_ways => k_is); (case c_d_law_ways => k_is); (case k_d_law_ways => k_is); (case a_d_law_plain => k_is); (case l_d_law_plain => k_is); (case c_d_law_plain => k_is); (case k_d_law_plain => k_is); (case a_d_law_forward => k_is); (case l_d_law_forward => k_is); (case c_d_law_forward => k_is); (case k_d_law_forward => k_is); (case a_d_law_frame => k_is); (case l_d_law_frame => k_is); (case c_d_law_frame => k_is); (case k_d_law_frame => k_is); (case a_d_law_orders => k_is); (case l_d_law_orders => k_is); (case c_d_law_orders => k_is); (case k_d_law_orders => k_is); (case a_d_law_wide => k_is); (case l_d_law_wide => k_is); (case c_d_law_wide => k_is); (case k_d_law_wide => k_is); (case a_law => k_is); (case l_law => k_is); (case c_law => k_is); (case k_law => k_is); (case z_all => k_is); (case z_bool => k_is); (case z_int => k_is); (case z_isinstance => k_is); (case z_len => k_is); (case z_list => k_is); (case z_max => k_is); (case z_range => k_is); (case z_sorted => k_is); (case z_str => k_is); (case z_tuple => k_is)
