import PyProof.Rows.All
import Wide.All
import OpenK.AllK
import Wide.FinOn
import HandS.ForMost
import HandS.ForExc
import HandS.CallSlots
import HandS.Wide
import HandS.More
import HandS.TupAny
import HandS.TupMul
import HandS.Deep
import HandS.Style
import HandS.IsInst
import HandS.SortInts
import PyProof.Rows.SortShellAny
import KE.KSortTupG
import HandS.SetFor
import HandS.TryOnly
import HandS.HotCalls
import HandS.ExcIs
import HandS.ListItems
import KE.SortData
import HandS.Conv
import HandS.StrMore
import HandS.Codes
import HandS.Zip
import HandS.TryMany
import HandS.Text
import KE.GoesZip
import HandS.Flt
import HandS.Iter
import HandS.Strs
import PyProof.TupleOfSeq
import PyProof.FString5
import PySem.Challenge.RW_kinnames_k85_whole_begun
set_option Elab.async false
set_option linter.all false
set_option maxRecDepth 100000
set_option maxHeartbeats 4000000
/-! KnA: pure data, their standing in a heap, judgements -/
namespace KN
open PySem PySem.Spec PyProof.Rows L2
/-! ### pure data -/
abbrev Tx := List Nat
inductive D where
  | non | bl (b : Bool) | int (i : Int) | str (s : Tx)
  | lst (xs : List D) | tup (xs : List D) | dic (es : List (Tx × D))
abbrev toS (s : Tx) : Str := ⟨s.toArray⟩
inductive R (α : Type) where
  | ok (a : α) | ex (c : Nat) | no
namespace R
@[simp] def bind {α β : Type} : R α → (α → R β) → R β
  | ok a, f => f a
  | ex c, _ => ex c
  | no, _ => no
@[simp] def noex {α : Type} : R α → R α
  | ok a => ok a
  | _ => no
end R
inductive Sl where
  | un | va (d : D) | ow (d : D) | nd (es : List (Tx × List (Tx × D))) | xc (a : Addr)
  /-- an object of one's own (or one that was handed in), one that is read alone: its class, its fields, whether a field is one's own list -/
  | ob (h : Bool) (c : Nat) (fs : List (Bool × D)) | rf (c : Nat) (fs : List (Bool × D))
abbrev Ga := List Sl
/-! ### data in a heap -/
mutual
inductive Rep (K : PySem.W.Frag) (F : Hp) : D → V → Prop
  | non : Rep K F .non .non
  | bl (b : Bool) : Rep K F (.bl b) (.bl b)
  | int (i : Int) : Rep K F (.int i) (.int i)
  | str (s : Tx) : Rep K F (.str s) (.str (toS s))
  | lst {a : Addr} {ds : List D} {vs : List V} : SqL K F a vs → Reps K F ds vs → Rep K F (.lst ds) (.ref a)
  | tup {a : Addr} {ds : List D} {vs : List V} : SqT K F a vs → Reps K F ds vs → Rep K F (.tup ds) (.ref a)
  | dic {a : Addr} {es : List (Tx × D)} {kvs : List (Key × V)} : F a = some (.dK kvs) → RepK K F es kvs → Rep K F (.dic es) (.ref a)
inductive Reps (K : PySem.W.Frag) (F : Hp) : List D → List V → Prop
  | nil : Reps K F [] []
  | cons {d : D} {ds : List D} {v : V} {vs : List V} : Rep K F d v → Reps K F ds vs → Reps K F (d :: ds) (v :: vs)
inductive RepK (K : PySem.W.Frag) (F : Hp) : List (Tx × D) → List (Key × V) → Prop
  | nil : RepK K F [] []
  | cons {k : Tx} {d : D} {es : List (Tx × D)} {v : V} {kvs : List (Key × V)} : Rep K F d v → RepK K F es kvs → RepK K F ((k, d) :: es) ((Sum.inr (toS k), v) :: kvs)
end
theorem same_sqt {K : PySem.W.Frag} {F F' : Hp} {a : Addr} {xs : List V} (e : Same F F') (h : SqT K F a xs) : SqT K F' a xs := by
  rcases h with (h | ⟨o, h⟩) | h
  · exact .inl (.inl (e _ _ h))
  · exact .inl (.inr ⟨o, e _ _ h⟩)
  · exact .inr h
section
variable {K : PySem.W.Frag} {F F' : Hp}
theorem Rep.mono (e : Same F F') {d : D} {v : V} (h : Rep K F d v) : Rep K F' d v :=
  Rep.rec (motive_1 := fun d v _ => Rep K F' d v) (motive_2 := fun ds vs _ => Reps K F' ds vs) (motive_3 := fun es kvs _ => RepK K F' es kvs)
    .non .bl .int .str (fun h1 _ i => .lst (e.seq h1) i) (fun h1 _ i => .tup (same_sqt e h1) i) (fun h1 _ i => .dic (e _ _ h1) i)
    .nil (fun _ _ i j => .cons i j) .nil (fun _ _ i j => .cons i j) h
theorem Reps.mono (e : Same F F') {ds : List D} {vs : List V} (h : Reps K F ds vs) : Reps K F' ds vs :=
  Reps.rec (motive_1 := fun d v _ => Rep K F' d v) (motive_2 := fun ds vs _ => Reps K F' ds vs) (motive_3 := fun es kvs _ => RepK K F' es kvs)
    .non .bl .int .str (fun h1 _ i => .lst (e.seq h1) i) (fun h1 _ i => .tup (same_sqt e h1) i) (fun h1 _ i => .dic (e _ _ h1) i)
    .nil (fun _ _ i j => .cons i j) .nil (fun _ _ i j => .cons i j) h
theorem RepK.mono (e : Same F F') {es : List (Tx × D)} {kvs : List (Key × V)} (h : RepK K F es kvs) : RepK K F' es kvs :=
  RepK.rec (motive_1 := fun d v _ => Rep K F' d v) (motive_2 := fun ds vs _ => Reps K F' ds vs) (motive_3 := fun es kvs _ => RepK K F' es kvs)
    .non .bl .int .str (fun h1 _ i => .lst (e.seq h1) i) (fun h1 _ i => .tup (same_sqt e h1) i) (fun h1 _ i => .dic (e _ _ h1) i)
    .nil (fun _ _ i j => .cons i j) .nil (fun _ _ i j => .cons i j) h
theorem Reps.length {ds : List D} {vs : List V} (h : Reps K F ds vs) : ds.length = vs.length := by
  induction ds generalizing vs with
  | nil => cases h; rfl
  | cons d ds ih => cases h with | cons h1 h2 => simp [ih h2]
theorem Reps.get {ds : List D} {vs : List V} (h : Reps K F ds vs) {i : Nat} {d : D} (e : ds[i]? = some d) : ∃ v, vs[i]? = some v ∧ Rep K F d v := by
  induction ds generalizing vs i with
  | nil => simp at e
  | cons d' ds ih =>
    cases h with
    | cons h1 h2 =>
      cases i with
      | zero => simp at e; subst e; exact ⟨_, rfl, h1⟩
      | succ i => simp at e; simpa using ih h2 e
theorem Reps.append {ds es : List D} {vs us : List V} (h : Reps K F ds vs) (h' : Reps K F es us) : Reps K F (ds ++ es) (vs ++ us) := by
  induction ds generalizing vs with
  | nil => cases h; exact h'
  | cons d ds ih => cases h with | cons h1 h2 => exact .cons h1 (ih h2)
theorem Reps.take {ds : List D} {vs : List V} (h : Reps K F ds vs) (n : Nat) : Reps K F (ds.take n) (vs.take n) := by
  induction ds generalizing vs n with
  | nil => cases h; simp; exact .nil
  | cons d ds ih =>
    cases h with
    | cons h1 h2 =>
      cases n with
      | zero => exact .nil
      | succ n => exact .cons h1 (ih h2 n)
theorem Reps.drop {ds : List D} {vs : List V} (h : Reps K F ds vs) (n : Nat) : Reps K F (ds.drop n) (vs.drop n) := by
  induction ds generalizing vs n with
  | nil => cases h; simp; exact .nil
  | cons d ds ih =>
    cases h with
    | cons h1 h2 =>
      cases n with
      | zero => exact .cons h1 h2
      | succ n => exact ih h2 n
theorem Reps.set {ds : List D} {vs : List V} (h : Reps K F ds vs) {d : D} {v : V} (r : Rep K F d v) (n : Nat) : Reps K F (ds.set n d) (vs.set n v) := by
  induction ds generalizing vs n with
  | nil => cases h; exact .nil
  | cons d' ds ih =>
    cases h with
    | cons h1 h2 =>
      cases n with
      | zero => exact .cons r h2
      | succ n => exact .cons h1 (ih h2 n)
theorem RepK.length {es : List (Tx × D)} {kvs : List (Key × V)} (h : RepK K F es kvs) : es.length = kvs.length := by
  induction es generalizing kvs with
  | nil => cases h; rfl
  | cons d ds ih => cases h with | cons h1 h2 => simp [ih h2]
end
/-- the frozen part of a heap; a dict of it may be locked -/
def Emb (F H : Hp) : Prop := ∀ a o, F a = some o → H a = some o ∨ ∃ ob kvs, o = .dK kvs ∧ H a = some (.frz ob (.dK kvs))
theorem Emb.sql {K : PySem.W.Frag} {F H : Hp} {a : Addr} {xs : List V} (e : Emb F H) (h : SqL K F a xs) : SqL K H a xs := by
  rcases h with (h | ⟨o, h⟩) | h
  · rcases e _ _ h with h | ⟨_, _, z, _⟩
    · exact .inl (.inl h)
    · cases z
  · rcases e _ _ h with h | ⟨_, _, z, _⟩
    · exact .inl (.inr ⟨o, h⟩)
    · cases z
  · exact .inr h
theorem Emb.sqt {K : PySem.W.Frag} {F H : Hp} {a : Addr} {xs : List V} (e : Emb F H) (h : SqT K F a xs) : SqT K H a xs := by
  rcases h with (h | ⟨o, h⟩) | h
  · rcases e _ _ h with h | ⟨_, _, z, _⟩
    · exact .inl (.inl h)
    · cases z
  · rcases e _ _ h with h | ⟨_, _, z, _⟩
    · exact .inl (.inr ⟨o, h⟩)
    · cases z
  · exact .inr h
theorem Emb.dk {F H : Hp} {a : Addr} {kvs : List (Key × V)} (e : Emb F H) (h : F a = some (.dK kvs)) : Rd H a (.dK kvs) := by
  rcases e _ _ h with h | ⟨ob, kvs', z, h⟩
  · exact .inl h
  · cases z; exact .inr ⟨ob, h⟩
theorem Emb.free {F H : Hp} {a : Addr} (e : Emb F H) (h : H a = none) : F a = none := by
  cases q : F a with
  | none => rfl
  | some o =>
    rcases e _ _ q with z | ⟨_, _, _, z⟩ <;> rw [h] at z <;> cases z
theorem Emb.none : Emb (fun _ => none) H := fun _ _ h => nomatch h
/-- F' and H' stand behind F and H: nothing known has changed -/
structure Nxt (F H F' H' : Hp) : Prop where
  f : Same F F'
  fn : ∀ a o, F' a = some o → F a = some o ∨ H a = none
  emb : Emb F' H'
  h : Same H H'
theorem Nxt.refl {F H : Hp} (e : Emb F H) : Nxt F H F H := ⟨.refl _, fun _ _ h => .inl h, e, .refl _⟩
theorem Nxt.trans {F H F1 H1 F2 H2 : Hp} (a : Nxt F H F1 H1) (b : Nxt F1 H1 F2 H2) : Nxt F H F2 H2 :=
  ⟨a.f.trans b.f, fun c o h => by
    rcases b.fn c o h with z | z
    · exact a.fn c o z
    · exact .inr (a.h.free z), b.emb, a.h.trans b.h⟩
theorem Nxt.new {F H : Hp} {p : Addr} (e : Emb F H) (hp : H p = none) (o : HO) : Nxt F H (upd F p o) (upd H p o) := by
  have fp : F p = none := e.free hp
  refine ⟨fun b u h => ?_, fun a u h => ?_, fun a u h => ?_, fun b u h => ?_⟩
  · rw [upd_ne (ne_of_none h fp)]; exact h
  · by_cases q : a = p
    · subst q; exact .inr hp
    · rw [upd_ne q] at h; exact .inl h
  · by_cases q : a = p
    · subst q; rw [upd_same] at h ⊢; exact .inl h
    · rw [upd_ne q] at h; rw [upd_ne q]; exact e a u h
  · rw [upd_ne (ne_of_none h hp)]; exact h
/-- a new thing that isn't frozen yet -/
theorem Nxt.laid {F H : Hp} {p : Addr} (e : Emb F H) (hp : H p = none) (o : HO) : Nxt F H F (upd H p o) := by
  have fp : F p = none := e.free hp
  refine ⟨.refl _, fun _ _ h => .inl h, fun a u h => ?_, fun b u h => ?_⟩
  · have q : a ≠ p := ne_of_none h fp
    rw [upd_ne q]; exact e a u h
  · rw [upd_ne (ne_of_none h hp)]; exact h
/-- a laid thing is frozen -/
theorem Emb.freeze {F H : Hp} {p : Addr} {o : HO} (e : Emb F H) (hp : H p = some o) : Emb (upd F p o) H := fun a u h => by
  by_cases q : a = p
  · subst q; rw [upd_same] at h; cases h; exact .inl hp
  · rw [upd_ne q] at h; exact e a u h
theorem same_upd {F : Hp} {p : Addr} {o : HO} (h : F p = none) : Same F (upd F p o) := fun b u e => by
  rw [upd_ne (ne_of_none e h)]; exact e
/-- a list or dict that may still change, at a -/
def Own (K : PySem.W.Frag) (F H : Hp) : D → Addr → Prop
  | .lst ds, a => ∃ vs, H a = some (.lst vs) ∧ Reps K F ds vs
  | .dic es, a => ∃ kvs, H a = some (.dK kvs) ∧ RepK K F es kvs
  | _, _ => False
theorem Own.next {K : PySem.W.Frag} {F H F' H' : Hp} {d : D} {a : Addr} (o : Own K F H d a) (f : Same F F') (h : ∀ u, H a = some u → H' a = some u) : Own K F' H' d a := by
  cases d <;> simp only [Own] at o ⊢
  · obtain ⟨vs, e, r⟩ := o; exact ⟨vs, h _ e, r.mono f⟩
  · obtain ⟨vs, e, r⟩ := o; exact ⟨vs, h _ e, r.mono f⟩
theorem Own.have {K : PySem.W.Frag} {F H : Hp} {d : D} {a : Addr} (o : Own K F H d a) : ∃ u, H a = some u := by
  cases d <;> simp only [Own] at o
  · obtain ⟨vs, e, r⟩ := o; exact ⟨_, e⟩
  · obtain ⟨vs, e, r⟩ := o; exact ⟨_, e⟩
/-- frozen: F' with the thing itself -/
theorem Own.freeze {K : PySem.W.Frag} {F H : Hp} {d : D} {a : Addr} (o : Own K F H d a) (e : Emb F H) (fa : F a = none) :
    ∃ u, H a = some u ∧ Emb (upd F a u) H ∧ Same F (upd F a u) ∧ Rep K (upd F a u) d (.ref a) := by
  cases d <;> simp only [Own] at o
  · obtain ⟨vs, h, r⟩ := o
    exact ⟨_, h, e.freeze h, same_upd fa, .lst (.inl (.inl upd_same)) (r.mono (same_upd fa))⟩
  · obtain ⟨kvs, h, r⟩ := o
    exact ⟨_, h, e.freeze h, same_upd fa, .dic upd_same (r.mono (same_upd fa))⟩
/-- read: frozen, or one's own -/
def Rep1 (K : PySem.W.Frag) (F H : Hp) (d : D) (v : V) : Prop := Rep K F d v ∨ ∃ a, v = .ref a ∧ Own K F H d a
theorem Rep1.next {K : PySem.W.Frag} {F H F' H' : Hp} {d : D} {v : V} (r : Rep1 K F H d v) (n : Nxt F H F' H') : Rep1 K F' H' d v := by
  rcases r with r | ⟨a, e, o⟩
  · exact .inl (r.mono n.f)
  · exact .inr ⟨a, e, o.next n.f (fun u z => n.h _ _ z)⟩
section
variable {K : PySem.W.Frag} {F H : Hp} {v : V}
theorem Rep1.lst (e : Emb F H) {ds : List D} (r : Rep1 K F H (.lst ds) v) : ∃ a vs, v = .ref a ∧ SqL K H a vs ∧ Reps K F ds vs := by
  rcases r with r | ⟨a, rfl, vs, h, r⟩
  · cases r with | lst h1 h2 => exact ⟨_, _, rfl, e.sql h1, h2⟩
  · exact ⟨a, vs, rfl, .inl (.inl h), r⟩
theorem Rep1.tup (e : Emb F H) {ds : List D} (r : Rep1 K F H (.tup ds) v) : ∃ a vs, v = .ref a ∧ SqT K H a vs ∧ Reps K F ds vs := by
  rcases r with r | ⟨a, rfl, o⟩
  · cases r with | tup h1 h2 => exact ⟨_, _, rfl, e.sqt h1, h2⟩
  · exact o.elim
theorem Rep1.dic (e : Emb F H) {es : List (Tx × D)} (r : Rep1 K F H (.dic es) v) : ∃ a kvs, v = .ref a ∧ Rd H a (.dK kvs) ∧ RepK K F es kvs := by
  rcases r with r | ⟨a, rfl, kvs, h, r⟩
  · cases r with | dic h1 h2 => exact ⟨_, _, rfl, e.dk h1, h2⟩
  · exact ⟨a, kvs, rfl, .inl h, r⟩
theorem Rep1.int {i : Int} (r : Rep1 K F H (.int i) v) : v = .int i := by
  rcases r with r | ⟨a, rfl, o⟩
  · cases r; rfl
  · exact o.elim
theorem Rep1.str {s : Tx} (r : Rep1 K F H (.str s) v) : v = .str (toS s) := by
  rcases r with r | ⟨a, rfl, o⟩
  · cases r; rfl
  · exact o.elim
theorem Rep1.bl {b : Bool} (r : Rep1 K F H (.bl b) v) : v = .bl b := by
  rcases r with r | ⟨a, rfl, o⟩
  · cases r; rfl
  · exact o.elim
theorem Rep1.non (r : Rep1 K F H .non v) : v = .non := by
  rcases r with r | ⟨a, rfl, o⟩
  · cases r; rfl
  · exact o.elim
end
/-! ### a frame -/
/-- the rows of a dict of dicts, all of one's own -/
def OwK (K : PySem.W.Frag) (F H : Hp) (a : Addr) : List (Tx × List (Tx × D)) → List (Key × V) → Prop
  | [], [] => True
  | (k, row) :: es, (k', v) :: kvs => k' = Sum.inr (toS k) ∧ (∃ r kv, v = .ref r ∧ r ≠ a ∧ F r = none ∧ H r = some (.dK kv) ∧ RepK K F row kv ∧ ∀ p ∈ kvs, p.1 ≠ k' ∧ p.2 ≠ .ref r) ∧ OwK K F H a es kvs
  | _, _ => False
theorem OwK.next {K : PySem.W.Frag} {F H F' H' : Hp} {a : Addr} : ∀ {es : List (Tx × List (Tx × D))} {kvs : List (Key × V)}, OwK K F H a es kvs → Same F F' →
    (∀ k b u, (k, V.ref b) ∈ kvs → F b = none → H b = some u → H' b = some u ∧ F' b = none) → OwK K F' H' a es kvs
  | [], [], _, _, _ => trivial
  | (k, row) :: es, (k', v) :: kvs, ⟨e, ⟨r, kv, e1, e2, e3, e4, e5, e6⟩, o⟩, f, h => by
    subst e1
    obtain ⟨h1, h2⟩ := h k' r _ List.mem_cons_self e3 e4
    exact ⟨e, ⟨r, kv, rfl, e2, h2, h1, e5.mono f, e6⟩, o.next f fun k b u m => h k b u (List.mem_cons_of_mem _ m)⟩
  | [], _ :: _, h, _, _ => h.elim
  | _ :: _, [], h, _, _ => h.elim
theorem OwK.row {K : PySem.W.Frag} {F H : Hp} {a : Addr} : ∀ {es : List (Tx × List (Tx × D))} {kvs : List (Key × V)}, OwK K F H a es kvs → ∀ {k : Key} {v : V}, (k, v) ∈ kvs → ∃ r kv, v = .ref r ∧ r ≠ a ∧ F r = none ∧ H r = some (.dK kv)
  | [], [], _, _, _, m => nomatch m
  | (k, row) :: es, (k', v) :: kvs, ⟨e, ⟨r, kv, e1, e2, e3, e4, e5, e6⟩, o⟩, _, _, m => by
    rcases List.mem_cons.mp m with m | m
    · cases m; exact ⟨r, kv, e1, e2, e3, e4⟩
    · exact o.row m
  | [], _ :: _, h, _, _, _ => h.elim
  | _ :: _, [], h, _, _, _ => h.elim
/-! ### objects -/
abbrev Fd := Bool × D
/-- the classes of the program and their fields, in the order of their first being set -/
def cNm : Nat → Str
  | 0 => "Search" | 1 => "Tally" | 2 => "Keeper" | 3 => "Pen" | _ => "Ledger"
def fNm : Nat → List Str
  | 0 => ["names", "order", "wish", "rows", "heads", "found"]
  | 1 => ["rows", "order", "wish", "kept", "ends"]
  | 2 => ["order", "names", "made"]
  | 3 => ["names", "order", "written", "past", "later"]
  | _ => ["order", "kept", "past", "later"]
def ObC (K : PySem.W.Frag) (c : Nat) (C : Addr) : Prop := PySem.W.nsIn K mainGlobals (cNm c) = some (some (.ref C))
/-- an object's fields as they stand: frozen data, or a list of its own -/
def FdsOk (K : PySem.W.Frag) (F H : Hp) (a : Addr) : List Fd → List V → Prop
  | [], [] => True
  | (false, d) :: fs, v :: vs => Rep K F d v ∧ FdsOk K F H a fs vs
  | (true, d) :: fs, v :: vs => (∃ b, v = .ref b ∧ b ≠ a ∧ F b = none ∧ Own K F H d b ∧ V.ref b ∉ vs) ∧ FdsOk K F H a fs vs
  | _, _ => False
def OwF : List Fd → List V → Addr → Prop
  | (true, _) :: fs, v :: vs, b => v = .ref b ∨ OwF fs vs b
  | (false, _) :: fs, _ :: vs, b => OwF fs vs b
  | _, _, _ => False
theorem FdsOk.len {K : PySem.W.Frag} {F H : Hp} {a : Addr} : ∀ {fs : List Fd} {vs : List V}, FdsOk K F H a fs vs → fs.length = vs.length
  | [], [], _ => rfl
  | (false, _) :: fs, v :: vs, h => by simp [FdsOk.len h.2]
  | (true, _) :: fs, v :: vs, h => by simp [FdsOk.len h.2]
  | [], _ :: _, h => h.elim
  | (false, _) :: _, [], h => h.elim
  | (true, _) :: _, [], h => h.elim
theorem FdsOk.own {K : PySem.W.Frag} {F H : Hp} {a b : Addr} : ∀ {fs : List Fd} {vs : List V}, FdsOk K F H a fs vs → OwF fs vs b → b ≠ a ∧ F b = none ∧ ∃ d, Own K F H d b
  | [], [], _, o => o.elim
  | (false, _) :: fs, v :: vs, h, o => FdsOk.own h.2 o
  | (true, d) :: fs, v :: vs, h, o => by
    rcases o with o | o
    · obtain ⟨b', e1, e2, e3, e4, _⟩ := h.1
      rw [e1] at o; cases o
      exact ⟨e2, e3, d, e4⟩
    · exact FdsOk.own h.2 o
  | [], _ :: _, h, _ => h.elim
  | (false, _) :: _, [], h, _ => h.elim
  | (true, _) :: _, [], h, _ => h.elim
theorem FdsOk.next {K : PySem.W.Frag} {F H F' H' : Hp} {a : Addr} : ∀ {fs : List Fd} {vs : List V}, FdsOk K F H a fs vs → Same F F' → (∀ b u, OwF fs vs b → F b = none → H b = some u → H' b = some u ∧ F' b = none) → FdsOk K F' H' a fs vs
  | [], [], _, _, _ => trivial
  | (false, _) :: fs, v :: vs, h, f, k => ⟨h.1.mono f, FdsOk.next h.2 f k⟩
  | (true, d) :: fs, v :: vs, h, f, k => by
    obtain ⟨b, e1, e2, e3, e4, e5⟩ := h.1
    obtain ⟨u, hu⟩ := e4.have
    exact ⟨⟨b, e1, e2, (k b u (.inl e1) e3 hu).2, e4.next f fun u z => (k b u (.inl e1) e3 z).1, e5⟩, FdsOk.next h.2 f fun b u o => k b u (.inr o)⟩
  | [], _ :: _, h, _, _ => h.elim
  | (false, _) :: _, [], h, _, _ => h.elim
  | (true, _) :: _, [], h, _, _ => h.elim
/-- an object at a, its dict at dx -/
structure ObAt (K : PySem.W.Frag) (F H : Hp) (c : Nat) (fs : List Fd) (a dx : Addr) (C : Addr) (kvs : List (Str × V)) : Prop where
  fa : F a = none
  fd : F dx = none
  ne : dx ≠ a
  ha : H a = some (.ins C dx kvs)
  hd : H dx = some (.own a)
  cl : ObC K c C
  nm : kvs.map (·.1) = (fNm c).take fs.length
  le : fs.length ≤ (fNm c).length
  ok : FdsOk K F H a fs (kvs.map (·.2))
theorem ObAt.next {K : PySem.W.Frag} {F H F' H' : Hp} {c : Nat} {fs : List Fd} {a dx C : Addr} {kvs : List (Str × V)} (o : ObAt K F H c fs a dx C kvs) (f : Same F F') (h : ∀ b u, (b = a ∨ b = dx ∨ OwF fs (kvs.map (·.2)) b) → F b = none → H b = some u → H' b = some u ∧ F' b = none) : ObAt K F' H' c fs a dx C kvs :=
  ⟨(h a _ (.inl rfl) o.fa o.ha).2, (h dx _ (.inr (.inl rfl)) o.fd o.hd).2, o.ne, (h a _ (.inl rfl) o.fa o.ha).1, (h dx _ (.inr (.inl rfl)) o.fd o.hd).1, o.cl, o.nm, o.le, o.ok.next f fun b u z => h b u (.inr (.inr z))⟩
theorem ObAt.dne {K : PySem.W.Frag} {F H : Hp} {c : Nat} {fs : List Fd} {a dx C : Addr} {kvs : List (Str × V)} (o : ObAt K F H c fs a dx C kvs) {b : Addr} (h : OwF fs (kvs.map (·.2)) b) : b ≠ dx := fun e => by
  subst e
  obtain ⟨_, _, d, w⟩ := o.ok.own h
  cases d <;> simp only [Own] at w
  · obtain ⟨vs, e, _⟩ := w; rw [o.hd] at e; cases e
  · obtain ⟨vs, e, _⟩ := w; rw [o.hd] at e; cases e
/-- .. that is frozen -/
structure RfAt (K : PySem.W.Frag) (F : Hp) (c : Nat) (fs : List Fd) (a dx : Addr) (C : Addr) (kvs : List (Str × V)) : Prop where
  ne : dx ≠ a
  ha : F a = some (.ins C dx kvs)
  hd : F dx = some (.own a)
  cl : ObC K c C
  nm : kvs.map (·.1) = (fNm c).take fs.length
  le : fs.length ≤ (fNm c).length
  ok : Reps K F (fs.map (·.2)) (kvs.map (·.2))
theorem RfAt.mono {K : PySem.W.Frag} {F F' : Hp} {c : Nat} {fs : List Fd} {a dx C : Addr} {kvs : List (Str × V)} (o : RfAt K F c fs a dx C kvs) (f : Same F F') : RfAt K F' c fs a dx C kvs :=
  ⟨o.ne, f _ _ o.ha, f _ _ o.hd, o.cl, o.nm, o.le, o.ok.mono f⟩
def SlOk (K : PySem.W.Frag) (F H : Hp) (s : Sl) (x : Option (Option V)) : Prop := match s with
  | .ob _ c fs => ∃ a dx C kvs, x = some (some (.ref a)) ∧ ObAt K F H c fs a dx C kvs
  | .rf c fs => ∃ a dx C kvs, x = some (some (.ref a)) ∧ RfAt K F c fs a dx C kvs
  | .un => True
  | .va d => ∃ v, x = some (some v) ∧ Rep K F d v
  | .ow d => ∃ a, x = some (some (.ref a)) ∧ F a = none ∧ Own K F H d a
  | .nd es => ∃ a kvs, x = some (some (.ref a)) ∧ F a = none ∧ H a = some (.dK kvs) ∧ OwK K F H a es kvs
  | .xc a => x = some (some (.ref a))
/-- b is one of what the slot owns -/
def Inn (H : Hp) (s : Sl) (x : Option (Option V)) (b : Addr) : Prop := match s with
  | .ob _ _ fs => ∃ a dx C kvs, x = some (some (.ref a)) ∧ H a = some (.ins C dx kvs) ∧ (b = a ∨ b = dx ∨ OwF fs (kvs.map (·.2)) b)
  | .ow _ => x = some (some (.ref b))
  | .nd _ => ∃ a kvs, x = some (some (.ref a)) ∧ H a = some (.dK kvs) ∧ (b = a ∨ ∃ k, (k, V.ref b) ∈ kvs)
  | _ => False
theorem Inn.have {K : PySem.W.Frag} {F H : Hp} {s : Sl} {x : Option (Option V)} {b : Addr} (i : Inn H s x b) (k : SlOk K F H s x) : F b = none ∧ ∃ u, H b = some u := by
  cases s with
  | xc a => exact i.elim
  | rf c fs => exact i.elim
  | ob h c fs =>
    obtain ⟨a, dx, C, kvs, e, o⟩ := k
    obtain ⟨a', dx', C', kvs', e', h', m⟩ := i
    rw [e] at e'; cases e'
    rw [o.ha] at h'; cases h'
    rcases m with rfl | rfl | m
    · exact ⟨o.fa, _, o.ha⟩
    · exact ⟨o.fd, _, o.hd⟩
    · obtain ⟨_, h2, _, h3⟩ := o.ok.own m
      exact ⟨h2, h3.have⟩
  | un => exact i.elim
  | va d => exact i.elim
  | ow d =>
    obtain ⟨a, e1, e2, e3⟩ := k
    have i : x = some (some (.ref b)) := i
    rw [i] at e1; cases e1
    exact ⟨e2, e3.have⟩
  | nd es =>
    obtain ⟨a, kvs, e1, e2, e3, e4⟩ := k
    obtain ⟨a', kvs', i1, i2, i3⟩ := i
    rw [i1] at e1; cases e1
    rw [i2] at e3; cases e3
    rcases i3 with rfl | ⟨k, m⟩
    · exact ⟨e2, _, i2⟩
    · obtain ⟨r, kv, q1, q2, q3, q4⟩ := e4.row m
      cases q1
      exact ⟨q3, _, q4⟩
/-- what is owned keeps standing -/
theorem SlOk.keep {K : PySem.W.Frag} {F H F' H' : Hp} {s : Sl} {x : Option (Option V)} (k : SlOk K F H s x) (f : Same F F') (h : ∀ b u, Inn H s x b → F b = none → H b = some u → H' b = some u ∧ F' b = none) : SlOk K F' H' s x := by
  cases s with
  | xc a => exact k
  | rf c fs => obtain ⟨a, dx, C, kvs, e, o⟩ := k; exact ⟨a, dx, C, kvs, e, o.mono f⟩
  | ob h c fs =>
    obtain ⟨a, dx, C, kvs, e, o⟩ := k
    exact ⟨a, dx, C, kvs, e, o.next f fun b u m => h b u ⟨a, dx, C, kvs, e, o.ha, m⟩⟩
  | un => trivial
  | va d => obtain ⟨v, e, p⟩ := k; exact ⟨v, e, p.mono f⟩
  | ow d =>
    obtain ⟨a, e1, e2, e3⟩ := k
    obtain ⟨u, hu⟩ := e3.have
    exact ⟨a, e1, (h a u e1 e2 hu).2, e3.next f fun u z => (h a u e1 e2 z).1⟩
  | nd es =>
    obtain ⟨a, kvs, e1, e2, e3, e4⟩ := k
    obtain ⟨y1, y2⟩ := h a _ ⟨a, kvs, e1, e3, .inl rfl⟩ e2 e3
    exact ⟨a, kvs, e1, y2, y1, e4.next f fun k b u m => h b u ⟨a, kvs, e1, e3, .inr ⟨k, m⟩⟩⟩
theorem Inn.back {K : PySem.W.Frag} {F H H' : Hp} {s : Sl} {x : Option (Option V)} {b : Addr} (i : Inn H' s x b) (k : SlOk K F H s x) (h : ∀ b u, Inn H s x b → H b = some u → H' b = some u) : Inn H s x b := by
  cases s with
  | xc a => exact i
  | rf c fs => exact i
  | ob h c fs =>
    obtain ⟨a, dx, C, kvs, e, o⟩ := k
    obtain ⟨a', dx', C', kvs', e', h', m⟩ := i
    rw [e] at e'; cases e'
    have := h _ _ ⟨a, dx, C, kvs, e, o.ha, .inl rfl⟩ o.ha
    rw [h'] at this; cases this
    exact ⟨a, dx, C, kvs, e, o.ha, m⟩
  | un => exact i
  | va d => exact i
  | ow d => exact i
  | nd es =>
    obtain ⟨a, kvs, e1, e2, e3, e4⟩ := k
    obtain ⟨a', kvs', i1, i2, i3⟩ := i
    rw [i1] at e1; cases e1
    have := h _ _ ⟨_, kvs, i1, e3, .inl rfl⟩ e3
    rw [i2] at this; cases this
    exact ⟨_, _, i1, e3, i3⟩
theorem Nxt.unf {F H F' H' : Hp} (n : Nxt F H F' H') {b : Addr} {u : HO} (h1 : F b = none) (h2 : H b = some u) : F' b = none := by
  cases z : F' b with
  | none => rfl
  | some u' =>
    rcases n.fn b u' z with y | y
    · rw [h1] at y; cases y
    · rw [h2] at y; cases y
structure RS (K : PySem.W.Frag) (F : Hp) (γ : Ga) (σ : L2.St) (H : Hp) : Prop where
  emb : Emb F H
  len : γ.length = σ.length
  sl : ∀ (i : Nat) (s : Sl), γ[i]? = some s → SlOk K F H s σ[i]?
  apart : ∀ (i j : Nat) (s s' : Sl) (b : Addr), γ[i]? = some s → γ[j]? = some s' → Inn H s σ[i]? b → Inn H s' σ[j]? b → i = j
theorem RS.next {K : PySem.W.Frag} {F H F' H' : Hp} {γ : Ga} {σ : L2.St} (r : RS K F γ σ H) (n : Nxt F H F' H') : RS K F' γ σ H' :=
  ⟨n.emb, r.len, fun i s e => (r.sl i s e).keep n.f fun b u _ h1 h2 => ⟨n.h _ _ h2, n.unf h1 h2⟩, fun i j s s' b e1 e2 h1 h2 =>
    r.apart i j s s' b e1 e2 (h1.back (r.sl i s e1) fun b u _ z => n.h _ _ z) (h2.back (r.sl j s' e2) fun b u _ z => n.h _ _ z)⟩
/-! ### what is wanted of a value -/
/-- wishes about exceptions: class number, slots, heap -/
abbrev WN := Nat → L2.St → Hp → Prop
def PV (K : PySem.W.Frag) (F H : Hp) (d : D) (Q : VK) : Prop := ∀ v F' H', Nxt F H F' H' → Rep K F' d v → Q v H'
def PR (K : PySem.W.Frag) (F H : Hp) (d : D) (Q : VK) : Prop := ∀ v F' H', Nxt F H F' H' → Rep1 K F' H' d v → Q v H'
def PF (K : PySem.W.Frag) (F H : Hp) (d : D) (Q : VK) : Prop := ∀ a F' H', Nxt F H F' H' → H a = none → F' a = none → Own K F' H' d a → Q (.ref a) H'
def Out (P : D → VK → Prop) (F H : Hp) (W : Nat → Hp → Prop) (r : R D) (Q : VK) : Prop := match r with
  | .ok d => P d Q
  | .ex c => ∀ F' H', Nxt F H F' H' → W c H'
  | .no => False
def rdV (K : PySem.W.Frag) (W : WN) (f : Ga → R D) : TE := fun σ H Q => ∃ F γ, RS K F γ σ H ∧ Out (PV K F H) F H (fun c H' => W c σ H') (f γ) Q
def rdR (K : PySem.W.Frag) (W : WN) (f : Ga → R D) : TE := fun σ H Q => ∃ F γ, RS K F γ σ H ∧ Out (PR K F H) F H (fun c H' => W c σ H') (f γ) Q
def rdF (K : PySem.W.Frag) (W : WN) (f : Ga → R D) : TE := fun σ H Q => ∃ F γ, RS K F γ σ H ∧ Out (PF K F H) F H (fun c H' => W c σ H') (f γ) Q
/-- an expression: its value is frozen -/
structure J (X : Cx) (W : WN) (f : Ga → R D) (e : Expr) : Prop where
  pe : PE X e (rdV X.K W f)
/-- .. is read alone -/
structure JR (X : Cx) (W : WN) (f : Ga → R D) (e : Expr) : Prop where
  pe : PE X e (rdR X.K W f)
/-- .. is new, a list or a dict -/
structure JF (X : Cx) (W : WN) (f : Ga → R D) (e : Expr) : Prop where
  pe : PE X e (rdF X.K W f)
theorem PE.imp {X : Cx} {e : Expr} {t t' : TE} (h : PE X e t) (i : ∀ σ H Q, t' σ H Q → t σ H Q) : PE X e t' := ⟨fun pins s σ H Q I q => h.run pins s σ H Q I (i σ H Q q)⟩
section
variable {X : Cx} {W : WN} {f : Ga → R D} {e : Expr}
theorem Out.imp {P P' : D → VK → Prop} {F H : Hp} {W : Nat → Hp → Prop} {x : R D} {Q : VK} (o : Out P F H W x Q) (i : ∀ d, x = .ok d → P d Q → P' d Q) : Out P' F H W x Q := by
  cases x with
  | ok d => exact i d rfl o
  | ex c => exact o
  | no => exact o
theorem J.r (h : J X W f e) : JR X W f e := ⟨PE.imp h.pe fun σ H Q ⟨F, γ, r, o⟩ => ⟨F, γ, r, o.imp fun d _ o =>
  fun v F' H' n p => o v F' H' n (.inl p)⟩⟩
theorem JF.v (h : JF X W f e) : J X W f e := ⟨PE.imp h.pe fun σ H Q ⟨F, γ, r, o⟩ => ⟨F, γ, r, o.imp fun d _ o => by
  intro a F' H' n ha fa ow
  obtain ⟨u, hu, e1, s1, p⟩ := ow.freeze n.emb fa
  refine o _ _ H' ⟨n.f.trans s1, fun b w z => ?_, e1, n.h⟩ p
  by_cases q : b = a
  · subst q; exact .inr ha
  · rw [upd_ne q] at z; exact n.fn b w z⟩⟩
theorem JF.r (h : JF X W f e) : JR X W f e := h.v.r
end
end KN
/-! KnB: operations on pure data, and that the machine does them -/
namespace KN
open PySem PySem.Spec PyProof.Rows L2
/-- a length that any text or list may have -/
def lim : Nat := 1000000
theorem lim_line : lim ≤ sizeLine := by rw [sizeLine_eq]; decide
/-! ### plain data and == -/
def pl : Nat → D → Bool
  | _, .non => true
  | _, .bl _ => true
  | _, .int _ => true
  | _, .str s => s.all (· < 0x110000)
  | n + 1, .lst xs => xs.all (pl n)
  | n + 1, .tup xs => xs.all (pl n)
  | _, _ => false
def eqvL (f : D → D → Bool) : List D → List D → Bool
  | [], [] => true
  | x :: xs, y :: ys => f x y && eqvL f xs ys
  | _, _ => false
def eqv : Nat → D → D → Bool
  | _, .non, .non => true
  | _, .bl a, .bl b => a == b
  | _, .bl a, .int j => (if a then 1 else 0) == j
  | _, .int i, .bl b => i == (if b then 1 else 0)
  | _, .int i, .int j => i == j
  | _, .str s, .str t => s == t
  | n + 1, .lst xs, .lst ys => eqvL (eqv n) xs ys
  | n + 1, .tup xs, .tup ys => eqvL (eqv n) xs ys
  | _, _, _ => false
def toP : Nat → D → PyData
  | _, .non => .none
  | _, .bl b => .bool b
  | _, .int i => .int i
  | _, .str s => .str (toS s)
  | n + 1, .lst xs => .list (xs.map (toP n))
  | n + 1, .tup xs => .tuple (xs.map (toP n))
  | _, _ => .dict []
theorem strOk_toS (s : Tx) : PyData.strOk (toS s) = s.all (· < 0x110000) := by simp [PyData.strOk, toS]
theorem toP_lay : ∀ (n : Nat) (d : D), pl n d = true → (toP n d).canLay0 = true ∧ (toP n d).depth ≤ n
  | n, .non, _ => by cases n <;> simp [toP, PyData.canLay0, PyData.depth]
  | n, .bl _, _ => by cases n <;> simp [toP, PyData.canLay0, PyData.depth]
  | n, .int _, _ => by cases n <;> simp [toP, PyData.canLay0, PyData.depth]
  | n, .str s, h => by
    have h' : s.all (· < 0x110000) = true := by cases n <;> exact h
    cases n <;> simp only [toP, PyData.canLay0, PyData.depth, strOk_toS] <;> exact ⟨h', by omega⟩
  | 0, .lst _, h => nomatch h
  | 0, .tup _, h => nomatch h
  | n + 1, .lst xs, h => by
    have aux : ∀ xs : List D, xs.all (pl n) = true → PyData.canLayAll0 (xs.map (toP n)) = true ∧ PyData.depthAll (xs.map (toP n)) ≤ n := by
      intro xs
      induction xs with
      | nil => intro _; simp [PyData.canLayAll0, PyData.depthAll]
      | cons x xs ih =>
        intro h
        rw [List.all_cons, Bool.and_eq_true] at h
        obtain ⟨a, b⟩ := toP_lay n x h.1
        obtain ⟨c, d⟩ := ih h.2
        simp only [List.map_cons, PyData.canLayAll0, PyData.depthAll, a, c, Bool.and_self, true_and]
        omega
    obtain ⟨a, b⟩ := aux xs h
    simp only [toP, PyData.canLay0, PyData.depth]
    exact ⟨a, by omega⟩
  | n + 1, .tup xs, h => by
    have aux : ∀ xs : List D, xs.all (pl n) = true → PyData.canLayAll0 (xs.map (toP n)) = true ∧ PyData.depthAll (xs.map (toP n)) ≤ n := by
      intro xs
      induction xs with
      | nil => intro _; simp [PyData.canLayAll0, PyData.depthAll]
      | cons x xs ih =>
        intro h
        rw [List.all_cons, Bool.and_eq_true] at h
        obtain ⟨a, b⟩ := toP_lay n x h.1
        obtain ⟨c, d⟩ := ih h.2
        simp only [List.map_cons, PyData.canLayAll0, PyData.depthAll, a, c, Bool.and_self, true_and]
        omega
    obtain ⟨a, b⟩ := aux xs h
    simp only [toP, PyData.canLay0, PyData.depth]
    exact ⟨a, by omega⟩
  | n, .dic _, h => by cases n <;> exact nomatch h
theorem toP_shaped {d : D} (h : pl 20 d = true) : SeqAt.shaped (toP 20 d) = true := by
  obtain ⟨a, b⟩ := toP_lay 20 d h
  unfold SeqAt.shaped
  rw [a, decide_eq_true (by omega)]; rfl
theorem toS_inj {s t : Tx} : (toS s = toS t) ↔ s = t := by
  constructor
  · intro h
    have := congrArg (fun z : Str => z.cps.toList) h
    simpa using this
  · rintro rfl; rfl
theorem toS_beq (s t : Tx) : (toS s == toS t) = (s == t) := by
  rw [Bool.eq_iff_iff, beq_iff_eq, beq_iff_eq]; exact toS_inj
theorem eqvL_toP {n : Nat} (ih : ∀ d e, pl n d = true → pl n e = true → PyData.eqv (toP n d) (toP n e) = eqv n d e) : ∀ xs ys : List D, xs.all (pl n) = true → ys.all (pl n) = true → PyData.eqvAll (xs.map (toP n)) (ys.map (toP n)) = eqvL (eqv n) xs ys
  | [], [], _, _ => by simp [PyData.eqvAll, eqvL]
  | [], y :: ys, _, _ => by simp [PyData.eqvAll, eqvL]
  | x :: xs, [], _, _ => by simp [PyData.eqvAll, eqvL]
  | x :: xs, y :: ys, h, k => by
    rw [List.all_cons, Bool.and_eq_true] at h k
    simp only [List.map_cons, PyData.eqvAll, eqvL]
    rw [ih x y h.1 k.1, eqvL_toP ih xs ys h.2 k.2]
theorem eqv_toP : ∀ (n : Nat) (d e : D), pl n d = true → pl n e = true → PyData.eqv (toP n d) (toP n e) = eqv n d e := by
  intro n
  induction n with
  | zero =>
    intro d e h k
    cases d <;> cases e <;> first | (cases h; done) | (cases k; done) | (simp only [toP, PyData.eqv, eqv]; done) | (simp only [toP, PyData.eqv, eqv, toS_beq])
  | succ n ih =>
    intro d e h k
    cases d <;> cases e <;> first | (cases h; done) | (cases k; done) | (simp only [toP, PyData.eqv, eqv]; done) | (simp only [toP, PyData.eqv, eqv, toS_beq]; done) | (simp only [toP, PyData.eqv, eqv]; exact eqvL_toP ih _ _ h k)
/-- what is read is data for the library's == -/
theorem dp_of {K : PySem.W.Frag} {F H : Hp} (em : Emb F H) : ∀ (n : Nat) (d : D) (v : V), pl n d = true → Rep K F d v → Dp K H v (toP n d) := by
  intro n
  induction n with
  | zero =>
    intro d v h r
    cases r <;> first | (cases h; done) | exact .non | exact .bl _ | exact .int _ | exact .str _
  | succ n ih =>
    have aux : ∀ (ds : List D) (vs : List V), ds.all (pl n) = true → Reps K F ds vs → DpAll K H vs (ds.map (toP n)) := by
      intro ds
      induction ds with
      | nil => intro vs _ r; cases r; exact .nil
      | cons d ds ihl =>
        intro vs h r
        rw [List.all_cons, Bool.and_eq_true] at h
        cases r with | cons r1 r2 => exact .cons (ih d _ h.1 r1) (ihl _ h.2 r2)
    intro d v h r
    cases r with
    | non => exact .non
    | bl b => exact .bl _
    | int i => exact .int _
    | str s => exact .str _
    | lst h1 h2 => exact .lst (em.sql h1) (aux _ _ h h2)
    | tup h1 h2 => exact .tup (em.sqt h1) (aux _ _ h h2)
    | dic _ _ => exact nomatch h
theorem dps_of {K : PySem.W.Frag} {F H : Hp} (em : Emb F H) (n : Nat) : ∀ (ds : List D) (vs : List V), ds.all (pl n) = true → Reps K F ds vs → DpAll K H vs (ds.map (toP n)) := by
  intro ds
  induction ds with
  | nil => intro vs _ r; cases r; exact .nil
  | cons d ds ihl =>
    intro vs h r
    rw [List.all_cons, Bool.and_eq_true] at h
    cases r with | cons r1 r2 => exact .cons (dp_of em n d _ h.1 r1) (ihl _ h.2 r2)
theorem dp_of1 {K : PySem.W.Frag} {F H : Hp} (em : Emb F H) {d : D} {v : V} (h : pl 20 d = true) (r : Rep1 K F H d v) : Dp K H v (toP 20 d) := by
  rcases r with r | ⟨a, rfl, o⟩
  · exact dp_of em 20 d v h r
  · cases d <;> simp only [Own] at o
    · obtain ⟨vs, e, r⟩ := o
      exact .lst (.inl (.inl e)) (dps_of em 19 _ _ h r)
    · exact nomatch h
/-! ### the operations -/
def dAdd : D → D → R D
  | .int i, .int j => .ok (.int (i + j))
  | .str s, .str t => if s.length + t.length ≤ lim then .ok (.str (s ++ t)) else .no
  | .lst s, .lst t => if s.length + t.length ≤ lim then .ok (.lst (s ++ t)) else .no
  | .tup s, .tup t => if s.length + t.length ≤ lim then .ok (.tup (s ++ t)) else .no
  | _, _ => .no
def dSub : D → D → R D
  | .int i, .int j => .ok (.int (i - j))
  | _, _ => .no
def dMul : D → D → R D
  | .int i, .int j => if i.natAbs.log2 + j.natAbs.log2 < 1000000 then .ok (.int (i * j)) else .no
  | _, _ => .no
def dDiv : D → D → R D
  | .int i, .int j => if 0 < j ∧ j.natAbs.log2 < 9000 then .ok (.int (i / j)) else .no
  | _, _ => .no
def dMod : D → D → R D
  | .int i, .int j => if 0 < j then .ok (.int (i % j)) else .no
  | _, _ => .no
def dLt : D → D → R D
  | .int i, .int j => .ok (.bl (decide (i < j)))
  | .str s, .str t => .ok (.bl (decide (s < t)))
  | _, _ => .no
def dLe : D → D → R D
  | .int i, .int j => .ok (.bl (decide (i ≤ j)))
  | _, _ => .no
def dGt : D → D → R D
  | .int i, .int j => .ok (.bl (decide (j < i)))
  | _, _ => .no
def dGe : D → D → R D
  | .int i, .int j => .ok (.bl (decide (j ≤ i)))
  | _, _ => .no
def dEq (d e : D) : R D := if pl 20 d = true ∧ pl 20 e = true then .ok (.bl (eqv 20 d e)) else .no
def dNe (d e : D) : R D := if pl 20 d = true ∧ pl 20 e = true then .ok (.bl (!eqv 20 d e)) else .no
def isNon : D → Bool
  | .non => true
  | _ => false
def dIsN : D → D → R D
  | d, .non => .ok (.bl (isNon d))
  | _, _ => .no
def dNotN : D → D → R D
  | d, .non => .ok (.bl (!isNon d))
  | _, _ => .no
/-- a two-place operation of pure data, as a reading -/
def RD2 (K : PySem.W.Frag) (g : D → D → R D) : R2 := fun x y H Q => ∃ F dx dy d, Emb F H ∧ Rep1 K F H dx x ∧ Rep1 K F H dy y ∧ g dx dy = .ok d ∧ PV K F H d Q
section
variable {X : Cx}
theorem PV.here {K : PySem.W.Frag} {F H : Hp} {d : D} {Q : VK} (q : PV K F H d Q) (e : Emb F H) {v : V} (r : Rep K F d v) : Q v H := q v F H (.refl e) r
theorem PV.newL {K : PySem.W.Frag} {F H : Hp} {ds : List D} {vs : List V} {Q : VK} (q : PV K F H (.lst ds) Q) (e : Emb F H) (r : Reps K F ds vs) (p : Addr) (hp : H p = none) : Q (.ref p) (upd H p (.lst vs)) :=
  q _ _ _ (Nxt.new e hp _) (.lst (.inl (.inl upd_same)) (r.mono (same_upd (e.free hp))))
theorem PV.newT {K : PySem.W.Frag} {F H : Hp} {ds : List D} {vs : List V} {Q : VK} (q : PV K F H (.tup ds) Q) (e : Emb F H) (r : Reps K F ds vs) (p : Addr) (hp : H p = none) : Q (.ref p) (upd H p (.tup vs)) :=
  q _ _ _ (Nxt.new e hp _) (.tup (.inl (.inl upd_same)) (r.mono (same_upd (e.free hp))))
theorem toS_append (s t : Tx) : toS s ++ toS t = toS (s ++ t) := by
  apply TL.ext_tl
  rw [TL.tl_append]
theorem toS_len (s : Tx) : (toS s).length = s.length := by simp [toS, Str.length]
theorem od_addL {pins : List (Addr × Obj)} {s : Shared} {σ : L2.St} {H F : Hp} {x y : V} {v u : Value} {Q : VK} {xs ys : List D} (I : Inv X pins σ H s) (rx : RelV x v) (ry : RelV y u) (e : Emb F H)
    (r1 : Rep1 X.K F H (.lst xs) x) (r2 : Rep1 X.K F H (.lst ys) y) (hl : xs.length + ys.length ≤ lim) (q : PV X.K F H (.lst (xs ++ ys)) Q) : wpAny (model X.prog X.w) X.A (binaryOp .Add v u) (EP X pins σ Q) X.xe s := by
  obtain ⟨a, vs, rfl, s1, p1⟩ := r1.lst e
  obtain ⟨b, us, rfl, s2, p2⟩ := r2.lst e
  cases rx
  cases ry
  obtain ⟨its, w1, l1, z1⟩ := I.list s1
  obtain ⟨its2, w2, l2, z2⟩ := I.list s2
  obtain ⟨o1, n1, e1, c1, d1, t1⟩ := l1
  obtain ⟨o2, n2, e2, c2, d2, t2⟩ := l2
  obtain ⟨cc1, dd1, da1, sl1⟩ := o1
  obtain ⟨cc2, dd2, da2, sl2⟩ := o2
  simp only at c1 d1 t1 c2 d2 t2
  subst c1 d1 t1 c2 d2 t2
  have hz : vs.length + us.length ≤ sizeLine := by
    have := p1.length; have := p2.length; have := lim_line; omega
  have hz2 : its.length + its2.length ≤ sizeLine := by rw [← w1.length, ← w2.length]; exact hz
  have ea : its.toArray ++ its2.toArray = (its ++ its2).toArray := by simp
  refine concat_meets ⟨_, e1, rfl⟩ ⟨_, e2, rfl⟩ noFill_list_add seq_list_add PySem.F.slot_list_add PySem.F.entry_list_add (PySem.F.args_list_add_2 _ _) (list_addW a b its.toArray its2.toArray n1 n2 none none sl1 sl2 (by simpa using hz2)) ⟨e1, e2, ?_⟩
  rw [ea]
  exact ⟨.ref _, _, I.lnew (t' := s.toks) (w1.append w2) (by rw [List.length_append]; omega), rfl, q.newL e (p1.append p2) _ I.fresh⟩
theorem od_add : OpR X (binaryOp .Add) (RD2 X.K dAdd) := by
  intro pins s σ H x y v u Q I rx ry ⟨F, dx, dy, d, e, r1, r2, hg, q⟩
  cases dx <;> cases dy <;> first | (cases hg; done) | skip
  · rename_i i j
    cases hg
    exact op_add pins s σ H x y v u Q I rx ry ⟨i, j, r1.int, r2.int, q.here e (.int _)⟩
  · rename_i a b
    simp only [dAdd] at hg
    split at hg
    · rename_i hl
      cases hg
      refine op_add_str pins s σ H x y v u Q I rx ry ⟨_, _, r1.str, r2.str, ?_, ?_⟩
      · rw [toS_len, toS_len]; exact Nat.le_trans hl lim_line
      · rw [toS_append]; exact q.here e (.str _)
    · cases hg
  · simp only [dAdd] at hg
    split at hg
    · rename_i hl
      cases hg
      exact od_addL I rx ry e r1 r2 hl q
    · cases hg
  · simp only [dAdd] at hg
    split at hg
    · rename_i hl
      cases hg
      obtain ⟨a, vs, rfl, s1, p1⟩ := r1.tup e
      obtain ⟨b, us, rfl, s2, p2⟩ := r2.tup e
      refine op_catA pins s σ H _ _ v u Q I rx ry ⟨a, b, vs, us, rfl, rfl, s1, s2, ?_, fun h => ?_, fun h0 h => ?_, fun _ _ p hp => q.newT e (p1.append p2) p hp⟩
      · have := p1.length; have := p2.length; have := lim_line; omega
      · subst h
        rcases r2 with r2 | ⟨_, _, o⟩
        · have : _ = [] := List.eq_nil_of_length_eq_zero (by have := p1.length; simpa using this)
          subst this
          exact q.here e r2
        · exact o.elim
      · subst h
        rcases r1 with r1 | ⟨_, _, o⟩
        · have : _ = [] := List.eq_nil_of_length_eq_zero (by have := p2.length; simpa using this)
          subst this
          rw [List.append_nil] at q
          exact q.here e r1
        · exact o.elim
    · cases hg
theorem od_sub : OpR X (binaryOp .Sub) (RD2 X.K dSub) := by
  intro pins s σ H x y v u Q I rx ry ⟨F, dx, dy, d, e, r1, r2, hg, q⟩
  cases dx <;> cases dy <;> first | (cases hg; done) | skip
  rename_i i j
  cases hg
  exact op_sub pins s σ H x y v u Q I rx ry ⟨i, j, r1.int, r2.int, q.here e (.int _)⟩
theorem od_mul : OpR X (binaryOp .Mult) (RD2 X.K dMul) := by
  intro pins s σ H x y v u Q I rx ry ⟨F, dx, dy, d, e, r1, r2, hg, q⟩
  cases dx <;> cases dy <;> first | (cases hg; done) | skip
  rename_i i j
  simp only [dMul] at hg
  split at hg
  · rename_i hl
    cases hg
    exact op_mulW pins s σ H x y v u Q I rx ry ⟨i, j, r1.int, r2.int, hl, q.here e (.int _)⟩
  · cases hg
theorem od_div : OpR X (binaryOp .FloorDiv) (RD2 X.K dDiv) := by
  intro pins s σ H x y v u Q I rx ry ⟨F, dx, dy, d, e, r1, r2, hg, q⟩
  cases dx <;> cases dy <;> first | (cases hg; done) | skip
  rename_i i j
  simp only [dDiv] at hg
  split at hg
  · rename_i hl
    cases hg
    exact op_fdivW pins s σ H x y v u Q I rx ry ⟨i, j, r1.int, r2.int, hl, q.here e (.int _)⟩
  · cases hg
theorem od_mod : OpR X (binaryOp .Mod) (RD2 X.K dMod) := by
  intro pins s σ H x y v u Q I rx ry ⟨F, dx, dy, d, e, r1, r2, hg, q⟩
  cases dx <;> cases dy <;> first | (cases hg; done) | skip
  rename_i i j
  simp only [dMod] at hg
  split at hg
  · rename_i hl
    cases hg
    exact op_mod pins s σ H x y v u Q I rx ry ⟨i, j, r1.int, r2.int, hl, q.here e (.int _)⟩
  · cases hg
theorem od_lt : OpR X (compareOp .Lt) (RD2 X.K dLt) := by
  intro pins s σ H x y v u Q I rx ry ⟨F, dx, dy, d, e, r1, r2, hg, q⟩
  cases dx <;> cases dy <;> first | (cases hg; done) | skip
  · rename_i i j
    cases hg
    exact op_lt pins s σ H x y v u Q I rx ry ⟨i, j, r1.int, r2.int, q.here e (.bl _)⟩
  · rename_i i j
    cases hg
    exact op_lt_str pins s σ H x y v u Q I rx ry ⟨_, _, r1.str, r2.str, q.here e (.bl _)⟩
theorem od_le : OpR X (compareOp .LtE) (RD2 X.K dLe) := by
  intro pins s σ H x y v u Q I rx ry ⟨F, dx, dy, d, e, r1, r2, hg, q⟩
  cases dx <;> cases dy <;> first | (cases hg; done) | skip
  rename_i i j
  cases hg
  exact op_le pins s σ H x y v u Q I rx ry ⟨i, j, r1.int, r2.int, q.here e (.bl _)⟩
theorem od_gt : OpR X (compareOp .Gt) (RD2 X.K dGt) := by
  intro pins s σ H x y v u Q I rx ry ⟨F, dx, dy, d, e, r1, r2, hg, q⟩
  cases dx <;> cases dy <;> first | (cases hg; done) | skip
  rename_i i j
  cases hg
  exact op_gt pins s σ H x y v u Q I rx ry ⟨i, j, r1.int, r2.int, q.here e (.bl _)⟩
theorem od_ge : OpR X (compareOp .GtE) (RD2 X.K dGe) := by
  intro pins s σ H x y v u Q I rx ry ⟨F, dx, dy, d, e, r1, r2, hg, q⟩
  cases dx <;> cases dy <;> first | (cases hg; done) | skip
  rename_i i j
  cases hg
  exact op_ge pins s σ H x y v u Q I rx ry ⟨i, j, r1.int, r2.int, q.here e (.bl _)⟩
theorem od_eq (hu : X.A.units + 64 < cLine) : OpR X (compareOp .Eq) (RD2 X.K dEq) := by
  intro pins s σ H x y v u Q I rx ry ⟨F, dx, dy, d, e, r1, r2, hg, q⟩
  simp only [dEq] at hg
  split at hg
  · rename_i hl
    cases hg
    refine op_eqD hu pins s σ H x y v u Q I rx ry ⟨_, _, dp_of1 e hl.1 r1, dp_of1 e hl.2 r2, toP_shaped hl.1, toP_shaped hl.2, ?_⟩
    rw [eqv_toP 20 _ _ hl.1 hl.2]
    exact q.here e (.bl _)
  · cases hg
theorem od_ne (hu : X.A.units + 64 < cLine) : OpR X (compareOp .NotEq) (RD2 X.K dNe) := by
  intro pins s σ H x y v u Q I rx ry ⟨F, dx, dy, d, e, r1, r2, hg, q⟩
  simp only [dNe] at hg
  split at hg
  · rename_i hl
    cases hg
    refine op_neD hu pins s σ H x y v u Q I rx ry ⟨_, _, dp_of1 e hl.1 r1, dp_of1 e hl.2 r2, toP_shaped hl.1, toP_shaped hl.2, ?_⟩
    rw [eqv_toP 20 _ _ hl.1 hl.2]
    exact q.here e (.bl _)
  · cases hg
theorem isN_of {K : PySem.W.Frag} {F H : Hp} {d : D} {x : V} (r : Rep1 K F H d x) : decide (x = .non) = isNon d := by
  rcases r with r | ⟨a, rfl, o⟩
  · cases r <;> rfl
  · cases d <;> simp only [Own] at o <;> rfl
theorem od_isN : OpR X (compareOp .Is) (RD2 X.K dIsN) := by
  intro pins s σ H x y v u Q I rx ry ⟨F, dx, dy, d, e, r1, r2, hg, q⟩
  cases dy <;> first | (simp [dIsN] at hg; done) | skip
  have hg : R.ok (D.bl (isNon dx)) = .ok d := by cases dx <;> exact hg
  cases hg
  refine op_isN pins s σ H x y v u Q I rx ry ⟨r2.non, ?_⟩
  rw [isN_of r1]
  exact q.here e (.bl _)
theorem od_notN : OpR X (compareOp .IsNot) (RD2 X.K dNotN) := by
  intro pins s σ H x y v u Q I rx ry ⟨F, dx, dy, d, e, r1, r2, hg, q⟩
  cases dy <;> first | (simp [dNotN] at hg; done) | skip
  have hg : R.ok (D.bl (!isNon dx)) = .ok d := by cases dx <;> exact hg
  cases hg
  refine op_notN pins s σ H x y v u Q I rx ry ⟨r2.non, ?_⟩
  rw [isN_of r1]
  exact q.here e (.bl _)
end
end KN
/-! KnC: judgements of expressions -/
namespace KN
open PySem PySem.Spec PyProof.Rows L2
/-! ### meanings -/
def bVar (i : Nat) : Ga → R D := fun γ => match γ[i]? with | some (.va d) => .ok d | _ => .no
def bRd (i : Nat) : Ga → R D := fun γ => match γ[i]? with | some (.ow d) => .ok d | _ => .no
def bC (d : D) : Ga → R D := fun _ => .ok d
def b1 (g : D → R D) (fa : Ga → R D) : Ga → R D := fun γ => (fa γ).bind g
def b2 (g : D → D → R D) (fa fb : Ga → R D) : Ga → R D := fun γ => (fa γ).bind fun x => (fb γ).bind fun y => g x y
def b3 (g : D → D → D → R D) (fa fb fc : Ga → R D) : Ga → R D := fun γ => (fa γ).bind fun x => (fb γ).bind fun y => (fc γ).bind fun z => g x y z
def bNil : Ga → R (List D) := fun _ => .ok []
def bCons (fa : Ga → R D) (fs : Ga → R (List D)) : Ga → R (List D) := fun γ => (fa γ).bind fun x => (fs γ).bind fun xs => .ok (x :: xs)
def bN (g : List D → R D) (fs : Ga → R (List D)) : Ga → R D := fun γ => (fs γ).bind g
def bIf (c : Ga → R Bool) (fa fb : Ga → R D) : Ga → R D := fun γ => (c γ).bind fun b => if b = true then fa γ else fb γ
def tB : D → R Bool
  | .bl b => .ok b
  | _ => .no
def tVal (fa : Ga → R D) : Ga → R Bool := fun γ => (fa γ).bind tB
def tAnd (p q : Ga → R Bool) : Ga → R Bool := fun γ => (p γ).bind fun b => if b = true then q γ else .ok false
def tOr (p q : Ga → R Bool) : Ga → R Bool := fun γ => (p γ).bind fun b => if b = true then .ok true else q γ
def tNot (p : Ga → R Bool) : Ga → R Bool := fun γ => (p γ).bind fun b => .ok (!b)
def bTup (fs : Ga → R (List D)) : Ga → R D := bN (fun xs => if xs.length ≤ lim then .ok (.tup xs) else .no) fs
def bLst (fs : Ga → R (List D)) : Ga → R D := bN (fun xs => if xs.length ≤ lim then .ok (.lst xs) else .no) fs
/-! ### more judgements -/
inductive Reps1 (K : PySem.W.Frag) (F H : Hp) : List D → List V → Prop
  | nil : Reps1 K F H [] []
  | cons {d : D} {ds : List D} {v : V} {vs : List V} : Rep1 K F H d v → Reps1 K F H ds vs → Reps1 K F H (d :: ds) (v :: vs)
def OutA (P : List D → (List V → Hp → Prop) → Prop) (F H : Hp) (W : Nat → Hp → Prop) (r : R (List D)) (Q : List V → Hp → Prop) : Prop := match r with
  | .ok d => P d Q
  | .ex c => ∀ F' H', Nxt F H F' H' → W c H'
  | .no => False
def OutT (F H : Hp) (W : Nat → Hp → Prop) (r : R Bool) (Q : Bool → Hp → Prop) : Prop := match r with
  | .ok b => ∀ F' H', Nxt F H F' H' → Q b H'
  | .ex c => ∀ F' H', Nxt F H F' H' → W c H'
  | .no => False
def rdA (K : PySem.W.Frag) (W : WN) (f : Ga → R (List D)) : TA := fun σ H Q => ∃ F γ, RS K F γ σ H ∧ OutA (fun ds Q => ∀ vs F' H', Nxt F H F' H' → Reps K F' ds vs → Q vs H') F H (fun c H' => W c σ H') (f γ) Q
def rdA1 (K : PySem.W.Frag) (W : WN) (f : Ga → R (List D)) : TA := fun σ H Q => ∃ F γ, RS K F γ σ H ∧ OutA (fun ds Q => ∀ vs F' H', Nxt F H F' H' → Reps1 K F' H' ds vs → Q vs H') F H (fun c H' => W c σ H') (f γ) Q
def rdT (K : PySem.W.Frag) (W : WN) (f : Ga → R Bool) : TT := fun σ H Q => ∃ F γ, RS K F γ σ H ∧ OutT F H (fun c H' => W c σ H') (f γ) Q
structure JA (X : Cx) (W : WN) (f : Ga → R (List D)) (es : List Expr) : Prop where
  pa : PA X es (rdA X.K W f)
structure JA1 (X : Cx) (W : WN) (f : Ga → R (List D)) (es : List Expr) : Prop where
  pa : PA X es (rdA1 X.K W f)
structure JT (X : Cx) (W : WN) (f : Ga → R Bool) (e : Expr) : Prop where
  pt : PT X e (rdT X.K W f)
structure JW (X : Cx) (W : WN) (f : Ga → R Bool) (e : Expr) : Prop where
  pw : PW X e (rdT X.K W f)
theorem PA.imp {X : Cx} {e : List Expr} {t t' : TA} (h : PA X e t) (i : ∀ σ H Q, t' σ H Q → t σ H Q) : PA X e t' := ⟨fun pos pins s σ H Q I q => h.run pos pins s σ H Q I (i σ H Q q)⟩
theorem PT.imp {X : Cx} {e : Expr} {t t' : TT} (h : PT X e t) (i : ∀ σ H Q, t' σ H Q → t σ H Q) : PT X e t' := ⟨fun pins s σ H Q I q => h.run pins s σ H Q I (i σ H Q q)⟩
theorem PW.imp {X : Cx} {e : Expr} {t t' : TT} (h : PW X e t) (i : ∀ σ H Q, t' σ H Q → t σ H Q) : PW X e t' := ⟨fun w pins s σ H Q I q => h.run w pins s σ H Q I (i σ H Q q)⟩
section
variable {K : PySem.W.Frag} {F H F1 H1 : Hp} {d : D} {Q : VK}
theorem PV.next (q : PV K F H d Q) (n : Nxt F H F1 H1) : PV K F1 H1 d Q := fun v F' H' m p => q v F' H' (n.trans m) p
theorem PR.next (q : PR K F H d Q) (n : Nxt F H F1 H1) : PR K F1 H1 d Q := fun v F' H' m p => q v F' H' (n.trans m) p
theorem PF.next (q : PF K F H d Q) (n : Nxt F H F1 H1) : PF K F1 H1 d Q := fun a F' H' m ha fa p => q a F' H' (n.trans m) (n.h.free ha) fa p
end
section
variable {K : PySem.W.Frag} {W : WN} {F H : Hp} {γ : Ga} {σ : L2.St} {fa fb fc : Ga → R D} {Q : VK}
/-- from what is wanted behind a and what follows -/
theorem go1 {α : Type} {k : D → R α} {R' : V → Hp → Prop} {Z : R α → Prop} (r : RS K F γ σ H) (o : Z ((fa γ).bind k)) (hex : ∀ c, Z (.ex c) → ∀ F' H', Nxt F H F' H' → W c σ H') (hno : ¬ Z .no)
    (h : ∀ d x F1 H1, Nxt F H F1 H1 → RS K F1 γ σ H1 → Rep1 K F1 H1 d x → Z (k d) → R' x H1) : rdR K W fa σ H R' := by
  refine ⟨F, γ, r, ?_⟩
  cases e : fa γ with
  | ok d => rw [e] at o; exact fun x F1 H1 n p => h d x F1 H1 n (r.next n) p o
  | ex c => rw [e] at o; exact hex c o
  | no => rw [e] at o; exact hno o
theorem go1v {α : Type} {k : D → R α} {R' : V → Hp → Prop} {Z : R α → Prop} (r : RS K F γ σ H) (o : Z ((fa γ).bind k)) (hex : ∀ c, Z (.ex c) → ∀ F' H', Nxt F H F' H' → W c σ H') (hno : ¬ Z .no)
    (h : ∀ d x F1 H1, Nxt F H F1 H1 → RS K F1 γ σ H1 → Rep K F1 d x → Z (k d) → R' x H1) : rdV K W fa σ H R' := by
  refine ⟨F, γ, r, ?_⟩
  cases e : fa γ with
  | ok d => rw [e] at o; exact fun x F1 H1 n p => h d x F1 H1 n (r.next n) p o
  | ex c => rw [e] at o; exact hex c o
  | no => rw [e] at o; exact hno o
end
/-- a two-place operation on data, done by f, never raising -/
structure OpD (X : Cx) (f : Value → Value → Sem Value) (g : D → D → R D) : Prop where
  run : OpR X f (RD2 X.K g)
  ne : ∀ x y c, g x y ≠ .ex c
section
variable {X : Cx}
theorem o_add : OpD X (binaryOp .Add) dAdd := ⟨od_add, fun x y c => by cases x <;> cases y <;> simp [dAdd] <;> split <;> simp⟩
theorem o_sub : OpD X (binaryOp .Sub) dSub := ⟨od_sub, fun x y c => by cases x <;> cases y <;> simp [dSub]⟩
theorem o_mul : OpD X (binaryOp .Mult) dMul := ⟨od_mul, fun x y c => by cases x <;> cases y <;> simp [dMul] <;> split <;> simp⟩
theorem o_div : OpD X (binaryOp .FloorDiv) dDiv := ⟨od_div, fun x y c => by cases x <;> cases y <;> simp [dDiv] <;> split <;> simp⟩
theorem o_mod : OpD X (binaryOp .Mod) dMod := ⟨od_mod, fun x y c => by cases x <;> cases y <;> simp [dMod] <;> split <;> simp⟩
theorem o_lt : OpD X (compareOp .Lt) dLt := ⟨od_lt, fun x y c => by cases x <;> cases y <;> simp [dLt]⟩
theorem o_le : OpD X (compareOp .LtE) dLe := ⟨od_le, fun x y c => by cases x <;> cases y <;> simp [dLe]⟩
theorem o_gt : OpD X (compareOp .Gt) dGt := ⟨od_gt, fun x y c => by cases x <;> cases y <;> simp [dGt]⟩
theorem o_ge : OpD X (compareOp .GtE) dGe := ⟨od_ge, fun x y c => by cases x <;> cases y <;> simp [dGe]⟩
theorem o_eq (hu : X.A.units + 64 < cLine) : OpD X (compareOp .Eq) dEq := ⟨od_eq hu, fun x y c => by unfold dEq; split <;> simp⟩
theorem o_ne (hu : X.A.units + 64 < cLine) : OpD X (compareOp .NotEq) dNe := ⟨od_ne hu, fun x y c => by unfold dNe; split <;> simp⟩
theorem o_isN : OpD X (compareOp .Is) dIsN := ⟨od_isN, fun x y c => by cases x <;> cases y <;> simp [dIsN]⟩
theorem o_notN : OpD X (compareOp .IsNot) dNotN := ⟨od_notN, fun x y c => by cases x <;> cases y <;> simp [dNotN]⟩
end
section
variable {X : Cx} {W : WN} {f fa fb fc : Ga → R D} {a b c e : Expr} {pos : Pos}
theorem toS_tl (x : Str) : toS x.cps.toList = x := by apply TL.ext_tl; rfl
/-! ### names and constants -/
theorem j_var (i : Nat) {x : Str} (hN : X.N[i]? = some x := by rfl) (hv : Vis X.env.scope x := by first | exact Or.inl rfl | exact Or.inr (Or.inl rfl) | exact Or.inr (Or.inr rfl)) (hd : (x == ("__debug__" : Str)) = false := by decide)
    (hcd : (x == ("__classdict__" : Str)) = false := by decide) : J X W (bVar i) (.Name x pos) := ⟨PE.imp (pe_var hN hv hd hcd) fun σ H Q ⟨F, γ, r, o⟩ => by
  unfold bVar at o
  cases h : γ[i]? with
  | none => rw [h] at o; exact o.elim
  | some s =>
    rw [h] at o
    cases s with
    | un => exact o.elim
    | ow d => exact o.elim
    | nd d => exact o.elim
    | xc a => exact o.elim
    | ob _ _ => exact o.elim
    | rf _ _ => exact o.elim
    | va d =>
      obtain ⟨v, e1, p⟩ := r.sl i _ h
      exact ⟨v, e1, PV.here o r.emb p⟩⟩
theorem jr_rd (i : Nat) {x : Str} (hN : X.N[i]? = some x := by rfl) (hv : Vis X.env.scope x := by first | exact Or.inl rfl | exact Or.inr (Or.inl rfl) | exact Or.inr (Or.inr rfl)) (hd : (x == ("__debug__" : Str)) = false := by decide)
    (hcd : (x == ("__classdict__" : Str)) = false := by decide) : JR X W (bRd i) (.Name x pos) := ⟨PE.imp (pe_var hN hv hd hcd) fun σ H Q ⟨F, γ, r, o⟩ => by
  unfold bRd at o
  cases h : γ[i]? with
  | none => rw [h] at o; exact o.elim
  | some s =>
    rw [h] at o
    cases s with
    | un => exact o.elim
    | va d => exact o.elim
    | nd d => exact o.elim
    | xc a => exact o.elim
    | ob _ _ => exact o.elim
    | rf _ _ => exact o.elim
    | ow d =>
      obtain ⟨v, e1, _, p⟩ := r.sl i _ h
      exact ⟨_, e1, o _ F H (.refl r.emb) (.inr ⟨v, rfl, p⟩)⟩⟩
theorem j_c {v : V} {d : D} (h : PE X e (tC v)) (p : ∀ F, Rep X.K F d v) : J X W (bC d) e := ⟨PE.imp h fun σ H Q ⟨F, γ, r, o⟩ => PV.here (Q := Q) o r.emb (p F)⟩
theorem j_int {i : Int} {k : Nat} : J X W (bC (.int i)) (.Constant (.int i) k pos) := j_c pe_int fun _ => .int i
theorem j_bl {b : Bool} {k : Nat} : J X W (bC (.bl b)) (.Constant (.bool b) k pos) := j_c pe_bl fun _ => .bl b
theorem j_non {k : Nat} : J X W (bC .non) (.Constant .none k pos) := j_c pe_non fun _ => .non
theorem j_str {s : Tx} {x : Str} {k : Nat} (h : x.cps.toList = s := by rfl) : J X W (bC (.str s)) (.Constant (.str x) k pos) := j_c (v := .str x) pe_str fun _ => by
  subst h
  have := Rep.str (K := X.K) (F := ‹Hp›) x.cps.toList
  rw [toS_tl] at this
  exact this
/-- a constant of the module -/
theorem j_glob {x : Str} {u : Value} {d : D} {v : V} (hg : Gl X x) (hm : X.mg x = some u) (hu : RelV v u) (p : ∀ F, Rep X.K F d v) (hd : (x == ("__debug__" : Str)) = false := by decide) : J X W (bC d) (.Name x pos) := ⟨⟨fun pins s σ H Q I h => by
  obtain ⟨F, γ, r, o⟩ := h
  exact ld_glob I hg hm ⟨v, H, I, hu, PV.here (Q := Q) o r.emb (p F)⟩ hd⟩⟩
/-! ### operators -/
theorem rd2 {K : PySem.W.Frag} {F H : Hp} {γ : Ga} {σ : L2.St} {g : D → D → R D} {Q : VK} {R' : V → V → Hp → Prop} (r : RS K F γ σ H) (o : Out (PV K F H) F H (fun c H' => W c σ H') (b2 g fa fb γ) Q)
    (h : ∀ dx dy x y F2 H2, Nxt F H F2 H2 → RS K F2 γ σ H2 → Rep1 K F2 H2 dx x → Rep1 K F2 H2 dy y → Out (PV K F H) F H (fun c H' => W c σ H') (g dx dy) Q → R' x y H2) :
    rdR K W fa σ H fun x H1 => rdR K W fb σ H1 fun y H2 => R' x y H2 := by
  refine go1 (Z := fun z => Out (PV K F H) F H (fun c H' => W c σ H') z Q) r o (fun _ z => z) (fun z => z) fun dx x F1 H1 n1 r1 p1 o1 => ?_
  refine go1 (Z := fun z => Out (PV K F H) F H (fun c H' => W c σ H') z Q) r1 o1 (fun _ z F' H' n => z F' H' (n1.trans n)) (fun z => z) fun dy y F2 H2 n2 r2 p2 o2 => ?_
  exact h dx dy x y F2 H2 (n1.trans n2) r2 (p1.next n2) p2 o2
theorem tOp_of {K : PySem.W.Frag} {F H : Hp} {γ : Ga} {σ : L2.St} {g : D → D → R D} {Q : VK} (ne : ∀ x y c, g x y ≠ .ex c) (r : RS K F γ σ H) (o : Out (PV K F H) F H (fun c H' => W c σ H') (b2 g fa fb γ) Q) :
    tOp (RD2 K g) (rdR K W fa) (rdR K W fb) σ H Q := by
  refine rd2 r o fun dx dy x y F2 H2 n r2 p1 p2 o2 => ?_
  cases e : g dx dy with
  | ok d => rw [e] at o2; exact ⟨F2, dx, dy, d, r2.emb, p1, p2, e, PV.next (Q := Q) o2 n⟩
  | ex c => exact absurd e (ne _ _ _)
  | no => rw [e] at o2; exact o2.elim
theorem j_op {op : Operator} {g : D → D → R D} (ho : OpD X (binaryOp op) g) (ha : JR X W fa a) (hb : JR X W fb b) : J X W (b2 g fa fb) (.BinOp a op b pos) :=
  ⟨PE.imp (pe_op ho.run ha.pe hb.pe) fun σ H Q ⟨F, γ, r, o⟩ => tOp_of ho.ne r o⟩
theorem j_cmp {op : CmpOp} {g : D → D → R D} (ho : OpD X (compareOp op) g) (ha : JR X W fa a) (hb : JR X W fb b) (hm : behindInMarks op b = false := by first | exact nomark _ | rfl) : J X W (b2 g fa fb) (.Compare a [op] [b] pos) :=
  ⟨PE.imp (pe_cmpR ho.run ha.pe hb.pe hm) fun σ H Q ⟨F, γ, r, o⟩ => tOp_of ho.ne r o⟩
def dNot : D → R D
  | .bl b => .ok (.bl (!b))
  | _ => .no
theorem j_not (ha : JR X W fa a) : J X W (b1 dNot fa) (.UnaryOp .Not a pos) := ⟨PE.imp (pe_not ha.pe) fun σ H Q ⟨F, γ, r, o⟩ => by
  refine go1 (Z := fun z => Out (PV X.K F H) F H (fun c H' => W c σ H') z Q) r o (fun _ z => z) (fun z => z) fun dx x F1 H1 n1 r1 p1 o1 => ?_
  cases dx <;> first | exact o1.elim | skip
  exact ⟨_, p1.bl, PV.here (PV.next (Q := Q) o1 n1) r1.emb (.bl _)⟩⟩
/-! ### tests -/
theorem jt_cmp {op : CmpOp} {g : D → D → R D} (ho : OpD X (compareOp op) g) (ha : JR X W fa a) (hb : JR X W fb b) (hm : behindInMarks op b = false := by first | exact nomark _ | rfl) : JT X W (tVal (b2 g fa fb)) (.Compare a [op] [b] pos) :=
  ⟨PT.imp (pt_cmpR ho.run ha.pe hb.pe hm) fun σ H Q ⟨F, γ, r, o⟩ => by
    refine tOp_of (Q := fun x H' => ∃ k, x = .bl k ∧ Q k H') ho.ne r ?_
    unfold tVal at o
    cases e : b2 g fa fb γ with
    | ok d =>
      rw [e] at o
      cases d <;> first | exact o.elim | skip
      intro v F' H' n p
      cases p
      exact ⟨_, rfl, o F' H' n⟩
    | ex c => rw [e] at o; exact o
    | no => rw [e] at o; exact o⟩
theorem jt_val (h : J X W f e) (he : ∀ whole, isTrue e X.env whole = (do let v ← whole; standAt e.pos; holding [v] (truthy v)) := by intro _; rfl) : JT X W (tVal f) e :=
  ⟨PT.imp (pt_val h.pe he) fun σ H Q ⟨F, γ, r, o⟩ => by
    refine ⟨F, γ, r, ?_⟩
    unfold tVal at o
    cases e : f γ with
    | ok d =>
      rw [e] at o
      cases d <;> first | exact o.elim | skip
      intro v F' H' n p
      cases p
      exact ⟨_, rfl, o F' H' n⟩
    | ex c => rw [e] at o; exact o
    | no => rw [e] at o; exact o⟩
variable {p q : Ga → R Bool} {rest : List Expr}
theorem JW.t (h : JW X W p e) : JT X W p e := ⟨h.pw.pt⟩
theorem jw_and1 (ha : JT X W p a) : JW X W p (.BoolOp .And [a] pos) := ⟨pw_and1 ha.pt⟩
theorem jw_or1 (ha : JT X W p a) : JW X W p (.BoolOp .Or [a] pos) := ⟨pw_or1 ha.pt⟩
theorem jw_and (ha : JT X W p a) (hb : JW X W q (.BoolOp .And (b :: rest) pos)) : JW X W (tAnd p q) (.BoolOp .And (a :: b :: rest) pos) := ⟨PW.imp (pw_and ha.pt hb.pw) fun σ H Q h => by
  obtain ⟨F, γ, r, o⟩ := h
  refine ⟨F, γ, r, ?_⟩
  unfold tAnd at o
  cases e : p γ with
  | ok b =>
    simp only [e, R.bind] at o
    intro F' H' n
    cases b with
    | true =>
      simp only [if_true] at o ⊢
      refine ⟨F', γ, r.next n, ?_⟩
      cases e2 : q γ with
      | ok b' => rw [e2] at o; exact fun F2 H2 n2 => o F2 H2 (n.trans n2)
      | ex c => rw [e2] at o; exact fun F2 H2 n2 => o F2 H2 (n.trans n2)
      | no => rw [e2] at o; exact o
    | false => exact o F' H' n
  | ex c => simp only [e, R.bind] at o; exact o
  | no => simp only [e, R.bind] at o; exact o⟩
theorem jw_or (ha : JT X W p a) (hb : JW X W q (.BoolOp .Or (b :: rest) pos)) : JW X W (tOr p q) (.BoolOp .Or (a :: b :: rest) pos) := ⟨PW.imp (pw_or ha.pt hb.pw) fun σ H Q h => by
  obtain ⟨F, γ, r, o⟩ := h
  refine ⟨F, γ, r, ?_⟩
  unfold tOr at o
  cases e : p γ with
  | ok b =>
    simp only [e, R.bind] at o
    intro F' H' n
    cases b with
    | false =>
      simp only [Bool.false_eq_true, if_false] at o ⊢
      refine ⟨F', γ, r.next n, ?_⟩
      cases e2 : q γ with
      | ok b' => rw [e2] at o; exact fun F2 H2 n2 => o F2 H2 (n.trans n2)
      | ex c => rw [e2] at o; exact fun F2 H2 n2 => o F2 H2 (n.trans n2)
      | no => rw [e2] at o; exact o
    | true => exact o F' H' n
  | ex c => simp only [e, R.bind] at o; exact o
  | no => simp only [e, R.bind] at o; exact o⟩
theorem jt_not (ha : JT X W p a) : JT X W (tNot p) (.UnaryOp .Not a pos) := ⟨PT.imp (pt_not ha.pt) fun σ H Q h => by
  obtain ⟨F, γ, r, o⟩ := h
  refine ⟨F, γ, r, ?_⟩
  unfold tNot at o
  cases e : p γ with
  | ok b => simp only [e, R.bind] at o; exact o
  | ex c => simp only [e, R.bind] at o; exact o
  | no => simp only [e, R.bind] at o; exact o⟩
/-! ### and, or of truths as values; if .. else -/
def bAnd (fa fb : Ga → R D) : Ga → R D := fun γ => (fa γ).bind fun x => match x with | .bl true => fb γ | .bl false => .ok (.bl false) | _ => .no
def bOr (fa fb : Ga → R D) : Ga → R D := fun γ => (fa γ).bind fun x => match x with | .bl false => fb γ | .bl true => .ok (.bl true) | _ => .no
theorem Out.next {K : PySem.W.Frag} {F H F1 H1 : Hp} {σ : L2.St} {x : R D} {Q : VK} (o : Out (PV K F H) F H (fun c H' => W c σ H') x Q) (n : Nxt F H F1 H1) : Out (PV K F1 H1) F1 H1 (fun c H' => W c σ H') x Q := by
  cases x with
  | ok d => exact PV.next (Q := Q) o n
  | ex c => exact fun F' H' m => o F' H' (n.trans m)
  | no => exact o
theorem j_one {op : BoolOp} (h : J X W f a) : J X W f (.BoolOp op [a] pos) := ⟨pe_one h.pe⟩
theorem j_and (ha : J X W fa a) (hb : J X W fb (.BoolOp .And (b :: rest) pos)) : J X W (bAnd fa fb) (.BoolOp .And (a :: b :: rest) pos) := ⟨PE.imp (pe_and ha.pe hb.pe) fun σ H Q ⟨F, γ, r, o⟩ => by
  refine go1v (Z := fun z => Out (PV X.K F H) F H (fun c H' => W c σ H') z Q) r o (fun _ z => z) (fun z => z) fun dx x F1 H1 n1 r1 p1 o1 => ?_
  cases dx <;> first | exact o1.elim | skip
  rename_i b
  cases p1
  refine ⟨b, rfl, ?_⟩
  cases b with
  | true => exact ⟨F1, γ, r1, Out.next o1 n1⟩
  | false => exact PV.here (PV.next (Q := Q) o1 n1) r1.emb (.bl _)⟩
theorem j_or (ha : J X W fa a) (hb : J X W fb (.BoolOp .Or (b :: rest) pos)) : J X W (bOr fa fb) (.BoolOp .Or (a :: b :: rest) pos) := ⟨PE.imp (pe_or ha.pe hb.pe) fun σ H Q ⟨F, γ, r, o⟩ => by
  refine go1v (Z := fun z => Out (PV X.K F H) F H (fun c H' => W c σ H') z Q) r o (fun _ z => z) (fun z => z) fun dx x F1 H1 n1 r1 p1 o1 => ?_
  cases dx <;> first | exact o1.elim | skip
  rename_i b
  cases p1
  refine ⟨b, rfl, ?_⟩
  cases b with
  | false => exact ⟨F1, γ, r1, Out.next o1 n1⟩
  | true => exact PV.here (PV.next (Q := Q) o1 n1) r1.emb (.bl _)⟩
theorem j_if (hc : JT X W p c) (ha : J X W fa a) (hb : J X W fb b) : J X W (bIf p fa fb) (.IfExp c a b pos) := ⟨PE.imp (pe_ifExp hc.pt ha.pe hb.pe) fun σ H Q ⟨F, γ, r, o⟩ => by
  refine ⟨F, γ, r, ?_⟩
  unfold bIf at o
  cases e : p γ with
  | ok b =>
    simp only [e, R.bind] at o
    intro F' H' n
    cases b with
    | true => exact ⟨F', γ, r.next n, Out.next o n⟩
    | false => exact ⟨F', γ, r.next n, Out.next o n⟩
  | ex c => simp only [e, R.bind] at o; exact o
  | no => simp only [e, R.bind] at o; exact o⟩
/-! ### chains -/
def bCh (g g' : D → D → R D) (fa fb fc : Ga → R D) : Ga → R D := fun γ => (fa γ).bind fun x => (fb γ).bind fun y => (g x y).bind fun z => match z with
  | .bl true => (fc γ).bind fun w => g' y w
  | .bl false => .ok (.bl false)
  | _ => .no
theorem tCh_of {g g' : D → D → R D} {K : PySem.W.Frag} {F H : Hp} {γ : Ga} {σ : L2.St} {Q : VK} (ne : ∀ x y c, g x y ≠ .ex c) (ne' : ∀ x y c, g' x y ≠ .ex c) (r : RS K F γ σ H) (o : Out (PV K F H) F H (fun c H' => W c σ H') (bCh g g' fa fb fc γ) Q) :
    tChain (RD2 K g) (RD2 K g') (rdR K W fa) (rdR K W fb) (rdR K W fc) σ H Q := by
  refine go1 (Z := fun z => Out (PV K F H) F H (fun c H' => W c σ H') z Q) r o (fun _ z => z) (fun z => z) fun dx x F1 H1 n1 r1 p1 o1 => ?_
  refine go1 (Z := fun z => Out (PV K F H) F H (fun c H' => W c σ H') z Q) r1 o1 (fun _ z F' H' n => z F' H' (n1.trans n)) (fun z => z) fun dy y F2 H2 n2 r2 p2 o2 => ?_
  have p1' := p1.next n2
  have n12 := n1.trans n2
  cases e : g dx dy with
  | ok d =>
    rw [e] at o2
    simp only [R.bind] at o2
    cases d <;> first | exact o2.elim | skip
    rename_i k
    refine ⟨F2, dx, dy, _, r2.emb, p1', p2, e, fun v F' H' n p => ?_⟩
    cases p
    refine ⟨k, rfl, ?_⟩
    cases k with
    | true =>
      refine go1 (Z := fun z => Out (PV K F H) F H (fun c H' => W c σ H') z Q) (r2.next n) o2 (fun _ z F'' H'' m => z F'' H'' ((n12.trans n).trans m)) (fun z => z) fun dw w F3 H3 n3 r3 p3 o3 => ?_
      cases e3 : g' dy dw with
      | ok d => rw [e3] at o3; exact ⟨F3, dy, dw, d, r3.emb, (p2.next n).next n3, p3, e3, PV.next (Q := Q) o3 ((n12.trans n).trans n3)⟩
      | ex c => exact absurd e3 (ne' _ _ _)
      | no => rw [e3] at o3; exact o3.elim
    | false => exact PV.here (PV.next (Q := Q) o2 (n12.trans n)) n.emb (.bl _)
  | ex c => exact absurd e (ne _ _ _)
  | no => rw [e] at o2; exact o2.elim
theorem j_chain {op op' : CmpOp} {g g' : D → D → R D} (ho : OpD X (compareOp op) g) (ho' : OpD X (compareOp op') g') (ha : JR X W fa a) (hb : JR X W fb b) (hc : JR X W fc c)
    (h1 : lastMarks [op, op'] [b, c] = false := by with_unfolding_all rfl) : J X W (bCh g g' fa fb fc) (.Compare a [op, op'] [b, c] pos) :=
  ⟨PE.imp (pe_chain ho.run ho'.run ha.pe hb.pe hc.pe h1) fun σ H Q ⟨F, γ, r, o⟩ => tCh_of ho.ne ho'.ne r o⟩
theorem jt_chain {op op' : CmpOp} {g g' : D → D → R D} (ho : OpD X (compareOp op) g) (ho' : OpD X (compareOp op') g') (ha : JR X W fa a) (hb : JR X W fb b) (hc : JR X W fc c)
    (h1 : lastMarks [op, op'] [b, c] = false := by with_unfolding_all rfl) : JT X W (tVal (bCh g g' fa fb fc)) (.Compare a [op, op'] [b, c] pos) :=
  ⟨PT.imp (pt_chain ho.run ho'.run ha.pe hb.pe hc.pe h1) fun σ H Q ⟨F, γ, r, o⟩ => by
    refine tCh_of (Q := fun x H' => ∃ k, x = .bl k ∧ Q k H') ho.ne ho'.ne r ?_
    unfold tVal at o
    cases e : bCh g g' fa fb fc γ with
    | ok d =>
      rw [e] at o
      cases d <;> first | exact o.elim | skip
      intro v F' H' n p
      cases p
      exact ⟨_, rfl, o F' H' n⟩
    | ex c => rw [e] at o; exact o
    | no => rw [e] at o; exact o⟩
/-! ### argument lists, displays -/
variable {es : List Expr} {fs : Ga → R (List D)}
theorem Reps.one {K : PySem.W.Frag} {F H : Hp} {ds : List D} {vs : List V} (h : Reps K F ds vs) : Reps1 K F H ds vs := by
  induction ds generalizing vs with
  | nil => cases h; exact .nil
  | cons d ds ih => cases h with | cons h1 h2 => exact .cons (.inl h1) (ih h2)
theorem Reps1.next {K : PySem.W.Frag} {F H F' H' : Hp} {ds : List D} {vs : List V} (h : Reps1 K F H ds vs) (n : Nxt F H F' H') : Reps1 K F' H' ds vs := by
  induction ds generalizing vs with
  | nil => cases h; exact .nil
  | cons d ds ih => cases h with | cons h1 h2 => exact .cons (h1.next n) (ih h2)
theorem ja_nil : JA X W bNil [] := ⟨PA.imp pa_nil fun σ H Q ⟨F, γ, r, o⟩ => o [] F H (.refl r.emb) .nil⟩
theorem ja1_nil : JA1 X W bNil [] := ⟨PA.imp pa_nil fun σ H Q ⟨F, γ, r, o⟩ => o [] F H (.refl r.emb) .nil⟩
theorem ja_cons (ha : J X W fa e) (hr : JA X W fs es) (hs : starEach (e :: es) X.env = (false, eval e X.env) :: starEach es X.env := by rfl) : JA X W (bCons fa fs) (e :: es) := ⟨PA.imp (pa_cons ha.pe hr.pa hs) fun σ H Q ⟨F, γ, r, o⟩ => by
  refine ⟨F, γ, r, ?_⟩
  unfold bCons at o
  cases e1 : fa γ with
  | ok d =>
    simp only [e1, R.bind] at o
    intro v F' H' n p
    refine ⟨F', γ, r.next n, ?_⟩
    cases e2 : fs γ with
    | ok ds => simp only [e2, R.bind] at o; exact fun vs F2 H2 n2 ps => o _ F2 H2 (n.trans n2) (.cons (p.mono n2.f) ps)
    | ex c => simp only [e2, R.bind] at o; exact fun F2 H2 n2 => o F2 H2 (n.trans n2)
    | no => simp only [e2, R.bind] at o; exact o
  | ex c => simp only [e1, R.bind] at o; exact o
  | no => simp only [e1, R.bind] at o; exact o⟩
theorem ja1_cons (ha : JR X W fa e) (hr : JA1 X W fs es) (hs : starEach (e :: es) X.env = (false, eval e X.env) :: starEach es X.env := by rfl) : JA1 X W (bCons fa fs) (e :: es) := ⟨PA.imp (pa_cons ha.pe hr.pa hs) fun σ H Q ⟨F, γ, r, o⟩ => by
  refine ⟨F, γ, r, ?_⟩
  unfold bCons at o
  cases e1 : fa γ with
  | ok d =>
    simp only [e1, R.bind] at o
    intro v F' H' n p
    refine ⟨F', γ, r.next n, ?_⟩
    cases e2 : fs γ with
    | ok ds => simp only [e2, R.bind] at o; exact fun vs F2 H2 n2 ps => o _ F2 H2 (n.trans n2) (.cons (p.next n2) ps)
    | ex c => simp only [e2, R.bind] at o; exact fun F2 H2 n2 => o F2 H2 (n.trans n2)
    | no => simp only [e2, R.bind] at o; exact o
  | ex c => simp only [e1, R.bind] at o; exact o
  | no => simp only [e1, R.bind] at o; exact o⟩
theorem j_tup {x1 : Nat} (h : JA X W fs es) : J X W (bTup fs) (.Tuple es x1 pos) := ⟨PE.imp (pe_tup h.pa) fun σ H Q ⟨F, γ, r, o⟩ => by
  refine ⟨F, γ, r, ?_⟩
  unfold bTup bN at o
  cases e1 : fs γ with
  | ok ds =>
    simp only [e1, R.bind] at o
    intro vs F' H' n p
    split at o
    · rename_i hl
      refine ⟨by rw [← p.length]; exact Nat.le_trans hl lim_line, fun a ha => PV.newT (PV.next (Q := Q) o n) n.emb p a ha⟩
    · exact o.elim
  | ex c => simp only [e1, R.bind] at o; exact o
  | no => simp only [e1, R.bind] at o; exact o⟩
theorem jf_lst (h : JA X W fs es) : JF X W (bLst fs) (.List es pos) := ⟨PE.imp (pe_lst h.pa) fun σ H Q ⟨F, γ, r, o⟩ => by
  refine ⟨F, γ, r, ?_⟩
  unfold bLst bN at o
  cases e1 : fs γ with
  | ok ds =>
    simp only [e1, R.bind] at o
    intro vs F' H' n p
    split at o
    · rename_i hl
      refine ⟨by rw [← p.length]; exact Nat.le_trans hl lim_line, fun a ha => ?_⟩
      exact o a F' _ (n.trans (.laid n.emb ha _)) (n.h.free ha) (n.emb.free ha) ⟨_, upd_same, p⟩
    · exact o.elim
  | ex c => simp only [e1, R.bind] at o; exact o
  | no => simp only [e1, R.bind] at o; exact o⟩
end
end KN
/-! KnD: subscripts, slices, builtins, calls -/
namespace KN
open PySem PySem.Spec PyProof.Rows L2
/-! ### subscripts -/
def lookK (es : List (Tx × D)) (k : Tx) : Option D := (es.find? fun e => e.1 == k).map (·.2)
def o2r {α : Type} : Option α → R α
  | some a => .ok a
  | none => .no
def dIx : D → D → R D
  | .lst xs, .int i => o2r (atI xs i)
  | .tup xs, .int i => o2r (atI xs i)
  | .str s, .int i => if s.length ≤ lim then (match atI s i with | some c => .ok (.str [c]) | none => .no) else .no
  | .dic es, .str k => o2r (lookK es k)
  | _, _ => .no
theorem Reps.atI {K : PySem.W.Frag} {F : Hp} {ds : List D} {vs : List V} (h : Reps K F ds vs) {i : Int} {d : D} (e : atI ds i = some d) : ∃ v, L2.atI vs i = some v ∧ Rep K F d v := by
  unfold L2.atI at e ⊢
  rw [← h.length]
  cases q : ixN ds.length i with
  | none => rw [q] at e; cases e
  | some j =>
    rw [q] at e
    exact h.get (i := j) (by simpa using e)
theorem RepK.look {K : PySem.W.Frag} {F : Hp} {es : List (Tx × D)} {kvs : List (Key × V)} (h : RepK K F es kvs) (k : Tx) :
    (lookK es k = none ∧ valV kvs (Sum.inr (toS k)) = none) ∨ ∃ d v, lookK es k = some d ∧ valV kvs (Sum.inr (toS k)) = some v ∧ Rep K F d v := by
  induction es generalizing kvs with
  | nil => cases h; exact .inl ⟨rfl, rfl⟩
  | cons e es ih =>
    obtain ⟨k', d⟩ := e
    cases h with
    | cons h1 h2 =>
      by_cases q : k' = k
      · subst q
        refine .inr ⟨d, _, ?_, valV_pos rfl, h1⟩
        simp [lookK]
      · have q2 : ¬ (Sum.inr (toS k') : Key) = Sum.inr (toS k) := fun z => q (toS_inj.mp (Sum.inr.inj z))
        rw [valV_neg q2]
        have : lookK ((k', d) :: es) k = lookK es k := by
          unfold lookK
          rw [List.find?_cons, show (k' == k) = false from beq_eq_false_iff_ne.mpr q]
        rw [this]
        exact ih h2
section
variable {X : Cx}
theorem xd_ix (hu : X.A.units + 1 < cLine) : IxR X (RD2 X.K dIx) := by
  intro value slice pins s σ H x y v u Q I rx ry ⟨F, dx, dy, d, e, r1, r2, hg, q⟩ hs
  cases dx <;> cases dy <;> first | (cases hg; done) | skip
  · rename_i z i
    simp only [dIx] at hg
    split at hg
    · rename_i hl
      split at hg
      · rename_i c hc
        cases hg
        have e1 := r1.str
        refine ix_str value slice pins s σ H x y v u Q I rx ry ⟨toS z, i, c, e1, r2.int, ?_, ?_, ?_⟩ hs
        · rw [toS_len]; exact Nat.le_trans hl lim_line
        · exact hc
        · exact q.here e (.str [c])
      · cases hg
    · cases hg
  · rename_i xs i
    simp only [dIx, o2r] at hg
    split at hg
    · rename_i d' hc
      cases hg
      obtain ⟨p, vs, rfl, s1, p1⟩ := r1.lst e
      obtain ⟨w, e1, e2⟩ := p1.atI hc
      exact ix_list value slice pins s σ H _ y v u Q I rx ry ⟨p, vs, i, w, rfl, r2.int, s1, e1, q.here e e2⟩ hs
    · cases hg
  · rename_i xs i
    simp only [dIx, o2r] at hg
    split at hg
    · rename_i d' hc
      cases hg
      obtain ⟨p, vs, rfl, s1, p1⟩ := r1.tup e
      obtain ⟨w, e1, e2⟩ := p1.atI hc
      exact ix_tup value slice pins s σ H _ y v u Q I rx ry ⟨p, vs, i, w, rfl, r2.int, s1, e1, q.here e e2⟩ hs
    · cases hg
  · rename_i es k
    simp only [dIx, o2r] at hg
    split at hg
    · rename_i d' hc
      cases hg
      obtain ⟨p, kvs, rfl, s1, p1⟩ := r1.dic e
      rcases p1.look k with ⟨z, _⟩ | ⟨d2, w, z, e1, e2⟩
      · rw [hc] at z; cases z
      · rw [hc] at z; cases z
        cases rx
        have g : DGet H p y (some w) := .inl ⟨kvs, .inr (toS k), s1, r2.str, e1.symm⟩
        exact tail_any (dict_typeIs I g) PySem.F.slot_dict_getitem.lookup (d_getItem hu I g ry fun w' s3 I3 rw' => ⟨w, H, I3, rw', q.here e e2⟩) hs
    · cases hg
end
theorem ne_ix : ∀ x y c, dIx x y ≠ .ex c := fun x y c => by
  cases x <;> cases y <;> simp only [dIx, o2r] <;> first | (intro h; cases h; done) | (split <;> first | (intro h; cases h; done) | (split <;> intro h <;> cases h))
/-! ### slices -/
def cutL {α : Type} (xs : List α) (lo hi : Option Int) : List α := (xs.drop (HT.sIx xs.length 0 lo)).take (HT.sIx xs.length xs.length hi - HT.sIx xs.length 0 lo)
theorem Reps.cut {K : PySem.W.Frag} {F : Hp} {ds : List D} {vs : List V} (h : Reps K F ds vs) (lo hi : Option Int) : Reps K F (cutL ds lo hi) (cutV vs lo hi) := by
  unfold cutL cutV
  rw [← h.length]
  exact (h.drop _).take _
def dSl : D → Option Int → Option Int → R D
  | .lst xs, lo, hi => .ok (.lst (cutL xs lo hi))
  | .tup xs, lo, hi => .ok (.tup (cutL xs lo hi))
  | .str s, lo, hi => if s.length ≤ lim then .ok (.str (cutL s lo hi)) else .no
  | _, _, _ => .no
theorem ne_sl : ∀ x lo hi c, dSl x lo hi ≠ .ex c := fun x lo hi c => by
  cases x <;> simp only [dSl] <;> first | (intro h; cases h; done) | (split <;> intro h <;> cases h)
def RSl (K : PySem.W.Frag) : V → Option Int → Option Int → Hp → VK → Prop := fun x lo hi H Q => ∃ F dx d, Emb F H ∧ Rep1 K F H dx x ∧ dSl dx lo hi = .ok d ∧ PV K F H d Q
theorem toS_cut (z : Tx) (lo hi : Option Int) : cutS (toS z) lo hi = toS (cutL z lo hi) := by
  unfold cutS cutL
  rw [toS_len]
theorem cut_whole {α : Type} {xs : List α} {lo hi : Option Int} (h : HT.sIx xs.length 0 lo = 0 ∧ HT.sIx xs.length xs.length hi = xs.length) : cutL xs lo hi = xs := by
  unfold cutL
  rw [h.1, h.2]
  simp
theorem sd_sl {X : Cx} : SlR X (RSl X.K) := by
  intro pins s σ H x v vl vu lo hi sl Q I rx hs pl pu ⟨F, dx, d, e, r1, hg, q⟩
  cases dx <;> first | (cases hg; done) | skip
  · rename_i z
    simp only [dSl] at hg
    split at hg
    · rename_i hl
      cases hg
      refine sl_str pins s σ H x v vl vu lo hi sl Q I rx hs pl pu ⟨toS z, r1.str, ?_, ?_⟩
      · rw [toS_len]; exact Nat.le_trans hl lim_line
      · rw [toS_cut]; exact q.here e (.str _)
    · cases hg
  · rename_i xs
    cases hg
    obtain ⟨p, vs, rfl, s1, p1⟩ := r1.lst e
    exact sl_list pins s σ H _ v vl vu lo hi sl Q I rx hs pl pu ⟨p, vs, rfl, s1, fun a ha => q.newL e (p1.cut lo hi) a ha⟩
  · rename_i xs
    cases hg
    have r1' := r1
    obtain ⟨p, vs, rfl, s1, p1⟩ := r1.tup e
    refine sl_tupA pins s σ H _ v vl vu lo hi sl Q I rx hs pl pu ⟨p, vs, rfl, s1, fun h => ?_, fun _ a ha => q.newT e (p1.cut lo hi) a ha⟩
    rw [← p1.length] at h
    rw [cut_whole h] at q
    rcases r1' with r1' | ⟨_, _, o⟩
    · exact q.here e r1'
    · exact o.elim
def bSl (fa : Ga → R D) (fl fh : Ga → R (Option Int)) : Ga → R D := fun γ => (fa γ).bind fun x => (fl γ).bind fun l => (fh γ).bind fun h => dSl x l h
def pNo : Ga → R (Option Int) := fun _ => .ok none
def toI : D → R (Option Int)
  | .int i => .ok (some i)
  | _ => .no
def pSo (fa : Ga → R D) : Ga → R (Option Int) := fun γ => (fa γ).bind toI
def rdO (K : PySem.W.Frag) (W : WN) (f : Ga → R (Option Int)) : TO := fun σ H Q => ∃ F γ, RS K F γ σ H ∧ (match f γ with
  | .ok o => ∀ F' H', Nxt F H F' H' → Q o H'
  | .ex c => ∀ F' H', Nxt F H F' H' → W c σ H'
  | .no => False)
structure JO (X : Cx) (W : WN) (f : Ga → R (Option Int)) (e : Option Expr) : Prop where
  po : PO X e (rdO X.K W f)
theorem PO.imp {X : Cx} {e : Option Expr} {t t' : TO} (h : PO X e t) (i : ∀ σ H Q, t' σ H Q → t σ H Q) : PO X e t' := ⟨fun pins s σ H Q I q => h.run pins s σ H Q I (i σ H Q q)⟩
section
variable {X : Cx} {W : WN} {f fa fb fc : Ga → R D} {a b c e : Expr} {pos p2 p : Pos} {lo hi : Option Expr} {fl fh : Ga → R (Option Int)} {es : List Expr} {fs : Ga → R (List D)}
theorem j_ix (hu : X.A.units + 1 < cLine) (ha : JR X W fa a) (hb : JR X W fb b) (hs : PlainIx b := by exact fun _ _ => rfl) : J X W (b2 dIx fa fb) (.Subscript a b pos) :=
  ⟨PE.imp (pe_ix (xd_ix hu) ha.pe hb.pe hs) fun σ H Q ⟨F, γ, r, o⟩ => tOp_of ne_ix r o⟩
theorem jo_none : JO X W pNo none := ⟨PO.imp po_none fun σ H Q ⟨F, γ, r, o⟩ => o F H (.refl r.emb)⟩
theorem jo_some (ha : JR X W fa a) : JO X W (pSo fa) (some a) := ⟨PO.imp (po_some ha.pe) fun σ H Q ⟨F, γ, r, o⟩ => by
  refine ⟨F, γ, r, ?_⟩
  unfold pSo at o
  cases e1 : fa γ with
  | ok d =>
    simp only [e1, R.bind] at o
    cases d <;> first | exact o.elim | skip
    exact fun v F' H' n p => ⟨_, p.int, o F' H' n⟩
  | ex c => simp only [e1, R.bind] at o; exact o
  | no => simp only [e1, R.bind] at o⟩
theorem j_slice (ha : JR X W fa a) (hl : JO X W fl lo) (hh : JO X W fh hi) : J X W (bSl fa fl fh) (.Subscript a (.Slice lo hi none p2) pos) := ⟨PE.imp (pe_slice sd_sl ha.pe hl.po hh.po) fun σ H Q ⟨F, γ, r, o⟩ => by
  refine go1 (Z := fun z => Out (PV X.K F H) F H (fun c H' => W c σ H') z Q) r o (fun _ z => z) (fun z => z) fun dx x F1 H1 n1 r1 p1 o1 => ?_
  refine ⟨F1, γ, r1, ?_⟩
  cases e1 : fl γ with
  | ok l =>
    simp only [e1, R.bind] at o1
    intro F2 H2 n2
    refine ⟨F2, γ, r1.next n2, ?_⟩
    cases e2 : fh γ with
    | ok h =>
      simp only [e2, R.bind] at o1
      intro F3 H3 n3
      cases e3 : dSl dx l h with
      | ok d => rw [e3] at o1; exact ⟨F3, dx, d, n3.emb, (p1.next n2).next n3, e3, PV.next (Q := Q) o1 ((n1.trans n2).trans n3)⟩
      | ex c => exact absurd e3 (ne_sl _ _ _ _)
      | no => rw [e3] at o1; exact o1.elim
    | ex c => simp only [e2, R.bind] at o1; exact fun F' H' m => o1 F' H' ((n1.trans n2).trans m)
    | no => simp only [e2, R.bind] at o1; exact o1
  | ex c => simp only [e1, R.bind] at o1; exact fun F' H' m => o1 F' H' (n1.trans m)
  | no => simp only [e1, R.bind] at o1; exact o1⟩
/-! ### builtins by name -/
def RDc (K : PySem.W.Frag) (g : List D → R D) : List V → Hp → VK → Prop := fun xs H Q => ∃ F ds d, Emb F H ∧ Reps1 K F H ds xs ∧ g ds = .ok d ∧ PV K F H d Q
def RDf (K : PySem.W.Frag) (g : List D → R D) : List V → Hp → VK → Prop := fun xs H Q => ∃ F ds d, Emb F H ∧ Reps1 K F H ds xs ∧ g ds = .ok d ∧ PF K F H d Q
structure CalD (X : Cx) (f : Value) (g : List D → R D) : Prop where
  run : CallR X f (RDc X.K g)
  ne : ∀ x c, g x ≠ .ex c
structure CalF (X : Cx) (f : Value) (g : List D → R D) : Prop where
  run : CallR X f (RDf X.K g)
  ne : ∀ x c, g x ≠ .ex c
theorem tCB_of {K : PySem.W.Frag} {g : List D → R D} {σ : L2.St} {H F : Hp} {γ : Ga} {Q : VK} (ne : ∀ x c, g x ≠ .ex c) (r : RS K F γ σ H) (o : Out (PV K F H) F H (fun c H' => W c σ H') (bN g fs γ) Q) :
    rdA1 K W fs σ H fun vs H1 => RDc K g vs H1 Q := by
  refine ⟨F, γ, r, ?_⟩
  unfold bN at o
  cases e1 : fs γ with
  | ok ds =>
    simp only [e1, R.bind] at o
    intro vs F' H' n p
    cases e2 : g ds with
    | ok d => rw [e2] at o; exact ⟨F', ds, d, n.emb, p, e2, PV.next (Q := Q) o n⟩
    | ex c => exact absurd e2 (ne _ _)
    | no => rw [e2] at o; exact o.elim
  | ex c => simp only [e1, R.bind] at o; exact o
  | no => simp only [e1, R.bind] at o; exact o
theorem tCF_of {K : PySem.W.Frag} {g : List D → R D} {σ : L2.St} {H F : Hp} {γ : Ga} {Q : VK} (ne : ∀ x c, g x ≠ .ex c) (r : RS K F γ σ H) (o : Out (PF K F H) F H (fun c H' => W c σ H') (bN g fs γ) Q) :
    rdA1 K W fs σ H fun vs H1 => RDf K g vs H1 Q := by
  refine ⟨F, γ, r, ?_⟩
  unfold bN at o
  cases e1 : fs γ with
  | ok ds =>
    simp only [e1, R.bind] at o
    intro vs F' H' n p
    cases e2 : g ds with
    | ok d => rw [e2] at o; exact ⟨F', ds, d, n.emb, p, e2, PF.next (Q := Q) o n⟩
    | ex c => exact absurd e2 (ne _ _)
    | no => rw [e2] at o; exact o.elim
  | ex c => simp only [e1, R.bind] at o; exact o
  | no => simp only [e1, R.bind] at o; exact o
theorem j_b {id : String} {x : Str} {g : List D → R D} (hc : CalD X (.builtin id) g) (hm : X.mg x = none) (hv : bootBuiltins x = some (.builtin id)) (ha : JA1 X W fs (e :: es)) (hg : Gl X x := by rfl) (hn : x ≠ "__name__" := by decide) (hdb : (x == ("__debug__" : Str)) = false := by decide)
    (he : starEach (e :: es) X.env = (false, eval e X.env) :: starEach es X.env := by rfl) (hpl : (backTo pos (starEach es X.env)).any (·.1) = false := by rfl) : J X W (bN g fs) (.Call (.Name x p) (e :: es) [] pos) :=
  ⟨PE.imp (pe_callB hc.run hg hm hv ha.pa hn hdb he hpl) fun σ H Q ⟨F, γ, r, o⟩ => tCB_of hc.ne r o⟩
theorem j_ty {id : String} {x : Str} {g : List D → R D} (hc : CalD X (.type id) g) (hm : X.mg x = none) (hv : bootBuiltins x = some (.type id)) (ha : JA1 X W fs (e :: es)) (hg : Gl X x := by rfl) (hn : x ≠ "__name__" := by decide) (hdb : (x == ("__debug__" : Str)) = false := by decide)
    (he : starEach (e :: es) X.env = (false, eval e X.env) :: starEach es X.env := by rfl) (hpl : (backTo pos (starEach es X.env)).any (·.1) = false := by rfl) : J X W (bN g fs) (.Call (.Name x p) (e :: es) [] pos) :=
  ⟨PE.imp (pe_callTy hc.run hg hm hv ha.pa hn hdb he hpl) fun σ H Q ⟨F, γ, r, o⟩ => tCB_of hc.ne r o⟩
theorem jf_b {id : String} {x : Str} {g : List D → R D} (hc : CalF X (.builtin id) g) (hm : X.mg x = none) (hv : bootBuiltins x = some (.builtin id)) (ha : JA1 X W fs (e :: es)) (hg : Gl X x := by rfl) (hn : x ≠ "__name__" := by decide) (hdb : (x == ("__debug__" : Str)) = false := by decide)
    (he : starEach (e :: es) X.env = (false, eval e X.env) :: starEach es X.env := by rfl) (hpl : (backTo pos (starEach es X.env)).any (·.1) = false := by rfl) : JF X W (bN g fs) (.Call (.Name x p) (e :: es) [] pos) :=
  ⟨PE.imp (pe_callB hc.run hg hm hv ha.pa hn hdb he hpl) fun σ H Q ⟨F, γ, r, o⟩ => tCF_of hc.ne r o⟩
theorem jf_ty {id : String} {x : Str} {g : List D → R D} (hc : CalF X (.type id) g) (hm : X.mg x = none) (hv : bootBuiltins x = some (.type id)) (ha : JA1 X W fs (e :: es)) (hg : Gl X x := by rfl) (hn : x ≠ "__name__" := by decide) (hdb : (x == ("__debug__" : Str)) = false := by decide)
    (he : starEach (e :: es) X.env = (false, eval e X.env) :: starEach es X.env := by rfl) (hpl : (backTo pos (starEach es X.env)).any (·.1) = false := by rfl) : JF X W (bN g fs) (.Call (.Name x p) (e :: es) [] pos) :=
  ⟨PE.imp (pe_callTy hc.run hg hm hv ha.pa hn hdb he hpl) fun σ H Q ⟨F, γ, r, o⟩ => tCF_of hc.ne r o⟩
end
/-! ### the builtins -/
section
variable {X : Cx}
theorem Reps1.inv1 {K : PySem.W.Frag} {F H : Hp} {d : D} {xs : List V} (h : Reps1 K F H [d] xs) : ∃ x, xs = [x] ∧ Rep1 K F H d x := by
  cases h with | cons h1 h2 => cases h2; exact ⟨_, rfl, h1⟩
theorem Reps1.inv2 {K : PySem.W.Frag} {F H : Hp} {d e : D} {xs : List V} (h : Reps1 K F H [d, e] xs) : ∃ x y, xs = [x, y] ∧ Rep1 K F H d x ∧ Rep1 K F H e y := by
  cases h with | cons h1 h2 => obtain ⟨y, rfl, h3⟩ := h2.inv1; exact ⟨_, _, rfl, h1, h3⟩
def dLen : List D → R D
  | [.str s] => if s.length ≤ lim then .ok (.int s.length) else .no
  | [.lst xs] => .ok (.int xs.length)
  | [.tup xs] => .ok (.int xs.length)
  | [.dic es] => .ok (.int es.length)
  | _ => .no
theorem c_len : CalD X (.builtin "len") dLen := by
  refine ⟨fun pins s σ H xs us Q I rv ⟨F, ds, d, e, r, hg, q⟩ => ?_, fun x c => ?_⟩
  · match ds, hg with
    | [.str z], hg =>
      simp only [dLen] at hg
      split at hg
      · rename_i hl
        cases hg
        obtain ⟨x, rfl, r1⟩ := r.inv1
        have e1 := r1.str
        subst e1
        refine call_len pins s σ H _ us Q I rv ⟨.str (toS z), z.length, rfl, ⟨?_, (toS_len z).symm⟩, q.here e (.int _)⟩
        rw [toS_len]; exact Nat.le_trans hl lim_line
      · cases hg
    | [.lst ys], hg =>
      cases hg
      obtain ⟨x, rfl, r1⟩ := r.inv1
      obtain ⟨a, vs, rfl, s1, p1⟩ := r1.lst e
      exact call_len pins s σ H _ us Q I rv ⟨.ref a, ys.length, rfl, .inl ⟨vs, s1, p1.length⟩, q.here e (.int _)⟩
    | [.tup ys], hg =>
      cases hg
      obtain ⟨x, rfl, r1⟩ := r.inv1
      obtain ⟨a, vs, rfl, s1, p1⟩ := r1.tup e
      exact call_len pins s σ H _ us Q I rv ⟨.ref a, ys.length, rfl, .inr ⟨vs, s1, p1.length⟩, q.here e (.int _)⟩
    | [.dic ys], hg =>
      cases hg
      obtain ⟨x, rfl, r1⟩ := r.inv1
      obtain ⟨a, kvs, rfl, s1, p1⟩ := r1.dic e
      obtain ⟨u, rfl, ru⟩ := vals1 rv
      cases ru
      refine d_len I s1 fun t s' I' => ⟨.int kvs.length, H, I', ⟨t, rfl⟩, ?_⟩
      rw [← p1.length]
      exact q.here e (.int _)
  · intro h
    unfold dLen at h
    split at h <;> try split at h
    all_goals cases h
def dMax : List D → R D
  | [.int i, .int j] => .ok (.int (max i j))
  | _ => .no
theorem c_max (hc : X.calm = true) : CalD X (.builtin "max") dMax := by
  refine ⟨fun pins s σ H xs us Q I rv ⟨F, ds, d, e, r, hg, q⟩ => ?_, fun x c => ?_⟩
  · match ds, hg with
    | [.int i, .int j], hg =>
      cases hg
      obtain ⟨x, y, rfl, r1, r2⟩ := r.inv2
      have e1 := r1.int
      have e2 := r2.int
      subst e1 e2
      refine call_max2 hc pins s σ H _ us Q I rv ⟨i, j, rfl, ?_⟩
      have : (if j > i then j else i) = max i j := by split <;> omega
      rw [this]
      exact q.here e (.int _)
  · intro h
    unfold dMax at h
    split at h <;> cases h
def dList : List D → R D
  | [.lst xs] => .ok (.lst xs)
  | [.tup xs] => .ok (.lst xs)
  | _ => .no
theorem PF.newL {K : PySem.W.Frag} {F H : Hp} {ds : List D} {vs : List V} {Q : VK} (q : PF K F H (.lst ds) Q) (e : Emb F H) (r : Reps K F ds vs) (p : Addr) (hp : H p = none) : Q (.ref p) (upd H p (.lst vs)) :=
  q p F _ (.laid e hp _) hp (e.free hp) ⟨vs, upd_same, r⟩
theorem c_list : CalF X (.type "list") dList := by
  refine ⟨fun pins s σ H xs us Q I rv ⟨F, ds, d, e, r, hg, q⟩ => ?_, fun x c => ?_⟩
  · match ds, hg with
    | [.lst ys], hg =>
      cases hg
      obtain ⟨x, rfl, r1⟩ := r.inv1
      obtain ⟨a, vs, rfl, s1, p1⟩ := r1.lst e
      exact call_list_of pins s σ H _ us Q I rv ⟨a, vs, rfl, .inl s1, fun l hl => q.newL e p1 l hl⟩
    | [.tup ys], hg =>
      cases hg
      obtain ⟨x, rfl, r1⟩ := r.inv1
      obtain ⟨a, vs, rfl, s1, p1⟩ := r1.tup e
      exact call_list_of pins s σ H _ us Q I rv ⟨a, vs, rfl, .inr s1, fun l hl => q.newL e p1 l hl⟩
  · intro h
    unfold dList at h
    split at h <;> cases h
def dTuple : List D → R D
  | [.lst xs] => .ok (.tup xs)
  | [.tup xs] => .ok (.tup xs)
  | _ => .no
theorem c_tuple : CalD X (.type "tuple") dTuple := by
  refine ⟨fun pins s σ H xs us Q I rv ⟨F, ds, d, e, r, hg, q⟩ => ?_, fun x c => ?_⟩
  · match ds, hg with
    | [.lst ys], hg =>
      cases hg
      obtain ⟨x, rfl, r1⟩ := r.inv1
      obtain ⟨a, vs, rfl, s1, p1⟩ := r1.lst e
      exact call_tuple_of pins s σ H _ us Q I rv ⟨a, vs, rfl, .inl ⟨s1, fun l hl => q.newT e p1 l hl⟩⟩
    | [.tup ys], hg =>
      cases hg
      obtain ⟨x, rfl, r1⟩ := r.inv1
      have r1' := r1
      obtain ⟨a, vs, rfl, s1, p1⟩ := r1.tup e
      refine call_tuple_of pins s σ H _ us Q I rv ⟨a, vs, rfl, .inr ⟨s1, ?_⟩⟩
      rcases r1' with r1' | ⟨_, _, o⟩
      · exact q.here e r1'
      · exact o.elim
  · intro h
    unfold dTuple at h
    split at h <;> cases h
/-- ints, truths, texts all the way -/
def asInts : List D → Option (List Int)
  | [] => some []
  | .int i :: xs => (asInts xs).map (i :: ·)
  | _ :: _ => none
def asBls : List D → Option (List Bool)
  | [] => some []
  | .bl i :: xs => (asBls xs).map (i :: ·)
  | _ :: _ => none
def asTxs : List D → Option (List Tx)
  | [] => some []
  | .str i :: xs => (asTxs xs).map (i :: ·)
  | _ :: _ => none
theorem asInts_of {xs : List D} {ns : List Int} (h : asInts xs = some ns) : xs = ns.map D.int := by
  induction xs generalizing ns with
  | nil => cases h; rfl
  | cons x xs ih =>
    cases x <;> simp only [asInts] at h <;> first | (cases h; done) | skip
    cases e : asInts xs with
    | none => rw [e] at h; cases h
    | some ms => rw [e] at h; cases h; rw [ih e]; rfl
theorem asBls_of {xs : List D} {ns : List Bool} (h : asBls xs = some ns) : xs = ns.map D.bl := by
  induction xs generalizing ns with
  | nil => cases h; rfl
  | cons x xs ih =>
    cases x <;> simp only [asBls] at h <;> first | (cases h; done) | skip
    cases e : asBls xs with
    | none => rw [e] at h; cases h
    | some ms => rw [e] at h; cases h; rw [ih e]; rfl
theorem asTxs_of {xs : List D} {ns : List Tx} (h : asTxs xs = some ns) : xs = ns.map D.str := by
  induction xs generalizing ns with
  | nil => cases h; rfl
  | cons x xs ih =>
    cases x <;> simp only [asTxs] at h <;> first | (cases h; done) | skip
    cases e : asTxs xs with
    | none => rw [e] at h; cases h
    | some ms => rw [e] at h; cases h; rw [ih e]; rfl
@[simp] theorem asInts_map (ns : List Int) : asInts (ns.map D.int) = some ns := by
  induction ns with
  | nil => rfl
  | cons n ns ih => simp [asInts, ih]
@[simp] theorem asBls_map (ns : List Bool) : asBls (ns.map D.bl) = some ns := by
  induction ns with
  | nil => rfl
  | cons n ns ih => simp [asBls, ih]
@[simp] theorem asTxs_map (ns : List Tx) : asTxs (ns.map D.str) = some ns := by
  induction ns with
  | nil => rfl
  | cons n ns ih => simp [asTxs, ih]
theorem Reps.ints {K : PySem.W.Frag} {F : Hp} {ns : List Int} {vs : List V} (h : Reps K F (ns.map D.int) vs) : vs = ns.map V.int := by
  induction ns generalizing vs with
  | nil => cases h; rfl
  | cons n ns ih => cases h with | cons h1 h2 => cases h1; rw [ih h2]; rfl
theorem Reps.bls {K : PySem.W.Frag} {F : Hp} {ns : List Bool} {vs : List V} (h : Reps K F (ns.map D.bl) vs) : vs = ns.map V.bl := by
  induction ns generalizing vs with
  | nil => cases h; rfl
  | cons n ns ih => cases h with | cons h1 h2 => cases h1; rw [ih h2]; rfl
theorem Reps.txs {K : PySem.W.Frag} {F : Hp} {ns : List Tx} {vs : List V} (h : Reps K F (ns.map D.str) vs) : vs = (ns.map toS).map V.str := by
  induction ns generalizing vs with
  | nil => cases h; rfl
  | cons n ns ih => cases h with | cons h1 h2 => cases h1; rw [ih h2]; rfl
theorem reps_ints {K : PySem.W.Frag} {F : Hp} (ns : List Int) : Reps K F (ns.map D.int) (ns.map V.int) := by
  induction ns with
  | nil => exact .nil
  | cons n ns ih => exact .cons (.int n) ih
theorem reps_txs {K : PySem.W.Frag} {F : Hp} (ns : List Tx) : Reps K F (ns.map D.str) ((ns.map toS).map V.str) := by
  induction ns with
  | nil => exact .nil
  | cons n ns ih => exact .cons (.str n) ih
def dSum : List D → R D
  | [.lst xs] => (o2r (asInts xs)).bind fun ns => .ok (.int ns.sum)
  | _ => .no
theorem c_sum (hc : X.calm = true) : CalD X (.builtin "sum") dSum := by
  refine ⟨fun pins s σ H xs us Q I rv ⟨F, ds, d, e, r, hg, q⟩ => ?_, fun x c => ?_⟩
  · match ds, hg with
    | [.lst ys], hg =>
      simp only [dSum, o2r] at hg
      split at hg
      · rename_i ns hn
        cases hg
        have := asInts_of hn
        subst this
        obtain ⟨x, rfl, r1⟩ := r.inv1
        obtain ⟨a, vs, rfl, s1, p1⟩ := r1.lst e
        rw [p1.ints] at s1
        exact cr_sum hc pins s σ H _ us Q I rv ⟨a, ns, rfl, s1, q.here e (.int _)⟩
      · cases hg
  · intro h
    unfold dSum at h
    split at h
    · simp only [o2r] at h; split at h <;> cases h
    · cases h
def dAll : List D → R D
  | [.lst xs] => (o2r (asBls xs)).bind fun ns => .ok (.bl (ns.all id))
  | _ => .no
theorem c_all (hc : X.calm = true) : CalD X (.builtin "all") dAll := by
  refine ⟨fun pins s σ H xs us Q I rv ⟨F, ds, d, e, r, hg, q⟩ => ?_, fun x c => ?_⟩
  · match ds, hg with
    | [.lst ys], hg =>
      simp only [dAll, o2r] at hg
      split at hg
      · rename_i ns hn
        cases hg
        have := asBls_of hn
        subst this
        obtain ⟨x, rfl, r1⟩ := r.inv1
        obtain ⟨a, vs, rfl, s1, p1⟩ := r1.lst e
        rw [p1.bls] at s1
        exact cr_all hc pins s σ H _ us Q I rv ⟨a, ns, rfl, s1, q.here e (.bl _)⟩
      · cases hg
  · intro h
    unfold dAll at h
    split at h
    · simp only [o2r] at h; split at h <;> cases h
    · cases h
/-! ### sorted -/
def leT (a b : Tx) : Bool := !decide (b < a)
def sortT (l : List Tx) : List Tx := l.mergeSort leT
def sortI (l : List Int) : List Int := l.mergeSort fun a b => decide (a ≤ b)
theorem leT_total (a b : Tx) : (leT a b || leT b a) = true := by
  unfold leT
  rcases Decidable.em (b < a) with h | h
  · have : ¬ a < b := List.lt_asymm h
    simp [this]
  · simp [h]
theorem leT_trans (a b c : Tx) : leT a b = true → leT b c = true → leT a c = true := by
  unfold leT
  simp only [Bool.not_eq_true', decide_eq_false_iff_not, List.not_lt]
  exact fun h k => List.le_trans h k
theorem leT_anti {a b : Tx} (h : leT a b = true) (k : leT b a = true) : a = b := by
  unfold leT at h k
  simp only [Bool.not_eq_true', decide_eq_false_iff_not, List.not_lt] at h k
  exact List.le_antisymm h k
theorem sortT_perm (l : List Tx) : (sortT l).Perm l := List.mergeSort_perm _ _
theorem sortT_pw (l : List Tx) : (sortT l).Pairwise (fun a b => leT a b = true) := List.pairwise_mergeSort leT_trans leT_total l
theorem sortI_perm (l : List Int) : (sortI l).Perm l := List.mergeSort_perm _ _
theorem sortI_pw (l : List Int) : (sortI l).Pairwise (· ≤ ·) := by
  have := List.pairwise_mergeSort (le := fun a b : Int => decide (a ≤ b)) (fun a b c h k => by simp at h k ⊢; omega) (fun a b => by simp; omega) l
  exact this.imp (fun h => of_decide_eq_true h)
theorem sorted_uniq {α : Type} {r : α → α → Prop} (anti : ∀ a b, r a b → r b a → a = b) {l m : List α} (p : l.Perm m) (hl : l.Pairwise r) (hm : m.Pairwise r) : l = m :=
  p.eq_of_pairwise (fun a b _ _ h k => anti a b h k) hl hm
theorem ltCps_iff (a b : Tx) : ltCps a b = decide (a < b) := ltCps_eq a b
theorem sortedS_pw {ys : List Tx} (h : sortedS (ys.map toS) = true) : ys.Pairwise (fun a b => leT a b = true) := by
  have aux : ∀ (r : List Tx) (x : Tx), risingS (toS x) (r.map toS) = true → (x :: r).Pairwise (fun a b => leT a b = true) := by
    intro r
    induction r with
    | nil => intro x _; simp
    | cons y r ih =>
      intro x h
      simp only [List.map_cons, risingS, Bool.and_eq_true] at h
      have h1 : leT x y = true := by
        have := h.1
        rw [ltCps_iff] at this
        exact this
      have h2 := ih y h.2
      refine List.pairwise_cons.mpr ⟨fun z hz => ?_, h2⟩
      rcases List.mem_cons.mp hz with e | hz
      · subst e; exact h1
      · exact leT_trans _ _ _ h1 ((List.pairwise_cons.mp h2).1 z hz)
  cases ys with
  | nil => exact .nil
  | cons x r => exact aux r x h
theorem sortT_of {ys ks : List Tx} (p : ys.Perm ks) (h : sortedS (ys.map toS) = true) : ys = sortT ks :=
  sorted_uniq (fun _ _ => leT_anti) (p.trans (sortT_perm ks).symm) (sortedS_pw h) (sortT_pw ks)
theorem sortI_of {ys ks : List Int} (p : ys.Perm ks) (h : ys.Pairwise (· ≤ ·)) : ys = sortI ks :=
  sorted_uniq (fun a b h k => by omega) (p.trans (sortI_perm ks).symm) h (sortI_pw ks)
section
variable {X : Cx}
theorem PF.newTx {K : PySem.W.Frag} {F H : Hp} {ks : List Tx} {Q : VK} (q : PF K F H (.lst (ks.map D.str)) Q) (e : Emb F H) (p : Addr) (hp : H p = none) : Q (.ref p) (upd H p (.lst ((ks.map toS).map V.str))) :=
  q.newL e (reps_txs ks) p hp
theorem perm_toS {ys : List Str} {ks : List Tx} (p : ys.Perm (ks.map toS)) : ∃ zs : List Tx, ys = zs.map toS ∧ zs.Perm ks := by
  refine ⟨ys.map fun y => y.cps.toList, ?_, ?_⟩
  · rw [List.map_map]
    have : (toS ∘ fun y : Str => y.cps.toList) = id := by funext y; exact toS_tl y
    rw [this, List.map_id]
  · have := p.map fun y : Str => y.cps.toList
    rw [List.map_map] at this
    have e : ((fun y : Str => y.cps.toList) ∘ toS) = id := by funext y; simp [toS]
    rw [e, List.map_id] at this
    exact this
/-- sorted of a dict with text keys, of texts, of ints -/
def dSorted : List D → R D
  | [.dic es] => if es.length < 64 then .ok (.lst ((sortT (es.map (·.1))).map D.str)) else .no
  | [.lst xs] => match asTxs xs with
    | some ks => .ok (.lst ((sortT ks).map D.str))
    | none => match asInts xs with
      | some ns => .ok (.lst ((sortI ns).map D.int))
      | none => .no
  | _ => .no
theorem RepK.keys {K : PySem.W.Frag} {F : Hp} {es : List (Tx × D)} {kvs : List (Key × V)} (h : RepK K F es kvs) : kvs.map (·.1) = ((es.map (·.1)).map toS).map Sum.inr := by
  induction es generalizing kvs with
  | nil => cases h; rfl
  | cons e es ih => cases h with | cons h1 h2 => simp [ih h2]
theorem cr_sortedSA {X : Cx} : CallR X (.builtin "sorted") (fun vs H Q => ∃ (a : Addr) (xs : List Str), vs = [V.ref a] ∧ SqL X.K H a (xs.map V.str) ∧
    ∀ (ys : List Str) (p : Addr), ys.Perm xs → sortedS ys = true → H p = none → Q (.ref p) (upd H p (.lst (ys.map V.str)))) := by
  intro pins s σ H vs us Q I r h
  obtain ⟨a, ns, rfl, hs, q⟩ := h
  obtain ⟨its, rv, hl, hz⟩ := I.list hs
  obtain ⟨u, rfl, ru⟩ := vals1 r
  cases ru
  refine PyProof.Rows.sorted_strsAny hl.isList rv.strs (by rw [← rv.length]; exact hz) fun out ss h1 h2 h3 => ?_
  obtain ⟨ep, he'⟩ := PyProof.Rows.sortedAll_at s.heap its out
  have hlen : (ss.map V.str).length ≤ sizeLine := by rw [List.length_map, h2.length_eq]; rw [List.length_map] at hz; exact hz
  exact ⟨.ref _, upd H (s.heap.objs.size + 1) (.lst (ss.map V.str)), I.laid (t' := s.toks) (fun _ _ => PyProof.Rows.sortedAll_old) (Nat.le_succ _) ⟨hlen, out.toList, ep, vals_of_strs h1, he'⟩, rfl, q _ _ h2 h3 (I.hok.fresh (Nat.le_succ _))⟩
theorem c_sorted (hc : X.calm = true) : CalF X (.builtin "sorted") dSorted := by
  refine ⟨fun pins s σ H xs us Q I rv ⟨F, ds, d, e, r, hg, q⟩ => ?_, fun x c => ?_⟩
  · match ds, hg with
    | [.dic ys], hg =>
      simp only [dSorted] at hg
      split at hg
      · rename_i hl
        cases hg
        obtain ⟨x, rfl, r1⟩ := r.inv1
        obtain ⟨a, kvs, rfl, s1, p1⟩ := r1.dic e
        refine call_sortedD hc pins s σ H _ us Q I rv ⟨a, kvs, _, rfl, s1, p1.keys, by simpa using hl, fun zs p hp hs hn => ?_⟩
        obtain ⟨ws, rfl, hw⟩ := perm_toS hp
        rw [sortT_of hw hs]
        exact q.newTx e p hn
      · cases hg
    | [.lst ys], hg =>
      simp only [dSorted] at hg
      obtain ⟨x, rfl, r1⟩ := r.inv1
      obtain ⟨a, vs, rfl, s1, p1⟩ := r1.lst e
      split at hg
      · rename_i ks hk
        cases hg
        have := asTxs_of hk
        subst this
        rw [p1.txs] at s1
        refine cr_sortedSA pins s σ H _ us Q I rv ⟨a, _, rfl, s1, fun zs p hp hs hn => ?_⟩
        obtain ⟨ws, rfl, hw⟩ := perm_toS hp
        rw [sortT_of hw hs]
        exact q.newTx e p hn
      · split at hg
        · rename_i ns hn
          cases hg
          have := asInts_of hn
          subst this
          rw [p1.ints] at s1
          refine cr_sortedI pins s σ H _ us Q I rv ⟨a, ns, rfl, s1, fun zs p hp hs hn => ?_⟩
          rw [sortI_of hp hs]
          exact q.newL e (reps_ints _) p hn
        · cases hg
  · intro h
    unfold dSorted at h
    split at h
    · split at h <;> cases h
    · split at h
      · cases h
      · split at h <;> cases h
    · cases h
/-! ### isinstance -/
inductive TK where
  | int | bool | str | tup | lst
def TK.nm : TK → String
  | .int => "int"
  | .bool => "bool"
  | .str => "str"
  | .tup => "tuple"
  | .lst => "list"
def isT : TK → D → Bool
  | .int, .int _ => true
  | .int, .bl _ => true
  | .bool, .bl _ => true
  | .str, .str _ => true
  | .tup, .tup _ => true
  | .lst, .lst _ => true
  | _, _ => false
def tyD : D → String
  | .non => "NoneType"
  | .bl _ => "bool"
  | .int _ => "int"
  | .str _ => "str"
  | .lst _ => "list"
  | .tup _ => "tuple"
  | .dic _ => "dict"
theorem tyX_of {K : PySem.W.Frag} {F H : Hp} (em : Emb F H) {d : D} {v : V} (r : Rep1 K F H d v) : TyX K H v (.type (tyD d)) := by
  cases d with
  | non => cases r.non; exact .base .non
  | bl b => cases r.bl; exact .base (.bl _)
  | int i => cases r.int; exact .base (.int _)
  | str s => cases r.str; exact .base (.str _)
  | lst xs =>
    obtain ⟨a, vs, rfl, s1, _⟩ := r.lst em
    rcases s1 with (h | ⟨o, h⟩) | ⟨o, its, n, h, c, _⟩
    · exact .base (.lst h)
    · exact .base (.frz h)
    · exact .kList h c
  | tup xs =>
    obtain ⟨a, vs, rfl, s1, _⟩ := r.tup em
    rcases s1 with (h | ⟨o, h⟩) | ⟨o, its, n, h, c, _⟩
    · exact .base (.tup h)
    · exact .fTuple h
    · exact .kTuple h c
  | dic xs =>
    obtain ⟨a, vs, rfl, s1, _⟩ := r.dic em
    rcases s1 with h | ⟨o, h⟩
    · exact .base (.dK h)
    · exact .fDict h
def dIsi (T : TK) : D → R D := fun d => .ok (.bl (isT T d))
def kitN : Nat → TK → Bool
  | 1, .int => true
  | 1, .bool => true
  | 2, .int => true
  | 3, .str => true
  | 4, .lst => true
  | 5, .tup => true
  | _, _ => false
theorem kit_tab : ∀ T : TK, kitB "NoneType" T.nm = some false ∧ kitB "dict" T.nm = some false ∧ kitB "bool" T.nm = some (kitN 1 T) ∧ kitB "int" T.nm = some (kitN 2 T) ∧ kitB "str" T.nm = some (kitN 3 T) ∧ kitB "list" T.nm = some (kitN 4 T) ∧ kitB "tuple" T.nm = some (kitN 5 T) := by
  intro T
  cases T <;> decide +kernel
theorem kit_isT (T : TK) (d : D) : kitB (tyD d) T.nm = some (isT T d) := by
  obtain ⟨a, b, c, d1, e, f, g⟩ := kit_tab T
  cases d with
  | non => rw [show tyD .non = "NoneType" from rfl, a]; cases T <;> rfl
  | bl _ => rw [show tyD (.bl _) = "bool" from rfl, c]; cases T <;> rfl
  | int _ => rw [show tyD (.int _) = "int" from rfl, d1]; cases T <;> rfl
  | str _ => rw [show tyD (.str _) = "str" from rfl, e]; cases T <;> rfl
  | lst _ => rw [show tyD (.lst _) = "list" from rfl, f]; cases T <;> rfl
  | tup _ => rw [show tyD (.tup _) = "tuple" from rfl, g]; cases T <;> rfl
  | dic _ => rw [show tyD (.dic _) = "dict" from rfl, b]; cases T <;> rfl
end
section
variable {X : Cx} {W : WN} {f fa fb fc : Ga → R D} {a b c e : Expr} {pos p p2 : Pos}
theorem j_isi (T : TK) {x : Str} (ha : JR X W fa a) (hv : bootBuiltins x = some (.type T.nm)) (hm : X.mg "isinstance" = none) (hm2 : X.mg x = none) (hg : Gl X "isinstance" := by rfl) (hg2 : Gl X x := by rfl)
    (hn : x ≠ "__name__" := by decide) (hdb : (x == ("__debug__" : Str)) = false := by decide) (he : starEach [a, .Name x p2] X.env = (false, eval a X.env) :: starEach [.Name x p2] X.env := by rfl) (he2 : starEach [.Name x p2] X.env = (false, eval (.Name x p2) X.env) :: starEach [] X.env := by rfl)
    (hpl : (backTo pos (starEach [.Name x p2] X.env)).any (·.1) = false := by rfl) : J X W (b1 (dIsi T) fa) (.Call (.Name "isinstance" p) [a, .Name x p2] [] pos) := by
  have h2 : PE X (.Name x p2) (tC (.ty T.nm)) := pe_bltn hg2 hm2 hv rfl hn hdb
  refine ⟨PE.imp (pe_callB call_isi hg hm boot_isinstance (pa_cons ha.pe (pa_cons h2 pa_nil he2) he) (by decide) (by decide) he hpl) fun σ H Q ⟨F, γ, r, o⟩ => ?_⟩
  refine go1 (Z := fun z => Out (PV X.K F H) F H (fun c H' => W c σ H') z Q) r o (fun _ z => z) (fun z => z) fun dx x F1 H1 n1 r1 p1 o1 => ?_
  exact ⟨x, .ty T.nm, .type (tyD dx), .type T.nm, isT T dx, rfl, .ty T.nm, tyX_of r1.emb p1, kit_ty (kit_isT T dx), PV.here (PV.next (Q := Q) o1 n1) r1.emb (.bl _)⟩
end
/-! ### calls of defs -/
/-- a class's number as a value -/
abbrev Cl := Nat → Value
def VW (cl : Cl) (W : WN) : WX := fun cls d σ H => ∃ c, cls = cl c ∧ d = none ∧ W c σ H
def spD (K : PySem.W.Frag) (cl : Cl) (n : Nat) (g : List D → R D) : Sp := fun vs H Q E => ∃ F ds, vs.length = n ∧ Emb F H ∧ Reps K F ds vs ∧ Out (PV K F H) F H (fun c H' => E (cl c) none H') (g ds) Q
section
variable {X : Cx} {W : WN} {cl : Cl} {fs : Ga → R (List D)} {k n : Nat} {f : Addr} {fd : FuncData} {ps : List Str} {g : List D → R D} {x : Str} {e : Expr} {es : List Expr} {p pos : Pos}
def bCall (g : List D → R D) (fs : Ga → R (List D)) : Ga → R D := fun γ => (fs γ).bind g
theorem tCall_of {K : PySem.W.Frag} {σ : L2.St} {H F : Hp} {γ : Ga} {Q : VK} (hn : ∀ γ ds, fs γ = .ok ds → ds.length = n) (r : RS K F γ σ H) (o : Out (PV K F H) F H (fun c H' => W c σ H') (bCall g fs γ) Q) :
    rdA K W fs σ H fun vs H1 => spD K cl n g vs H1 Q (WE (VW cl W) σ) := by
  refine ⟨F, γ, r, ?_⟩
  unfold bCall at o
  cases e1 : fs γ with
  | ok ds =>
    simp only [e1, R.bind] at o
    intro vs F' H' m q
    refine ⟨F', ds, ?_, m.emb, q, ?_⟩
    · rw [← q.length]; exact hn γ ds e1
    · cases e2 : g ds with
      | ok d => rw [e2] at o; exact PV.next (Q := Q) o m
      | ex c => rw [e2] at o; exact fun F2 H2 m2 => ⟨c, rfl, rfl, o F2 H2 (m.trans m2)⟩
      | no => rw [e2] at o; exact o
  | ex c => simp only [e1, R.bind] at o; exact o
  | no => simp only [e1, R.bind] at o; exact o
theorem bNil_len : ∀ γ ds, bNil γ = .ok ds → ds.length = 0 := fun γ ds h => by cases h; rfl
theorem bCons_len {fa : Ga → R D} {n : Nat} (h : ∀ γ ds, fs γ = .ok ds → ds.length = n) : ∀ γ ds, bCons fa fs γ = .ok ds → ds.length = n + 1 := fun γ ds e => by
  unfold bCons at e
  cases e1 : fa γ <;> simp only [e1, R.bind] at e
  · cases e2 : fs γ <;> simp only [e2] at e
    · cases e; simp [h γ _ e2]
    · cases e
    · cases e
  · cases e
  · cases e
theorem j_call (F : FnOk X.prog X.w X.K X.mg X.base (L2.CX X.prog X.w) k f fd ps (spD X.K cl n g)) (hr : Room k X.A) (hm : X.mg x = some (.ref f)) (hk : PySem.W.keepIn X.K (.ref f) = true) (hb : Binds X.K fd ps []) (tk : Takes X (VW cl W))
    (ha : JA X W fs (e :: es)) (hn : ∀ γ ds, fs γ = .ok ds → ds.length = n) (hg : Gl X x := by rfl) (hdb : (x == ("__debug__" : Str)) = false := by decide) (he : starEach (e :: es) X.env = (false, eval e X.env) :: starEach es X.env := by rfl) (hpl : (backTo pos (starEach es X.env)).any (·.1) = false := by rfl) :
    J X W (bCall g fs) (.Call (.Name x p) (e :: es) [] pos) :=
  ⟨PE.imp (pe_callS F hr hg hm hk hb (fun σ => passAt tk σ) ha.pa hdb he hpl) fun σ H Q ⟨F, γ, r, o⟩ => tCall_of hn r o⟩
end
end
end KN
/-! KnE: statements, loops, defs -/
namespace KN
open PySem PySem.Spec PyProof.Rows L2
/-! ### the base of a def's run: what stood at its entry; what is locked -/
structure Bs where
  F0 : Hp
  H0 : Hp
  S : List (Addr × HO)
  /-- the object that was handed in, its dict -/
  ob : Option (Addr × Addr)
structure Fin (B : Bs) (F H : Hp) : Prop where
  f0 : Same B.F0 F
  fn : ∀ a o, F a = some o → B.F0 a = some o ∨ B.H0 a = none
  emb : Emb F H
  h0 : ∀ b o, B.H0 b = some o → H b = some o ∨ ∃ ob kvs, o = .dK kvs ∧ (b, HO.frz ob (.dK kvs)) ∈ B.S
  sS : ∀ p ∈ B.S, H p.1 = some p.2 ∧ ∃ ob kvs, p.2 = .frz ob (.dK kvs) ∧ F p.1 = some (.dK kvs)
theorem Fin.free {B : Bs} {F H : Hp} (f : Fin B F H) {a : Addr} (h : H a = none) : B.H0 a = none := by
  cases q : B.H0 a with
  | none => rfl
  | some u =>
    rcases f.h0 a u q with y | ⟨ob, kvs, e, y⟩
    · rw [h] at y; cases y
    · have := (f.sS _ y).1; rw [h] at this; cases this
theorem Fin.next {B : Bs} {F H F' H' : Hp} (f : Fin B F H) (n : Nxt F H F' H') : Fin B F' H' := by
  refine ⟨f.f0.trans n.f, fun a o h => ?_, n.emb, fun b o h => ?_, fun p hp => ?_⟩
  · rcases n.fn a o h with z | z
    · exact f.fn a o z
    · exact .inr (f.free z)
  · rcases f.h0 b o h with y | y
    · exact .inl (n.h _ _ y)
    · exact .inr y
  · obtain ⟨h1, ob, u, h2, h3⟩ := f.sS p hp
    exact ⟨n.h _ _ h1, ob, u, h2, n.f _ _ h3⟩
theorem Fin.start {F H : Hp} (e : Emb F H) : Fin ⟨F, H, [], none⟩ F H := ⟨.refl _, fun _ _ h => .inl h, e, fun _ _ h => .inl h, fun _ h => nomatch h⟩
theorem Fin.nxt {F0 H0 F H : Hp} (f : Fin ⟨F0, H0, [], none⟩ F H) : Nxt F0 H0 F H := ⟨f.f0, f.fn, f.emb, fun b o h => by
  rcases f.h0 b o h with y | ⟨_, _, _, y⟩
  · exact y
  · cases y⟩
/-- the handed-in object's slot, or one that is read alone -/
def hnd : Sl → Bool
  | .ob h _ _ => h
  | .rf _ _ => true
  | _ => false
def isRf : Sl → Bool
  | .rf _ _ => true
  | _ => false
structure RB (K : PySem.W.Frag) (B : Bs) (F : Hp) (γ : Ga) (σ : L2.St) (H : Hp) : Prop where
  rs : RS K F γ σ H
  fi : Fin B F H
  ow : ∀ (i : Nat) (s : Sl) (b : Addr), γ[i]? = some s → Inn H s σ[i]? b → B.H0 b = none
  /-- what is read alone is what was handed in -/
  lk : ∀ (j : Nat) (s : Sl) (a dx : Addr), γ[j]? = some s → hnd s = true → B.ob = some (a, dx) → σ[j]? = some (some (.ref a)) ∧ (isRf s = true → ∃ C kvs, F a = some (.ins C dx kvs))
theorem RB.next {K : PySem.W.Frag} {B : Bs} {F H F' H' : Hp} {γ : Ga} {σ : L2.St} (r : RB K B F γ σ H) (n : Nxt F H F' H') : RB K B F' γ σ H' := ⟨r.rs.next n, r.fi.next n, fun i s b e h => r.ow i s b e (h.back (r.rs.sl i s e) fun b u _ z => n.h _ _ z), fun j s a dx e1 e2 e3 => ⟨(r.lk j s a dx e1 e2 e3).1, fun e4 => let ⟨C, kvs, e5⟩ := (r.lk j s a dx e1 e2 e3).2 e4; ⟨C, kvs, n.f _ _ e5⟩⟩⟩
inductive Rx where
  /-- the object that was handed in is changed: returned d, or (none) gone on, the slots as they are then -/
  | rm (d : Option D) (γ : Ga)
  /-- a new object is returned -/
  | ro (c : Nat) (fs : List Fd)
inductive Fl where
  | nx (γ : Ga) | rt (d : D) | bk (γ : Ga) | ct (γ : Ga) | rx (x : Rx)
/-- all but an object -/
def rem (F : Hp) (a dx : Addr) : Hp := fun b => if b = a ∨ b = dx then none else F b
def Bs.sub (B : Bs) : Bs := match B.ob with
  | some (a, dx) => ⟨rem B.F0 a dx, rem B.H0 a dx, B.S, some (a, dx)⟩
  | none => B
def OutX (K : PySem.W.Frag) (B : Bs) (x : Rx) (E : Ends) : Prop := match x with
  | .rm (some d) γ => B.ob ≠ none ∧ ∀ v F σ H, RB K B.sub F γ σ H → Rep K F d v → E.rt v H
  | .rm none γ => B.ob ≠ none ∧ ∀ F σ H, RB K B.sub F γ σ H → E.nx σ H
  | .ro c fs => ∀ a F H, Fin B F H → SlOk K F H (.ob false c fs) (some (some (.ref a))) → (∀ b, Inn H (.ob false c fs) (some (some (.ref a))) b → B.H0 b = none) → E.rt (.ref a) H
def OutS (K : PySem.W.Frag) (W : WN) (B : Bs) (r : R Fl) (E : Ends) : Prop := match r with
  | .ok (.nx γ) => ∀ F σ H, RB K B F γ σ H → E.nx σ H
  | .ok (.bk γ) => ∀ F σ H, RB K B F γ σ H → E.bk σ H
  | .ok (.ct γ) => ∀ F σ H, RB K B F γ σ H → E.ct σ H
  | .ok (.rt d) => ∀ v F H, Fin B F H → Rep K F d v → E.rt v H
  | .ok (.rx x) => OutX K B x E
  | .ex c => ∀ σ F H, Fin B F H → W c σ H
  | .no => False
def rdS (K : PySem.W.Frag) (W : WN) (f : Ga → R Fl) : TS := fun E σ H => ∃ B F γ, RB K B F γ σ H ∧ OutS K W B (f γ) E
structure JS (X : Cx) (W : WN) (f : Ga → R Fl) (s : Stmt) : Prop where
  ps : PS X s (rdS X.K W f)
structure JSs (X : Cx) (W : WN) (f : Ga → R Fl) (s : List Stmt) : Prop where
  pss : PSs X s (rdS X.K W f)
theorem PS.imp {X : Cx} {e : Stmt} {t t' : TS} (h : PS X e t) (i : ∀ E σ H, t' E σ H → t E σ H) : PS X e t' := ⟨fun pins s σ H E I q => h.run pins s σ H E I (i E σ H q)⟩
theorem PSs.imp {X : Cx} {e : List Stmt} {t t' : TS} (h : PSs X e t) (i : ∀ E σ H, t' E σ H → t E σ H) : PSs X e t' := ⟨fun pins s σ H E I q => h.run pins s σ H E I (i E σ H q)⟩
/-! ### slots stored -/
theorem get_set {α : Type} {γ : List α} {i j : Nat} {s0 s : α} (e : (γ.set i s0)[j]? = some s) : (j = i ∧ s = s0 ∧ i < γ.length) ∨ (j ≠ i ∧ γ[j]? = some s) := by
  by_cases q : j = i
  · subst q
    by_cases l : j < γ.length
    · rw [List.getElem?_set_self l] at e; cases e; exact .inl ⟨rfl, rfl, l⟩
    · rw [List.getElem?_eq_none (by simpa using l)] at e; cases e
  · rw [List.getElem?_set_ne (Ne.symm q)] at e; exact .inr ⟨q, e⟩
theorem RS.put {K : PySem.W.Frag} {F H : Hp} {γ : Ga} {σ : L2.St} (r : RS K F γ σ H) (i : Nat) {s0 : Sl} {x0 : Option V} (k : SlOk K F H s0 (some x0))
    (ap : ∀ j s b, j ≠ i → γ[j]? = some s → Inn H s σ[j]? b → Inn H s0 (some x0) b → False) : RS K F (γ.set i s0) (σ.set i x0) H := by
  refine ⟨r.emb, by simp [r.len], fun j s e => ?_, fun j k s1 s2 b e1 e2 h1 h2 => ?_⟩
  · rcases get_set e with ⟨rfl, rfl, l⟩ | ⟨n, e⟩
    · rw [List.getElem?_set_self (r.len ▸ l)]; exact k
    · rw [List.getElem?_set_ne (Ne.symm n)]; exact r.sl j s e
  · rcases get_set e1 with ⟨rfl, rfl, l⟩ | ⟨n1, y1⟩ <;> rcases get_set e2 with ⟨rfl, rfl, l2⟩ | ⟨n2, y2⟩
    · rfl
    · rw [List.getElem?_set_self (r.len ▸ l)] at h1
      rw [List.getElem?_set_ne (Ne.symm n2)] at h2
      exact (ap _ _ b n2 y2 h2 h1).elim
    · rw [List.getElem?_set_self (r.len ▸ l2)] at h2
      rw [List.getElem?_set_ne (Ne.symm n1)] at h1
      exact (ap _ _ b n1 y1 h1 h2).elim
    · rw [List.getElem?_set_ne (Ne.symm n1)] at h1
      rw [List.getElem?_set_ne (Ne.symm n2)] at h2
      exact r.apart j k s1 s2 b y1 y2 h1 h2
theorem RB.put {K : PySem.W.Frag} {B : Bs} {F H : Hp} {γ : Ga} {σ : L2.St} (r : RB K B F γ σ H) (i : Nat) {s0 : Sl} {x0 : Option V} (k : SlOk K F H s0 (some x0))
    (ap : ∀ j s b, j ≠ i → γ[j]? = some s → Inn H s σ[j]? b → Inn H s0 (some x0) b → False) (fr : ∀ b, Inn H s0 (some x0) b → B.H0 b = none) (nr : hnd s0 = false := by rfl) : RB K B F (γ.set i s0) (σ.set i x0) H := by
  refine ⟨r.rs.put i k ap, r.fi, fun j s b e h => ?_, fun j s a dx e h h2 => by
    rcases get_set e with ⟨_, e, _⟩ | ⟨n, e⟩
    · subst e; rw [nr] at h; cases h
    · rw [List.getElem?_set_ne (Ne.symm n)]; exact r.lk j s a dx e h h2⟩
  rcases get_set e with ⟨rfl, rfl, l⟩ | ⟨n, e⟩
  · rw [List.getElem?_set_self (r.rs.len ▸ l)] at h; exact fr b h
  · rw [List.getElem?_set_ne (Ne.symm n)] at h; exact r.ow j s b e h
theorem RS.set {K : PySem.W.Frag} {F H : Hp} {γ : Ga} {σ : L2.St} (r : RS K F γ σ H) (i : Nat) {d : D} {v : V} (p : Rep K F d v) : RS K F (γ.set i (.va d)) (σ.set i (some v)) H :=
  r.put i (s0 := .va d) (x0 := some v) ⟨v, rfl, p⟩ fun _ _ _ _ _ _ h => h
theorem RB.set {K : PySem.W.Frag} {B : Bs} {F H : Hp} {γ : Ga} {σ : L2.St} (r : RB K B F γ σ H) (i : Nat) {d : D} {v : V} (p : Rep K F d v) : RB K B F (γ.set i (.va d)) (σ.set i (some v)) H :=
  r.put i (s0 := .va d) (x0 := some v) ⟨v, rfl, p⟩ (fun _ _ _ _ _ _ h => h) fun _ h => h.elim
/-- a slot that is known no more -/
theorem RB.un {K : PySem.W.Frag} {B : Bs} {F H : Hp} {γ : Ga} {σ : L2.St} (r : RB K B F γ σ H) (i : Nat) (x : Option V) : RB K B F (γ.set i .un) (σ.set i x) H :=
  r.put i (s0 := .un) (x0 := x) trivial (fun _ _ _ _ _ _ h => h) fun _ h => h.elim
/-- a new thing of one's own -/
theorem RB.own {K : PySem.W.Frag} {B : Bs} {F H F' H' : Hp} {γ : Ga} {σ : L2.St} (r : RB K B F γ σ H) (n : Nxt F H F' H') (i : Nat) {d : D} {a : Addr} (ha : H a = none) (fa : F' a = none) (o : Own K F' H' d a) : RB K B F' (γ.set i (.ow d)) (σ.set i (some (.ref a))) H' := by
  have r' := r.next n
  refine r'.put i (s0 := .ow d) (x0 := some (.ref a)) ⟨a, rfl, fa, o⟩ (fun j s b nj e h1 h2 => ?_) fun b h => ?_
  · have q := h1.back (r.rs.sl j s e) fun b u _ z => n.h _ _ z
    obtain ⟨_, u, hu⟩ := q.have (r.rs.sl j s e)
    cases h2
    rw [ha] at hu; cases hu
  · cases h; exact r.fi.free ha
/-- what the slot i owns is changed -/
theorem RB.chg {K : PySem.W.Frag} {B : Bs} {F H F' H' : Hp} {γ : Ga} {σ : L2.St} (r : RB K B F γ σ H) {i : Nat} {s0 s1 : Sl} (hi : γ[i]? = some s0) (k : SlOk K F' H' s1 σ[i]?) (fi : Fin B F' H') (f : Same F F')
    (keep : ∀ b u, H b = some u → F b = none → ¬ Inn H s0 σ[i]? b → H' b = some u ∧ F' b = none) (inn : ∀ b, Inn H' s1 σ[i]? b → Inn H s0 σ[i]? b ∨ H b = none) (nr : hnd s1 = true → hnd s0 = true ∧ isRf s1 = false := by intro h; cases h) : RB K B F' (γ.set i s1) σ H' := by
  have ks : ∀ j s, j ≠ i → γ[j]? = some s → ∀ b u, Inn H s σ[j]? b → F b = none → H b = some u → H' b = some u ∧ F' b = none := fun j s nj e b u h1 h2 h3 =>
    keep b u h3 h2 fun h4 => nj (r.rs.apart j i s s0 b e hi h1 h4)
  have bk : ∀ j s b, j ≠ i → γ[j]? = some s → Inn H' s σ[j]? b → Inn H s σ[j]? b := fun j s b nj e h => h.back (r.rs.sl j s e) fun b u h1 h2 => (ks j s nj e b u h1 (h1.have (r.rs.sl j s e)).1 h2).1
  refine ⟨⟨fi.emb, by simp [r.rs.len], fun j s e => ?_, fun j k s1 s2 b e1 e2 h1 h2 => ?_⟩, fi, fun j s b e h => ?_, fun j s a dx e h h2 => by
    rcases get_set e with ⟨ej, e, _⟩ | ⟨n, e⟩
    · subst e
      subst ej
      exact ⟨(r.lk j s0 a dx hi (nr h).1 h2).1, fun z => by rw [(nr h).2] at z; cases z⟩
    · exact ⟨(r.lk j s a dx e h h2).1, fun e4 => let ⟨C, kvs, e5⟩ := (r.lk j s a dx e h h2).2 e4; ⟨C, kvs, f _ _ e5⟩⟩⟩
  · rcases get_set e with ⟨rfl, rfl, l⟩ | ⟨n, e⟩
    · exact k
    · exact (r.rs.sl j s e).keep f (ks j s n e)
  · rcases get_set e1 with ⟨rfl, rfl, l⟩ | ⟨n1, y1⟩ <;> rcases get_set e2 with ⟨rfl, rfl, l2⟩ | ⟨n2, y2⟩
    · rfl
    · have h2 := bk _ _ b n2 y2 h2
      rcases inn b h1 with h1 | h1
      · exact r.rs.apart _ _ _ _ b hi y2 h1 h2
      · obtain ⟨_, u, hu⟩ := h2.have (r.rs.sl _ _ y2)
        rw [h1] at hu; cases hu
    · have h1 := bk _ _ b n1 y1 h1
      rcases inn b h2 with h2 | h2
      · exact r.rs.apart _ _ _ _ b y1 hi h1 h2
      · obtain ⟨_, u, hu⟩ := h1.have (r.rs.sl _ _ y1)
        rw [h2] at hu; cases hu
    · exact r.rs.apart j k s1 s2 b y1 y2 (bk _ _ b n1 y1 h1) (bk _ _ b n2 y2 h2)
  · rcases get_set e with ⟨rfl, rfl, l⟩ | ⟨n, e⟩
    · rcases inn b h with h | h
      · exact r.ow _ _ b hi h
      · exact r.fi.free h
    · exact r.ow j s b e (bk j s b n e h)
theorem Fin.frz {B : Bs} {F H : Hp} (f : Fin B F H) {a : Addr} {u : HO} (hu : H a = some u) (fa : F a = none) (h0 : B.H0 a = none) : Fin B (upd F a u) H :=
  ⟨f.f0.trans (same_upd fa), fun b w z => by
    by_cases q : b = a
    · subst q; exact .inr h0
    · rw [upd_ne q] at z; exact f.fn b w z, f.emb.freeze hu, f.h0, fun p hp => by
    obtain ⟨y1, ob, u, y2, y3⟩ := f.sS p hp
    exact ⟨y1, ob, u, y2, same_upd fa _ _ y3⟩⟩
theorem Fin.chg {B : Bs} {F H : Hp} (f : Fin B F H) {a : Addr} {u : HO} (fa : F a = none) (h0 : B.H0 a = none) : Fin B F (upd H a u) :=
  ⟨f.f0, f.fn, fun b w z => by rw [upd_ne (ne_of_none z fa)]; exact f.emb b w z, fun b w z => by rw [upd_ne (ne_of_none z h0)]; exact f.h0 b w z, fun p hp => by
    obtain ⟨y1, ob, u, y2, y3⟩ := f.sS p hp
    rw [upd_ne (ne_of_none y3 fa)]; exact ⟨y1, ob, u, y2, y3⟩⟩
/-- one's own thing is frozen -/
theorem RB.freeze {K : PySem.W.Frag} {B : Bs} {F H : Hp} {γ : Ga} {σ : L2.St} (r : RB K B F γ σ H) {i : Nat} {d : D} (e : γ[i]? = some (.ow d)) : ∃ F', RB K B F' (γ.set i (.va d)) σ H := by
  obtain ⟨a, h1, fa, o⟩ := r.rs.sl i _ e
  obtain ⟨u, hu, e1, s1, p⟩ := o.freeze r.rs.emb fa
  refine ⟨upd F a u, r.chg e (s1 := .va d) ⟨_, h1, p⟩ (r.fi.frz hu fa (r.ow i _ a e h1)) s1 (fun b w z1 z2 z3 => ⟨z1, ?_⟩) fun b h => h.elim⟩
  rw [upd_ne]
  · exact z2
  · rintro rfl; exact z3 h1
theorem OwK.rep {K : PySem.W.Frag} {F F' H : Hp} {a : Addr} (f : Same F F') : ∀ {es : List (Tx × List (Tx × D))} {kvs : List (Key × V)}, OwK K F H a es kvs → (∀ k b, (k, V.ref b) ∈ kvs → F' b = H b) → RepK K F' (es.map fun e => (e.1, .dic e.2)) kvs
  | [], [], _, _ => .nil
  | (k, row) :: es, (k', v) :: kvs, ⟨e, ⟨r, kv, e1, e2, e3, e4, e5, e6⟩, o⟩, h => by
    subst e1
    subst e
    exact .cons (.dic ((h _ r List.mem_cons_self).trans e4) (e5.mono f)) (o.rep f fun k b m => h k b (List.mem_cons_of_mem _ m))
  | [], _ :: _, h, _ => h.elim
  | _ :: _, [], h, _ => h.elim
open Classical in
theorem RB.freezeN {K : PySem.W.Frag} {B : Bs} {F H : Hp} {γ : Ga} {σ : L2.St} (r : RB K B F γ σ H) {i : Nat} {es : List (Tx × List (Tx × D))} (e : γ[i]? = some (.nd es)) : ∃ F', RB K B F' (γ.set i (.va (.dic (es.map fun e => (e.1, .dic e.2))))) σ H := by
  have k := r.rs.sl i _ e
  have F1 : ∀ b, Inn H (.nd es) σ[i]? b → F b = none := fun b h => (h.have k).1
  have F2 : ∀ b, Inn H (.nd es) σ[i]? b → B.H0 b = none := fun b h => r.ow i _ b e h
  have sm : Same F (fun b => if Inn H (.nd es) σ[i]? b then H b else F b) := fun b u h => by
    have : ¬ Inn H (.nd es) σ[i]? b := fun z => by rw [F1 b z] at h; cases h
    show (if Inn H (.nd es) σ[i]? b then H b else F b) = _
    rw [if_neg this]; exact h
  refine ⟨fun b => if Inn H (.nd es) σ[i]? b then H b else F b, r.chg e (s1 := .va _) ?_ ⟨r.fi.f0.trans sm, fun b o h => ?_, fun b o h => ?_, r.fi.h0, fun p hp => ?_⟩ sm (fun b u z1 z2 z3 => ⟨z1, ?_⟩) fun b h => h.elim⟩
  · obtain ⟨a, kvs, e1, e2, e3, e4⟩ := k
    refine ⟨_, e1, .dic ?_ (e4.rep sm fun k b m => ?_)⟩
    · show (if Inn H (.nd es) σ[i]? a then H a else F a) = _
      rw [if_pos ⟨a, kvs, e1, e3, .inl rfl⟩]; exact e3
    · show (if Inn H (.nd es) σ[i]? b then H b else F b) = _
      rw [if_pos ⟨a, kvs, e1, e3, .inr ⟨k, m⟩⟩]
  · by_cases z : Inn H (.nd es) σ[i]? b
    · exact .inr (F2 b z)
    · simp only [if_neg z] at h; exact r.fi.fn b o h
  · by_cases z : Inn H (.nd es) σ[i]? b
    · simp only [if_pos z] at h; exact .inl h
    · simp only [if_neg z] at h; exact r.fi.emb b o h
  · obtain ⟨y1, ob, u, y2, y3⟩ := r.fi.sS p hp
    exact ⟨y1, ob, u, y2, sm _ _ y3⟩
  · show (if Inn H (.nd es) σ[i]? b then H b else F b) = _
    rw [if_neg z3]; exact z2
/-- one's own thing is changed -/
theorem RB.change {K : PySem.W.Frag} {B : Bs} {F H : Hp} {γ : Ga} {σ : L2.St} (r : RB K B F γ σ H) {i : Nat} {d d' : D} {a : Addr} {o : HO} (e : γ[i]? = some (.ow d)) (h1 : σ[i]? = some (some (.ref a))) (ow : Own K F (upd H a o) d' a) :
    RB K B F (γ.set i (.ow d')) σ (upd H a o) := by
  obtain ⟨a', h1', fa, o1⟩ := r.rs.sl i _ e
  rw [h1] at h1'; cases h1'
  refine r.chg e (s1 := .ow d') ⟨a, h1, fa, ow⟩ (r.fi.chg fa (r.ow i _ a e h1)) (.refl _) (fun b w z1 z2 z3 => ⟨?_, z2⟩) fun b h => .inl h
  rw [upd_ne]
  · exact z1
  · rintro rfl; exact z3 h1
/-! ### blocks and small statements -/
def fNil : Ga → R Fl := fun γ => .ok (.nx γ)
def fSeq (f g : Ga → R Fl) : Ga → R Fl := fun γ => match f γ with
  | .ok (.nx γ') => g γ'
  | .ok (.rx (.rm none _)) => .no
  | r => r
def fSet (i : Nat) (fe : Ga → R D) : Ga → R Fl := fun γ => (fe γ).bind fun d => .ok (.nx (γ.set i (.va d)))
def fOwn (i : Nat) (fe : Ga → R D) : Ga → R Fl := fun γ => (fe γ).bind fun d => .ok (.nx (γ.set i (.ow d)))
def fExpr (fe : Ga → R D) : Ga → R Fl := fun γ => (fe γ).bind fun _ => .ok (.nx γ)
def fRet (fe : Ga → R D) : Ga → R Fl := fun γ => (fe γ).bind fun d => .ok (.rt d)
def fRetN : Ga → R Fl := fun _ => .ok (.rt .non)
def fIf (c : Ga → R Bool) (f g : Ga → R Fl) : Ga → R Fl := fun γ => (c γ).bind fun b => if b = true then f γ else g γ
def fFz (i : Nat) (f : Ga → R Fl) : Ga → R Fl := fun γ => match γ[i]? with
  | some (.ow d) => f (γ.set i (.va d))
  | some (.nd es) => f (γ.set i (.va (.dic (es.map fun e => (e.1, .dic e.2)))))
  | _ => .no
section
variable {X : Cx} {W : WN} {f g : Ga → R Fl} {fa fb fe : Ga → R D} {st : Stmt} {rest sts : List Stmt} {e : Expr} {pos pos' : Pos} {p : Ga → R Bool}
theorem js_nil : JSs X W fNil [] := ⟨PSs.imp pss_nil fun E σ H ⟨B, F, γ, r, o⟩ => o F σ H r⟩
theorem js_cons (h : JS X W f st) (h2 : JSs X W g rest) : JSs X W (fSeq f g) (st :: rest) := ⟨PSs.imp (pss_cons h.ps h2.pss) fun E σ H ⟨B, F, γ, r, o⟩ => by
  refine ⟨B, F, γ, r, ?_⟩
  unfold fSeq at o
  cases e1 : f γ with
  | ok fl =>
    rw [e1] at o
    cases fl with
    | nx γ' => exact fun F' σ' H' r' => ⟨B, F', γ', r', o⟩
    | rt d => exact o
    | rx x => cases x with
      | rm d γ' => cases d with
        | none => exact o.elim
        | some d => exact o
      | ro c fs => exact o
    | bk γ' => exact o
    | ct γ' => exact o
  | ex c => rw [e1] at o; exact o
  | no => rw [e1] at o; exact o⟩
theorem js_one (h : JS X W f st) : JSs X W f [st] := ⟨pss_one h.ps⟩
/-- from an expression's end to a statement's -/
theorem ex_of {K : PySem.W.Frag} {B : Bs} {F H : Hp} {γ : Ga} {σ : L2.St} {E : Ends} {k : D → R Fl} {Q : VK} (r : RB K B F γ σ H) (o : OutS K W B ((fe γ).bind k) E)
    (h : ∀ d v F' H', Nxt F H F' H' → RB K B F' γ σ H' → Rep K F' d v → OutS K W B (k d) E → Q v H') : rdV K W fe σ H Q := by
  refine ⟨F, γ, r.rs, ?_⟩
  cases e1 : fe γ with
  | ok d => rw [e1] at o; exact fun v F' H' n p => h d v F' H' n (r.next n) p o
  | ex c => rw [e1] at o; exact fun F' H' n => o σ F' H' (r.fi.next n)
  | no => rw [e1] at o; exact o
theorem js_set {i : Nat} {x : Str} (hN : X.N.Nodup) (he : J X W fe e) (hi : X.N[i]? = some x := by rfl) (hx : Loc X.env.scope x := by first | exact .inl rfl | exact .inr rfl) (hs : swapsWith e (some (.Name x pos')) pos.line X.env = pure false := by rfl) (hf : X.fn x = true ∨ X.env.scope.names.lookup x = some .local := by first | exact .inl rfl | exact .inr rfl) :
    JS X W (fSet i fe) (.Assign [.Name x pos'] e pos) := ⟨PS.imp (ps_set hN hi hx he.pe hs hf) fun E σ H ⟨B, F, γ, r, o⟩ =>
  ex_of r o fun d v F' H' _ r' p o' => o' F' _ H' (r'.set i p)⟩
theorem js_own {i : Nat} {x : Str} (hN : X.N.Nodup) (he : JF X W fe e) (hi : X.N[i]? = some x := by rfl) (hx : Loc X.env.scope x := by first | exact .inl rfl | exact .inr rfl) (hs : swapsWith e (some (.Name x pos')) pos.line X.env = pure false := by rfl) (hf : X.fn x = true ∨ X.env.scope.names.lookup x = some .local := by first | exact .inl rfl | exact .inr rfl) :
    JS X W (fOwn i fe) (.Assign [.Name x pos'] e pos) := ⟨PS.imp (ps_set hN hi hx he.pe hs hf) fun E σ H ⟨B, F, γ, r, o⟩ => by
  refine ⟨F, γ, r.rs, ?_⟩
  unfold fOwn at o
  cases e1 : fe γ with
  | ok d => rw [e1] at o; exact fun a F' H' n ha fa ow => o F' _ H' (r.own n i ha fa ow)
  | ex c => rw [e1] at o; exact fun F' H' n => o σ F' H' (r.fi.next n)
  | no => rw [e1] at o; exact o⟩
theorem js_expr (he : J X W fe e) (hs : swapsWith e none pos.line X.env = pure false := by rfl) : JS X W (fExpr fe) (.Expr e pos) := ⟨PS.imp (ps_expr he.pe hs) fun E σ H ⟨B, F, γ, r, o⟩ =>
  ex_of r o fun d v F' H' _ r' p o' => o' F' _ H' r'⟩
theorem js_ret (he : J X W fe e) : JS X W (fRet fe) (.Return (some e) pos) := ⟨PS.imp (ps_ret he.pe) fun E σ H ⟨B, F, γ, r, o⟩ =>
  ex_of r o fun d v F' H' _ r' p o' => o' v F' H' r'.fi p⟩
theorem js_if {c : Expr} {a b : List Stmt} (hc : JT X W p c) (ha : JSs X W f a) (hb : JSs X W g b) : JS X W (fIf p f g) (.If c a b pos) := ⟨PS.imp (ps_if hc.pt ha.pss hb.pss) fun E σ H ⟨B, F, γ, r, o⟩ => by
  refine ⟨F, γ, r.rs, ?_⟩
  unfold fIf at o
  cases e1 : p γ with
  | ok b =>
    simp only [e1, R.bind] at o
    intro F' H' n
    cases b with
    | true => exact ⟨B, F', γ, r.next n, o⟩
    | false => exact ⟨B, F', γ, r.next n, o⟩
  | ex c => simp only [e1, R.bind] at o; exact fun F' H' n => o σ F' H' (r.fi.next n)
  | no => simp only [e1, R.bind] at o; exact o⟩
/-- a thing of one's own is frozen ahead of what follows -/
theorem jss_fz (i : Nat) (h : JSs X W f sts) : JSs X W (fFz i f) sts := ⟨PSs.imp h.pss fun E σ H ⟨B, F, γ, r, o⟩ => by
  unfold fFz at o
  cases e1 : γ[i]? with
  | none => rw [e1] at o; exact o.elim
  | some s =>
    rw [e1] at o
    cases s with
    | un => exact o.elim
    | va d => exact o.elim
    | xc a => exact o.elim
    | ob _ _ _ => exact o.elim
    | rf _ _ => exact o.elim
    | nd es =>
      obtain ⟨F', r'⟩ := r.freezeN e1
      exact ⟨B, F', _, r', o⟩
    | ow d =>
      obtain ⟨F', r'⟩ := r.freeze e1
      exact ⟨B, F', _, r', o⟩⟩
/-! a, b = e1, e2 -/
def fPar (i j : Nat) (fa fb : Ga → R D) : Ga → R Fl := fun γ => (fa γ).bind fun x => (fb γ).bind fun y => .ok (.nx ((γ.set i (.va x)).set j (.va y)))
theorem js_par {i j : Nat} {x y : Str} {a b : Expr} {px py pt : Pos} {kt k2 : Nat} {pt2 : Pos} (hc : X.calm = true) (hN : X.N.Nodup) (hij : i ≠ j) (ha : J X W fa a) (hb : J X W fb b) (hi : X.N[i]? = some x := by rfl) (hj : X.N[j]? = some y := by rfl)
    (hx : X.env.scope.names.lookup x = some .local := by rfl) (hy : X.env.scope.names.lookup y = some .local := by rfl)
    (hs1 : starEach [a, b] X.env = (false, eval a X.env) :: starEach [b] X.env := by rfl) (hs2 : starEach [b] X.env = (false, eval b X.env) :: starEach [] X.env := by rfl)
    (hw : swappedStores [.Tuple [.Name x px, .Name y py] kt pt] (.Tuple [a, b] k2 pt2) X.env = pure (some [x, y]) := by rfl)
    (hs : swapsWithSole [.Tuple [.Name x px, .Name y py] kt pt] (.Tuple [a, b] k2 pt2) pos.line X.env = pure false := by rfl) :
    JS X W (fPar i j fa fb) (.Assign [.Tuple [.Name x px, .Name y py] kt pt] (.Tuple [a, b] k2 pt2) pos) := ⟨PS.imp (ps_par hc hN hi hj hij hx hy (pa_cons ha.pe (pa_cons hb.pe pa_nil hs2) hs1) hw hs) fun E σ H ⟨B, F, γ, r, o⟩ => by
  refine ex_of r o fun d v F1 H1 n1 r1 p1 o1 => ?_
  refine ex_of r1 o1 fun d2 v2 F2 H2 n2 r2 p2 o2 => ⟨v, v2, rfl, ?_⟩
  exact o2 F2 _ H2 ((r2.set i (p1.mono n2.f)).set j p2)⟩
end
end KN
/-! KnF: targets, what is walked, loops, comprehensions, defs -/
namespace KN
open PySem PySem.Spec PyProof.Rows L2
/-! ### targets -/
/-- the slots but those at is are as they were; those of one's own too -/
structure Kp (is : List Nat) (γ : Ga) (σ : L2.St) (γ' : Ga) (σ' : L2.St) : Prop where
  len : σ'.length = σ.length
  out : ∀ j, j ∉ is → σ'[j]? = σ[j]?
  ow : ∀ (j : Nat) (s : Sl), γ'[j]? = some s → (∃ d, s = .va d) ∨ (γ[j]? = some s ∧ σ'[j]? = σ[j]?)
theorem Kp.refl {is : List Nat} {γ : Ga} {σ : L2.St} : Kp is γ σ γ σ := ⟨rfl, fun _ _ => rfl, fun _ _ h => .inr ⟨h, rfl⟩⟩
theorem Kp.set {is : List Nat} {γ : Ga} {σ : L2.St} {γ' : Ga} {σ' : L2.St} (k : Kp is γ σ γ' σ') {i : Nat} (hi : i ∈ is) (d : D) (v : V) : Kp is γ σ (γ'.set i (.va d)) (σ'.set i (some v)) :=
  ⟨by simp [k.len], fun j hj => by
    have : j ≠ i := fun q => hj (q ▸ hi)
    rw [List.getElem?_set_ne (Ne.symm this)]; exact k.out j hj, fun j d' e => by
    rcases get_set e with ⟨rfl, rfl, l⟩ | ⟨n, e⟩
    · exact .inl ⟨d, rfl⟩
    · rw [List.getElem?_set_ne (Ne.symm n)]
      exact k.ow j d' e⟩
structure JG (X : Cx) (is : List Nat) (bd : D → Ga → R Ga) (t : TG) (tg : Expr) : Prop where
  pg : PG X tg t
  go : ∀ {F : Hp} {γ γ' : Ga} {σ : L2.St} {H : Hp} {d : D} {v : V} {Q : L2.St → Hp → Prop}, RS X.K F γ σ H → Rep X.K F d v → bd d γ = .ok γ' → (∀ σ', RS X.K F γ' σ' H → Kp is γ σ γ' σ' → Q σ' H) → t v σ H Q
def bdN (i : Nat) : D → Ga → R Ga := fun d γ => .ok (γ.set i (.va d))
def setAll : List Nat → List D → Ga → R Ga
  | [], [], γ => .ok γ
  | i :: is, d :: ds, γ => setAll is ds (γ.set i (.va d))
  | _, _, _ => .no
def bdT (is : List Nat) : D → Ga → R Ga
  | .tup ds, γ => setAll is ds γ
  | _, _ => .no
theorem bd_ne (is : List Nat) : ∀ ds γ c, setAll is ds γ ≠ .ex c := by
  induction is with
  | nil => intro ds γ c; cases ds <;> simp [setAll]
  | cons i is ih =>
    intro ds γ c
    cases ds with
    | nil => simp [setAll]
    | cons d ds => exact ih ds _ c
section
variable {X : Cx} {pos : Pos}
theorem jg_n {i : Nat} {x : Str} (hN : X.N.Nodup) (hi : X.N[i]? = some x := by rfl) (hx : Loc X.env.scope x := by first | exact .inl rfl | exact .inr rfl) (hf : X.fn x = true ∨ X.env.scope.names.lookup x = some .local := by first | exact .inl rfl | exact .inr rfl) : JG X [i] (bdN i) (gName i) (.Name x pos) :=
  ⟨pg_name hN hi hx hf, fun {F γ γ' σ H d v Q} r p e q => by
    cases e
    exact q _ (r.set i p) (Kp.refl.set (by simp) d v)⟩
structure JGs (X : Cx) (is js : List Nat) (t : TGs) (es : List Expr) : Prop where
  pgs : PGs X es t
  len : is.length = es.length
  go : ∀ {F : Hp} {γ₀ γ γ' : Ga} {σ₀ σ : L2.St} {H : Hp} {ds : List D} {vs : List V} {Q : L2.St → Hp → Prop}, RS X.K F γ σ H → Kp js γ₀ σ₀ γ σ → Reps X.K F ds vs → setAll is ds γ = .ok γ' → (∀ σ', RS X.K F γ' σ' H → Kp js γ₀ σ₀ γ' σ' → Q σ' H) → t vs σ H Q
theorem jgs_nil {js : List Nat} : JGs X [] js gNil [] := ⟨pgs_nil, rfl, fun {F γ₀ γ γ' σ₀ σ H ds vs Q} r k p e q => by
  cases p with
  | nil => cases e; exact ⟨rfl, q _ r k⟩
  | cons _ _ => cases e⟩
theorem jgs_cons {i : Nat} {is js : List Nat} {x : Str} {t : TGs} {es : List Expr} (hN : X.N.Nodup) (hr : JGs X is js t es) (hij : i ∈ js := by simp) (hi : X.N[i]? = some x := by rfl) (hx : Loc X.env.scope x := by first | exact .inl rfl | exact .inr rfl) (hf : X.fn x = true ∨ X.env.scope.names.lookup x = some .local := by first | exact .inl rfl | exact .inr rfl)
    (hs : (assignEach (.Name x pos :: es) X.env).map (·.2) = assign (.Name x pos) X.env :: (assignEach es X.env).map (·.2) := by rfl) : JGs X (i :: is) js (gCons (gName i) t) (.Name x pos :: es) :=
  ⟨pgs_cons (pg_name hN hi hx hf) hr.pgs hs, by simp [hr.len], fun {F γ₀ γ γ' σ₀ σ H ds vs Q} r k p e q => by
    cases p with
    | nil => cases e
    | cons p1 p2 => exact ⟨_, _, rfl, hr.go (r.set i p1) (k.set hij _ _) p2 e q⟩⟩
theorem jg_t {is : List Nat} {t : TGs} {es : List Expr} {k n : Nat} (hc : X.calm = true) (h : JGs X is is t es) (hn : (assignEach es X.env).length = n := by rfl) (hst : (assignEach es X.env).findIdx? (·.1) = none := by rfl) (hl : n = is.length := by rfl) : JG X is (bdT is) (gTup X.K n t) (.Tuple es k pos) :=
  ⟨pg_tup hc h.pgs hn hst, fun {F γ γ' σ H d v Q} r p e q => by
    cases d <;> first | (cases e; done) | skip
    rename_i ds
    cases p with
    | tup h1 h2 =>
      refine ⟨_, _, rfl, r.emb.sqt h1, ?_, h.go r .refl h2 e q⟩
      have : ∀ (is : List Nat) (ds : List D) (γ : Ga), setAll is ds γ = .ok γ' → ds.length = is.length := by
        intro is
        induction is with
        | nil => intro ds γ e; cases ds with | nil => rfl | cons _ _ => cases e
        | cons i is ih =>
          intro ds γ e
          cases ds with
          | nil => cases e
          | cons d ds => simp [ih ds _ e]
      rw [← h2.length, this _ _ _ e, hl]⟩
theorem jg_tK {K : PySem.W.Frag} {is : List Nat} {t : TGs} {es : List Expr} {k : Nat} (hK : X.K = K) (hc : X.calm = true) (h : JGs X is is t es) (hn : (assignEach es X.env).length = is.length := by rfl) (hst : (assignEach es X.env).findIdx? (·.1) = none := by rfl) : JG X is (bdT is) (gTup K is.length t) (.Tuple es k pos) := by
  subst hK
  exact jg_t hc h hn hst rfl
theorem RB.kp {K : PySem.W.Frag} {B : Bs} {F H : Hp} {γ γ' : Ga} {σ σ' : L2.St} {is : List Nat} (r : RB K B F γ σ H) (r' : RS K F γ' σ' H) (k : Kp is γ σ γ' σ') : RB K B F γ' σ' H :=
  ⟨r', r.fi, fun j d a e1 e2 => by
    rcases k.ow j d e1 with ⟨x, rfl⟩ | ⟨z1, z2⟩
    · exact e2.elim
    · exact r.ow j d a z1 (z2 ▸ e2), fun j s a dx e1 h h2 => by
    rcases k.ow j _ e1 with ⟨x, z⟩ | ⟨z1, z2⟩
    · subst z; cases h
    · exact z2 ▸ r.lk j s a dx z1 h h2⟩
end
/-- a target that is assigned -/
def fBd (bd : D → Ga → R Ga) (fe : Ga → R D) : Ga → R Fl := fun γ => (fe γ).bind fun d => (bd d γ).bind fun γ' => .ok (.nx γ')
section
variable {X : Cx} {W : WN} {fe : Ga → R D} {tg e : Expr} {pos : Pos}
theorem js_unp {is : List Nat} {t : TG} (he : J X W fe e) (hg : JG X is (bdT is) t tg) (hs : swapsWithSole [tg] e pos.line X.env = pure false := by rfl) (hw : swappedStores [tg] e X.env = pure none := by rfl)
    (h1 : (assignEach [tg] X.env).map (·.2) = [assign tg X.env] := by rfl) : JS X W (fBd (bdT is) fe) (.Assign [tg] e pos) := ⟨PS.imp (ps_asg he.pe hg.pg hs hw h1) fun E σ H ⟨B, F, γ, r, o⟩ => by
  refine ex_of r o fun d v F1 H1 n1 r1 p1 o1 => ?_
  cases e1 : bdT is d γ with
  | ok γ' => simp only [e1, R.bind] at o1; exact hg.go r1.rs p1 e1 fun σ' r' k => o1 F1 σ' H1 (r1.kp r' k)
  | ex c =>
    cases d <;> first | (cases e1; done) | exact absurd e1 (bd_ne _ _ _ _)
  | no => simp only [e1, R.bind] at o1; exact o1.elim⟩
end
/-! ### what is walked -/
def Goes (K : PySem.W.Frag) (J : It) (F : Hp) (S : List (Addr × HO)) (ds : List D) : Prop := ∀ F' H' i, Same F F' → Emb F' H' → (∀ p ∈ S, H' p.1 = some p.2) →
  (i = ds.length → J.stop i H') ∧ ∀ d, ds[i]? = some d → J.go i H' ∧ ∀ x H'', J.yld i H' x H'' → ∃ F'', Nxt F' H' F'' H'' ∧ Rep K F'' d x
theorem goes_list {K : PySem.W.Frag} {F : Hp} {a : Addr} {ds : List D} {vs : List V} (h : SqL K F a vs) (r : Reps K F ds vs) : Goes K (Itl K a) F [] ds := fun F' H' i f e _ => by
  have q := e.sql (f.seq h)
  refine ⟨fun hi => ⟨vs, q, by rw [← r.length]; omega⟩, fun d hd => ?_⟩
  obtain ⟨v, hv, p⟩ := r.get hd
  refine ⟨⟨vs, v, q, hv⟩, fun x H'' ⟨e1, e2⟩ => ?_⟩
  subst e1
  have : v = x := Option.some.inj (hv.symm.trans (e2 vs q))
  subst this
  exact ⟨F', .refl e, p.mono f⟩
theorem goes_listO {K : PySem.W.Frag} {F : Hp} {a : Addr} {ds : List D} {vs : List V} (r : Reps K F ds vs) : Goes K (Itl K a) F [(a, .lst vs)] ds := fun F' H' i f e hS => by
  have q : SqL K H' a vs := .inl (.inl (hS (a, .lst vs) (by simp)))
  refine ⟨fun hi => ⟨vs, q, by rw [← r.length]; omega⟩, fun d hd => ?_⟩
  obtain ⟨v, hv, p⟩ := r.get hd
  refine ⟨⟨vs, v, q, hv⟩, fun x H'' ⟨e1, e2⟩ => ?_⟩
  subst e1
  have : v = x := Option.some.inj (hv.symm.trans (e2 vs q))
  subst this
  exact ⟨F', .refl e, p.mono f⟩
theorem goes_tup {K : PySem.W.Frag} {F : Hp} {a : Addr} {ds : List D} {vs : List V} (h : SqT K F a vs) (r : Reps K F ds vs) : Goes K (Itt K a) F [] ds := fun F' H' i f e _ => by
  have q := e.sqt (same_sqt f h)
  refine ⟨fun hi => ⟨vs, q, by rw [← r.length]; omega⟩, fun d hd => ?_⟩
  obtain ⟨v, hv, p⟩ := r.get hd
  refine ⟨⟨vs, v, q, hv⟩, fun x H'' ⟨e1, e2⟩ => ?_⟩
  subst e1
  have : v = x := Option.some.inj (hv.symm.trans (e2 vs q))
  subst this
  exact ⟨F', .refl e, p.mono f⟩
def sgn (s : Tx) : List D := s.map fun c => .str [c]
theorem goes_str {K : PySem.W.Frag} {F : Hp} {s : Tx} : Goes K (Its (toS s)) F [] (sgn s) := fun F' H' i f e _ => by
  refine ⟨fun hi => ?_, fun d hd => ?_⟩
  · show (toS s).cps.size ≤ i
    simp [toS, sgn] at hi ⊢; omega
  · have l : i < s.length := by
      have := (List.getElem?_eq_some_iff.mp hd).1
      simpa [sgn] using this
    refine ⟨by show i < (toS s).cps.size; simpa [toS] using l, fun x H'' ⟨e1, c, e2, e3⟩ => ?_⟩
    subst e1
    have hc : s[i]? = some c := by simpa [toS] using e2
    have : d = .str [c] := by simp [sgn, hc] at hd; exact hd.symm
    subst this
    subst e3
    exact ⟨F', .refl e, .str [c]⟩
theorem RepK.get {K : PySem.W.Frag} {F : Hp} {es : List (Tx × D)} {kvs : List (Key × V)} (h : RepK K F es kvs) {i : Nat} {k : Tx} {d : D} (e : es[i]? = some (k, d)) : ∃ v, kvs[i]? = some (Sum.inr (toS k), v) ∧ Rep K F d v := by
  induction es generalizing kvs i with
  | nil => simp at e
  | cons e' es ih =>
    cases h with
    | cons h1 h2 =>
      cases i with
      | zero => simp at e; obtain ⟨rfl, rfl⟩ := e; exact ⟨_, rfl, h1⟩
      | succ i => simp at e; simpa using ih h2 e
def keysD (es : List (Tx × D)) : List D := es.map fun e => .str e.1
theorem goes_dic {K : PySem.W.Frag} {F : Hp} {a : Addr} {od : Obj} {es : List (Tx × D)} {kvs : List (Key × V)} (r : RepK K F es kvs) : Goes K (Itk a od kvs) F [(a, .frz od (.dK kvs))] (keysD es) := fun F' H' i f e hS => by
  have q := hS _ (List.mem_singleton.mpr rfl)
  refine ⟨fun hi => ⟨q, ?_⟩, fun d hd => ?_⟩
  · rw [← r.length]; simp [keysD] at hi; omega
  · have l : i < es.length := by
      have := (List.getElem?_eq_some_iff.mp hd).1
      simpa [keysD] using this
    refine ⟨⟨q, by rw [← r.length]; exact l⟩, fun x H'' ⟨e1, k, v, e2, e3⟩ => ?_⟩
    subst e1
    have he : es[i]? = some es[i] := List.getElem?_eq_getElem l
    obtain ⟨w, h1, h2⟩ := r.get (k := es[i].1) (d := es[i].2) he
    rw [h1] at e2
    cases e2
    have : d = .str es[i].1 := by simp [keysD, he] at hd; exact hd.symm
    subst this
    subst e3
    exact ⟨F', .refl e, .str _⟩
def rngD (lo : Int) (n : Nat) : List D := (List.range n).map fun i => .int (lo + (i : Nat))
theorem goes_rng {K : PySem.W.Frag} {F : Hp} {lo : Int} {n : Nat} : Goes K (Itr lo n) F [] (rngD lo n) := fun F' H' i f e _ => by
  refine ⟨fun hi => ?_, fun d hd => ?_⟩
  · show n ≤ i
    simp [rngD] at hi; omega
  · have l : i < n := by
      have := (List.getElem?_eq_some_iff.mp hd).1
      simpa [rngD] using this
    refine ⟨l, fun x H'' ⟨e1, e2⟩ => ?_⟩
    subst e1
    have : d = .int (lo + (i : Nat)) := by simp [rngD, l] at hd; exact hd.symm
    subst this
    subst e2
    exact ⟨F', .refl e, .int _⟩
def enuD (ds : List D) : List D := ds.zipIdx.map fun p => .tup [.int (p.2 : Nat), p.1]
theorem enuD_get {ds : List D} {i : Nat} {d : D} (h : (enuD ds)[i]? = some d) : ∃ e, ds[i]? = some e ∧ d = .tup [.int (i : Nat), e] := by
  simp only [enuD, List.getElem?_map, List.getElem?_zipIdx, Option.map_eq_some_iff] at h
  obtain ⟨p, ⟨e, h1, h2⟩, h3⟩ := h
  subst h2
  exact ⟨e, h1, by rw [← h3]; simp⟩
theorem goes_enu {K : PySem.W.Frag} {F : Hp} {a : Addr} {ds : List D} {vs : List V} (h : SqL K F a vs) (r : Reps K F ds vs) : Goes K (Ite K a) F [] (enuD ds) := fun F' H' i f e _ => by
  have q := e.sql (f.seq h)
  refine ⟨fun hi => ⟨vs, q, by rw [← r.length]; simp [enuD] at hi; omega⟩, fun d hd => ?_⟩
  obtain ⟨d', hd', rfl⟩ := enuD_get hd
  obtain ⟨v, hv, p⟩ := r.get hd'
  refine ⟨⟨vs, v, q, hv⟩, fun x H'' ⟨T, y, e1, nT, e2, e3⟩ => ?_⟩
  subst e1 e2
  have : v = y := Option.some.inj (hv.symm.trans (e3 vs q))
  subst this
  exact ⟨_, .new e nT _, .tup (.inl (.inl upd_same)) (.cons (.int _) (.cons ((p.mono f).mono (same_upd (e.free nT))) .nil))⟩
def zipD (ds es : List D) : List D := (ds.zip es).map fun p => .tup [p.1, p.2]
theorem goes_zip {K : PySem.W.Frag} {F : Hp} {a b : Addr} {ds es : List D} {vs us : List V} (h : SqL K F a vs) (r : Reps K F ds vs) (h2 : SqL K F b us) (r2 : Reps K F es us) : Goes K (Itz K a b) F [] (zipD ds es) := fun F' H' i f e _ => by
  have q := e.sql (f.seq h)
  have q2 := e.sql (f.seq h2)
  refine ⟨fun hi => ⟨vs, us, q, q2, by rw [← r.length, ← r2.length]; simp [zipD, List.length_zip] at hi; omega⟩, fun d hd => ?_⟩
  simp only [zipD, List.getElem?_map, Option.map_eq_some_iff, List.getElem?_zip_eq_some] at hd
  obtain ⟨p, ⟨h3, h4⟩, rfl⟩ := hd
  obtain ⟨v, hv, p1⟩ := r.get h3
  obtain ⟨u, hu, p2⟩ := r2.get h4
  refine ⟨⟨vs, us, v, u, q, q2, hv, hu⟩, fun x H'' ⟨T, y, z, e1, nT, e2, e3, e4⟩ => ?_⟩
  subst e1 e2
  have : v = y := Option.some.inj (hv.symm.trans (e3 vs q))
  subst this
  have : u = z := Option.some.inj (hu.symm.trans (e4 us q2))
  subst this
  have s := same_upd (F := F') (o := .tup [v, u]) (e.free nT)
  exact ⟨_, .new e nT _, .tup (.inl (.inl upd_same)) (.cons ((p1.mono f).mono s) (.cons ((p2.mono f).mono s) .nil))⟩
def rdI (K : PySem.W.Frag) (W : WN) (f : Ga → R (List D)) : TI := fun σ H Rr => ∃ F γ, RS K F γ σ H ∧ (match f γ with
  | .ok ds => ∀ J F' H', Nxt F H F' H' → Goes K J F' [] ds → Rr J H'
  | .ex c => ∀ F' H', Nxt F H F' H' → W c σ H'
  | .no => False)
structure JI (X : Cx) (W : WN) (f : Ga → R (List D)) (tg it : Expr) : Prop where
  pi : PI X tg it (rdI X.K W f)
theorem PI.imp {X : Cx} {tg e : Expr} {t t' : TI} (h : PI X tg e t) (i : ∀ σ H Q, t' σ H Q → t σ H Q) : PI X tg e t' := ⟨fun pins s σ H Q I q => h.run pins s σ H Q I (i σ H Q q)⟩
/-- any value: list, tuple, text; a dict is locked meanwhile -/
def items : D → R (List D)
  | .lst xs => .ok xs
  | .tup xs => .ok xs
  | .str s => .ok (sgn s)
  | .dic es => .ok (keysD es)
  | _ => .no
def rdE (X : Cx) (W : WN) (f : Ga → R D) : TI := fun σ H Rr => ∃ F γ, RS X.K F γ σ H ∧ (match f γ with
  | .ok (.dic es) => ∀ J F' H' d od kvs, Nxt F H F' H' → F' d = some (.dK kvs) → Goes X.K J F' [(d, .frz od (.dK kvs))] (keysD es) →
      ((H' d = some (.dK kvs) → (∀ o' u', X.H_0 d ≠ some (.frz o' u')) → Rr J (upd H' d (.frz od (.dK kvs)))) ∧ (H' d = some (.frz od (.dK kvs)) → Rr J H'))
  | .ok d => ∃ ds, items d = .ok ds ∧ ∀ J F' H', Nxt F H F' H' → Goes X.K J F' [] ds → Rr J H'
  | .ex c => ∀ F' H', Nxt F H F' H' → W c σ H'
  | .no => False)
section
variable {X : Cx} {W : WN} {fe fa fb : Ga → R D} {tg e a b : Expr} {pos p : Pos}
theorem pi_any (he : J X W fe e) : PI X tg e (rdE X W fe) := ⟨fun pins s σ H Rr I h => by
  obtain ⟨F, γ, r, o⟩ := h
  cases e1 : fe γ with
  | ok d =>
    rw [e1] at o
    cases d
    case non => obtain ⟨_, z, _⟩ := o; cases z
    case bl _ => obtain ⟨_, z, _⟩ := o; cases z
    case int _ => obtain ⟨_, z, _⟩ := o; cases z
    case str z =>
      obtain ⟨ds, z1, o⟩ := o
      cases z1
      refine (pi_str he.pe).run pins s σ H Rr I ⟨F, γ, r, ?_⟩
      rw [e1]
      intro v F' H' n p
      cases p
      exact ⟨toS z, rfl, o _ F' H' n goes_str⟩
    case lst xs =>
      obtain ⟨ds, z1, o⟩ := o
      cases z1
      refine (pi_list he.pe).run pins s σ H Rr I ⟨F, γ, r, ?_⟩
      rw [e1]
      intro v F' H' n p
      cases p with | lst h1 h2 => exact ⟨_, rfl, ⟨_, n.emb.sql h1⟩, o _ F' H' n (goes_list h1 h2)⟩
    case tup xs =>
      obtain ⟨ds, z1, o⟩ := o
      cases z1
      refine (pi_tup he.pe).run pins s σ H Rr I ⟨F, γ, r, ?_⟩
      rw [e1]
      intro v F' H' n p
      cases p with | tup h1 h2 => exact ⟨_, rfl, ⟨_, n.emb.sqt h1⟩, o _ F' H' n (goes_tup h1 h2)⟩
    case dic es =>
      have h0 : rdV X.K W fe σ H (fun x H1 => ∃ d kvs F', x = .ref d ∧ Nxt F H F' H1 ∧ F' d = some (.dK kvs) ∧ RepK X.K F' es kvs) := by
        refine ⟨F, γ, r, ?_⟩
        rw [e1]
        intro v F' H' n p
        cases p with | dic h1 h2 => exact ⟨_, _, F', rfl, n, h1, h2⟩
      refine thn (he.pe.run pins s σ H _ I h0) fun u s1 ⟨x, H1, I1, rx, d, kvs, F', ex, n, hd, hk⟩ => ?_
      subst ex
      obtain rfl : u = Value.ref d := rx
      have fin : ∀ {od : Obj} {H2 : Hp}, Inv X pins σ H2 s1 → H2 d = some (.frz od (.dK kvs)) → Rr (Itk d od kvs) H2 → wpAny (model X.prog X.w) X.A (pyIter (.ref d)) (PIE X pins σ tg Rr) X.xe s1 := fun {od H2} I2 hd2 q => by
        obtain ⟨hs, hgd, hx, es, ep, vs, hdt, hsz, kv, hm⟩ := I2.frzK hd2
        refine iter_keys hs hgd hx hdt (pi_one (tk := s1.toks) I2 _ (turn_keys _ hdt) ⟨_, Heap.get?_push_size _ rfl, rfl, ?_⟩ q)
        rw [hsz] <;> rfl
      rcases n.emb d _ hd with z | ⟨ob, kvs', e2, z⟩
      · obtain ⟨od, I2⟩ := I1.lock z trivial
        exact fin I2 upd_same ((o _ F' H1 d od kvs n hd (goes_dic hk)).1 z (I1.nofrz z trivial))
      · cases e2
        exact fin I1 z ((o _ F' H1 d ob kvs n hd (goes_dic hk)).2 z)
  | ex c =>
    rw [e1] at o
    refine (pi_list he.pe).run pins s σ H Rr I ⟨F, γ, r, ?_⟩
    rw [e1]
    exact o
  | no => rw [e1] at o; exact o.elim⟩
def i2n : D → R Int
  | .int i => if i.natAbs < 2 ^ 62 then .ok i else .no
  | _ => .no
def iR1 (fa : Ga → R D) : Ga → R (List D) := fun γ => (fa γ).bind fun d => (i2n d).bind fun j => .ok (rngD 0 j.toNat)
def iR2 (fa fb : Ga → R D) : Ga → R (List D) := fun γ => (fa γ).bind fun d => (fb γ).bind fun d' => (i2n d).bind fun i => (i2n d').bind fun j => .ok (rngD i (j - i).toNat)
theorem i2n_ok {d : D} {i : Int} (h : i2n d = .ok i) : d = .int i ∧ -(2 ^ 62) ≤ i ∧ i < 2 ^ 62 := by
  cases d <;> simp only [i2n] at h <;> first | (cases h; done) | skip
  split at h
  · cases h; exact ⟨rfl, by omega, by omega⟩
  · cases h
theorem i2n_ne {d : D} {c : Nat} : i2n d ≠ .ex c := by
  cases d <;> simp only [i2n] <;> first | (intro h; cases h; done) | (split <;> intro h <;> cases h)
theorem ji_r1 (hm : X.mg "range" = none) (ha : J X W fa a) (hg : Gl X "range" := by rfl) (hs : starEach [a] X.env = [(false, eval a X.env)] := by rfl) (hs1 : starEach [a] X.env = (false, eval a X.env) :: starEach [] X.env := by rfl) : JI X W (iR1 fa) tg (.Call (.Name "range" p) [a] [] pos) :=
  ⟨PI.imp (pi_range1 hg hm (pa_cons ha.pe pa_nil hs1) hs) fun σ H Rr ⟨F, γ, r, o⟩ => by
    refine ⟨F, γ, r, ?_⟩
    unfold iR1 at o
    cases e1 : fa γ with
    | ok d =>
      simp only [e1, R.bind] at o
      intro v F' H' n p
      cases e2 : i2n d with
      | ok j =>
        obtain ⟨rfl, h1, h2⟩ := i2n_ok e2
        cases p
        simp only [e2] at o
        exact ⟨j, rfl, h1, h2, o _ F' H' n goes_rng⟩
      | ex c => exact absurd e2 i2n_ne
      | no => simp only [e2] at o
    | ex c => simp only [e1, R.bind] at o; exact o
    | no => simp only [e1, R.bind] at o⟩
theorem ji_r2 (hm : X.mg "range" = none) (ha : J X W fa a) (hb : J X W fb b) (hg : Gl X "range" := by rfl) (hs : starEach [a, b] X.env = [(false, eval a X.env), (false, eval b X.env)] := by rfl) (hs2 : starEach [b] X.env = [(false, eval b X.env)] := by rfl)
    (hs3 : starEach [a, b] X.env = (false, eval a X.env) :: starEach [b] X.env := by rfl) (hs4 : starEach [b] X.env = (false, eval b X.env) :: starEach [] X.env := by rfl) : JI X W (iR2 fa fb) tg (.Call (.Name "range" p) [a, b] [] pos) :=
  ⟨PI.imp (pi_range2 hg hm (pa_cons ha.pe (pa_cons hb.pe pa_nil hs4) hs3) hs hs2) fun σ H Rr ⟨F, γ, r, o⟩ => by
    refine ⟨F, γ, r, ?_⟩
    unfold iR2 at o
    cases e1 : fa γ with
    | ok d =>
      simp only [e1, R.bind] at o
      intro v F1 H1 n1 p1
      refine ⟨F1, γ, r.next n1, ?_⟩
      cases e2 : fb γ with
      | ok d' =>
        simp only [e2] at o
        intro u F2 H2 n2 p2
        cases e3 : i2n d with
        | ok i =>
          obtain ⟨rfl, h1, h2⟩ := i2n_ok e3
          simp only [e3] at o
          cases e4 : i2n d' with
          | ok j =>
            obtain ⟨rfl, h3, h4⟩ := i2n_ok e4
            simp only [e4] at o
            cases p1
            cases p2
            exact ⟨i, j, rfl, ⟨h1, h2, h3, h4⟩, o _ F2 H2 (n1.trans n2) goes_rng⟩
          | ex c => exact absurd e4 i2n_ne
          | no => simp only [e4] at o
        | ex c => exact absurd e3 i2n_ne
        | no => simp only [e3] at o
      | ex c => simp only [e2] at o; exact fun F' H' m => o F' H' (n1.trans m)
      | no => simp only [e2] at o
    | ex c => simp only [e1, R.bind] at o; exact o
    | no => simp only [e1, R.bind] at o⟩
def asL : D → R (List D)
  | .lst xs => .ok xs
  | _ => .no
def iEn (fa : Ga → R D) : Ga → R (List D) := fun γ => (fa γ).bind fun d => (asL d).bind fun xs => .ok (enuD xs)
theorem ji_en {elts : List Expr} {kk : Nat} {tpos : Pos} (hm : X.mg "enumerate" = none) (ha : J X W fa a) (hg : Gl X "enumerate" := by rfl) (hs : starEach [a] X.env = [(false, eval a X.env)] := by rfl) (hs1 : starEach [a] X.env = (false, eval a X.env) :: starEach [] X.env := by rfl) :
    JI X W (iEn fa) (.Tuple elts kk tpos) (.Call (.Name "enumerate" p) [a] [] pos) :=
  ⟨PI.imp (pi_enum hg hm (pa_cons ha.pe pa_nil hs1) hs) fun σ H Rr ⟨F, γ, r, o⟩ => by
    refine ⟨F, γ, r, ?_⟩
    unfold iEn at o
    cases e1 : fa γ with
    | ok d =>
      simp only [e1, R.bind] at o
      intro v F' H' n p
      cases d <;> simp only [asL] at o
      cases p with | lst h1 h2 => exact ⟨_, _, rfl, n.emb.sql h1, o _ F' H' n (goes_enu h1 h2)⟩
    | ex c => simp only [e1, R.bind] at o; exact o
    | no => simp only [e1, R.bind] at o⟩
end
end KN
/-! KnG: loops, comprehensions, defs -/
namespace KN
open PySem PySem.Spec PyProof.Rows L2
/-! ### unlocking -/
def Ul (X : Cx) (Q : Hp → Prop) (H : Hp) : Prop := Q H ∨ ∃ d od u, H d = some (.frz od u) ∧ (∀ o' u', X.H_0 d ≠ some (.frz o' u')) ∧ Q (upd H d u)
def unlE (X : Cx) (E : Ends) : Ends := ⟨fun σ => Ul X (E.nx σ), fun v => Ul X (E.rt v), fun σ => Ul X (E.bk σ), fun σ => Ul X (E.ct σ)⟩
section
variable {X : Cx} {pins : List (Addr × Obj)} {σ : L2.St} {H : Hp} {s : Shared}
theorem Ul.run {Q : Hp → Prop} (I : Inv X pins σ H s) (u : Ul X Q H) : ∃ H', Inv X pins σ H' s ∧ Q H' := by
  rcases u with q | ⟨d, od, u, h, hn, q⟩
  · exact ⟨H, I, q⟩
  · exact ⟨_, I.unlock h hn, q⟩
theorem ps_unl {st : Stmt} {t : TS} (h : PS X st t) : PS X st (fun E => t (unlE X E)) := ⟨fun pins s σ H E I hw => by
  refine thn (h.run pins s σ H _ I hw) fun f s1 q => ?_
  cases f with
  | next => obtain ⟨σ', H', I2, q⟩ := q; obtain ⟨H2, I3, q⟩ := Ul.run I2 q; exact ⟨σ', H2, I3, q⟩
  | brk => obtain ⟨σ', H', I2, q⟩ := q; obtain ⟨H2, I3, q⟩ := Ul.run I2 q; exact ⟨σ', H2, I3, q⟩
  | cont => obtain ⟨σ', H', I2, q⟩ := q; obtain ⟨H2, I3, q⟩ := Ul.run I2 q; exact ⟨σ', H2, I3, q⟩
  | ret v => obtain ⟨x, σ', H', I2, r, q⟩ := q; obtain ⟨H2, I3, q⟩ := Ul.run I2 q; exact ⟨x, σ', H2, I3, r, q⟩⟩
theorem pe_unl {e : Expr} {t : TE} (h : PE X e t) : PE X e (fun σ H Q => t σ H fun v => Ul X (Q v)) := ⟨fun pins s σ H Q I hw => by
  refine thn (h.run pins s σ H _ I hw) fun v s1 ⟨x, H1, I2, r, q⟩ => ?_
  obtain ⟨H2, I3, q⟩ := Ul.run I2 q
  exact ⟨x, H2, I3, r, q⟩⟩
end
/-! ### for -/
def forGo (bd : D → Ga → R Ga) (body : Ga → R Fl) : List D → Ga → R Fl
  | [], γ => .ok (.nx γ)
  | x :: xs, γ => (bd x γ).bind fun γ1 => match body γ1 with
    | .ok (.nx γ2) => forGo bd body xs γ2
    | .ok (.ct γ2) => forGo bd body xs γ2
    | .ok (.bk γ2) => .ok (.nx γ2)
    | .ok (.rt d) => .ok (.rt d)
    | .ok (.rx _) => .no
    | .ex c => .ex c
    | .no => .no
/-- a loop's end is no changed object's -/
theorem forGo_rm {bd : D → Ga → R Ga} {body : Ga → R Fl} : ∀ (ds : List D) (γ : Ga) (y : Rx), forGo bd body ds γ ≠ .ok (.rx y)
  | [], γ, _ => fun h => by cases h
  | x :: xs, γ, y => fun h => by
    simp only [forGo] at h
    cases e : bd x γ with
    | ok γ1 =>
      simp only [e, R.bind] at h
      cases e2 : body γ1 with
      | ok fl =>
        rw [e2] at h
        cases fl with
        | nx γ2 => exact forGo_rm xs γ2 y h
        | ct γ2 => exact forGo_rm xs γ2 y h
        | bk γ2 => cases h
        | rt d => cases h
        | rx _ => cases h
      | ex c => rw [e2] at h; cases h
      | no => rw [e2] at h; cases h
    | ex c => simp only [e, R.bind] at h; cases h
    | no => simp only [e, R.bind] at h; cases h
/-- bd raises nothing -/
def BdOk (bd : D → Ga → R Ga) : Prop := ∀ d γ c, bd d γ ≠ .ex c
theorem bdN_ok {i : Nat} : BdOk (bdN i) := fun d γ c h => by cases h
theorem bdT_ok {is : List Nat} : BdOk (bdT is) := fun d γ c => by
  cases d <;> first | (intro h; cases h; done) | exact bd_ne _ _ _ _
theorem Fin.weak {B : Bs} {F1 F H : Hp} {h : Same B.F0 F1} {hn : ∀ a o, F1 a = some o → B.F0 a = some o ∨ B.H0 a = none} (f : Fin { B with F0 := F1 } F H) : Fin B F H :=
  ⟨h.trans f.f0, fun a o e => by
    rcases f.fn a o e with z | z
    · exact hn a o z
    · exact .inr z, f.emb, f.h0, f.sS⟩
theorem RB.weak {K : PySem.W.Frag} {B : Bs} {F1 F H : Hp} {γ : Ga} {σ : L2.St} (h : Same B.F0 F1) (hn : ∀ a o, F1 a = some o → B.F0 a = some o ∨ B.H0 a = none) (r : RB K { B with F0 := F1 } F γ σ H) : RB K B F γ σ H := ⟨r.rs, Fin.weak (h := h) (hn := hn) r.fi, r.ow, r.lk⟩
theorem RB.strong {K : PySem.W.Frag} {B : Bs} {F H : Hp} {γ : Ga} {σ : L2.St} (r : RB K B F γ σ H) : RB K { B with F0 := F } F γ σ H := ⟨r.rs, ⟨.refl _, fun _ _ e => .inl e, r.fi.emb, r.fi.h0, r.fi.sS⟩, r.ow, r.lk⟩
/-- the loop from a turn on -/
theorem for_core {X : Cx} {W : WN} {bd : D → Ga → R Ga} {body : Ga → R Fl} {is : List Nat} {t : TG} {tg : Expr} {J : It} {F0 H0 : Hp} {S : List (Addr × HO)} {ds : List D} {B : Bs} {E : Ends} {γ : Ga} {σ : L2.St} {tb : TS} (hbd : BdOk bd) (hg : JG X is bd t tg)
    (htb : ∀ D σ H, rdS X.K W body D σ H → tb D σ H) (gs : Goes X.K J F0 S ds) (hS : ∀ p ∈ S, p ∈ B.S) (r : RB X.K B F0 γ σ H0) (o : OutS X.K W B (forGo bd body ds γ) E) :
    ∃ Wi : Nat → Nat → L2.St → Hp → Prop, (∃ m, Wi 0 m σ H0) ∧ ∀ i m σ H, Wi i m σ H → (J.stop i H ∧ E.nx σ H) ∨
      (J.go i H ∧ ∃ N : L2.St → Hp → Prop, (∀ σ' H', N σ' H' → ∃ m', m' < m ∧ Wi (i + 1) m' σ' H') ∧ ∀ x H', J.yld i H x H' → t x σ H' fun σ2 H2 => tb { E with nx := N, ct := N, bk := E.nx } σ2 H2) := by
  refine ⟨fun i m σ H => ∃ F γ, Same F0 F ∧ RB X.K B F γ σ H ∧ OutS X.K W B (forGo bd body (ds.drop i) γ) E ∧ m = ds.length - i ∧ i ≤ ds.length, ⟨ds.length, F0, γ, .refl _, r, o, rfl, Nat.zero_le _⟩, ?_⟩
  rintro i m σ1 H1 ⟨F1, γ1, f1, r1, o1, rfl, hi⟩
  obtain ⟨g1, g2⟩ := gs F1 H1 i f1 r1.rs.emb fun p hp => (r1.fi.sS p (hS p hp)).1
  by_cases hl : i < ds.length
  · have hd : ds[i]? = some ds[i] := List.getElem?_eq_getElem hl
    obtain ⟨go, gy⟩ := g2 _ hd
    refine .inr ⟨go, fun σ' H' => ∃ F γ, Same F0 F ∧ RB X.K B F γ σ' H' ∧ OutS X.K W B (forGo bd body (ds.drop (i + 1)) γ) E, fun σ' H' ⟨F, γ', a, b, c⟩ => ⟨ds.length - (i + 1), by omega, F, γ', a, b, c, rfl, hl⟩, fun x H' hy => ?_⟩
    obtain ⟨F2, n2, p2⟩ := gy x H' hy
    have r2 := r1.next n2
    rw [List.drop_eq_getElem_cons hl] at o1
    simp only [forGo] at o1
    cases e1 : bd ds[i] γ1 with
    | ok γ2 =>
      simp only [e1, R.bind] at o1
      refine hg.go r2.rs p2 e1 fun σ2 rs2 k => ?_
      have r3 := r2.kp rs2 k
      refine htb _ _ _ ⟨{ B with F0 := F2 }, F2, γ2, r3.strong, ?_⟩
      have back : ∀ {F γ σ H}, RB X.K { B with F0 := F2 } F γ σ H → RB X.K B F γ σ H := fun q => q.weak r2.fi.f0 r2.fi.fn
      cases e2 : body γ2 with
      | ok fl =>
        rw [e2] at o1
        cases fl with
        | nx γ3 => exact fun F σ H q => ⟨F, γ3, (f1.trans n2.f).trans q.fi.f0, back q, o1⟩
        | ct γ3 => exact fun F σ H q => ⟨F, γ3, (f1.trans n2.f).trans q.fi.f0, back q, o1⟩
        | bk γ3 => exact fun F σ H q => o1 F σ H (back q)
        | rt d => exact fun v F H q p => o1 v F H (Fin.weak (h := r2.fi.f0) (hn := r2.fi.fn) q) p
        | rx _ => exact o1.elim
      | ex c => rw [e2] at o1; exact fun σ F H q => o1 σ F H (Fin.weak (h := r2.fi.f0) (hn := r2.fi.fn) q)
      | no => rw [e2] at o1; exact o1
    | ex c => exact absurd e1 (hbd _ _ _)
    | no => simp only [e1, R.bind] at o1; exact o1.elim
  · have hi' : i = ds.length := by omega
    refine .inl ⟨g1 hi', ?_⟩
    rw [List.drop_eq_nil_of_le (by omega)] at o1
    exact o1 F1 σ1 H1 r1
def fForI (it : Ga → R (List D)) (bd : D → Ga → R Ga) (body : Ga → R Fl) : Ga → R Fl := fun γ => (it γ).bind fun ds => forGo bd body ds γ
def fForE (fe : Ga → R D) (bd : D → Ga → R Ga) (body : Ga → R Fl) : Ga → R Fl := fun γ => (fe γ).bind fun d => match d with
  | .dic es => (forGo bd body (keysD es) γ).noex
  | d => (items d).bind fun ds => forGo bd body ds γ
section
variable {X : Cx} {W : WN} {bd : D → Ga → R Ga} {body : Ga → R Fl} {is : List Nat} {t : TG} {tg iter : Expr} {it : Ga → R (List D)} {fe : Ga → R D} {sts : List Stmt} {pos : Pos}
theorem js_forI (hp : PassesOwn (model X.prog X.w) X.A X.env X.xe) (hc : X.calm = true) (hbd : BdOk bd) (hi : JI X W it tg iter) (hg : JG X is bd t tg) (hb : JSs X W body sts) (hs : ∀ x, foldedSetIterable iter X.env x = pure x := by intro _; rfl) :
    JS X W (fForI it bd body) (.For tg iter sts [] pos) := ⟨PS.imp (ps_for hp hc hi.pi hg.pg hb.pss hs) fun E σ H ⟨B, F, γ, r, o⟩ => by
  refine ⟨F, γ, r.rs, ?_⟩
  unfold fForI at o
  cases e1 : it γ with
  | ok ds =>
    simp only [e1, R.bind] at o
    exact fun J F' H' n gs => for_core hbd hg (fun _ _ _ h => h) gs (fun _ h => nomatch h) (r.next n) o
  | ex c => simp only [e1, R.bind] at o; exact fun F' H' n => o σ F' H' (r.fi.next n)
  | no => simp only [e1, R.bind] at o; exact o⟩
/-- locked, unlocked -/
theorem RB.lock {K : PySem.W.Frag} {B : Bs} {F H : Hp} {γ : Ga} {σ : L2.St} (r : RB K B F γ σ H) {d : Addr} {od : Obj} {kvs : List (Key × V)} (hF : F d = some (.dK kvs)) (hH : H d = some (.dK kvs)) :
    RB K { B with S := (d, .frz od (.dK kvs)) :: B.S } F γ σ (upd H d (.frz od (.dK kvs))) := by
  have em : Emb F (upd H d (.frz od (.dK kvs))) := fun a o e => by
    by_cases q : a = d
    · subst q; rw [hF] at e; cases e; exact .inr ⟨od, kvs, rfl, upd_same⟩
    · rw [upd_ne q]; exact r.rs.emb a o e
  have ks : ∀ b u, F b = none → H b = some u → upd H d (.frz od (.dK kvs)) b = some u := fun b u h1 h2 => by
    rw [upd_ne]
    · exact h2
    · rintro rfl; rw [h1] at hF; cases hF
  have bk : ∀ i s b, γ[i]? = some s → Inn (upd H d (.frz od (.dK kvs))) s σ[i]? b → Inn H s σ[i]? b := fun i s b e h => h.back (r.rs.sl i s e) fun b u h1 h2 => ks b u (h1.have (r.rs.sl i s e)).1 h2
  refine ⟨⟨em, r.rs.len, fun i s e => (r.rs.sl i s e).keep (.refl _) fun b u _ h1 h2 => ⟨ks b u h1 h2, h1⟩, fun i j s s' b e1 e2 h1 h2 => r.rs.apart i j s s' b e1 e2 (bk _ _ b e1 h1) (bk _ _ b e2 h2)⟩, ⟨r.fi.f0, r.fi.fn, em, fun b o e => ?_, fun p hp => ?_⟩, fun i s b e h => r.ow i s b e (bk i s b e h), r.lk⟩
  · by_cases q : b = d
    · subst q
      rcases r.fi.h0 b o e with z | ⟨ob, k2, z1, z2⟩
      · rw [hH] at z; cases z; exact .inr ⟨od, kvs, rfl, List.mem_cons_self⟩
      · have := (r.fi.sS _ z2).1; rw [hH] at this; cases this
    · rw [upd_ne q]
      rcases r.fi.h0 b o e with z | ⟨ob, k2, z1, z2⟩
      · exact .inl z
      · exact .inr ⟨ob, k2, z1, List.mem_cons_of_mem _ z2⟩
  · rcases List.mem_cons.mp hp with e | hp
    · subst e; exact ⟨upd_same, od, kvs, rfl, hF⟩
    · obtain ⟨y1, ob, u, y2, y3⟩ := r.fi.sS p hp
      have q : p.1 ≠ d := by
        intro z
        rw [z, hH] at y1
        rw [y2] at y1
        cases y1
      rw [upd_ne q]; exact ⟨y1, ob, u, y2, y3⟩
theorem Fin.unlock {B : Bs} {F H : Hp} {d : Addr} {od : Obj} {kvs : List (Key × V)} (f : Fin { B with S := (d, .frz od (.dK kvs)) :: B.S } F H) (hd : ∀ p ∈ B.S, p.1 ≠ d) (h0 : ∀ o' u', B.H0 d ≠ some (.frz o' u')) : Fin B F (upd H d (.dK kvs)) := by
  obtain ⟨y1, ob, u, y2, y3⟩ := f.sS _ List.mem_cons_self
  cases y2
  refine ⟨f.f0, f.fn, fun a o e => ?_, fun b o e => ?_, fun p hp => ?_⟩
  · by_cases q : a = d
    · subst q; rw [y3] at e; cases e; exact .inl upd_same
    · rw [upd_ne q]; exact f.emb a o e
  · by_cases q : b = d
    · subst q
      rcases f.h0 b o e with z | ⟨ob, k2, z1, z2⟩
      · rw [y1] at z; cases z; exact absurd e (h0 _ _)
      · have := (f.sS _ z2).1
        rw [y1] at this
        cases this
        exact .inl (by rw [z1]; exact upd_same)
    · rw [upd_ne q]
      rcases f.h0 b o e with z | ⟨ob, k2, z1, z2⟩
      · exact .inl z
      · rcases List.mem_cons.mp z2 with w | w
        · exact absurd (Prod.mk.inj w).1 q
        · exact .inr ⟨ob, k2, z1, w⟩
  · obtain ⟨z1, z2⟩ := f.sS p (List.mem_cons_of_mem _ hp)
    rw [upd_ne (hd p hp)]; exact ⟨z1, z2⟩
theorem RB.unlock {K : PySem.W.Frag} {B : Bs} {F H : Hp} {γ : Ga} {σ : L2.St} {d : Addr} {od : Obj} {kvs : List (Key × V)} (r : RB K { B with S := (d, .frz od (.dK kvs)) :: B.S } F γ σ H) (hd : ∀ p ∈ B.S, p.1 ≠ d) (h0 : ∀ o' u', B.H0 d ≠ some (.frz o' u')) :
    RB K B F γ σ (upd H d (.dK kvs)) := by
  have f := r.fi.unlock hd h0
  obtain ⟨y1, ob, u, y2, y3⟩ := r.fi.sS _ List.mem_cons_self
  cases y2
  have ks : ∀ b u, F b = none → H b = some u → upd H d (.dK kvs) b = some u := fun b u h1 h2 => by
    rw [upd_ne]
    · exact h2
    · rintro rfl; rw [h1] at y3; cases y3
  have bk : ∀ i s b, γ[i]? = some s → Inn (upd H d (.dK kvs)) s σ[i]? b → Inn H s σ[i]? b := fun i s b e h => h.back (r.rs.sl i s e) fun b u h1 h2 => ks b u (h1.have (r.rs.sl i s e)).1 h2
  exact ⟨⟨f.emb, r.rs.len, fun i s e => (r.rs.sl i s e).keep (.refl _) fun b u _ h1 h2 => ⟨ks b u h1 h2, h1⟩, fun i j s s' b e1 e2 h1 h2 => r.rs.apart i j s s' b e1 e2 (bk _ _ b e1 h1) (bk _ _ b e2 h2)⟩, f, fun i s b e h => r.ow i s b e (bk i s b e h), r.lk⟩
theorem RB.pin {K : PySem.W.Frag} {B : Bs} {F H : Hp} {γ : Ga} {σ : L2.St} (r : RB K B F γ σ H) {d : Addr} {od : Obj} {kvs : List (Key × V)} (hF : F d = some (.dK kvs)) (hH : H d = some (.frz od (.dK kvs))) :
    RB K { B with S := (d, .frz od (.dK kvs)) :: B.S } F γ σ H :=
  ⟨r.rs, ⟨r.fi.f0, r.fi.fn, r.fi.emb, fun b o e => by
    rcases r.fi.h0 b o e with z | ⟨ob, k2, z1, z2⟩
    · exact .inl z
    · exact .inr ⟨ob, k2, z1, List.mem_cons_of_mem _ z2⟩, fun p hp => by
    rcases List.mem_cons.mp hp with e | hp
    · subst e; exact ⟨hH, od, kvs, rfl, hF⟩
    · exact r.fi.sS p hp⟩, r.ow, r.lk⟩
theorem Fin.unpin {B : Bs} {F H : Hp} {d : Addr} {od : Obj} {kvs : List (Key × V)} (f : Fin { B with S := (d, .frz od (.dK kvs)) :: B.S } F H)
    (hq : ∀ o, B.H0 d = some o → o = .frz od (.dK kvs) ∨ ∃ ob kvs, o = .dK kvs ∧ (d, HO.frz ob (.dK kvs)) ∈ B.S) : Fin B F H :=
  ⟨f.f0, f.fn, f.emb, fun b o e => by
    rcases f.h0 b o e with z | ⟨ob, k2, z1, z2⟩
    · exact .inl z
    · rcases List.mem_cons.mp z2 with w | w
      · have e1 := (Prod.mk.inj w).1
        subst e1
        rcases hq o e with y | y
        · exact .inl (by rw [y]; exact (f.sS _ List.mem_cons_self).1)
        · exact .inr y
      · exact .inr ⟨ob, k2, z1, w⟩, fun p hp => f.sS p (List.mem_cons_of_mem _ hp)⟩
theorem js_forE (hp : PassesOwn (model X.prog X.w) X.A X.env X.xe) (hc : X.calm = true) (hbd : BdOk bd) (he : J X W fe iter) (hg : JG X is bd t tg) (hb : JSs X W body sts) (hs : ∀ x, foldedSetIterable iter X.env x = pure x := by intro _; rfl) :
    JS X W (fForE fe bd body) (.For tg iter sts [] pos) := ⟨PS.imp (ps_unl (ps_for hp hc (pi_any he) hg.pg hb.pss hs)) fun E σ H ⟨B, F, γ, r, o⟩ => by
  refine ⟨F, γ, r.rs, ?_⟩
  unfold fForE at o
  have up : ∀ {B : Bs} {x : R Fl}, OutS X.K W B x E → OutS X.K W B x (unlE X E) := fun {B x} o => by
    cases x with
    | ok fl => cases fl with
      | nx γ => exact fun F σ H q => .inl (o F σ H q)
      | bk γ => exact fun F σ H q => .inl (o F σ H q)
      | ct γ => exact fun F σ H q => .inl (o F σ H q)
      | rt d => exact fun v F H q p => .inl (o v F H q p)
      | rx x => cases x with
        | rm d γ' => cases d with
          | none => exact ⟨o.1, fun F σ H q => .inl (o.2 F σ H q)⟩
          | some d => exact ⟨o.1, fun v F σ H q p => .inl (o.2 v F σ H q p)⟩
        | ro c fs => exact fun a F H q p p2 => .inl (o a F H q p p2)
    | ex c => exact o
    | no => exact o
  cases e1 : fe γ with
  | ok d =>
    simp only [e1, R.bind] at o
    cases d
    case dic es =>
      intro J F' H' d od kvs n hd gs
      have r' := r.next n
      have o : OutS X.K W B (forGo bd body (keysD es) γ).noex E := o
      have cv : ∀ {S' : List (Addr × HO)}, (∀ F γ σ H, RB X.K { B with S := S' } F γ σ H → ∀ {T : L2.St → Hp → Prop}, (∀ F σ H, RB X.K B F γ σ H → T σ H) → Ul X (T σ) H) →
          (∀ F H, Fin { B with S := S' } F H → ∀ {x : D} {T : V → Hp → Prop} {v : V}, (∀ v F H, Fin B F H → Rep X.K F x v → T v H) → Rep X.K F x v → Ul X (T v) H) → OutS X.K W { B with S := S' } (forGo bd body (keysD es) γ) (unlE X E) := fun {S'} c1 c2 => by
        cases e2 : forGo bd body (keysD es) γ with
        | ok fl =>
          rw [e2] at o
          cases fl with
          | nx γ => exact fun F σ H q => c1 F γ σ H q o
          | bk γ => exact fun F σ H q => c1 F γ σ H q o
          | ct γ => exact fun F σ H q => c1 F γ σ H q o
          | rt x => exact fun v F H q p => c2 F H q o p
          | rx x => exact absurd e2 (forGo_rm _ _ _)
        | ex c => rw [e2] at o; exact o.elim
        | no => rw [e2] at o; exact o.elim
      refine ⟨fun z hn => ?_, fun z => ?_⟩
      · have hS : ∀ p ∈ B.S, p.1 ≠ d := fun p hp q => by
          obtain ⟨y1, ob, u, y2, y3⟩ := r'.fi.sS p hp
          rw [q, z, y2] at y1; cases y1
        have h0 : ∀ o' u', B.H0 d ≠ some (.frz o' u') := fun o' u' e => by
          rcases r'.fi.h0 d _ e with y | ⟨_, _, y, _⟩
          · rw [z] at y; cases y
          · cases y
        have hit : ∀ {F H : Hp}, Fin { B with S := (d, .frz od (.dK kvs)) :: B.S } F H → H d = some (.frz od (.dK kvs)) := fun f => (f.sS _ List.mem_cons_self).1
        refine for_core hbd hg (fun _ _ _ h => h) gs (fun p hp => ?_) (r'.lock (od := od) hd z) (cv (fun F γ σ H q T f => .inr ⟨d, od, _, hit q.fi, hn, f F σ _ (q.unlock hS h0)⟩) fun F H q x T v f p => .inr ⟨d, od, _, hit q, hn, f v F _ (q.unlock hS h0) p⟩)
        rw [List.mem_singleton.mp hp]; exact List.mem_cons_self
      · have hq : ∀ o, B.H0 d = some o → o = .frz od (.dK kvs) ∨ ∃ ob kvs, o = .dK kvs ∧ (d, HO.frz ob (.dK kvs)) ∈ B.S := fun o e => by
          rcases r'.fi.h0 d o e with y | y
          · rw [z] at y; cases y; exact .inl rfl
          · exact .inr y
        refine for_core hbd hg (fun _ _ _ h => h) gs (fun p hp => ?_) (r'.pin (od := od) hd z) (cv (fun F γ σ H q T f => .inl (f F σ _ ⟨q.rs, q.fi.unpin hq, q.ow, q.lk⟩)) fun F H q x T v f p => .inl (f v F _ (q.unpin hq) p))
        rw [List.mem_singleton.mp hp]; exact List.mem_cons_self
    case non => exact o.elim
    case bl _ => exact o.elim
    case int _ => exact o.elim
    case str s =>
      refine ⟨sgn s, rfl, fun J F' H' n gs => for_core hbd hg (fun _ _ _ h => h) gs (fun _ h => nomatch h) (r.next n) (up o)⟩
    case lst xs =>
      refine ⟨xs, rfl, fun J F' H' n gs => for_core hbd hg (fun _ _ _ h => h) gs (fun _ h => nomatch h) (r.next n) (up o)⟩
    case tup xs =>
      refine ⟨xs, rfl, fun J F' H' n gs => for_core hbd hg (fun _ _ _ h => h) gs (fun _ h => nomatch h) (r.next n) (up o)⟩
  | ex c => simp only [e1, R.bind] at o; exact fun F' H' n => o σ F' H' (r.fi.next n)
  | no => simp only [e1, R.bind] at o; exact o⟩
/-! ### while -/
/-- so many turns at most -/
def whN (p : Ga → R Bool) (body : Ga → R Fl) : Nat → Ga → Option (R Fl)
  | 0, _ => none
  | n + 1, γ => match p γ with
    | .ok true => match body γ with
      | .ok (.nx γ2) => whN p body n γ2
      | .ok (.ct γ2) => whN p body n γ2
      | .ok (.bk γ2) => some (.ok (.nx γ2))
      | .ok (.rt d) => some (.ok (.rt d))
      | .ok (.rx _) => some .no
      | .ex c => some (.ex c)
      | .no => some .no
    | .ok false => some (.ok (.nx γ))
    | .ex c => some (.ex c)
    | .no => some .no
open Classical in
noncomputable def fWh (p : Ga → R Bool) (body : Ga → R Fl) : Ga → R Fl := fun γ => if h : ∃ n r, whN p body n γ = some r then (whN p body h.choose γ).getD .no else .no
theorem whN_mono {p : Ga → R Bool} {body : Ga → R Fl} : ∀ (n : Nat) (γ : Ga) (r : R Fl) (m : Nat), whN p body n γ = some r → n ≤ m → whN p body m γ = some r := by
  intro n
  induction n with
  | zero => intro γ r m h; cases h
  | succ n ih =>
    intro γ r m h hm
    obtain ⟨m, rfl⟩ : ∃ m', m = m' + 1 := ⟨m - 1, by omega⟩
    simp only [whN] at h ⊢
    cases e1 : p γ with
    | ok b =>
      rw [e1] at h
      cases b with
      | true =>
        simp only at h ⊢
        cases e2 : body γ with
        | ok fl =>
          rw [e2] at h
          cases fl with
          | nx γ2 => exact ih γ2 r m h (by omega)
          | ct γ2 => exact ih γ2 r m h (by omega)
          | bk γ2 => exact h
          | rt d => exact h
          | rx _ => exact h
        | ex c => rw [e2] at h; exact h
        | no => rw [e2] at h; exact h
      | false => exact h
    | ex c => rw [e1] at h; exact h
    | no => rw [e1] at h; exact h
theorem fWh_eq {p : Ga → R Bool} {body : Ga → R Fl} {n : Nat} {γ : Ga} {r : R Fl} (h : whN p body n γ = some r) : fWh p body γ = r := by
  unfold fWh
  have hx : ∃ n r, whN p body n γ = some r := ⟨n, r, h⟩
  rw [dif_pos hx]
  obtain ⟨r', hr'⟩ := hx.choose_spec
  have a := whN_mono _ _ _ (max n hx.choose) h (Nat.le_max_left _ _)
  have b := whN_mono _ _ _ (max n hx.choose) hr' (Nat.le_max_right _ _)
  rw [a] at b
  cases b
  rw [hr']; rfl
theorem fWh_of {p : Ga → R Bool} {body : Ga → R Fl} {γ : Ga} (h : fWh p body γ ≠ .no) : ∃ n, whN p body n γ = some (fWh p body γ) := by
  by_cases hx : ∃ n r, whN p body n γ = some r
  · obtain ⟨n, r, e⟩ := hx
    exact ⟨n, by rw [fWh_eq e]; exact e⟩
  · unfold fWh at h
    rw [dif_neg hx] at h
    exact absurd rfl h
theorem js_while {X : Cx} {W : WN} {p : Ga → R Bool} {body : Ga → R Fl} {c : Expr} {sts : List Stmt} {pos : Pos} (hp : PassesOwn (model X.prog X.w) X.A X.env X.xe) (hc : JT X W p c) (hb : JSs X W body sts) : JS X W (fWh p body) (.While c sts [] pos) :=
  ⟨PS.imp (ps_while hp hc.pt hb.pss) fun E σ H ⟨B, F, γ, r, o⟩ => by
    by_cases hno : fWh p body γ = .no
    · rw [hno] at o; exact o.elim
    obtain ⟨n, hn⟩ := fWh_of hno
    refine ⟨fun m σ H => ∃ F γ x, RB X.K B F γ σ H ∧ whN p body m γ = some x ∧ OutS X.K W B x E, ⟨n, F, γ, _, r, hn, o⟩, ?_⟩
    rintro m σ1 H1 ⟨F1, γ1, x, r1, h1, o1⟩
    cases m with
    | zero => cases h1
    | succ m =>
      refine ⟨F1, γ1, r1.rs, ?_⟩
      simp only [whN] at h1
      cases e1 : p γ1 with
      | ok b =>
        rw [e1] at h1
        intro F2 H2 n2
        have r2 := r1.next n2
        cases b with
        | true =>
          simp only at h1
          refine ⟨fun σ' H' => ∃ F γ x, RB X.K B F γ σ' H' ∧ whN p body m γ = some x ∧ OutS X.K W B x E, fun σ' H' q => ⟨m, Nat.lt_succ_self _, q⟩, B, F2, γ1, r2, ?_⟩
          cases e2 : body γ1 with
          | ok fl =>
            rw [e2] at h1
            cases fl with
            | nx γ2 => exact fun F σ H q => ⟨F, γ2, x, q, h1, o1⟩
            | ct γ2 => exact fun F σ H q => ⟨F, γ2, x, q, h1, o1⟩
            | bk γ2 => simp only [Option.some.injEq] at h1; subst h1; exact o1
            | rt d => simp only [Option.some.injEq] at h1; subst h1; exact o1
            | rx _ => simp only [Option.some.injEq] at h1; subst h1; exact o1.elim
          | ex c => rw [e2] at h1; simp only [Option.some.injEq] at h1; subst h1; exact o1
          | no => rw [e2] at h1; simp only [Option.some.injEq] at h1; subst h1; exact o1
        | false => simp only [Option.some.injEq] at h1; subst h1; exact o1 F2 σ1 H2 r2
      | ex c => rw [e1] at h1; simp only [Option.some.injEq] at h1; subst h1; exact fun F' H' n' => o1 σ1 F' H' (r1.fi.next n')
      | no => rw [e1] at h1; simp only [Option.some.injEq] at h1; subst h1; exact o1.elim⟩
/-! ### defs -/
def fnD (n : Nat) (body : Ga → R Fl) (ds : List D) : R D := match body (ds.map .va ++ List.replicate (n - ds.length) .un) with
  | .ok (.rt d) => .ok d
  | .ok (.nx _) => .ok .non
  | .ex c => .ex c
  | _ => .no
theorem start_ow {ds : List D} {k i : Nat} {s : Sl} {H : Hp} {x : Option (Option V)} {b : Addr} (h : (ds.map Sl.va ++ List.replicate k .un)[i]? = some s) : ¬ Inn H s x b := fun z => by
  by_cases l : i < ds.length
  · rw [List.getElem?_append_left (by simpa using l), List.getElem?_map, List.getElem?_eq_getElem l] at h
    cases h; exact z
  · rw [List.getElem?_append_right (by simpa using l), List.getElem?_replicate] at h
    split at h <;> cases h
    exact z
theorem rs_start {K : PySem.W.Frag} {F H : Hp} {N : List Str} {ds : List D} {vs : List V} (e : Emb F H) (r : Reps K F ds vs) : RS K F (ds.map .va ++ List.replicate (N.length - ds.length) .un) (L2.start N vs) H := by
  refine ⟨e, by simp [L2.start, r.length], fun i s h => ?_, fun i j d d' a h => ?_⟩
  · by_cases l : i < ds.length
    · rw [List.getElem?_append_left (by simpa using l)] at h
      rw [List.getElem?_map, List.getElem?_eq_getElem l] at h
      cases h
      obtain ⟨v, hv, p⟩ := r.get (List.getElem?_eq_getElem l)
      refine ⟨v, ?_, p⟩
      unfold L2.start
      rw [List.getElem?_append_left (by simpa [r.length] using (List.getElem?_eq_some_iff.mp hv).1), List.getElem?_map, hv]
      rfl
    · rw [List.getElem?_append_right (by simpa using l), List.getElem?_replicate] at h
      split at h
      · cases h; trivial
      · cases h
  · exact fun _ h2 _ => absurd h2 (start_ow h)
section
variable {P : Program} {w : World} {K : PySem.W.Frag} {mg : Str → Option Value} {base : Heap}
abbrev cxD (P : Program) (w : World) (K : PySem.W.Frag) (mg : Str → Option Value) (base : Heap) (N : List Str) (qual : Str) (st : Stmt) (f : Addr) (cdv : Value) (A : Around) (outer : List Env) (s : Shared) (H : Hp) (E : XK) : Cx :=
  cxOf (L2.CX P w) P w K mg base N qual (defScope st) f cdv A outer s H E
abbrev wnD (cl : Cl) (E : XK) : WN := fun c _ H => E (cl c) none H
theorem takes_D {cl : Cl} {N : List Str} {qual : Str} {st : Stmt} {f : Addr} {cdv : Value} {A : Around} {outer : List Env} {s : Shared} {H : Hp} {E : XK} : Takes (cxD P w K mg base N qual st f cdv A outer s H E) (VW cl (wnD cl E)) :=
  (takes_of (E := E) rfl rfl rfl rfl).imp fun c d σ H ⟨c', e1, e2, h⟩ => by subst e1 e2; exact h
theorem passes_D {N : List Str} {qual : Str} {st : Stmt} {f : Addr} {cdv : Value} {A : Around} {outer : List Env} {s : Shared} {H : Hp} {E : XK} : PassesOwn (model P w) (cxD P w K mg base N qual st f cdv A outer s H E).A (cxD P w K mg base N qual st f cdv A outer s H E).env (cxD P w K mg base N qual st f cdv A outer s H E).xe :=
  passes_of rfl
theorem fok {x qual : Str} {st : Stmt} {f : Addr} {fd : FuncData} {N ps : List Str} {k n m : Nat} {cl : Cl} {body : Ga → R Fl} (Fu : Fun K x qual st f fd) (S : FnScope N ps (defScope st)) (hn : N.length = n) (hm : ps.length = m)
    (hb : ∀ (cdv : Value) (A : Around) (outer : List Env) (s : Shared) (H : Hp) (E : XK), Room k (A.deeper (envOfC qual (defScope st) s.heap.objs.size f cdv)) → JSs (cxD P w K mg base N qual st f cdv A outer s H E) (wnD cl E) body (defBody st)) :
    FnOk P w K mg base (L2.CX P w) (k + 1) f fd ps (spD K cl m (fnD n body)) := by
  refine Fu.okX S (fun vs H Q E h => ?_) fun cdv A outer s H vs Q E hr h => ?_
  · obtain ⟨F, ds, h1, _⟩ := h
    rw [h1, hm]
  · refine ⟨_, (hb cdv A outer s H E hr).pss, ?_⟩
    obtain ⟨F, ds, h1, em, rp, o⟩ := h
    subst hn
    have r := rs_start (N := N) em rp
    refine ⟨⟨F, H, [], none⟩, F, _, ⟨r, .start em, fun i d a e1 e2 => absurd e2 (start_ow e1), fun _ _ _ _ _ _ h => nomatch h⟩, ?_⟩
    · unfold fnD at o
      cases e : body (ds.map .va ++ List.replicate (N.length - ds.length) .un) with
      | ok fl =>
        rw [e] at o
        cases fl with
        | nx γ => exact fun F' σ' H' q => o _ F' H' q.fi.nxt .non
        | rt d => exact fun v F' H' q p => o v F' H' q.nxt p
        | rx _ => exact o.elim
        | bk γ => exact o.elim
        | ct γ => exact o.elim
      | ex c => rw [e] at o; exact fun σ' F' H' q => o F' H' q.nxt
      | no => rw [e] at o; exact o.elim
end
end
end KN
/-! KnH: comprehensions, own things changed, dicts, texts -/
namespace KN
open PySem PySem.Spec PyProof.Rows L2
/-! ### comprehensions -/
def wipeG (γ : Ga) : List Nat → Ga
  | [] => γ
  | v :: vs => (wipeG γ vs).set v .un
theorem wipeG_len (γ : Ga) : ∀ vs, (wipeG γ vs).length = γ.length
  | [] => rfl
  | v :: vs => by simp [wipeG, wipeG_len γ vs]
theorem wipeG_get {γ : Ga} {i : Nat} {s : Sl} : ∀ {vs : List Nat}, (wipeG γ vs)[i]? = some s → s = .un ∨ (i ∉ vs ∧ γ[i]? = some s)
  | [], h => .inr ⟨by simp, h⟩
  | v :: vs, h => by
    unfold wipeG at h
    by_cases hi : v = i
    · subst hi
      by_cases hv : v < (wipeG γ vs).length
      · rw [List.getElem?_set_self hv] at h; cases h; exact .inl rfl
      · rw [List.getElem?_eq_none (by simpa using hv)] at h; cases h
    · rw [List.getElem?_set_ne hi] at h
      rcases wipeG_get h with h | ⟨h1, h2⟩
      · exact .inl h
      · exact .inr ⟨by simp only [List.mem_cons, not_or]; exact ⟨fun e => hi e.symm, h1⟩, h2⟩
theorem wipe_out {σ : L2.St} {i : Nat} : ∀ {vs : List Nat}, i ∉ vs → (wipe σ vs)[i]? = σ[i]?
  | [], _ => rfl
  | v :: vs, h => by
    unfold wipe
    simp only [List.mem_cons, not_or] at h
    rw [List.getElem?_set_ne (fun e => h.1 e.symm)]
    exact wipe_out h.2
theorem wipe_in {σ : L2.St} {i : Nat} : ∀ {vs : List Nat}, i ∈ vs → i < σ.length → (wipe σ vs)[i]? = some none
  | [], h, _ => nomatch h
  | v :: vs, h, hl => by
    unfold wipe
    by_cases hi : v = i
    · subst hi; rw [List.getElem?_set_self (by rw [wipe_length]; exact hl)]
    · rw [List.getElem?_set_ne hi]
      rcases List.mem_cons.mp h with e | h
      · exact absurd e.symm hi
      · exact wipe_in h hl
theorem wipe_same {σ σ' : L2.St} {vs : List Nat} (hl : σ'.length = σ.length) (ho : ∀ j, j ∉ vs → σ'[j]? = σ[j]?) : wipe σ' vs = wipe σ vs := by
  apply List.ext_getElem?
  intro i
  by_cases h : i ∈ vs
  · by_cases l : i < σ.length
    · rw [wipe_in h l, wipe_in h (by rw [hl]; exact l)]
    · rw [List.getElem?_eq_none (by rw [wipe_length, hl]; omega), List.getElem?_eq_none (by rw [wipe_length]; omega)]
  · rw [wipe_out h, wipe_out h, ho i h]
theorem wipe_wipe {σ : L2.St} {vs : List Nat} : wipe (wipe σ vs) vs = wipe σ vs := wipe_same (wipe_length _ _) fun j h => wipe_out h
theorem RS.wipe {K : PySem.W.Frag} {F H : Hp} {γ : Ga} {σ : L2.St} (r : RS K F γ σ H) (vs : List Nat) : RS K F (wipeG γ vs) (L2.wipe σ vs) H := by
  refine ⟨r.emb, by rw [wipeG_len, wipe_length, r.len], fun i s e => ?_, fun i j d d' a e1 e2 h1 h2 => ?_⟩
  · rcases wipeG_get e with rfl | ⟨h1, h2⟩
    · trivial
    · rw [wipe_out h1]; exact r.sl i s h2
  · rcases wipeG_get e1 with z | ⟨z1, z2⟩
    · subst z; exact h1.elim
    · rcases wipeG_get e2 with y | ⟨y1, y2⟩
      · subst y; exact h2.elim
      · rw [wipe_out z1] at h1
        rw [wipe_out y1] at h2
        exact r.apart i j d d' a z2 y2 h1 h2
def lcGo (bd : D → Ga → R Ga) (ifs : Ga → R Bool) (elt : Ga → R D) (γ : Ga) : List D → R (List D)
  | [] => .ok []
  | x :: xs => (bd x γ).noex.bind fun γ1 => (ifs γ1).noex.bind fun b => if b = true then (elt γ1).noex.bind fun y => (lcGo bd ifs elt γ xs).bind fun ys => .ok (y :: ys) else lcGo bd ifs elt γ xs
theorem lcGo_ne {bd : D → Ga → R Ga} {ifs : Ga → R Bool} {elt : Ga → R D} {γ : Ga} : ∀ xs c, lcGo bd ifs elt γ xs ≠ .ex c := by
  intro xs
  induction xs with
  | nil => intro c h; cases h
  | cons x xs ih =>
    intro c h
    unfold lcGo at h
    cases e1 : bd x γ <;> simp only [e1, R.noex, R.bind] at h <;> try (cases h; done)
    rename_i γ1
    cases e2 : ifs γ1 <;> simp only [e2, R.noex, R.bind] at h <;> try (cases h; done)
    rename_i b
    cases b <;> simp only [Bool.false_eq_true, if_false, if_true] at h
    · exact ih c h
    · cases e3 : elt γ1 <;> simp only [e3, R.noex, R.bind] at h <;> try (cases h; done)
      cases e4 : lcGo bd ifs elt γ xs <;> simp only [e4, R.bind] at h <;> try (cases h; done)
      exact ih _ e4
abbrev W0 : WN := fun _ _ _ => False
/-- the tests of a comprehension: none, or one -/
def yes : Ga → R Bool := fun _ => .ok true
structure JIfs (X : Cx) (f : Ga → R Bool) (t : TT) (es : List Expr) : Prop where
  pts : PTs X es t
  go : ∀ {σ : L2.St} {H F : Hp} {γ : Ga} {Q : Bool → Hp → Prop}, RS X.K F γ σ H → OutT F H (fun _ _ => False) (f γ) Q → t σ H Q
theorem jifs_nil {X : Cx} : JIfs X yes tYes [] := ⟨pts_nil, fun {σ H F γ Q} r o => o F H (.refl r.emb)⟩
theorem jifs_one {X : Cx} {f : Ga → R Bool} {e : Expr} (h : JT X W0 f e) : JIfs X f (rdT X.K W0 f) [e] := ⟨pts_one h.pt, fun {σ H F γ Q} r o => ⟨F, γ, r, o⟩⟩
theorem jifs_oneK {X : Cx} {K : PySem.W.Frag} {f : Ga → R Bool} {e : Expr} (hK : X.K = K) (h : JT X W0 f e) : JIfs X f (rdT K W0 f) [e] := by
  subst hK
  exact jifs_one h
/-- the walk of a comprehension -/
theorem lc_core {K : PySem.W.Frag} {bd : D → Ga → R Ga} {ifs : Ga → R Bool} {elt : Ga → R D} {vs : List Nat} {g : TG} {tt : TT} {te : TE} {J : It} {F0 H0 : Hp} {S : List (Addr × HO)} {ds ys : List D} {γ : Ga} {σ : L2.St} {D0 : Addr} {Q : Hp → Prop}
    (hg : ∀ {F : Hp} {γ γ' : Ga} {σ : L2.St} {H : Hp} {d : D} {v : V} {Q : L2.St → Hp → Prop}, RS K F γ σ H → Rep K F d v → bd d γ = .ok γ' → (∀ σ', RS K F γ' σ' H → Kp vs γ σ γ' σ' → Q σ' H) → g v σ H Q)
    (ht : ∀ {σ : L2.St} {H F : Hp} {γ : Ga} {Q : Bool → Hp → Prop}, RS K F γ σ H → OutT F H (fun _ _ => False) (ifs γ) Q → tt σ H Q)
    (he : ∀ {σ : L2.St} {H F : Hp} {γ : Ga} {Q : VK}, RS K F γ σ H → Out (PV K F H) F H (fun _ _ => False) (elt γ) Q → te σ H Q)
    (gs : Goes K J F0 S ds) (hS : ∀ p ∈ S, H0 p.1 = some p.2) (r : RS K F0 γ σ H0) (o : lcGo bd ifs elt (wipeG γ vs) ds = .ok ys) (hz : ys.length < sizeLine) (hD : H0 D0 = none)
    (fin : ∀ F' H', Nxt F0 H0 F' H' → F' D0 = none → (∃ us, H' D0 = some (.lst us) ∧ Reps K F' ys us) → Q H') :
    ∃ Wi : Nat → Nat → Hp → Prop, (∃ m, Wi 0 m (upd H0 D0 (.lst []))) ∧ ∀ i m H, Wi i m H → (J.stop i H ∧ Q H) ∨
      (J.go i H ∧ ∃ Nx : Hp → Prop, (∀ H', Nx H' → ∃ m', m' < m ∧ Wi (i + 1) m' H') ∧ ∀ x H', J.yld i H x H' → g x (wipe σ vs) H' fun σ2 H2 => wipe σ2 vs = wipe σ vs ∧ tt σ2 H2 fun b H3 =>
        if b = true then te σ2 H3 fun y H4 => ∃ acc, H4 D0 = some (.lst acc) ∧ acc.length < sizeLine ∧ Nx (upd H4 D0 (.lst (acc ++ [y]))) else Nx H3) := by
  have dS : ∀ p ∈ S, p.1 ≠ D0 := fun p hp q => by have := hS p hp; rw [q, hD] at this; cases this
  -- the state: what was made so far, what is left to make
  refine ⟨fun i m H => ∃ F zs rest us, Nxt F0 H0 F H ∧ F D0 = none ∧ H D0 = some (.lst us) ∧ Reps K F zs us ∧ lcGo bd ifs elt (wipeG γ vs) (ds.drop i) = .ok rest ∧ ys = zs ++ rest ∧ (∀ p ∈ S, H p.1 = some p.2) ∧ m = ds.length - i ∧ i ≤ ds.length,
    ⟨ds.length, F0, [], ys, [], .laid r.emb hD _, r.emb.free hD, upd_same, .nil, o, rfl, fun p hp => by rw [upd_ne (dS p hp)]; exact hS p hp, rfl, Nat.zero_le _⟩, ?_⟩
  rintro i m H1 ⟨F1, zs, rest, us, n1, fD, hus, rp, o1, ey, hS1, rfl, hi⟩
  obtain ⟨g1, g2⟩ := gs F1 H1 i n1.f n1.emb hS1
  by_cases hl : i < ds.length
  · have hd : ds[i]? = some ds[i] := List.getElem?_eq_getElem hl
    obtain ⟨go, gy⟩ := g2 _ hd
    rw [List.drop_eq_getElem_cons hl] at o1
    unfold lcGo at o1
    cases e1 : bd ds[i] (wipeG γ vs) with
    | ok γ2 =>
      simp only [e1, R.noex, R.bind] at o1
      refine .inr ⟨go, fun H' => ∃ F zs rest us, Nxt F0 H0 F H' ∧ F D0 = none ∧ H' D0 = some (.lst us) ∧ Reps K F zs us ∧ lcGo bd ifs elt (wipeG γ vs) (ds.drop (i + 1)) = .ok rest ∧ ys = zs ++ rest ∧ (∀ p ∈ S, H' p.1 = some p.2),
        fun H' ⟨F, zs, rest, us, a⟩ => ⟨ds.length - (i + 1), by omega, F, zs, rest, us, a.1, a.2.1, a.2.2.1, a.2.2.2.1, a.2.2.2.2.1, a.2.2.2.2.2.1, a.2.2.2.2.2.2, rfl, hl⟩, fun x H' hy => ?_⟩
      obtain ⟨F2, n2, p2⟩ := gy x H' hy
      have n02 := n1.trans n2
      have r2 := (r.next n02).wipe vs
      refine hg r2 p2 e1 fun σ2 rs2 k => ⟨(wipe_same k.len k.out).trans wipe_wipe, ht rs2 ?_⟩
      have keep : ∀ {F3 H3 : Hp}, Nxt F2 H' F3 H3 → Nxt F1 H1 F3 H3 ∧ F3 D0 = none ∧ H3 D0 = some (.lst us) ∧ Reps K F3 zs us ∧ ∀ p ∈ S, H3 p.1 = some p.2 := fun {F3 H3} n3 => by
        have n13 := n2.trans n3
        refine ⟨n13, ?_, n13.h _ _ hus, rp.mono n13.f, fun p hp => n13.h _ _ (hS1 p hp)⟩
        cases q : F3 D0 with
        | none => rfl
        | some u =>
          rcases n13.fn _ _ q with z | z
          · rw [fD] at z; cases z
          · rw [hus] at z; cases z
      cases e2 : ifs γ2 with
      | ok b =>
        simp only [e2] at o1
        intro F3 H3 n3
        obtain ⟨k1, k2, k3, k4, k5⟩ := keep n3
        cases b with
        | false =>
          simp only [Bool.false_eq_true, if_false] at o1 ⊢
          exact ⟨F3, zs, rest, us, n1.trans k1, k2, k3, k4, o1, ey, k5⟩
        | true =>
          simp only [if_true] at o1 ⊢
          refine he (rs2.next n3) ?_
          cases e3 : elt γ2 with
          | ok y =>
            simp only [e3] at o1
            intro v F4 H4 n4 p4
            obtain ⟨l1, l2, l3, l4, l5⟩ := keep (n3.trans n4)
            cases e4 : lcGo bd ifs elt (wipeG γ vs) (ds.drop (i + 1)) with
            | ok rest' =>
              simp only [e4] at o1
              cases o1
              have hlen : us.length < sizeLine := by
                rw [← rp.length]
                have : ys.length = zs.length + (rest'.length + 1) := by rw [ey]; simp
                omega
              have n04 := n1.trans l1
              refine ⟨us, l3, hlen, F4, zs ++ [y], rest', us ++ [v], ⟨n04.f, n04.fn, fun a u z => ?_, fun b u z => ?_⟩, l2, upd_same, l4.append (.cons p4 .nil), rfl, by rw [ey]; simp, fun p hp => by rw [upd_ne (dS p hp)]; exact l5 p hp⟩
              · rw [upd_ne (ne_of_none z l2)]; exact n04.emb a u z
              · rw [upd_ne (ne_of_none z hD)]; exact n04.h b u z
            | ex c => exact absurd e4 (lcGo_ne _ _)
            | no => simp only [e4] at o1; cases o1
          | ex c => simp only [e3] at o1; cases o1
          | no => simp only [e3] at o1; cases o1
      | ex c => simp only [e2] at o1; cases o1
      | no => simp only [e2] at o1; cases o1
    | ex c => simp only [e1, R.noex, R.bind] at o1; cases o1
    | no => simp only [e1, R.noex, R.bind] at o1; cases o1
  · have hi' : i = ds.length := by omega
    refine .inl ⟨g1 hi', fin F1 H1 n1 fD ⟨us, hus, ?_⟩⟩
    rw [List.drop_eq_nil_of_le (by omega)] at o1
    cases o1
    rw [ey, List.append_nil]
    exact rp
def lcOut (bd : D → Ga → R Ga) (ifs : Ga → R Bool) (elt : Ga → R D) (vs : List Nat) (γ : Ga) (ds : List D) : R D := (lcGo bd ifs elt (wipeG γ vs) ds).bind fun ys => if ys.length ≤ lim then .ok (.lst ys) else .no
def bLcI (it : Ga → R (List D)) (vs : List Nat) (bd : D → Ga → R Ga) (ifs : Ga → R Bool) (elt : Ga → R D) : Ga → R D := fun γ => (it γ).bind fun ds => lcOut bd ifs elt vs γ ds
def bLcE (fe : Ga → R D) (vs : List Nat) (bd : D → Ga → R Ga) (ifs : Ga → R Bool) (elt : Ga → R D) : Ga → R D := fun γ => (fe γ).bind fun d => (items d).bind fun ds => lcOut bd ifs elt vs γ ds
theorem lcOut_ne {bd : D → Ga → R Ga} {ifs : Ga → R Bool} {elt : Ga → R D} {vs : List Nat} {γ : Ga} {ds : List D} {c : Nat} : lcOut bd ifs elt vs γ ds ≠ .ex c := by
  unfold lcOut
  cases e : lcGo bd ifs elt (wipeG γ vs) ds with
  | ok ys => simp only [R.bind]; split <;> intro h <;> cases h
  | ex c => exact absurd e (lcGo_ne _ _)
  | no => intro h; cases h
theorem lcOut_ok {bd : D → Ga → R Ga} {ifs : Ga → R Bool} {elt : Ga → R D} {vs : List Nat} {γ : Ga} {ds : List D} {d : D} (h : lcOut bd ifs elt vs γ ds = .ok d) : ∃ ys, d = .lst ys ∧ lcGo bd ifs elt (wipeG γ vs) ds = .ok ys ∧ ys.length < sizeLine := by
  unfold lcOut at h
  cases e : lcGo bd ifs elt (wipeG γ vs) ds with
  | ok ys =>
    rw [e] at h
    simp only [R.bind] at h
    split at h
    · cases h; exact ⟨ys, rfl, rfl, by have : lim < sizeLine := by (rw [sizeLine_eq]; decide)
                                       omega⟩
    · cases h
  | ex c => exact absurd e (lcGo_ne _ _)
  | no => rw [e] at h; cases h
section
variable {X : Cx} {W : WN} {bd : D → Ga → R Ga} {ifs : Ga → R Bool} {elt fe : Ga → R D} {it : Ga → R (List D)} {own : List (Str × Nat)} {g : TG} {tt : TT} {tg iter e : Expr} {es : List Expr} {scope : Scope} {pos : Pos}
/-- the block's parts -/
structure Blk (X : Cx) (scope : Scope) (own : List (Str × Nat)) (bd : D → Ga → R Ga) (ifs : Ga → R Bool) (elt : Ga → R D) (g : TG) (tt : TT) (tg : Expr) (es : List Expr) (e : Expr) : Prop where
  ok : BlkOk X.N X.env.scope scope own
  hg : ∀ (s : Shared) (H : Hp) (C : Addr) (cl : List (Str × Addr)) (fp : List Addr), JG (X.blk s H scope (compEnvC scope cl C X.env) fp) (own.map (·.2)) bd g tg
  ht : ∀ (s : Shared) (H : Hp) (C : Addr) (cl : List (Str × Addr)) (fp : List Addr), JIfs (X.blk s H scope (compEnvC scope cl C X.env) fp) ifs tt es
  he : ∀ (s : Shared) (H : Hp) (C : Addr) (cl : List (Str × Addr)) (fp : List Addr), J (X.blk s H scope (compEnvC scope cl C X.env) fp) W0 elt e
theorem tLc_of {σ : L2.St} {H F : Hp} {γ : Ga} {ds ys : List D} {J : It} {S : List (Addr × HO)} {Q : VK} (b : Blk X scope own bd ifs elt g tt tg es e) (r : RS X.K F γ σ H) (gs : Goes X.K J F S ds) (hS : ∀ p ∈ S, H p.1 = some p.2)
    (o : lcGo bd ifs elt (wipeG γ (own.map (·.2))) ds = .ok ys) (hz : ys.length < sizeLine)
    (fin : ∀ a F' H', Nxt F H F' H' → H a = none → F' a = none → Own X.K F' H' (.lst ys) a → Q (.ref a) H') : ∀ D0, H D0 = none → ∃ Wi : Nat → Nat → Hp → Prop, (∃ m, Wi 0 m (upd H D0 (.lst []))) ∧ ∀ i m H, Wi i m H →
      (J.stop i H ∧ Q (.ref D0) H) ∨ (J.go i H ∧ ∃ Nx : Hp → Prop, (∀ H', Nx H' → ∃ m', m' < m ∧ Wi (i + 1) m' H') ∧ ∀ x H', J.yld i H x H' → g x (wipe σ (own.map (·.2))) H' fun σ2 H2 => wipe σ2 (own.map (·.2)) = wipe σ (own.map (·.2)) ∧ tt σ2 H2 fun b H3 =>
        if b = true then rdV X.K W0 elt σ2 H3 fun y H4 => ∃ acc, H4 D0 = some (.lst acc) ∧ acc.length < sizeLine ∧ Nx (upd H4 D0 (.lst (acc ++ [y]))) else Nx H3) := fun D0 hD =>
  lc_core (K := X.K) (fun {F γ γ' σ H d v Q} r p e q => (b.hg X.s_0 X.H_0 X.env.locals [] []).go r p e q) (fun {σ H F γ Q} r o => (b.ht X.s_0 X.H_0 X.env.locals [] []).go r o)
    (fun {σ H F γ Q} r o => ⟨F, γ, r, o⟩) gs hS r o hz hD fun F' H' n f0 ow => fin D0 F' H' n hD f0 ow
theorem jf_lcI (hc : X.calm = true) (hN : X.N.Nodup) (hi : JI X W it tg iter) (b : Blk X scope own bd ifs elt g tt tg es e) (hs : ∀ x, foldedSetIterable iter X.env x = pure x := by intro _; rfl) :
    JF X W (bLcI it (own.map (·.2)) bd ifs elt) (.ListComp e [⟨tg, iter, es, 0⟩] scope pos) := ⟨PE.imp (pe_lc hc hN hi.pi b.ok (fun s H C cl fp => (b.hg s H C cl fp).pg) (fun s H C cl fp => (b.ht s H C cl fp).pts) (fun s H C cl fp => (b.he s H C cl fp).pe) hs) fun σ H Q ⟨F, γ, r, o⟩ => by
  refine ⟨F, γ, r, ?_⟩
  unfold bLcI at o
  cases e1 : it γ with
  | ok ds =>
    simp only [e1, R.bind] at o
    intro J F' H' n gs
    cases e2 : lcOut bd ifs elt (own.map (·.2)) γ ds with
    | ok d =>
      rw [e2] at o
      obtain ⟨ys, rfl, h1, h2⟩ := lcOut_ok e2
      exact tLc_of b (r.next n) gs (fun _ h => nomatch h) h1 h2 fun a F2 H2 n2 ha f0 ow => PF.next (Q := Q) o n a F2 H2 n2 ha f0 ow
    | ex c => exact absurd e2 lcOut_ne
    | no => rw [e2] at o; exact o.elim
  | ex c => simp only [e1, R.bind] at o; exact o
  | no => simp only [e1, R.bind] at o; exact o⟩
/-- what a walked value asks, in an expression: unlocked at the end -/
theorem lcE_of {σ : L2.St} {H F : Hp} {γ : Ga} {Q : VK} (b : Blk X scope own bd ifs elt g tt tg es e) (r : RS X.K F γ σ H) (o : Out (PF X.K F H) F H (fun c H' => W c σ H') (bLcE fe (own.map (·.2)) bd ifs elt γ) Q) :
    tLc (rdE X W fe) g tt (rdV X.K W0 elt) (own.map (·.2)) σ H fun v => Ul X (Q v) := by
  refine ⟨F, γ, r, ?_⟩
  unfold bLcE at o
  cases e1 : fe γ with
  | ok d =>
    simp only [e1, R.bind] at o
    have simple : ∀ {ds : List D}, Out (PF X.K F H) F H (fun c H' => W c σ H') (lcOut bd ifs elt (own.map (·.2)) γ ds) Q → ∀ J F' H', Nxt F H F' H' → Goes X.K J F' [] ds → ∀ D0, H' D0 = none → ∃ Wi : Nat → Nat → Hp → Prop, (∃ m, Wi 0 m (upd H' D0 (.lst []))) ∧ ∀ i m H, Wi i m H →
      (J.stop i H ∧ Ul X (Q (.ref D0)) H) ∨ (J.go i H ∧ ∃ Nx : Hp → Prop, (∀ H', Nx H' → ∃ m', m' < m ∧ Wi (i + 1) m' H') ∧ ∀ x H', J.yld i H x H' → g x (wipe σ (own.map (·.2))) H' fun σ2 H2 => wipe σ2 (own.map (·.2)) = wipe σ (own.map (·.2)) ∧ tt σ2 H2 fun b H3 =>
        if b = true then rdV X.K W0 elt σ2 H3 fun y H4 => ∃ acc, H4 D0 = some (.lst acc) ∧ acc.length < sizeLine ∧ Nx (upd H4 D0 (.lst (acc ++ [y]))) else Nx H3) := fun {ds} o J F' H' n gs => by
      cases e2 : lcOut bd ifs elt (own.map (·.2)) γ ds with
      | ok d =>
        rw [e2] at o
        obtain ⟨ys, rfl, h1, h2⟩ := lcOut_ok e2
        exact tLc_of (Q := fun v => Ul X (Q v)) b (r.next n) gs (fun _ h => nomatch h) h1 h2 fun a F2 H2 n2 ha f0 ow => .inl (PF.next (Q := Q) o n a F2 H2 n2 ha f0 ow)
      | ex c => exact absurd e2 lcOut_ne
      | no => rw [e2] at o; exact o.elim
    cases d
    case non => exact o.elim
    case bl _ => exact o.elim
    case int _ => exact o.elim
    case str s => exact ⟨sgn s, rfl, simple o⟩
    case lst xs => exact ⟨xs, rfl, simple o⟩
    case tup xs => exact ⟨xs, rfl, simple o⟩
    case dic ks =>
      intro J F' H' d od kvs n hd gs
      have o : Out (PF X.K F H) F H (fun c H' => W c σ H') (lcOut bd ifs elt (own.map (·.2)) γ (keysD ks)) Q := o
      cases e2 : lcOut bd ifs elt (own.map (·.2)) γ (keysD ks) with
      | ok x =>
        rw [e2] at o
        obtain ⟨ys, rfl, h1, h2⟩ := lcOut_ok e2
        have r' := r.next n
        refine ⟨fun z hn => ?_, fun z => ?_⟩
        · -- locked by us
          have em : Emb F' (upd H' d (.frz od (.dK kvs))) := fun a o e => by
            by_cases q : a = d
            · subst q; rw [hd] at e; cases e; exact .inr ⟨od, kvs, rfl, upd_same⟩
            · rw [upd_ne q]; exact n.emb a o e
          have rl : RS X.K F' γ σ (upd H' d (.frz od (.dK kvs))) := by
            have ks : ∀ b u, F' b = none → H' b = some u → upd H' d (.frz od (.dK kvs)) b = some u := fun b u h1 h2 => by
              rw [upd_ne]
              · exact h2
              · rintro rfl; rw [h1] at hd; cases hd
            have bk : ∀ i s b, γ[i]? = some s → Inn (upd H' d (.frz od (.dK kvs))) s σ[i]? b → Inn H' s σ[i]? b := fun i s b e h => h.back (r'.sl i s e) fun b u h1 h2 => ks b u (h1.have (r'.sl i s e)).1 h2
            exact ⟨em, r'.len, fun i s e => (r'.sl i s e).keep (.refl _) fun b u _ h1 h2 => ⟨ks b u h1 h2, h1⟩, fun i j s s' b e1 e2 h1 h2 => r'.apart i j s s' b e1 e2 (bk _ _ b e1 h1) (bk _ _ b e2 h2)⟩
          refine tLc_of (Q := fun v => Ul X (Q v)) b rl gs (fun p hp => by rw [List.mem_singleton.mp hp]; exact upd_same) h1 h2 fun a F2 H2 n2 ha f0 ow => ?_
          have had : a ≠ d := fun q => by rw [q, upd_same] at ha; cases ha
          have hd2 : F2 d = some (.dK kvs) := n2.f _ _ hd
          refine .inr ⟨d, od, .dK kvs, n2.h _ _ upd_same, hn, ?_⟩
          rw [upd_ne had] at ha
          refine o a F2 _ ⟨n.f.trans n2.f, fun c u q => ?_, fun c u q => ?_, fun c u q => ?_⟩ (n.h.free ha) f0 (ow.next (.refl _) fun u q => by rw [upd_ne had]; exact q)
          · rcases n2.fn c u q with y | y
            · exact n.fn c u y
            · by_cases w : c = d
              · subst w; rw [upd_same] at y; cases y
              · rw [upd_ne w] at y; exact .inr (n.h.free y)
          · by_cases w : c = d
            · subst w; rw [hd2] at q; cases q; exact .inl upd_same
            · rw [upd_ne w]; exact n2.emb c u q
          · by_cases w : c = d
            · subst w
              have := n.h _ _ q
              rw [z] at this; cases this; exact upd_same
            · rw [upd_ne w]
              exact n2.h _ _ (by rw [upd_ne w]; exact n.h _ _ q)
        · exact tLc_of (Q := fun v => Ul X (Q v)) b r' gs (fun p hp => by rw [List.mem_singleton.mp hp]; exact z) h1 h2 fun a F2 H2 n2 ha f0 ow => .inl (PF.next (Q := Q) o n a F2 H2 n2 ha f0 ow)
      | ex c => exact absurd e2 lcOut_ne
      | no => rw [e2] at o; exact o.elim
  | ex c => simp only [e1, R.bind] at o; exact o
  | no => simp only [e1, R.bind] at o; exact o
theorem jf_lcE (hc : X.calm = true) (hN : X.N.Nodup) (he : J X W fe iter) (b : Blk X scope own bd ifs elt g tt tg es e) (hs : ∀ x, foldedSetIterable iter X.env x = pure x := by intro _; rfl) :
    JF X W (bLcE fe (own.map (·.2)) bd ifs elt) (.ListComp e [⟨tg, iter, es, 0⟩] scope pos) := ⟨PE.imp (pe_unl (pe_lc hc hN (pi_any he) b.ok (fun s H C cl fp => (b.hg s H C cl fp).pg) (fun s H C cl fp => (b.ht s H C cl fp).pts) (fun s H C cl fp => (b.he s H C cl fp).pe) hs)) fun σ H Q ⟨F, γ, r, o⟩ => lcE_of b r o⟩
theorem js_lcE (i : Nat) {y : Str} {py : Pos} {spos : Pos} (hc : X.calm = true) (hN : X.N.Nodup) (he : J X W fe iter) (b : Blk X scope own bd ifs elt g tt tg es e) (hy : X.N[i]? = some y := by rfl) (hyl : X.env.scope.names.lookup y = some .local := by rfl)
    (hsw : swapsWith (.ListComp e [⟨tg, iter, es, 0⟩] scope pos) (some (.Name y py)) spos.line X.env = pure true := by exact sw_true rfl rfl rfl (by decide +kernel)) (hs : ∀ x, foldedSetIterable iter X.env x = pure x := by intro _; rfl) :
    JS X W (fOwn i (bLcE fe (own.map (·.2)) bd ifs elt)) (.Assign [.Name y py] (.ListComp e [⟨tg, iter, es, 0⟩] scope pos) spos) := ⟨PS.imp (ps_unl (ps_setLc hc hN hy hyl hsw (pi_any he) b.ok (fun s H C cl fp => (b.hg s H C cl fp).pg) (fun s H C cl fp => (b.ht s H C cl fp).pts) (fun s H C cl fp => (b.he s H C cl fp).pe) hs)) fun E σ H ⟨B, F, γ, r, o⟩ => by
  refine lcE_of (fe := fe) (W := W) (F := F) (γ := γ) (Q := fun x H1 => gName i x σ H1 E.nx) b r.rs ?_
  unfold fOwn at o
  cases e1 : bLcE fe (own.map (·.2)) bd ifs elt γ with
  | ok d => rw [e1] at o; exact fun a F' H' n ha fa ow => o F' _ H' (r.own n i ha fa ow)
  | ex c => rw [e1] at o; exact fun F' H' n => o σ F' H' (r.fi.next n)
  | no => rw [e1] at o; exact o⟩
end
/-! ### own things changed -/
def putD (es : List (Tx × D)) (k : Tx) (d : D) : List (Tx × D) := if (es.any fun e => e.1 == k) = true then es.map (fun e => if (e.1 == k) = true then (e.1, d) else e) else es ++ [(k, d)]
theorem keyS_iff {k k' : Tx} : ((Sum.inr (toS k') : Key) = Sum.inr (toS k)) ↔ k' = k := ⟨fun z => toS_inj.mp (Sum.inr.inj z), fun z => by rw [z]⟩
theorem RepK.any_eq {K : PySem.W.Frag} {F : Hp} (k : Tx) {es : List (Tx × D)} {kvs : List (Key × V)} (h : RepK K F es kvs) : (kvs.any fun kv => decide (kv.1 = (Sum.inr (toS k) : Key))) = es.any fun e => e.1 == k := by
  induction es generalizing kvs with
  | nil => cases h; rfl
  | cons e es ih =>
    cases h with
    | cons h1 h2 =>
      rw [List.any_cons, List.any_cons, ih h2]
      congr 1
      rw [Bool.eq_iff_iff]
      simp [toS_inj]
theorem RepK.repl {K : PySem.W.Frag} {F : Hp} (k : Tx) {d : D} {v : V} (p : Rep K F d v) {es : List (Tx × D)} {kvs : List (Key × V)} (h : RepK K F es kvs) :
    RepK K F (es.map (fun e => if (e.1 == k) = true then (e.1, d) else e)) (kvs.map (fun kv => if kv.1 = (Sum.inr (toS k) : Key) then (kv.1, v) else kv)) := by
  induction es generalizing kvs with
  | nil => cases h; exact .nil
  | cons e es ih =>
    obtain ⟨k', d'⟩ := e
    cases h with
    | cons h1 h2 =>
      simp only [List.map_cons]
      by_cases q : k' = k
      · rw [if_pos (keyS_iff.mpr q), if_pos (by simpa using q)]; exact .cons p (ih h2)
      · rw [if_neg (fun z => q (keyS_iff.mp z)), if_neg (by simpa using q)]; exact .cons h1 (ih h2)
theorem RepK.snoc {K : PySem.W.Frag} {F : Hp} (k : Tx) {d : D} {v : V} (p : Rep K F d v) {es : List (Tx × D)} {kvs : List (Key × V)} (h : RepK K F es kvs) : RepK K F (es ++ [(k, d)]) (kvs ++ [(Sum.inr (toS k), v)]) := by
  induction es generalizing kvs with
  | nil => cases h; exact .cons p .nil
  | cons e es ih =>
    obtain ⟨k', d'⟩ := e
    cases h with
    | cons h1 h2 => exact .cons h1 (ih h2)
theorem RepK.put {K : PySem.W.Frag} {F : Hp} {es : List (Tx × D)} {kvs : List (Key × V)} (h : RepK K F es kvs) (k : Tx) {d : D} {v : V} (p : Rep K F d v) : RepK K F (putD es k d) (putK kvs (Sum.inr (toS k)) v) := by
  unfold putD putK
  rw [h.any_eq k]
  split
  · exact h.repl k p
  · exact h.snoc k p
theorem lim_lt : lim < sizeLine := by rw [sizeLine_eq]; decide
def owL (γ : Ga) (i : Nat) : Option (List D) := match γ[i]? with | some (.ow (.lst xs)) => some xs | _ => none
def owK (γ : Ga) (i : Nat) : Option (List (Tx × D)) := match γ[i]? with | some (.ow (.dic xs)) => some xs | _ => none
theorem owL_some {γ : Ga} {i : Nat} {xs : List D} (h : owL γ i = some xs) : γ[i]? = some (.ow (.lst xs)) := by
  unfold owL at h
  split at h
  · cases h; assumption
  · cases h
theorem owK_some {γ : Ga} {i : Nat} {xs : List (Tx × D)} (h : owK γ i = some xs) : γ[i]? = some (.ow (.dic xs)) := by
  unfold owK at h
  split at h
  · cases h; assumption
  · cases h
def fApp (i : Nat) (fe : Ga → R D) : Ga → R Fl := fun γ => match owL γ i with
  | some xs => (fe γ).bind fun d => if xs.length < lim then .ok (.nx (γ.set i (.ow (.lst (xs ++ [d]))))) else .no
  | none => .no
def fIns (i : Nat) (fk fe : Ga → R D) : Ga → R Fl := fun γ => match owL γ i with
  | some xs => (fk γ).bind fun k => (fe γ).bind fun d => match k with
    | .int j => if xs.length < lim ∧ 0 ≤ j ∧ j < 2 ^ 63 then .ok (.nx (γ.set i (.ow (.lst (xs.take j.toNat ++ [d] ++ xs.drop j.toNat))))) else .no
    | _ => .no
  | none => .no
def fPut (i : Nat) (fk fv : Ga → R D) : Ga → R Fl := fun γ => match owK γ i with
  | some es => (fv γ).bind fun d => (fk γ).bind fun k => match k with
    | .str s => if es.length < lim then .ok (.nx (γ.set i (.ow (.dic (putD es s d))))) else .no
    | _ => .no
  | none => .no
section
variable {X : Cx} {W : WN} {fe fk fv fa fb : Ga → R D} {e k a b : Expr} {pos apos cpos p1 p2 tpos : Pos}
theorem own_at {K : PySem.W.Frag} {B : Bs} {F H : Hp} {γ : Ga} {σ : L2.St} (r : RB K B F γ σ H) {i : Nat} {d : D} (e : γ[i]? = some (.ow d)) : ∃ a, σ[i]? = some (some (.ref a)) ∧ Own K F H d a := by
  obtain ⟨a, h1, _, h2⟩ := r.rs.sl i _ e
  exact ⟨a, h1, h2⟩
theorem js_app (i : Nat) {x : Str} (he : J X W fe e) (hN : X.N[i]? = some x := by rfl) (hv : Vis X.env.scope x := by first | exact Or.inl rfl | exact Or.inr (Or.inl rfl) | exact Or.inr (Or.inr rfl))
    (hb : attributeBase (.Name x p1) "append" X.env (eval (.Name x p1) X.env) = eval (.Name x p1) X.env := by rfl)
    (hfew : ((backTo cpos (starEach [e] X.env)).all (fun x => !x.1) && (backToKw cpos (keywordEach [] X.env)).all (fun x => x.1.isSome) && decide (([e] : List Expr).length + ([] : List Keyword).length + (if ([] : List Keyword).isEmpty then 0 else 1) < 30)) = true := by rfl)
    (hline : (apos.endLine == cpos.line) = true := by rfl) (hs : starEach [e] X.env = (false, eval e X.env) :: starEach [] X.env := by rfl)
    (hw : swapsWith (.Call (.Attribute (.Name x p1) "append" apos) [e] [] cpos) none pos.line X.env = pure false := by rfl)
    (hd : (x == ("__debug__" : Str)) = false := by decide) (hcd : (x == ("__classdict__" : Str)) = false := by decide) :
    JS X W (fApp i fe) (.Expr (.Call (.Attribute (.Name x p1) "append" apos) [e] [] cpos) pos) :=
  ⟨PS.imp (ps_expr (pe_bm PySem.F.plainAttrs_list PySem.F.slot_list_append PySem.F.type_list_append mt_append (pe_var hN hv hd hcd) (pa_cons he.pe pa_nil hs) hb hfew hline hs rfl) hw) fun E σ H ⟨B, F, γ, r, o⟩ => by
    unfold fApp at o
    cases e0 : owL γ i with
    | none => rw [e0] at o; exact o.elim
    | some xs =>
      rw [e0] at o
      have e1 := owL_some e0
      obtain ⟨a, h1, vs, h2, rp⟩ := own_at r e1
      refine ⟨_, h1, .inl ⟨rfl, _, .inl (.inl h2)⟩, ?_⟩
      refine ex_of r o fun d v F1 H1 n1 r1 p1 o1 => ?_
      split at o1
      · rename_i hl
        have h3 := n1.h _ _ h2
        have rp1 := rp.mono n1.f
        exact ⟨a, vs, v, rfl, rfl, h3, by rw [← rp.length]; exact Nat.lt_trans hl lim_lt, o1 F1 σ _ (r1.change e1 h1 ⟨_, upd_same, rp1.append (.cons p1 .nil)⟩)⟩
      · exact o1.elim⟩
theorem js_ins (i : Nat) {x : Str} (hk : J X W fk k) (he : J X W fe e) (hN : X.N[i]? = some x := by rfl) (hv : Vis X.env.scope x := by first | exact Or.inl rfl | exact Or.inr (Or.inl rfl) | exact Or.inr (Or.inr rfl))
    (hb : attributeBase (.Name x p1) "insert" X.env (eval (.Name x p1) X.env) = eval (.Name x p1) X.env := by rfl)
    (hfew : ((backTo cpos (starEach [k, e] X.env)).all (fun x => !x.1) && (backToKw cpos (keywordEach [] X.env)).all (fun x => x.1.isSome) && decide (([k, e] : List Expr).length + ([] : List Keyword).length + (if ([] : List Keyword).isEmpty then 0 else 1) < 30)) = true := by rfl)
    (hline : (apos.endLine == cpos.line) = true := by rfl) (hs : starEach [k, e] X.env = (false, eval k X.env) :: starEach [e] X.env := by rfl) (hs2 : starEach [e] X.env = (false, eval e X.env) :: starEach [] X.env := by rfl) (hpl : (backTo cpos (starEach [e] X.env)).any (·.1) = false := by rfl)
    (hw : swapsWith (.Call (.Attribute (.Name x p1) "insert" apos) [k, e] [] cpos) none pos.line X.env = pure false := by rfl)
    (hd : (x == ("__debug__" : Str)) = false := by decide) (hcd : (x == ("__classdict__" : Str)) = false := by decide) :
    JS X W (fIns i fk fe) (.Expr (.Call (.Attribute (.Name x p1) "insert" apos) [k, e] [] cpos) pos) :=
  ⟨PS.imp (ps_expr (pe_bm PySem.F.plainAttrs_list PySem.F.slot_list_insert PySem.F.type_list_insert mt_insert (pe_var hN hv hd hcd) (pa_cons hk.pe (pa_cons he.pe pa_nil hs2) hs) hb hfew hline hs hpl) hw) fun E σ H ⟨B, F, γ, r, o⟩ => by
    unfold fIns at o
    cases e0 : owL γ i with
    | none => rw [e0] at o; exact o.elim
    | some xs =>
      rw [e0] at o
      have e1 := owL_some e0
      obtain ⟨a, h1, vs, h2, rp⟩ := own_at r e1
      refine ⟨_, h1, .inl ⟨rfl, _, .inl (.inl h2)⟩, ?_⟩
      refine ex_of r o fun dk vk F1 H1 n1 r1 p1 o1 => ?_
      refine ex_of r1 o1 fun d v F2 H2 n2 r2 p2 o2 => ?_
      cases dk <;> first | exact o2.elim | skip
      rename_i j
      cases p1
      simp only at o2
      split at o2
      · rename_i hl
        have n12 := n1.trans n2
        have h3 := n12.h _ _ h2
        have rp1 := rp.mono n12.f
        exact ⟨a, vs, j, v, rfl, rfl, h3, by rw [← rp.length]; exact Nat.lt_trans hl.1 lim_lt, hl.2.1, hl.2.2, o2 F2 σ _ (r2.change e1 h1 ⟨_, upd_same, ((rp1.take _).append (.cons p2 .nil)).append (rp1.drop _)⟩)⟩
      · exact o2.elim⟩
theorem js_put (i : Nat) {x : Str} (hu : X.A.units + 1 < cLine) (hk : J X W fk k) (hv : J X W fv e) (hN : X.N[i]? = some x := by rfl) (hvis : Vis X.env.scope x := by first | exact Or.inl rfl | exact Or.inr (Or.inl rfl) | exact Or.inr (Or.inr rfl))
    (hs : swapsWith e (some (.Subscript (.Name x p1) k p2)) pos.line X.env = pure false := by rfl) (hd : (x == ("__debug__" : Str)) = false := by decide) (hcd : (x == ("__classdict__" : Str)) = false := by decide) :
    JS X W (fPut i fk fv) (.Assign [.Subscript (.Name x p1) k p2] e pos) :=
  ⟨PS.imp (ps_dput hu (pe_var hN hvis hd hcd) hk.pe hv.pe hs) fun E σ H ⟨B, F, γ, r, o⟩ => by
    unfold fPut at o
    cases e0 : owK γ i with
    | none => rw [e0] at o; exact o.elim
    | some es =>
      rw [e0] at o
      have e1 := owK_some e0
      obtain ⟨a, h1, kvs, h2, rp⟩ := own_at r e1
      refine ex_of r o fun d v F1 H1 n1 r1 p1 o1 => ?_
      refine ⟨_, h1, ?_⟩
      refine ex_of r1 o1 fun dk vk F2 H2 n2 r2 p2 o2 => ?_
      cases dk <;> first | exact o2.elim | skip
      rename_i s
      cases p2
      simp only at o2
      split at o2
      · rename_i hl
        have n12 := n1.trans n2
        have h3 := n12.h _ _ h2
        have rp1 := rp.mono n12.f
        exact ⟨a, _, rfl, .inl ⟨kvs, .inr (toS s), h3, rfl, by rw [← rp.length]; exact Nat.lt_trans hl lim_lt, rfl⟩, o2 F2 σ _ (r2.change e1 h1 ⟨_, upd_same, rp1.put s (p1.mono n2.f)⟩)⟩
      · exact o2.elim⟩
end
/-! ### dicts -/
section
variable {X : Cx} {W : WN} {fe fk fv fa fb fc : Ga → R D} {e k a b c : Expr} {pos apos cpos p1 p2 tpos : Pos}
theorem jf_dic0 : JF X W (bC (.dic [])) (.Dict [] [] pos) := ⟨PE.imp pe_dnewK fun σ H Q ⟨F, γ, r, o⟩ => fun p hp => by
  exact o p F _ (.laid r.emb hp _) hp (r.emb.free hp) ⟨[], upd_same, .nil⟩⟩
def bGet (fa fb fc : Ga → R D) : Ga → R D := fun γ => (fa γ).bind fun x => match x with
  | .dic es => (fb γ).bind fun y => (fc γ).bind fun z => match y with
    | .str k => .ok ((lookK es k).getD z)
    | _ => .no
  | _ => .no
theorem j_get (hu : X.A.units + 1 < cLine) (ha : JR X W fa a) (hb : J X W fb b) (hc : J X W fc c) (m : M2 X a "get" apos b c cpos := by exact ⟨rfl, rfl, rfl, rfl⟩) : J X W (bGet fa fb fc) (.Call (.Attribute a "get" apos) [b, c] [] cpos) :=
  ⟨PE.imp (pe_dget2 hu ha.pe hb.pe hc.pe m) fun σ H Q ⟨F, γ, r, o⟩ => by
    refine go1 (Z := fun z => Out (PV X.K F H) F H (fun c H' => W c σ H') z Q) r o (fun _ z => z) (fun z => z) fun dx x F1 H1 n1 r1 p1 o1 => ?_
    cases dx <;> first | exact o1.elim | skip
    rename_i es
    obtain ⟨d, kvs, rfl, s1, q1⟩ := p1.dic r1.emb
    refine ⟨d, rfl, .inl ⟨kvs, s1⟩, ?_⟩
    refine go1v (Z := fun z => Out (PV X.K F H) F H (fun c H' => W c σ H') z Q) r1 o1 (fun _ z F' H' n => z F' H' (n1.trans n)) (fun z => z) fun dy y F2 H2 n2 r2 p2 o2 => ?_
    refine go1v (Z := fun z => Out (PV X.K F H) F H (fun c H' => W c σ H') z Q) r2 o2 (fun _ z F' H' n => z F' H' ((n1.trans n2).trans n)) (fun z => z) fun dz z F3 H3 n3 r3 p3 o3 => ?_
    cases dy <;> first | exact o3.elim | skip
    rename_i s
    cases p2
    obtain ⟨d', kvs', e', s3, q3⟩ := ((p1.next n2).next n3).dic r3.emb
    cases e'
    refine ⟨_, .inl ⟨kvs', .inr (toS s), s3, rfl, rfl⟩, ?_⟩
    have q := PV.next (Q := Q) o3 ((n1.trans n2).trans n3)
    rcases q3.look s with ⟨z1, z2⟩ | ⟨d1, v1, z1, z2, z3⟩
    · rw [z2]; rw [z1] at q; exact q.here r3.emb p3
    · rw [z2]; rw [z1] at q; exact q.here r3.emb z3⟩
end
/-! ### in -/
/-- s stands somewhere in t -/
def subT (s t : Tx) : Bool := (List.range (t.length + 1)).any fun i => decide (i + s.length ≤ t.length) && ((t.drop i).take s.length == s)
theorem sub_occ (s t : Tx) : (!(Builtin.Str.occurrences (toS t) (toS s) 0 (toS t).length 1).isEmpty) = subT s t := by
  rw [Bool.eq_iff_iff, PySem.StrLaws.found_iff]
  unfold subT
  rw [List.any_eq_true]
  simp only [toS_len, PySem.StrLaws.subAt_eq]
  constructor
  · rintro ⟨i, h1, h2⟩
    exact ⟨i, List.mem_range.mpr (by omega), by simpa using ⟨h1, by simpa [toS] using h2⟩⟩
  · rintro ⟨i, _, h⟩
    rw [Bool.and_eq_true, decide_eq_true_iff] at h
    exact ⟨i, h.1, by simpa [toS] using h.2⟩
def flatD : D → Bool
  | .non => true
  | .bl _ => true
  | .int _ => true
  | .str s => s.all (· < 0x110000)
  | _ => false
def dInB : D → D → R Bool
  | .str s, .str t => .ok (subT s t)
  | .str k, .dic es => .ok (lookK es k).isSome
  | x, .lst xs => if pl 20 x = true ∧ pl 20 (.lst xs) = true then .ok (xs.any fun z => eqv 20 z x) else .no
  | x, .tup xs => if flatD x = true ∧ xs.all flatD = true then .ok (xs.any fun z => eqv 20 z x) else .no
  | _, _ => .no
def dIn (x y : D) : R D := (dInB x y).bind fun b => .ok (.bl b)
def dNotIn (x y : D) : R D := (dInB x y).bind fun b => .ok (.bl (!b))
theorem dInB_ne : ∀ x y c, dInB x y ≠ .ex c := fun x y c => by
  unfold dInB
  split <;> first | (intro h; cases h; done) | (split <;> intro h <;> cases h)
theorem toP_succ : ∀ (n : Nat) (d : D), pl n d = true → toP (n + 1) d = toP n d := by
  intro n
  induction n with
  | zero => intro d h; cases d <;> first | rfl | (cases h; done)
  | succ n ih =>
    intro d h
    cases d <;> first | rfl | (cases h; done) | skip
    · simp only [toP, PyData.list.injEq]
      refine List.map_congr_left fun x hx => ih x (List.all_eq_true.mp h x hx)
    · simp only [toP, PyData.tuple.injEq]
      refine List.map_congr_left fun x hx => ih x (List.all_eq_true.mp h x hx)
theorem pl_succ : ∀ (n : Nat) (d : D), pl n d = true → pl (n + 1) d = true := by
  intro n
  induction n with
  | zero => intro d h; cases d <;> first | rfl | exact h | (cases h; done)
  | succ n ih =>
    intro d h
    cases d <;> first | rfl | exact h | (cases h; done) | skip
    · exact List.all_eq_true.mpr fun x hx => ih x (List.all_eq_true.mp h x hx)
    · exact List.all_eq_true.mpr fun x hx => ih x (List.all_eq_true.mp h x hx)
theorem flat_v {K : PySem.W.Frag} {F H : Hp} {d : D} {v : V} (h : flatD d = true) (r : Rep1 K F H d v) : flatV v = true := by
  cases d <;> first | (cases h; done) | skip
  · cases r.non; rfl
  · cases r.bl; rfl
  · cases r.int; rfl
  · cases r.str; rfl
theorem eqV_of {K : PySem.W.Frag} {F H : Hp} {d e : D} {v u : V} (h : flatD d = true) (h2 : flatD e = true) (r : Rep1 K F H d v) (r2 : Rep1 K F H e u) : eqV v u = eqv 20 d e := by
  cases d <;> first | (cases h; done) | skip
  · cases r.non
    cases e <;> first | (cases h2; done) | skip
    · cases r2.non; rfl
    · cases r2.bl; rfl
    · cases r2.int; rfl
    · cases r2.str; rfl
  · cases r.bl
    cases e <;> first | (cases h2; done) | skip
    · cases r2.non; rfl
    · cases r2.bl; rfl
    · cases r2.int; rfl
    · cases r2.str; rfl
  · cases r.int
    cases e <;> first | (cases h2; done) | skip
    · cases r2.non; rfl
    · cases r2.bl; rfl
    · cases r2.int; rfl
    · cases r2.str; rfl
  · cases r.str
    cases e <;> first | (cases h2; done) | skip
    · cases r2.non; rfl
    · cases r2.bl; rfl
    · cases r2.int; rfl
    · cases r2.str; exact toS_beq _ _
theorem inV_of {K : PySem.W.Frag} {F H : Hp} {x : D} {v : V} (h : flatD x = true) (r : Rep1 K F H x v) : ∀ {xs : List D} {vs : List V}, xs.all flatD = true → Reps K F xs vs → inV v vs = xs.any (fun z => eqv 20 z x) ∧ vs.all flatV = true := by
  intro xs
  induction xs with
  | nil => intro vs _ q; cases q; exact ⟨rfl, rfl⟩
  | cons y ys ih =>
    intro vs ha q
    rw [List.all_cons, Bool.and_eq_true] at ha
    cases q with
    | cons q1 q2 =>
      obtain ⟨a, b⟩ := ih ha.2 q2
      refine ⟨?_, by rw [List.all_cons, flat_v (H := H) ha.1 (.inl q1), b]; rfl⟩
      unfold inV at a ⊢
      rw [List.any_cons, List.any_cons, a, eqV_of ha.1 h (.inl q1) r]
theorem in_run {X : Cx} {pins : List (Addr × Obj)} {s : Shared} {σ : L2.St} {H : Hp} {x y : V} {v u : Value} {F : Hp} {dx dy : D} {b : Bool} (hu : X.A.units + 65 < cLine) (neg : Bool) {Q : VK} (I : Inv X pins σ H s) (rx : RelV x v) (ry : RelV y u) (e : Emb F H) (r1 : Rep1 X.K F H dx x) (r2 : Rep1 X.K F H dy y)
    (hg : dInB dx dy = .ok b) (q : Q (.bl (if neg then !b else b)) H) : wpAny (model X.prog X.w) X.A (compareOp (if neg then .NotIn else .In) v u) (EP X pins σ Q) X.xe s := by
  unfold dInB at hg
  split at hg
  · rename_i s1 t1
    cases hg
    rw [← sub_occ] at q
    cases neg with
    | true => exact op_notin_str pins s σ H x y v u Q I rx ry ⟨_, _, r1.str, r2.str, q⟩
    | false => exact op_in_str pins s σ H x y v u Q I rx ry ⟨_, _, r1.str, r2.str, q⟩
  · rename_i k es
    cases hg
    obtain ⟨a, kvs, rfl, s1, p1⟩ := r2.dic e
    cases ry
    have ex := r1.str
    subst ex
    have hl : (lookK es k).isSome = (valV kvs (Sum.inr (toS k) : Key)).isSome := by
      rcases p1.look k with ⟨z1, z2⟩ | ⟨d1, v1, z1, z2, z3⟩
      · rw [z1, z2]; rfl
      · rw [z1, z2]; rfl
    rw [hl] at q
    have g : DGet H a (.str (toS k)) (valV kvs (Sum.inr (toS k) : Key)) := .inl ⟨kvs, .inr (toS k), s1, rfl, rfl⟩
    cases neg with
    | true => exact d_notIn (by omega) I g rx fun s3 I3 => ⟨.bl (!(valV kvs (Sum.inr (toS k) : Key)).isSome), H, I3, rfl, q⟩
    | false => exact d_in (by omega) I g rx fun s3 I3 => ⟨.bl (valV kvs (Sum.inr (toS k) : Key)).isSome, H, I3, rfl, q⟩
  · rename_i _ _ xs
    split at hg
    · rename_i hp
      cases hg
      have ha : xs.all (pl 19) = true := hp.2
      have e1 : ∀ z ∈ xs, PyData.eqv (toP 19 z) (toP 20 dx) = eqv 20 z dx := fun z hz => by
        have hz' := List.all_eq_true.mp ha z hz
        rw [← toP_succ 19 z hz', eqv_toP 20 z dx (pl_succ 19 z hz') hp.1]
      have e2 : ((xs.map (toP 19)).any fun z => PyData.eqv z (toP 20 dx)) = xs.any fun z => eqv 20 z dx := by
        rw [List.any_map]
        clear q r2 hp ha
        induction xs with
        | nil => rfl
        | cons z zs ih =>
          rw [List.any_cons, List.any_cons, ih (fun z hz => e1 z (List.mem_cons_of_mem _ hz))]
          congr 1
          exact e1 z List.mem_cons_self
      have d1 := dp_of1 e hp.1 r1
      have d2 := dp_of1 e hp.2 r2
      rw [← e2] at q
      cases neg with
      | true => exact op_notInD hu pins s σ H x y v u Q I rx ry ⟨_, _, d1, d2, toP_shaped hp.1, toP_shaped hp.2, q⟩
      | false => exact op_inD hu pins s σ H x y v u Q I rx ry ⟨_, _, d1, d2, toP_shaped hp.1, toP_shaped hp.2, q⟩
    · cases hg
  · rename_i _ _ xs
    split at hg
    · rename_i hp
      cases hg
      obtain ⟨a, vs, rfl, s1, p1⟩ := r2.tup e
      obtain ⟨i1, i2⟩ := inV_of hp.1 r1 hp.2 p1
      rw [← i1] at q
      cases neg with
      | true => exact op_notIn_seq pins s σ H x _ v u Q I rx ry ⟨a, vs, rfl, .inr s1, flat_v hp.1 r1, i2, q⟩
      | false => exact op_in_seq pins s σ H x _ v u Q I rx ry ⟨a, vs, rfl, .inr s1, flat_v hp.1 r1, i2, q⟩
    · cases hg
  · cases hg
theorem o_in {X : Cx} (hu : X.A.units + 65 < cLine) : OpD X (compareOp .In) dIn := by
  refine ⟨fun pins s σ H x y v u Q I rx ry ⟨F, dx, dy, d, e, r1, r2, hg, q⟩ => ?_, fun x y c => ?_⟩
  · unfold dIn at hg
    cases e1 : dInB dx dy with
    | ok b => rw [e1] at hg; cases hg; exact in_run hu false I rx ry e r1 r2 e1 (q.here e (.bl _))
    | ex c => exact absurd e1 (dInB_ne _ _ _)
    | no => rw [e1] at hg; cases hg
  · unfold dIn
    cases e1 : dInB x y with
    | ok b => intro h; cases h
    | ex c => exact absurd e1 (dInB_ne _ _ _)
    | no => intro h; cases h
theorem o_notin {X : Cx} (hu : X.A.units + 65 < cLine) : OpD X (compareOp .NotIn) dNotIn := by
  refine ⟨fun pins s σ H x y v u Q I rx ry ⟨F, dx, dy, d, e, r1, r2, hg, q⟩ => ?_, fun x y c => ?_⟩
  · unfold dNotIn at hg
    cases e1 : dInB dx dy with
    | ok b => rw [e1] at hg; cases hg; exact in_run hu true I rx ry e r1 r2 e1 (q.here e (.bl _))
    | ex c => exact absurd e1 (dInB_ne _ _ _)
    | no => rw [e1] at hg; cases hg
  · unfold dNotIn
    cases e1 : dInB x y with
    | ok b => intro h; cases h
    | ex c => exact absurd e1 (dInB_ne _ _ _)
    | no => intro h; cases h
/-! ### methods of texts -/
section
variable {X : Cx} {W : WN} {fa fb : Ga → R D} {a b : Expr} {cpos apos : Pos}
def b2s (g : Tx → D → R D) (fa fb : Ga → R D) : Ga → R D := fun γ => (fa γ).bind fun x => match x with
  | .str s => (fb γ).bind fun y => g s y
  | _ => .no
theorem j_m1 {id : String} {name : Str} {g : Tx → D → R D} (slot : Slot "str" name id) (ty : typeOf (.builtin id) = pure (.type "method_descriptor"))
    (rule : MtR X id (fun x xs H Q => ∃ F s dy y d, x = .str (toS s) ∧ xs = [y] ∧ Emb F H ∧ Rep1 X.K F H dy y ∧ g s dy = .ok d ∧ PV X.K F H d Q)) (ne : ∀ s y c, g s y ≠ .ex c) (ha : JR X W fa a) (hb : JR X W fb b)
    (hs : starEach [b] X.env = [(false, eval b X.env)] := by rfl) (hbase : attributeBase a name X.env (eval a X.env) = eval a X.env := by rfl) (hline : (apos.endLine == cpos.line) = true := by rfl) : J X W (b2s g fa fb) (.Call (.Attribute a name apos) [b] [] cpos) :=
  ⟨PE.imp (pe_m1 slot ty rule ha.pe hb.pe hs hbase hline) fun σ H Q ⟨F, γ, r, o⟩ => by
    refine go1 (Z := fun z => Out (PV X.K F H) F H (fun c H' => W c σ H') z Q) r o (fun _ z => z) (fun z => z) fun dx x F1 H1 n1 r1 p1 o1 => ?_
    cases dx <;> first | exact o1.elim | skip
    rename_i z
    refine ⟨⟨_, p1.str⟩, ?_⟩
    refine go1 (Z := fun z => Out (PV X.K F H) F H (fun c H' => W c σ H') z Q) r1 o1 (fun _ z F' H' n => z F' H' (n1.trans n)) (fun z => z) fun dy y F2 H2 n2 r2 p2 o2 => ?_
    cases e : g z dy with
    | ok d => rw [e] at o2; exact ⟨F2, z, dy, y, d, p1.str, rfl, r2.emb, p2, e, PV.next (Q := Q) o2 (n1.trans n2)⟩
    | ex c => exact absurd e (ne _ _ _)
    | no => rw [e] at o2; exact o2.elim⟩
def dSw : Tx → D → R D
  | s, .str t => .ok (.bl (decide (t.length ≤ s.length) && (s.take t.length == t)))
  | _, _ => .no
def dEw : Tx → D → R D
  | s, .str t => .ok (.bl (decide (t.length ≤ s.length) && (s.drop (s.length - t.length) == t)))
  | _, _ => .no
theorem j_sw (ha : JR X W fa a) (hb : JR X W fb b) (hs : starEach [b] X.env = [(false, eval b X.env)] := by rfl) (hbase : attributeBase a "startswith" X.env (eval a X.env) = eval a X.env := by rfl) (hline : (apos.endLine == cpos.line) = true := by rfl) :
    J X W (b2s dSw fa fb) (.Call (.Attribute a "startswith" apos) [b] [] cpos) :=
  j_m1 PySem.F.slot_str_startswith PySem.F.type_str_startswith (fun pins s σ H x xs v us Q I rx rs ⟨F, z, dy, y, d, e1, e2, e, r2, hg, q⟩ => by
    cases dy <;> first | (cases hg; done) | skip
    cases hg
    refine mt_startswith pins s σ H x xs v us Q I rx rs ⟨_, _, e1, by rw [e2, r2.str], ?_⟩
    have : Txt.startswith (toS z) (toS ‹Tx›) = (decide ((‹Tx› : Tx).length ≤ z.length) && (z.take (‹Tx› : Tx).length == ‹Tx›)) := by
      unfold Txt.startswith
      rw [PySem.StrLaws.subAt_eq, toS_len, toS_len, Nat.zero_add]
      rfl
    rw [this]
    exact q.here e (.bl _)) (fun s y c => by cases y <;> intro h <;> cases h) ha hb hs hbase hline
theorem j_ew (ha : JR X W fa a) (hb : JR X W fb b) (hs : starEach [b] X.env = [(false, eval b X.env)] := by rfl) (hbase : attributeBase a "endswith" X.env (eval a X.env) = eval a X.env := by rfl) (hline : (apos.endLine == cpos.line) = true := by rfl) :
    J X W (b2s dEw fa fb) (.Call (.Attribute a "endswith" apos) [b] [] cpos) :=
  j_m1 PySem.F.slot_str_endswith PySem.F.type_str_endswith (fun pins s σ H x xs v us Q I rx rs ⟨F, z, dy, y, d, e1, e2, e, r2, hg, q⟩ => by
    cases dy <;> first | (cases hg; done) | skip
    rename_i t
    cases hg
    refine mt_endswith pins s σ H x xs v us Q I rx rs ⟨_, _, e1, by rw [e2, r2.str], ?_⟩
    have : Txt.endswith (toS z) (toS t) = (decide (t.length ≤ z.length) && (z.drop (z.length - t.length) == t)) := by
      unfold Txt.endswith
      rw [PySem.StrLaws.subAt_eq, toS_len, toS_len, Nat.zero_add]
      by_cases h : t.length ≤ z.length
      · congr 2
        show ((z.drop (z.length - t.length)).take t.length) = _
        rw [List.take_of_length_le]
        rw [List.length_drop]; omega
      · simp [h]
    rw [this]
    exact q.here e (.bl _)) (fun s y c => by cases y <;> intro h <;> cases h) ha hb hs hbase hline
/-- sep.join -/
def joinT (s : Tx) : List Tx → Tx
  | [] => []
  | [x] => x
  | x :: y :: r => x ++ (s ++ joinT s (y :: r))
def dJoin : Tx → D → R D
  | s, .lst xs => (o2r (asTxs xs)).bind fun ts => if (ts.map (·.length)).sum + ts.length * s.length ≤ lim then .ok (.str (joinT s ts)) else .no
  | _, _ => .no
theorem joinT_eq (s : Tx) : ∀ ts : List Tx, Str.join (toS s) (ts.map toS) = toS (joinT s ts) := by
  intro ts
  apply TL.ext_tl
  rw [TL.tl_join]
  have e : (ts.map toS).map TL.tl = ts := by
    rw [List.map_map]
    have : (TL.tl ∘ toS) = id := by funext y; simp [TL.tl, toS]
    rw [this, List.map_id]
  rw [e]
  show TL.joinL s ts = joinT s ts
  clear e
  induction ts with
  | nil => rfl
  | cons x r ih =>
    cases r with
    | nil => simp [TL.joinL, joinT]
    | cons y r => simp only [TL.joinL, joinT] at ih ⊢; rw [ih]
theorem j_join (ha : JR X W fa a) (hb : JR X W fb b) (hs : starEach [b] X.env = [(false, eval b X.env)] := by rfl) (hbase : attributeBase a "join" X.env (eval a X.env) = eval a X.env := by rfl) (hline : (apos.endLine == cpos.line) = true := by rfl) :
    J X W (b2s dJoin fa fb) (.Call (.Attribute a "join" apos) [b] [] cpos) :=
  j_m1 PySem.F.slot_str_join PySem.F.type_str_join (fun pins s σ H x xs v us Q I rx rs ⟨F, z, dy, y, d, e1, e2, e, r2, hg, q⟩ => by
    cases dy <;> first | (cases hg; done) | skip
    rename_i ts
    simp only [dJoin, o2r] at hg
    split at hg
    · rename_i ks hk
      have := asTxs_of hk
      subst this
      simp only [R.bind] at hg
      split at hg
      · rename_i hl
        cases hg
        obtain ⟨p, vs, rfl, s1, p1⟩ := r2.lst e
        rw [p1.txs] at s1
        refine mt_join pins s σ H x xs v us Q I rx rs ⟨_, p, _, e1, e2, .inl s1, ?_, ?_⟩
        · have hm : (List.map (fun x => x.length) (ks.map toS)) = ks.map (·.length) := by rw [List.map_map]; exact List.map_congr_left fun k _ => toS_len k
          rw [hm, List.length_map, toS_len]
          unfold lim at hl; omega
        · rw [TL.join_eq, joinT_eq]; exact q.here e (.str _)
      · cases hg
    · cases hg) (fun s y c => by
      cases y <;> simp only [dJoin, o2r] <;> first | (intro h; cases h; done) | skip
      split <;> simp only [R.bind] <;> first | (intro h; cases h; done) | (split <;> intro h <;> cases h)) ha hb hs hbase hline
end
end KN
/-! KnI: constants of the module, dict(), tuples backwards -/
namespace KN
open PySem PySem.Spec PyProof.Rows L2
theorem hu65_of {A : Around} {k : Nat} (hr : Room k A) : A.units + 65 < cLine := by have := hr.un; omega
theorem takes_W0 {X : Cx} {cl : Cl} : Takes X (VW cl W0) := takes0.imp fun c d σ H ⟨_, _, _, h⟩ => h
section
variable {X : Cx} {W : WN} {f fa fb fc : Ga → R D} {a b c e : Expr} {pos : Pos}
theorem j_globI {x : Str} {i : Int} (hm : ∃ t, X.mg x = some (.int i t)) (hg : Gl X x := by rfl) (hd : (x == ("__debug__" : Str)) = false := by decide) : J X W (bC (.int i)) (.Name x pos) := by
  obtain ⟨t, hm⟩ := hm
  exact j_glob (v := .int i) hg hm ⟨t, rfl⟩ (fun _ => .int i) hd
theorem j_globS {x : Str} {s : Tx} (hm : ∃ t, X.mg x = some (.str (toS s) t)) (hg : Gl X x := by rfl) (hd : (x == ("__debug__" : Str)) = false := by decide) : J X W (bC (.str s)) (.Name x pos) := by
  obtain ⟨t, hm⟩ := hm
  exact j_glob (v := .str (toS s)) hg hm ⟨t, rfl⟩ (fun _ => .str s) hd
end
/-! ### dict of a list of pairs -/
def asPrs : List D → Option (List (Tx × D))
  | [] => some []
  | .tup [.str k, d] :: xs => (asPrs xs).map ((k, d) :: ·)
  | _ :: _ => none
@[simp] theorem asPrs_map (ps : List (Tx × D)) : asPrs (ps.map fun p => D.tup [.str p.1, p.2]) = some ps := by
  induction ps with
  | nil => rfl
  | cons p ps ih => simp [asPrs, ih]
/-! ### t[::-1] -/
end KN
/-! KnJ: dicts of dicts -/
namespace KN
open PySem PySem.Spec PyProof.Rows L2
abbrev Tb := List (Tx × List (Tx × D))
def lookN : Tb → Tx → Option (List (Tx × D))
  | [], _ => none
  | (k, r) :: es, x => if k = x then some r else lookN es x
def putN : Tb → Tx → List (Tx × D) → Tb
  | [], x, r => [(x, r)]
  | (k, r0) :: es, x, r => if k = x then (k, r) :: es else (k, r0) :: putN es x r
theorem putK_mem {kvs : List (Key × V)} {k : Key} {v : V} {p : Key × V} (h : p ∈ putK kvs k v) : p ∈ kvs ∨ p = (k, v) := by
  unfold putK at h
  split at h
  · obtain ⟨q, hq, e⟩ := List.mem_map.mp h
    split at e
    · rename_i z; subst e; right; rw [← z]
    · subst e; exact .inl hq
  · rcases List.mem_append.mp h with h | h
    · exact .inl h
    · exact .inr (List.mem_singleton.mp h)
theorem putK_pos {kvs : List (Key × V)} {k : Key} {v v0 : V} (h : ∀ p ∈ kvs, p.1 ≠ k) : putK ((k, v0) :: kvs) k v = (k, v) :: kvs := by
  unfold putK
  have : (((k, v0) :: kvs).any fun kv => decide (kv.1 = k)) = true := by simp
  rw [if_pos this, List.map_cons, if_pos rfl]
  congr 1
  conv => rhs; rw [← List.map_id kvs]
  exact List.map_congr_left fun p hp => by rw [if_neg (h p hp)]; rfl
theorem putK_neg {kvs : List (Key × V)} {k k' : Key} {v v0 : V} (h : k' ≠ k) : putK ((k', v0) :: kvs) k v = (k', v0) :: putK kvs k v := by
  unfold putK
  rw [List.any_cons]
  have : decide (k' = k) = false := decide_eq_false h
  simp only [this, Bool.false_or]
  split
  · rw [List.map_cons, if_neg h]
  · rfl
section
variable {K : PySem.W.Frag} {F H : Hp} {a : Addr}
theorem OwK.look (c : Tx) : ∀ {es : Tb} {kvs : List (Key × V)}, OwK K F H a es kvs →
    (lookN es c = none ∧ valV kvs (Sum.inr (toS c)) = none) ∨ ∃ row r kv, lookN es c = some row ∧ valV kvs (Sum.inr (toS c)) = some (.ref r) ∧ r ≠ a ∧ F r = none ∧ H r = some (.dK kv) ∧ RepK K F row kv ∧ ((Sum.inr (toS c) : Key), V.ref r) ∈ kvs
  | [], [], _ => .inl ⟨rfl, rfl⟩
  | (k, row) :: es, (k', v) :: kvs, ⟨e, ⟨r, kv, e1, e2, e3, e4, e5, e6⟩, o⟩ => by
    subst e1
    subst e
    by_cases q : k = c
    · subst q
      exact .inr ⟨row, r, kv, by simp [lookN], valV_pos rfl, e2, e3, e4, e5, List.mem_cons_self⟩
    · have q' : ¬ (Sum.inr (toS k) : Key) = Sum.inr (toS c) := fun z => q (keyS_iff.mp z)
      rcases o.look c with ⟨h1, h2⟩ | ⟨row', r', kv', h1, h2, h3, h4, h5, h6, h7⟩
      · exact .inl ⟨by rw [lookN, if_neg q]; exact h1, by rw [valV_neg q']; exact h2⟩
      · exact .inr ⟨row', r', kv', by rw [lookN, if_neg q]; exact h1, by rw [valV_neg q']; exact h2, h3, h4, h5, h6, List.mem_cons_of_mem _ h7⟩
  | [], _ :: _, h => h.elim
  | _ :: _, [], h => h.elim
theorem OwK.len : ∀ {es : Tb} {kvs : List (Key × V)}, OwK K F H a es kvs → es.length = kvs.length
  | [], [], _ => rfl
  | (k, row) :: es, (k', v) :: kvs, ⟨e, _, o⟩ => by simp [o.len]
  | [], _ :: _, h => h.elim
  | _ :: _, [], h => h.elim
theorem mem_of_val {kvs : List (Key × V)} {k : Key} {v : V} (h : valV kvs k = some v) : ∃ p ∈ kvs, p.2 = v := by
  unfold valV at h
  cases e : kvs.find? fun kv => decide (kv.1 = k) with
  | none => rw [e] at h; cases h
  | some p => rw [e] at h; cases h; exact ⟨p, List.mem_of_find?_eq_some e, rfl⟩
theorem OwK.put {F2 H2 : Hp} (c : Tx) {row : List (Tx × D)} {q : Addr} {kv : List (Key × V)} (f : Same F F2) (q1 : q ≠ a) (q2 : F2 q = none) (q3 : H2 q = some (.dK kv)) (q4 : RepK K F2 row kv) : ∀ {es : Tb} {kvs : List (Key × V)}, OwK K F H a es kvs →
    (∀ k b u, (k, V.ref b) ∈ kvs → b ≠ q → F b = none → H b = some u → H2 b = some u ∧ F2 b = none) →
    (valV kvs (Sum.inr (toS c)) = some (.ref q) ∨ (valV kvs (Sum.inr (toS c)) = none ∧ ∀ p ∈ kvs, p.2 ≠ .ref q)) → OwK K F2 H2 a (putN es c row) (putK kvs (Sum.inr (toS c)) (.ref q))
  | [], [], _, _, h => ⟨rfl, ⟨q, kv, rfl, q1, q2, q3, q4, fun p hp => nomatch hp⟩, trivial⟩
  | (k, row0) :: es, (k', v) :: kvs, ⟨e, ⟨r, kv0, e1, e2, e3, e4, e5, e6⟩, o⟩, keep, h => by
    subst e1
    subst e
    by_cases z : k = c
    · subst z
      have hv : valV ((Sum.inr (toS k), V.ref r) :: kvs) (Sum.inr (toS k)) = some (.ref r) := valV_pos rfl
      have hq : r = q := by
        rcases h with h | ⟨h, _⟩
        · rw [hv] at h; cases h; rfl
        · rw [hv] at h; cases h
      subst hq
      rw [putK_pos fun p hp => (e6 p hp).1]
      have : putN ((k, row0) :: es) k row = (k, row) :: es := by simp [putN]
      rw [this]
      refine ⟨rfl, ⟨r, kv, rfl, q1, q2, q3, q4, e6⟩, o.next f fun k' b u m h1 h2 => keep k' b u (List.mem_cons_of_mem _ m) ?_ h1 h2⟩
      rintro rfl
      exact (e6 _ m).2 rfl
    · have z' : ¬ (Sum.inr (toS k) : Key) = Sum.inr (toS c) := fun y => z (keyS_iff.mp y)
      rw [putK_neg z']
      have : putN ((k, row0) :: es) c row = (k, row0) :: putN es c row := by simp [putN, z]
      rw [this]
      rw [valV_neg z'] at h
      have rq : r ≠ q := by
        rintro rfl
        rcases h with h | ⟨_, h⟩
        · obtain ⟨i, hi, he⟩ := mem_of_val h
          exact (e6 _ hi).2 he
        · exact h _ List.mem_cons_self rfl
      obtain ⟨y1, y2⟩ := keep _ r _ List.mem_cons_self rq e3 e4
      refine ⟨rfl, ⟨r, kv0, rfl, e2, y2, y1, e5.mono f, fun p hp => ?_⟩, o.put c f q1 q2 q3 q4 (fun k' b u m => keep k' b u (List.mem_cons_of_mem _ m)) ?_⟩
      · rcases putK_mem hp with hp | rfl
        · exact e6 p hp
        · exact ⟨fun y => z' y.symm, fun y => by cases y; exact rq rfl⟩
      · rcases h with h | ⟨h1, h2⟩
        · exact .inl h
        · exact .inr ⟨h1, fun p hp => h2 p (List.mem_cons_of_mem _ hp)⟩
  | [], _ :: _, h, _, _ => h.elim
  | _ :: _, [], h, _, _ => h.elim
/-- one row of one's own table is another -/
theorem RB.putRow {B : Bs} {γ : Ga} {σ : L2.St} (r : RB K B F γ σ H) {i : Nat} {es : Tb} (e : γ[i]? = some (.nd es)) {kvs : List (Key × V)} (ea : σ[i]? = some (some (.ref a))) (ek : H a = some (.dK kvs)) {c : Tx} {row : List (Tx × D)} {q : Addr} {kv : List (Key × V)} {H1 : Hp}
    (n : Nxt F H F H1) (hq : (valV kvs (Sum.inr (toS c)) = some (.ref q)) ∨ (valV kvs (Sum.inr (toS c)) = none ∧ H q = none)) (rp : RepK K F row kv) :
    RB K B F (γ.set i (.nd (putN es c row))) σ (upd (upd H1 q (.dK kv)) a (.dK (putK kvs (Sum.inr (toS c)) (.ref q)))) := by
  obtain ⟨a', kvs', e1, e2, e3, e4⟩ := r.rs.sl i _ e
  rw [ea] at e1; cases e1
  rw [ek] at e3; cases e3
  have qI : q ≠ a ∧ F q = none ∧ B.H0 q = none ∧ (Inn H (.nd es) σ[i]? q ∨ H q = none) := by
    rcases hq with h | ⟨_, h⟩
    · rcases e4.look c with ⟨_, z⟩ | ⟨row', r', kv', h1, h2, h3, h4, h5, h6, h7⟩
      · rw [h] at z; cases z
      · rw [h] at h2; cases h2
        exact ⟨h3, h4, r.ow i _ q e ⟨a, kvs, ea, ek, .inr ⟨_, h7⟩⟩, .inl ⟨a, kvs, ea, ek, .inr ⟨_, h7⟩⟩⟩
    · exact ⟨fun z => (by rw [z, ek] at h; cases h), r.rs.emb.free h, r.fi.free h, .inr h⟩
  obtain ⟨q1, q2, q3, q4⟩ := qI
  have a0 := r.ow i _ a e ⟨a, kvs, ea, ek, .inl rfl⟩
  refine r.chg e (s1 := .nd _) ⟨a, _, ea, e2, upd_same, OwK.put c (.refl _) q1 q2 ?_ rp e4 (fun k b u m nb fb hb => ⟨?_, fb⟩) ?_⟩ (((r.fi.next n).chg q2 q3).chg e2 a0) (.refl _) (fun b u hb fb nb => ⟨?_, fb⟩) fun b h => ?_
  · rw [upd_ne q1]; exact upd_same
  · obtain ⟨r', kv', w1, w2, w3, w4⟩ := e4.row m
    cases w1
    rw [upd_ne w2, upd_ne nb]; exact n.h _ _ hb
  · rcases hq with h | ⟨h1, h2⟩
    · exact .inl h
    · refine .inr ⟨h1, fun p hp z => ?_⟩
      obtain ⟨r', kv', w1, w2, w3, w4⟩ := e4.row (k := p.1) (v := p.2) hp
      rw [w1] at z; cases z
      rw [h2] at w4; cases w4
  · have n1 : b ≠ a := by rintro rfl; exact nb ⟨b, kvs, ea, ek, .inl rfl⟩
    have n2 : b ≠ q := by
      rintro rfl
      rcases q4 with h | h
      · exact nb h
      · rw [hb] at h; cases h
    rw [upd_ne n1, upd_ne n2]; exact n.h _ _ hb
  · obtain ⟨a2, kvs2, w1, w2, w3⟩ := h
    rw [ea] at w1; cases w1
    rw [upd_same] at w2; cases w2
    rcases w3 with rfl | ⟨k, m⟩
    · exact .inl ⟨b, kvs, ea, ek, .inl rfl⟩
    · rcases putK_mem m with m | m
      · exact .inl ⟨a, kvs, ea, ek, .inr ⟨k, m⟩⟩
      · cases m; exact q4
end
def fNd0 (i : Nat) : Ga → R Fl := fun γ => .ok (.nx (γ.set i (.nd [])))
def fBump (i r c l : Nat) : Ga → R Fl := fun γ => match γ[i]?, γ[c]?, γ[l]? with
  | some (.nd es), some (.va (.str ck)), some (.va (.str lk)) => match (lookK ((lookN es ck).getD []) lk).getD (.int 0) with
    | .int n => if (es.length < lim ∧ ((lookN es ck).getD []).length < lim) ∧ r < γ.length then .ok (.nx ((γ.set i (.nd (putN es ck (putD ((lookN es ck).getD []) lk (.int (n + 1)))))).set r .un)) else .no
    | _ => .no
  | _, _, _ => .no
section
variable {X : Cx} {W : WN}
theorem js_nd0 (i : Nat) {x : Str} {pos pos' p2 : Pos} (hN : X.N.Nodup) (hi : X.N[i]? = some x := by rfl) (hx : Loc X.env.scope x := by first | exact .inl rfl | exact .inr rfl) (hs : swapsWith (.Dict [] [] p2) (some (.Name x pos')) pos.line X.env = pure false := by rfl) (hf : X.fn x = true ∨ X.env.scope.names.lookup x = some .local := by first | exact .inl rfl | exact .inr rfl) :
    JS X W (fNd0 i) (.Assign [.Name x pos'] (.Dict [] [] p2) pos) := ⟨PS.imp (ps_set hN hi hx pe_dnewK hs hf) fun E σ H ⟨B, F, γ, r, o⟩ => fun p hp => by
  have n := Nxt.laid r.rs.emb hp (.dK [])
  refine o F _ _ ((r.next n).put i (s0 := .nd []) (x0 := some (.ref p)) ⟨p, [], rfl, r.rs.emb.free hp, upd_same, trivial⟩ (fun j s b nj e h1 h2 => ?_) fun b h => ?_)
  · have q := h1.back (r.rs.sl j s e) fun b u _ z => n.h _ _ z
    obtain ⟨_, u, hu⟩ := q.have (r.rs.sl j s e)
    obtain ⟨a, kvs, w1, w2, w3⟩ := h2
    cases w1
    rw [upd_same] at w2; cases w2
    rcases w3 with rfl | ⟨_, m⟩
    · rw [hp] at hu; cases hu
    · cases m
  · obtain ⟨a, kvs, w1, w2, w3⟩ := h
    cases w1
    rw [upd_same] at w2; cases w2
    rcases w3 with rfl | ⟨_, m⟩
    · exact r.fi.free hp
    · cases m⟩
theorem va_at {K : PySem.W.Frag} {F H : Hp} {γ : Ga} {σ : L2.St} (r : RS K F γ σ H) {i : Nat} {s : Tx} (e : γ[i]? = some (.va (.str s))) : σ[i]? = some (some (.str (toS s))) := by
  obtain ⟨v, e1, p⟩ := r.sl i _ e
  cases p; exact e1
/-- row = found.get(context, {}); row[letter] = row.get(letter, 0) + 1; found[context] = row -/
theorem jss_bump (i r c l : Nat) {fx rx cx lx : Str} {n1 : Nat} {n2 : Nat} {q1 q2 q3 q4 q5 q6 q7 q8 q9 q10 q11 q12 q13 q14 q15 q16 q17 q18 q19 q20 : Pos} (hN : X.N.Nodup) (hu : X.A.units + 1 < cLine) (ir : r ≠ i := by decide) (cr : r ≠ c := by decide) (lr : r ≠ l := by decide)
    (hi : X.N[i]? = some fx := by rfl) (hr : X.N[r]? = some rx := by rfl) (hc : X.N[c]? = some cx := by rfl) (hl : X.N[l]? = some lx := by rfl)
    (vi : Vis X.env.scope fx := by first | exact Or.inl rfl | exact Or.inr (Or.inl rfl) | exact Or.inr (Or.inr rfl)) (vr : Vis X.env.scope rx := by first | exact Or.inl rfl | exact Or.inr (Or.inl rfl) | exact Or.inr (Or.inr rfl))
    (vc : Vis X.env.scope cx := by first | exact Or.inl rfl | exact Or.inr (Or.inl rfl) | exact Or.inr (Or.inr rfl)) (vl : Vis X.env.scope lx := by first | exact Or.inl rfl | exact Or.inr (Or.inl rfl) | exact Or.inr (Or.inr rfl))
    (di : (fx == ("__debug__" : Str)) = false := by decide) (dr : (rx == ("__debug__" : Str)) = false := by decide) (dc : (cx == ("__debug__" : Str)) = false := by decide) (dl : (lx == ("__debug__" : Str)) = false := by decide)
    (ci : (fx == ("__classdict__" : Str)) = false := by decide) (cr' : (rx == ("__classdict__" : Str)) = false := by decide) (cc : (cx == ("__classdict__" : Str)) = false := by decide) (cl : (lx == ("__classdict__" : Str)) = false := by decide)
    (hx : Loc X.env.scope rx := by first | exact .inl rfl | exact .inr rfl) (hf : X.fn rx = true ∨ X.env.scope.names.lookup rx = some .local := by first | exact .inl rfl | exact .inr rfl)
    (s1 : swapsWith (.Call (.Attribute (.Name fx q1) "get" q2) [.Name cx q3, .Dict [] [] q4] [] q5) (some (.Name rx q6)) q7.line X.env = pure false := by rfl)
    (s2 : swapsWith (.BinOp (.Call (.Attribute (.Name rx q8) "get" q9) [.Name lx q10, .Constant (.int 0) n1 q11] [] q12) .Add (.Constant (.int 1) n2 q13) q14) (some (.Subscript (.Name rx q15) (.Name lx q16) q17)) q18.line X.env = pure false := by rfl)
    (s3 : swapsWith (.Name rx q19) (some (.Subscript (.Name fx q20) (.Name cx q1') q2')) q3'.line X.env = pure false := by rfl)
    (m1 : M2 X (.Name fx q1) "get" q2 (.Name cx q3) (.Dict [] [] q4) q5 := by exact ⟨rfl, rfl, rfl, rfl⟩)
    (m2 : M2 X (.Name rx q8) "get" q9 (.Name lx q10) (.Constant (.int 0) n1 q11) q12 := by exact ⟨rfl, rfl, rfl, rfl⟩) :
    JSs X W (fBump i r c l) [.Assign [.Name rx q6] (.Call (.Attribute (.Name fx q1) "get" q2) [.Name cx q3, .Dict [] [] q4] [] q5) q7,
      .Assign [.Subscript (.Name rx q15) (.Name lx q16) q17] (.BinOp (.Call (.Attribute (.Name rx q8) "get" q9) [.Name lx q10, .Constant (.int 0) n1 q11] [] q12) .Add (.Constant (.int 1) n2 q13) q14) q18,
      .Assign [.Subscript (.Name fx q20) (.Name cx q1') q2'] (.Name rx q19) q3'] :=
  ⟨PSs.imp (pss_cons (ps_set hN hr hx (pe_dget2 hu (pe_var hi vi di ci) (pe_var hc vc dc cc) pe_dnewK m1) s1 hf) (pss_cons (ps_dput hu (pe_var hr vr dr cr') (pe_var hl vl dl cl) (pe_add (pe_dget2 hu (pe_var hr vr dr cr') (pe_var hl vl dl cl) pe_int m2) pe_int) s2)
      (pss_one (ps_dput hu (pe_var hi vi di ci) (pe_var hc vc dc cc) (pe_var hr vr dr cr') s3)))) fun E σ H ⟨B, F, γ, R, o⟩ => by
    unfold fBump at o
    split at o
    · rename_i es ck lk e1 e2 e3
      split at o
      · rename_i n en
        split at o
        · rename_i hlen'
          obtain ⟨hlen, hgr⟩ := hlen'
          obtain ⟨a, kvs, a1, a2, a3, a4⟩ := R.rs.sl i _ e1
          have c1 := va_at R.rs e2
          have l1 := va_at R.rs e3
          have hσr : r < σ.length := by rw [← R.rs.len]; exact hgr
          have g1 : ∀ {x : Option V} {k : Nat}, r ≠ k → (σ.set r x)[k]? = σ[k]? := fun h => List.getElem?_set_ne h
          have g2 : ∀ {x : Option V}, (σ.set r x)[r]? = some x := List.getElem?_set_self hσr
          refine ⟨_, a1, a, rfl, .inl ⟨kvs, .inl a3⟩, _, c1, fun p hp => ?_⟩
          have nx := Nxt.laid R.rs.emb hp (.dK [])
          have pa : p ≠ a := by rintro rfl; rw [hp] at a3; cases a3
          refine ⟨valV kvs (.inr (toS ck)), .inl ⟨kvs, .inr (toS ck), .inl (nx.h _ _ a3), rfl, rfl⟩, ?_⟩
          -- the row
          have key : ∃ q kv, (valV kvs (.inr (toS ck))).getD (.ref p) = .ref q ∧ (valV kvs (Sum.inr (toS ck)) = some (.ref q) ∨ (valV kvs (Sum.inr (toS ck)) = none ∧ H q = none)) ∧ upd H p (.dK []) q = some (.dK kv) ∧ RepK X.K F ((lookN es ck).getD []) kv ∧ q ≠ a := by
            rcases a4.look ck with ⟨z1, z2⟩ | ⟨row, q, kv, z1, z2, z3, z4, z5, z6, z7⟩
            · refine ⟨p, [], by rw [z2]; rfl, .inr ⟨z2, hp⟩, upd_same, by rw [z1]; exact .nil, pa⟩
            · refine ⟨q, kv, by rw [z2]; rfl, .inl z2, nx.h _ _ z5, by rw [z1]; exact z6, z3⟩
          obtain ⟨q, kv, k1, k2, k3, k4, k5⟩ := key
          rw [k1]
          show tSeq _ _ E (σ.set r (some (.ref q))) (upd H p (.dK []))
          refine ⟨_, g2, q, rfl, .inl ⟨kv, .inl k3⟩, _, (g1 lr).trans l1, valV kv (.inr (toS lk)), .inl ⟨kv, .inr (toS lk), .inl k3, rfl, rfl⟩, ?_⟩
          have hn : (valV kv (.inr (toS lk))).getD (.int 0) = .int n := by
            rcases k4.look lk with ⟨z1, z2⟩ | ⟨d, v, z1, z2, z3⟩
            · rw [z1] at en; cases en; rw [z2]; rfl
            · rw [z1] at en; cases en; cases z3; rw [z2]; rfl
          refine ⟨n, 1, hn, rfl, ?_⟩
          refine ⟨_, g2, _, (g1 lr).trans l1, q, _, rfl, .inl ⟨kv, .inr (toS lk), k3, rfl, by rw [← k4.length]; exact Nat.lt_trans hlen.2 lim_lt, rfl⟩, ?_⟩
          refine ⟨_, g2, _, (g1 ir).trans a1, _, (g1 cr).trans c1, a, _, rfl, .inl ⟨kvs, .inr (toS ck), ?_, rfl, by rw [← a4.len]; exact Nat.lt_trans hlen.1 lim_lt, rfl⟩, ?_⟩
          · rw [upd_ne (Ne.symm k5)]; exact nx.h _ _ a3
          · exact o F _ _ ((R.putRow e1 a1 a3 nx k2 (k4.put lk (.int (n + 1)))).un r _)
        · exact o.elim
      · exact o.elim
    · exact o.elim⟩
end
end KN
/-! KnK: sorted lists of tuples -/
namespace KN
open PySem PySem.Spec PyProof.Rows L2
open PyProof.Rows.G (tupKeyC tupKindC isTupObj)
abbrev Ik := Int ⊕ Tx
def unI : Ik → D
  | .inl i => .int i
  | .inr s => .str s
def unT (k : List Ik) : D := .tup (k.map unI)
def asI : List D → Option (List Ik)
  | [] => some []
  | .int i :: xs => (asI xs).map (.inl i :: ·)
  | .str s :: xs => (asI xs).map (.inr s :: ·)
  | _ :: _ => none
def asTs : List D → Option (List (List Ik))
  | [] => some []
  | .tup ys :: xs => (asI ys).bind fun k => (asTs xs).map (k :: ·)
  | _ :: _ => none
theorem asI_of {xs : List D} {k : List Ik} (h : asI xs = some k) : xs = k.map unI := by
  induction xs generalizing k with
  | nil => cases h; rfl
  | cons x xs ih =>
    cases x <;> simp only [asI] at h <;> first | (cases h; done) | skip
    all_goals
      cases e : asI xs with
      | none => rw [e] at h; cases h
      | some ms => rw [e] at h; cases h; rw [ih e]; rfl
@[simp] theorem asI_map (k : List Ik) : asI (k.map unI) = some k := by
  induction k with
  | nil => rfl
  | cons x k ih => cases x <;> simp [asI, unI, ih]
theorem asTs_of {xs : List D} {ks : List (List Ik)} (h : asTs xs = some ks) : xs = ks.map unT := by
  induction xs generalizing ks with
  | nil => cases h; rfl
  | cons x xs ih =>
    cases x <;> simp only [asTs] at h <;> first | (cases h; done) | skip
    rename_i ys
    cases e : asI ys with
    | none => rw [e] at h; cases h
    | some k =>
      rw [e] at h
      cases e2 : asTs xs with
      | none => rw [e2] at h; cases h
      | some ms => rw [e2] at h; cases h; rw [ih e2, asI_of e]; rfl
@[simp] theorem asTs_map (ks : List (List Ik)) : asTs (ks.map unT) = some ks := by
  induction ks with
  | nil => rfl
  | cons k ks ih => simp [asTs, unT, ih]
def leK (a b : List Ik) : Bool := !(lexLt itemOrd b a)
def sortK (l : List (List Ik)) : List (List Ik) := l.mergeSort leK
theorem leK_total (a b : List Ik) : (leK a b || leK b a) = true := by
  unfold leK
  cases h : lexLt itemOrd b a with
  | false => rfl
  | true =>
    cases k : lexLt itemOrd a b with
    | false => rfl
    | true => have := lex_trans (O := itemOrd) _ _ _ h k; rw [lex_irrefl] at this; cases this
theorem leK_trans (a b c : List Ik) : leK a b = true → leK b c = true → leK a c = true := by
  unfold leK
  simp only [Bool.not_eq_true']
  intro h k
  cases z : lexLt itemOrd c a with
  | false => rfl
  | true =>
    rcases lex_negTrans (O := itemOrd) c b a z with y | y
    · rw [k] at y; cases y
    · rw [h] at y; cases y
theorem leK_anti {a b : List Ik} (h : leK a b = true) (k : leK b a = true) : a = b := by
  unfold leK at h k
  simp only [Bool.not_eq_true'] at h k
  exact lex_total (O := itemOrd) a b k h
theorem sortK_perm (l : List (List Ik)) : (sortK l).Perm l := List.mergeSort_perm _ _
theorem sortK_pw (l : List (List Ik)) : (sortK l).Pairwise (fun a b => leK a b = true) := List.pairwise_mergeSort leK_trans leK_total l
/-- all of one shape, and not empty -/
def okK : List (List Ik) → Bool
  | [] => true
  | k :: ks => !k.isEmpty && ks.all fun k' => (k'.map Sum.isRight) == k.map Sum.isRight
def shp (k : List Ik) (i : Nat) : Bool := (k.map Sum.isRight)[i]?.getD false
def vIt : Ik → V
  | .inl i => .int i
  | .inr s => .str (toS s)
theorem items_of {shape : Nat → Bool} : ∀ (k : List Ik) (i : Nat) (its : List Value), Vals (k.map vIt) its → (∀ j x, k[j]? = some x → shape (i + j) = x.isRight) → tupItems shape i its = some k
  | [], _, _, r, _ => by cases r; rfl
  | x :: k, i, _, r, h => by
    cases r with
    | cons r1 r2 =>
      have h0 := h 0 x rfl
      have ih := items_of k (i + 1) _ r2 fun j y e => by
        have := h (j + 1) y (by simpa using e)
        rw [show i + 1 + j = i + (j + 1) by omega]; exact this
      cases x with
      | inl n =>
        obtain ⟨t, rfl⟩ := r1
        have h0 : shape i = false := by simpa using h0
        simp [tupItems, h0, ih]
      | inr s =>
        obtain ⟨t, rfl⟩ := r1
        have h0 : shape i = true := by simpa using h0
        simp [tupItems, h0, ih, toS]
theorem paired_perm {α β : Type} {R : α → β → Prop} {us its : List β} (p : us.Perm its) : ∀ {ks : List α}, Paired R ks its → ∃ ks', ks'.Perm ks ∧ Paired R ks' us := by
  induction p with
  | nil => intro ks h; exact ⟨ks, .refl _, h⟩
  | cons x p ih =>
    intro ks h
    cases h with
    | cons h1 h2 =>
      obtain ⟨ks', a, b⟩ := ih h2
      exact ⟨_ :: ks', a.cons _, .cons h1 b⟩
  | swap x y l =>
    intro ks h
    cases h with
    | cons h1 h2 => cases h2 with | cons h3 h4 => exact ⟨_, .swap _ _ _, .cons h3 (.cons h1 h4)⟩
  | trans p q ih1 ih2 =>
    intro ks h
    obtain ⟨k1, a, b⟩ := ih2 h
    obtain ⟨k2, c, d⟩ := ih1 b
    exact ⟨k2, c.trans a, d⟩
theorem paired_get {α β : Type} {R : α → β → Prop} {xs : List α} {ys : List β} (h : Paired R xs ys) {i : Nat} {x : α} (e : xs[i]? = some x) : ∃ y, ys[i]? = some y ∧ R x y := by
  induction h generalizing i with
  | nil => simp at e
  | cons h1 _ ih =>
    cases i with
    | zero => simp at e; subst e; exact ⟨_, rfl, h1⟩
    | succ i => simp at e; simpa using ih e
theorem Reps.its {K : PySem.W.Frag} {F : Hp} : ∀ {k : List Ik} {vs : List V}, Reps K F (k.map unI) vs → vs = k.map vIt
  | [], _, h => by cases h; rfl
  | x :: k, _, h => by
    cases h with
    | cons h1 h2 =>
      rw [Reps.its h2]
      cases x <;> cases h1 <;> rfl
theorem reps_its {K : PySem.W.Frag} {F : Hp} : ∀ k : List Ik, Reps K F (k.map unI) (k.map vIt)
  | [] => .nil
  | .inl i :: k => .cons (.int i) (reps_its k)
  | .inr s :: k => .cons (.str s) (reps_its k)
theorem cr_sortedTG {X : Cx} : CallR X (.builtin "sorted") (fun vs H Q => ∃ (a : Addr) (xs : List V) (F : Hp) (ks : List (List Ik)), vs = [V.ref a] ∧ SqL X.K H a xs ∧ Emb F H ∧ Reps X.K F (ks.map unT) xs ∧ okK ks = true ∧
    ∀ (ys : List V) (p : Addr), Reps X.K F ((sortK ks).map unT) ys → H p = none → Q (.ref p) (upd H p (.lst ys))) := by
  intro pins s σ H vs us Q I r h
  obtain ⟨a, xs, F, ks, rfl, hs, em, rp, hok, q⟩ := h
  obtain ⟨its, rv, hl, hz⟩ := I.list hs
  obtain ⟨u, rfl, ru⟩ := vals1 r
  cases ru
  let shape : Nat → Bool := shp (ks.headD [])
  let T : List Ik → Value → Prop := fun k u => ∃ p, u = .ref p ∧ SqT X.K F p (k.map vIt) ∧ tupKeyC s.heap shape u = some k ∧ ∃ f, TupOf s.heap shape u f
  have hsh : ∀ k ∈ ks, k ≠ [] ∧ ∀ j x, k[j]? = some x → shape (0 + j) = x.isRight := by
    intro k hk
    cases ks with
    | nil => cases hk
    | cons k0 ks =>
      simp only [okK, Bool.and_eq_true, Bool.not_eq_true', List.all_eq_true, beq_iff_eq] at hok
      obtain ⟨h0, h1⟩ := hok
      have e : k.map Sum.isRight = k0.map Sum.isRight := by
        rcases List.mem_cons.mp hk with rfl | hk
        · rfl
        · exact h1 k hk
      refine ⟨?_, fun j x hx => ?_⟩
      · rintro rfl
        cases k0 with
        | nil => cases h0
        | cons _ _ => cases e
      · show shp k0 (0 + j) = _
        unfold shp
        rw [Nat.zero_add, ← e, List.getElem?_map, hx]; rfl
  have one : ∀ {k : List Ik} {v : V} {u : Value}, k ∈ ks → Rep X.K F (unT k) v → RelV v u → T k u := by
    intro k v u hk r1 r2
    cases r1 with
    | tup t1 t2 =>
      rename_i p vs
      have ev := Reps.its t2
      subst ev
      cases r2
      obtain ⟨jts, rj, ht, _⟩ := I.tuple (em.sqt t1)
      obtain ⟨o, ho, hc, n, hd⟩ := ht
      obtain ⟨hne, hs0⟩ := hsh k hk
      refine ⟨p, rfl, t1, ?_, ?_⟩
      · unfold tupKeyC
        have e1 : isTupObj s.heap (.ref p) = true := by simp [isTupObj, ho, hc]
        rw [if_pos e1]
        simp only [tupKey, ho, hd]
        exact items_of k 0 _ (by simpa using rj) hs0
      · cases k with
        | nil => exact absurd rfl hne
        | cons x k =>
          cases rj with
          | cons r3 r4 =>
            rename_i f jts
            refine ⟨f, p, o, _, n, rfl, ho, hc, hd, rfl, fun z => ?_, fun z => ?_⟩
            · have := hs0 0 x rfl
              rw [show shape (0 + 0) = shape 0 from rfl, z] at this
              cases x with
              | inl i => exact ⟨i, r3⟩
              | inr s => cases this
            · have := hs0 0 x rfl
              rw [show shape (0 + 0) = shape 0 from rfl, z] at this
              cases x with
              | inl i => cases this
              | inr s => exact ⟨_, r3⟩
  have all : ∀ {ks' : List (List Ik)} {xs : List V} {its : List Value}, (∀ k ∈ ks', k ∈ ks) → Reps X.K F (ks'.map unT) xs → Vals xs its → Paired T ks' its := by
    intro ks'
    induction ks' with
    | nil => intro xs its _ h1 h2; cases h1; cases h2; exact .nil
    | cons k ks' ih =>
      intro xs its hm h1 h2
      cases h1 with
      | cons h3 h4 => cases h2 with | cons h5 h6 => exact .cons (one (hm k List.mem_cons_self) h3 h5) (ih (fun k hk => hm k (List.mem_cons_of_mem _ hk)) h4 h6)
  have hT := all (fun _ h => h) rp rv
  have tups : ∀ {ks' : List (List Ik)} {its : List Value}, Paired T ks' its → ∃ fs, TupsOf s.heap shape its fs := by
    intro ks' its h
    induction h with
    | nil => exact ⟨[], .nil⟩
    | cons h1 _ ih =>
      obtain ⟨fs, h⟩ := ih
      obtain ⟨_, _, _, _, f, hf⟩ := h1
      exact ⟨f :: fs, .cons hf h⟩
  obtain ⟨fs, hfs⟩ := tups hT
  have keys : ∀ {ks' : List (List Ik)} {its : List Value}, Paired T ks' its → ∀ v ∈ its, ∃ l, tupKeyC s.heap shape v = some l := by
    intro ks' its h
    induction h with
    | nil => intro v hv; cases hv
    | cons h1 _ ih =>
      intro v hv
      rcases List.mem_cons.mp hv with rfl | hv
      · obtain ⟨_, _, _, h, _⟩ := h1; exact ⟨_, h⟩
      · exact ih v hv
  refine PyProof.Rows.G.sorted_tups (vs := its) hl.isList hfs (keys hT) (by rw [← rv.length]; exact hz) fun st' h1 h2 _ => ?_
  have hp : ((arrOf st').map (·.2)).toList.Perm its := by
    have e := Array.perm_iff_toList_perm.mp h1
    rw [pairsOf_toList] at e
    have := e.map (·.2)
    rw [Array.toList_map]
    refine this.trans ?_
    rw [show (its.zip its).map (·.2) = its from by
      rw [← List.unzip_snd, List.unzip_zip (Eq.refl _)]]
  have hself : ∀ x ∈ (arrOf st').toList, x.1 = x.2 := fun x hx => by
    have e := Array.perm_iff_toList_perm.mp h1
    rw [pairsOf_toList] at e
    exact (mem_zip_self (e.mem_iff.mp hx)).1
  obtain ⟨ks', kp, hT'⟩ := paired_perm hp hT
  have hks : ks' = sortK ks := by
    refine sorted_uniq (fun _ _ => leK_anti) (kp.trans (sortK_perm ks).symm) ?_ (sortK_pw ks)
    have hlen : ks'.length = (arrOf st').size := by rw [hT'.length]; simp
    have at_ : ∀ i (hi : i < ks'.length), (KK (tupKindC s.heap shape) (arrOf st') i : List Ik) = ks'[i] := fun i hi => by
      obtain ⟨u, hu, hTu⟩ := paired_get hT' (List.getElem?_eq_getElem hi)
      rw [Array.toList_map, List.getElem?_map] at hu
      have hi' : i < (arrOf st').size := by rw [← hlen]; exact hi
      have hx : (arrOf st')[i]? = some (arrOf st')[i] := Array.getElem?_eq_getElem hi'
      rw [Array.getElem?_toList, hx] at hu
      cases hu
      unfold KK
      rw [hx]
      obtain ⟨_, _, _, hk, _⟩ := hTu
      have hs := hself (arrOf st')[i] (by simp)
      show (tupKeyC s.heap shape (arrOf st')[i].1).getD [] = _
      rw [hs, hk]; rfl
    rw [List.pairwise_iff_getElem]
    intro i j hi hj hij
    have hsz : (pairsOf its).size = (arrOf st').size := h1.size_eq.symm
    have := h2 i j (Nat.le_of_lt hij) (by rw [hsz, ← hlen]; exact hj)
    rw [at_ i hi, at_ j hj] at this
    have this : lexLt itemOrd ks'[j] ks'[i] = false := this
    unfold leK
    rw [this]; rfl
  have back : ∀ {ks' : List (List Ik)} {us : List Value}, Paired T ks' us → ∃ ys, Vals ys us ∧ Reps X.K F (ks'.map unT) ys := by
    intro ks' us h
    induction h with
    | nil => exact ⟨[], .nil, .nil⟩
    | cons h1 _ ih =>
      obtain ⟨ys, a, b⟩ := ih
      obtain ⟨p, rfl, hq, _⟩ := h1
      exact ⟨.ref p :: ys, .cons rfl a, .cons (.tup hq (reps_its _)) b⟩
  obtain ⟨ys, vy, ry⟩ := back hT'
  rw [hks] at ry
  obtain ⟨ep, he'⟩ := PyProof.Rows.sortedAll_at s.heap its ((arrOf st').map (·.2))
  have hlen : ys.length ≤ sizeLine := by rw [vy.length, hp.length_eq, ← rv.length]; exact hz
  exact ⟨.ref _, upd H (s.heap.objs.size + 1) (.lst ys), I.laid (t' := s.toks) (fun _ _ => PyProof.Rows.sortedAll_old) (Nat.le_succ _) ⟨hlen, ((arrOf st').map (·.2)).toList, ep, vy, he'⟩, rfl, q _ _ ry (I.hok.fresh (Nat.le_succ _))⟩
def dSort : List D → R D
  | [.lst xs] => match asTs xs with
    | some ks => if okK ks = true then .ok (.lst ((sortK ks).map unT)) else dSorted [.lst xs]
    | none => dSorted [.lst xs]
  | ds => dSorted ds
theorem c_sort {X : Cx} (hc : X.calm = true) : CalF X (.builtin "sorted") dSort := by
  have c0 := c_sorted (X := X) hc
  refine ⟨fun pins s σ H xs us Q I rv ⟨F, ds, d, e, r, hg, q⟩ => ?_, fun x c => ?_⟩
  · have old : dSorted ds = .ok d → _ := fun z => c0.run pins s σ H xs us Q I rv ⟨F, ds, d, e, r, z, q⟩
    unfold dSort at hg
    split at hg
    · split at hg
      · split at hg
        · rename_i ys ks hk hok
          cases hg
          obtain ⟨x, rfl, r1⟩ := r.inv1
          obtain ⟨a, vs, rfl, s1, p1⟩ := r1.lst e
          have := asTs_of hk
          subst this
          exact cr_sortedTG pins s σ H _ us Q I rv ⟨a, vs, F, ks, rfl, s1, e, p1, hok, fun zs p hr hn => q.newL e hr p hn⟩
        · exact old hg
      · exact old hg
    · exact old hg
  · intro h
    unfold dSort at h
    split at h
    · split at h
      · split at h
        · cases h
        · exact c0.ne _ _ h
      · exact c0.ne _ _ h
    · exact c0.ne _ _ h
end KN
/-! KnL: more meanings -/
namespace KN
open PySem PySem.Spec PyProof.Rows L2
def bDic1 (fk fv : Ga → R D) : Ga → R D := fun γ => (fk γ).bind fun k => (fv γ).bind fun v => match k with
  | .str s => .ok (.dic [(s, v)])
  | _ => .no
/-! ### the lesser of two texts -/
/-! ### a dict of one entry -/
theorem jf_dic1 {X : Cx} {W : WN} {fk fv : Ga → R D} {k v : Expr} {pos : Pos} (hk : J X W fk k) (hv : J X W fv v) : JF X W (bDic1 fk fv) (.Dict [some k] [v] pos) :=
  ⟨PE.imp (pe_disp (pps_cons hk.pe hv.pe pps_nil) rfl rfl (by simp) (by simp)) fun σ H Q ⟨F, γ, r, o⟩ => fun p hp => by
    have n0 : Nxt F H F (upd H p (.dK [])) := .laid r.emb hp _
    have r0 := r.next n0
    have fp := r.emb.free hp
    refine go1v (Z := fun z => Out (PF X.K F H) F H (fun c H' => W c σ H') z Q) r0 o (fun _ z F' H' n => z F' H' (n0.trans n)) (fun z => z) fun dk vk F1 H1 n1 r1 p1 o1 => ?_
    refine go1v (Z := fun z => Out (PF X.K F H) F H (fun c H' => W c σ H') z Q) r1 o1 (fun _ z F' H' n => z F' H' ((n0.trans n1).trans n)) (fun z => z) fun dv vv F2 H2 n2 r2 p2 o2 => ?_
    cases dk <;> first | exact o2.elim | skip
    rename_i s
    cases p1
    have n12 := n1.trans n2
    have hp2 : H2 p = some (.dK []) := n12.h _ _ upd_same
    have fp2 : F2 p = none := n12.unf fp upd_same
    refine ⟨hp2, [(.inr (toS s), vv)], rfl, by simp, ?_⟩
    have big : Nxt F H F2 (upd H2 p (.dK (mergeK [] [(.inr (toS s), vv)]))) := ⟨n12.f, fun a u e => by
      rcases n12.fn a u e with y | y
      · exact .inl y
      · by_cases q : a = p
        · subst q; exact .inr hp
        · rw [upd_ne q] at y; exact .inr y, fun a u e => by rw [upd_ne (ne_of_none e fp2)]; exact n12.emb a u e, fun b u e => by
      have q : b ≠ p := ne_of_none e hp
      rw [upd_ne q]; exact n12.h _ _ (by rw [upd_ne q]; exact e)⟩
    exact o2 p F2 _ big hp fp2 ⟨[(.inr (toS s), vv)], upd_same, .cons p2 .nil⟩⟩
end KN
/-! KnS: sets of ints, of texts, made of a list or tuple; their members sorted; their number -/
namespace KN
open PySem PySem.Spec PyProof.Rows L2
section
variable {κ : Type} [DecidableEq κ] {P : Program} {w : World}
structure GTab (knd : PySem.KeyKind P w κ) (es : Array (Int × Value)) (t : SetTable) (ks : List κ) : Prop where
  el : ElemsOf knd es.toList
  nd : es.toList.Pairwise fun e f => ∀ k, knd.is k e.2 = true → ¬ knd.is k f.2 = true
  mem : ∀ k, k ∈ ks ↔ ∃ e ∈ es.toList, knd.is k e.2 = true
  few : es.size ≤ ks.length
  fit : t.fits es.size = true
  ris : Ris t.place.toList
  led : w.params.followText "set-order" = true ∨ t.led = true
/-- the set at a, its members are those of ks -/
def GSet (knd : PySem.KeyKind P w κ) (h : Heap) (a : Addr) (ks : List κ) : Prop := ∃ o es ep t, h.get? a = some o ∧ o.ExactSet ∧ o.data = .set es ep t ∧ GTab knd es t ks
variable {knd : PySem.KeyKind P w κ} {es es' : Array (Int × Value)} {t t' : SetTable} {ks ks' : List κ} {h h' : Heap} {a : Addr}
theorem GSet.at (G : GSet knd h a ks) (q : ∀ o, h.get? a = some o → h'.get? a = some o) : GSet knd h' a ks := by
  obtain ⟨o, es, ep, t, g1, g2⟩ := G
  exact ⟨o, es, ep, t, q o g1, g2⟩
theorem nd_perm {l m : List (Int × Value)} (p : l.Perm m) (n : m.Pairwise fun e f => ∀ k, knd.is k e.2 = true → ¬ knd.is k f.2 = true) : l.Pairwise fun e f => ∀ k, knd.is k e.2 = true → ¬ knd.is k f.2 = true :=
  (p.pairwise_iff (fun hxy k h1 h2 => hxy k h2 h1)).mpr n
theorem GTab.add (G : GTab knd es t ks) {k : κ} {x : Value} (hx : knd.is k x = true) (hs : x.scannable = true) (new : k ∉ ks) (p : es'.toList.Perm ((knd.hash k, x) :: es.toList)) (f : t'.fits es'.size = true) (r : Ris t'.place.toList)
    (l : t'.led = t.led) : GTab knd es' t' (k :: ks) := by
  have sz : es'.size = es.size + 1 := by rw [← Array.length_toList, p.length_eq, List.length_cons, Array.length_toList]
  refine ⟨fun e he => ?_, nd_perm p (List.pairwise_cons.mpr ⟨fun e he k' h1 h2 => ?_, G.nd⟩), fun k' => ⟨fun hk => ?_, fun ⟨e, he, q⟩ => ?_⟩, by rw [sz, List.length_cons]; have := G.few; omega, f, r, by rw [l]; exact G.led⟩
  · rcases List.mem_cons.mp (p.mem_iff.mp he) with rfl | he
    · exact ⟨⟨k, hx, rfl⟩, hs⟩
    · exact G.el e he
  · have : k' = k := knd.inj x k' k h1 hx
    subst this
    exact new ((G.mem k').mpr ⟨e, he, h2⟩)
  · rcases List.mem_cons.mp hk with rfl | hk
    · exact ⟨_, p.mem_iff.mpr List.mem_cons_self, hx⟩
    · obtain ⟨e, he, q⟩ := (G.mem k').mp hk
      exact ⟨e, p.mem_iff.mpr (List.mem_cons_of_mem _ he), q⟩
  · rcases List.mem_cons.mp (p.mem_iff.mp he) with rfl | he
    · rw [knd.inj x k' k q hx]; exact List.mem_cons_self
    · exact List.mem_cons_of_mem _ ((G.mem k').mpr ⟨e, he, q⟩)
/-! ### add -/
variable {A : Around} {E : Value → Shared → Prop} {s : Shared}
/-! ### set.update over what is walked -/
/-! ### sorted -/
end
/-! ### sorted(set(xs)), len(set(xs)) -/
end KN
/-! KnT: a list display told over -/
/-! KnN: dicts of dicts, filled and counted in place -/
/-! KnX: raise, try, what is told of a caught error -/
namespace KN
open PySem PySem.Spec PyProof.Rows L2
/-! ### raise -/
/-- an error class of the program's own, over ValueError -/
structure ExR (K : PySem.W.Frag) (mg : Str → Option Value) (x : Str) (C : Addr) : Prop where
  g : mg x = some (.ref C)
  q : PySem.W.excIn K C [.type "ValueError", .type "Exception", .type "BaseException", .type "object"] "ValueError.__new__" = true
  k : PySem.W.keepIn K (.ref C) = true
  b : PySem.W.subIn K (.ref C) (.type "BaseException") = some true
  t : PySem.W.typeIn K (.ref C) = some (.type "type")
def fRaise (c : Nat) : Ga → R Fl := fun _ => .ex c
theorem js_raise {X : Cx} {W : WN} {cl : Cl} {c : Nat} {C : Addr} {x m : Str} {j : Nat} {p p2 pos pos' : Pos} (hcl : cl c = .ref C) (E : ExR X.K X.mg x C) (hc : X.calm = true) (tk : Takes X (VW cl W)) (hg : Gl X x := by rfl)
    (hdb : (x == ("__debug__" : Str)) = false := by decide) : JS X W (fRaise c) (.Raise (some (.Call (.Name x p) [.Constant (.str m) j p2] [] pos)) none pos') :=
  ⟨PS.imp (ps_raise hc tk (pmk_own PySem.F.excBase_ValueError E.q E.g E.k (raises_own E.b E.t) hg hdb)) fun E' σ H ⟨B, F, γ, r, o⟩ => ⟨c, hcl.symm, rfl, o σ F H r.fi⟩⟩
/-! ### a def that is told a caught error -/
/-! ### isinstance of the error -/
/-! ### xs.count(b), xs.index(b), of truths -/
end KN
namespace KN
open PySem PySem.Spec PyProof.Rows L2
/-! ### the program's errors -/
structure ErrOne (K : PySem.W.Frag) (x : Str) (C L : Addr) : Prop where
  n : PySem.W.nsIn K mainGlobals x = some (some (.ref C))
  q : PySem.W.excIn K C [.type "ValueError", .type "Exception", .type "BaseException", .type "object"] "ValueError.__new__" = true
  k : PySem.W.keepIn K (.ref C) = true
  b : PySem.W.subIn K (.ref C) (.type "BaseException") = some true
  v : PySem.W.subIn K (.ref C) (.type "ValueError") = some true
  l : PySem.W.subIn K (.ref C) (.ref L) = some true
  t : PySem.W.typeIn K (.ref C) = some (.type "type")
  hg : PySem.W.findIn K (.ref C) "__getattribute__" = some (some (.builtin "BaseException.__getattribute__"))
  hk : PySem.W.findIn K (.ref C) "__getattr__" = some none
  hd : PySem.W.hasDictIn K C = true
  ha : PySem.W.findIn K (.ref C) "__class__" = some (some (.builtin "object.__class__"))
  hn : PySem.W.specialIn K (.builtin "object.__class__") "__get__" = some (some (.builtin "getset_descriptor.__get__"))
  ht : PySem.W.takesIn K (.builtin "object.__class__") = some true
  hm : PySem.W.mroIn K C (.type "object") = some true
structure ErrL (K : PySem.W.Frag) (L : Addr) : Prop where
  n : PySem.W.nsIn K mainGlobals "LikeError" = some (some (.ref L))
  b : PySem.W.subIn K (.ref L) (.type "BaseException") = some true
  t : PySem.W.typeIn K (.ref L) = some (.type "type")
  hd : PySem.W.hasDictIn K L = true
def errName : Nat → Str
  | 0 => "NoBook"
  | 1 => "NoOrder"
  | 2 => "NoName"
  | 3 => "NoWish"
  | 4 => "NoNumber"
  | 5 => "NotMade"
  | 6 => "TooShort"
  | 7 => "Nothing"
  | 8 => "NoText"
  | _ => "LikeError"
theorem ErrOne.x {K : PySem.W.Frag} {x : Str} {C L : Addr} {h : Heap} {mg : Str → Option Value} (E : ErrOne K x C L) (X : K.In h) (G : h.Ns mainGlobals mg) : ExR K mg x C := ⟨PySem.W.mg_of X G E.n, E.q, E.k, E.b, E.t⟩
theorem ErrOne.c {K : PySem.W.Frag} {x : Str} {C L : Addr} (E : ErrOne K x C L) : ExcC K C := ⟨E.hg, E.hk, E.b, E.hd, E.ha, E.hn, E.ht, E.hm⟩
theorem isSome_cls {K : PySem.W.Frag} {C : Addr} (h : PySem.W.hasDictIn K C = true) : (PySem.W.clsIn K C).isSome = true := by
  obtain ⟨cd, hc, _⟩ := PySem.W.any_some h
  rw [hc]; rfl
theorem kit_cls {K : PySem.W.Frag} {C D : Addr} {b : Bool} (hd : PySem.W.hasDictIn K D = true) (ht : PySem.W.typeIn K (.ref D) = some (.type "type")) (s : PySem.W.subIn K (.ref C) (.ref D) = some b) (s2 : PySem.W.subIn K (.ref D) (.ref D) = some true) :
    PySem.W.kitOne K (.ref C) (.ref D) = some b := by
  unfold PySem.W.kitOne
  split
  · rename_i h
    have e : C = D := Value.ref.inj (beq_iff_eq.mp h)
    subst e
    rw [s2] at s
    exact s
  · unfold PySem.W.kitCls
    have e2 : ((PySem.W.clsIn K D).isSome && PySem.W.typeIn K (.ref D) == some (.type "type")) = true := by rw [isSome_cls hd, ht]; rfl
    simp only [e2, if_true]
    exact s
theorem kit_val {K : PySem.W.Frag} {C : Addr} (s : PySem.W.subIn K (.ref C) (.type "ValueError") = some true) : PySem.W.kitOne K (.ref C) (.type "ValueError") = some true := by
  unfold PySem.W.kitOne
  split
  · rfl
  · unfold PySem.W.kitCls
    have e2 : PySem.W.kitMeta "ValueError" = true := by decide
    simp only [e2, if_true]
    exact s
structure Errs (hs : List Nat) (K : PySem.W.Frag) (mg : Str → Option Value) where
  e : Nat → Addr
  L : Addr
  g : mg "LikeError" = some (.ref L)
  x : ∀ c, c ∈ hs → ExR K mg (errName c) (e c)
  c : ∀ c, c ∈ hs → ExcC K (e c)
  kit : ∀ c i, c ∈ hs → i ∈ hs → PySem.W.kitOne K (.ref (e c)) (.ref (e i)) = some (decide (c = i))
  val : ∀ c, c ∈ hs → PySem.W.kitOne K (.ref (e c)) (.type "ValueError") = some true
  exm : ∀ c, c ∈ hs → PySem.W.exmOne K (.ref (e c)) (.ref L) = some true
  exo : ∀ c i, c ∈ hs → i ∈ hs → PySem.W.exmOne K (.ref (e c)) (.ref (e i)) = some (decide (c = i))
/-- the classes by their numbers -/
def clE {hs : List Nat} {K : PySem.W.Frag} {mg : Str → Option Value} (T : Errs hs K mg) : Cl := fun c => .ref (T.e c)
/-- what is promised of a law: it tells, and raises nothing -/
def spOk (K : PySem.W.Frag) (n : Nat) (g : List D → R D) : Sp := fun vs H Q E => ∃ F ds d, vs.length = n ∧ Emb F H ∧ Reps K F ds vs ∧ g ds = .ok d ∧ PV K F H d Q
theorem spOk_D {K : PySem.W.Frag} {cl : Cl} {n : Nat} {g : List D → R D} : ∀ vs H Q E, spOk K n g vs H Q E → spD K cl n g vs H Q E := fun vs H Q E ⟨F, ds, d, a, b, c, e, q⟩ => ⟨F, ds, a, b, c, by rw [e]; exact q⟩
theorem law_endX {K : PySem.W.Frag} {H : Hp} {a : Addr} {ns : List Int} {n : Nat} {g : List D → R D} (h : ∀ ns : List Int, ns.length ≤ n → g [.lst (ns.map .int)] = .ok (.bl true)) (hl : ns.length ≤ n) (hS : SqL K H a (ns.map V.int)) :
    spOk K 1 g [.ref a] H (fun v _ => v = .bl true) fun _ _ _ => False := by
  have gen : ∀ F : Hp, Emb F H → SqL K F a (ns.map V.int) → spOk K 1 g [.ref a] H (fun v _ => v = .bl true) fun _ _ _ => False := fun F e s => by
    refine ⟨F, [.lst (ns.map .int)], _, rfl, e, .cons (.lst s (reps_ints ns)) .nil, h ns hl, ?_⟩
    intro v F' H' _ r
    cases r; rfl
  rcases hS with (h1 | ⟨o, h1⟩) | h1
  · exact gen (upd (fun _ => none) a (.lst (ns.map V.int))) (fun b o z => by
      by_cases q : b = a
      · subst q; rw [upd_same] at z; cases z; exact .inl h1
      · rw [upd_ne q] at z; cases z) (.inl (.inl upd_same))
  · exact gen (upd (fun _ => none) a (.frz o (.lst (ns.map V.int)))) (fun b o z => by
      by_cases q : b = a
      · subst q; rw [upd_same] at z; cases z; exact .inl h1
      · rw [upd_ne q] at z; cases z) (.inl (.inr ⟨o, upd_same⟩))
  · exact gen _ Emb.none (.inr h1)
end KN
/-! KnU: a text or a tuple times a number -/
/-! KnV: sorted(d.items()) -/
namespace KN
open PySem PySem.Spec PyProof.Rows L2
open PyProof.Rows.G (tupKeyC tupKindC isTupObj)
abbrev itK (e : Tx × Int) : List Ik := [.inr e.1, .inl e.2]
def shI (i : Nat) : Bool := i == 0
def TI (h : Heap) (Z : Addr → List V → Prop) (k : List Ik) (u : Value) : Prop := ∃ (a : Addr) (e : Tx × Int) (x y : Value), u = .ref a ∧ Z a [.str (toS e.1), .int e.2] ∧ k = itK e ∧ RelV (.str (toS e.1)) x ∧ RelV (.int e.2) y ∧ h.get? a = some { cls := .type "tuple", data := .seq #[x, y] }
theorem TI.key {h : Heap} {Z : Addr → List V → Prop} {k : List Ik} {u : Value} (t : TI h Z k u) : tupKeyC h shI u = some k := by
  obtain ⟨a, e, x, y, rfl, _, rfl, r1, r2, hg⟩ := t
  unfold tupKeyC
  have e1 : isTupObj h (.ref a) = true := by simp [isTupObj, hg]
  rw [if_pos e1]
  simp only [tupKey, hg]
  refine items_of (itK e) 0 _ (by
    show Vals [V.str (toS e.1), V.int e.2] [x, y]
    exact .cons r1 (.cons r2 .nil)) fun j z hz => ?_
  cases j with
  | zero => cases hz; rfl
  | succ j =>
    cases j with
    | zero => cases hz; rfl
    | succ j => simp [itK] at hz
theorem TI.tup {h : Heap} {Z : Addr → List V → Prop} {k : List Ik} {u : Value} (t : TI h Z k u) : ∃ f, TupOf h shI u f := by
  obtain ⟨a, e, x, y, rfl, _, rfl, r1, r2, hg⟩ := t
  refine ⟨x, a, _, _, _, rfl, hg, rfl, rfl, rfl, (fun z => nomatch z), fun _ => ?_⟩
  obtain ⟨tk, rfl⟩ := r1
  exact ⟨_, _, rfl⟩
theorem TI.keep {h h' : Heap} {Z : Addr → List V → Prop} {k : List Ik} {u : Value} (t : TI h Z k u) (q : ∀ b o, h.get? b = some o → h'.get? b = some o) : TI h' Z k u := by
  obtain ⟨a, e, x, y, e1, e2, e3, r1, r2, hg⟩ := t
  exact ⟨a, e, x, y, e1, e2, e3, r1, r2, q _ _ hg⟩
end KN
/-! KnW: [f, g, ..][i](..) -/
/-! KnY: sorted lists of pairs of an int and a list of ints -/
/-! KnO: calls without arguments -/
namespace KN
open PySem PySem.Spec PyProof.Rows L2
/-! ### numbers as texts -/
def dStrI : List D → R D
  | [.int (.ofNat n)] => if n.log2 < 1900 then .ok (.str (TL.numL n)) else .no
  | _ => .no
/-! ### split, partition, index -/
/-! ### isinstance with a tuple of types -/
/-! ### zip of two lists or of two tuples -/
theorem goes_zipT {K : PySem.W.Frag} {F : Hp} {a b : Addr} {ds es : List D} {vs us : List V} (h : SqT K F a vs) (r : Reps K F ds vs) (h2 : SqT K F b us) (r2 : Reps K F es us) : Goes K (RZ.ItzT K a b) F [] (zipD ds es) := fun F' H' i f e _ => by
  have q := e.sqt (same_sqt f h)
  have q2 := e.sqt (same_sqt f h2)
  refine ⟨fun hi => ⟨vs, us, q, q2, by rw [← r.length, ← r2.length]; simp [zipD, List.length_zip] at hi; omega⟩, fun d hd => ?_⟩
  simp only [zipD, List.getElem?_map, Option.map_eq_some_iff, List.getElem?_zip_eq_some] at hd
  obtain ⟨p, ⟨h3, h4⟩, rfl⟩ := hd
  obtain ⟨v, hv, p1⟩ := r.get h3
  obtain ⟨u, hu, p2⟩ := r2.get h4
  refine ⟨⟨vs, us, v, u, q, q2, hv, hu⟩, fun x H'' ⟨T, y, z, e1, nT, e2, e3, e4⟩ => ?_⟩
  subst e1 e2
  have : v = y := Option.some.inj (hv.symm.trans (e3 vs q))
  subst this
  have : u = z := Option.some.inj (hu.symm.trans (e4 us q2))
  subst this
  have s := same_upd (F := F') (o := .tup [v, u]) (e.free nT)
  exact ⟨_, .new e nT _, .tup (.inl (.inl upd_same)) (.cons ((p1.mono f).mono s) (.cons ((p2.mono f).mono s) .nil))⟩
def zipA : D → D → R (List D)
  | .lst xs, .lst ys => .ok (zipD xs ys)
  | .tup xs, .tup ys => .ok (zipD xs ys)
  | _, _ => .no
def iZpA (fa fb : Ga → R D) : Ga → R (List D) := fun γ => (fa γ).bind fun d => (fb γ).bind fun d' => zipA d d'
section
variable {X : Cx} {W : WN} {fa fb : Ga → R D} {a b : Expr} {p pos tpos : Pos}
theorem ji_zpA {elts : List Expr} {kk : Nat} (hm : X.mg "zip" = none) (ha : J X W fa a) (hb : J X W fb b) (hg : Gl X "zip" := by rfl) (hs : starEach [a, b] X.env = (false, eval a X.env) :: starEach [b] X.env := by rfl) (hpl : (backTo pos (starEach [b] X.env)).any (·.1) = false := by rfl)
    (hs4 : starEach [b] X.env = (false, eval b X.env) :: starEach [] X.env := by rfl) : JI X W (iZpA fa fb) (.Tuple elts kk tpos) (.Call (.Name "zip" p) [a, b] [] pos) :=
  ⟨PI.imp (RZ.pi_zipA hg hm (pa_cons ha.pe (pa_cons hb.pe pa_nil hs4) hs) hs hpl) fun σ H Rr ⟨F, γ, r, o⟩ => by
    refine ⟨F, γ, r, ?_⟩
    unfold iZpA at o
    cases e1 : fa γ with
    | ok d =>
      simp only [e1, R.bind] at o
      intro v F1 H1 n1 p1
      refine ⟨F1, γ, r.next n1, ?_⟩
      cases e2 : fb γ with
      | ok d' =>
        simp only [e2] at o
        intro u F2 H2 n2 p2
        cases d <;> cases d' <;> simp only [zipA] at o
        · cases p1 with
          | lst h1 h2 =>
            cases p2 with
            | lst h3 h4 => exact ⟨_, _, _, _, rfl, .inl ⟨n2.emb.sql (n2.f.seq h1), n2.emb.sql h3, o _ F2 H2 (n1.trans n2) (goes_zip (n2.f.seq h1) (h2.mono n2.f) h3 h4)⟩⟩
        · cases p1 with
          | tup h1 h2 =>
            cases p2 with
            | tup h3 h4 => exact ⟨_, _, _, _, rfl, .inr ⟨n2.emb.sqt (same_sqt n2.f h1), n2.emb.sqt h3, o _ F2 H2 (n1.trans n2) (goes_zipT (same_sqt n2.f h1) (h2.mono n2.f) h3 h4)⟩⟩
      | ex c => simp only [e2] at o; exact fun F' H' m => o F' H' (n1.trans m)
      | no => simp only [e2] at o
    | ex c => simp only [e1, R.bind] at o; exact o
    | no => simp only [e1, R.bind] at o⟩
end
/-! ### try .. except X: return None -/
/-! ### xs.count(t), of texts -/
end KN
set_option maxHeartbeats 1000000
/-! KnQ: chains of three comparisons, as tests -/
set_option maxHeartbeats 1000000
/-! KnP: zip of a list and a tuple, by the library's zip over anything that draws -/
set_option maxHeartbeats 1000000
/-! KnR: objects that are read: arguments, calls, fields -/
namespace KN
open PySem PySem.Spec PyProof.Rows L2
/-! ### data that holds no erased thing -/
/-- what data stands on -/
def isDt : HO → Bool
  | .lst _ => true
  | .tup _ => true
  | .dK _ => true
  | .frz _ _ => true
  | _ => false
theorem rd_sub {F F' : Hp} (h : ∀ b o, F b = some o → isDt o = true → F' b = some o) {a : Addr} {o : HO} (hd : isDt o = true) (k : Rd F a o) : Rd F' a o := by
  rcases k with k | ⟨ob, k⟩
  · exact .inl (h _ _ k hd)
  · exact .inr ⟨ob, h _ _ k rfl⟩
theorem sql_sub {K : PySem.W.Frag} {F F' : Hp} (h : ∀ b o, F b = some o → isDt o = true → F' b = some o) {a : Addr} {xs : List V} (k : SqL K F a xs) : SqL K F' a xs := by
  rcases k with k | k
  · exact .inl (rd_sub h rfl k)
  · exact .inr k
theorem sqt_sub {K : PySem.W.Frag} {F F' : Hp} (h : ∀ b o, F b = some o → isDt o = true → F' b = some o) {a : Addr} {xs : List V} (k : SqT K F a xs) : SqT K F' a xs := by
  rcases k with k | k
  · exact .inl (rd_sub h rfl k)
  · exact .inr k
section
variable {K : PySem.W.Frag} {F F' : Hp}
theorem Rep.sub (h : ∀ b o, F b = some o → isDt o = true → F' b = some o) {d : D} {v : V} (r : Rep K F d v) : Rep K F' d v :=
  Rep.rec (motive_1 := fun d v _ => Rep K F' d v) (motive_2 := fun ds vs _ => Reps K F' ds vs) (motive_3 := fun es kvs _ => RepK K F' es kvs)
    .non .bl .int .str (fun h1 _ i => .lst (sql_sub h h1) i) (fun h1 _ i => .tup (sqt_sub h h1) i) (fun h1 _ i => .dic (h _ _ h1 rfl) i)
    .nil (fun _ _ i j => .cons i j) .nil (fun _ _ i j => .cons i j) r
theorem Reps.sub (h : ∀ b o, F b = some o → isDt o = true → F' b = some o) : ∀ {ds : List D} {vs : List V}, Reps K F ds vs → Reps K F' ds vs
  | _, _, .nil => .nil
  | _, _, .cons a b => .cons (a.sub h) (Reps.sub h b)
end
/-- none, truths, ints and texts stand on nothing -/
def scal : D → Bool
  | .non => true
  | .bl _ => true
  | .int _ => true
  | .str _ => true
  | _ => false
theorem Rep.scal {K : PySem.W.Frag} {F F' : Hp} {d : D} {v : V} (h : scal d = true) (r : Rep K F d v) : Rep K F' d v := by
  cases r <;> first | exact .non | exact .bl _ | exact .int _ | exact .str _ | (cases h; done)
/-! ### arguments -/
inductive ArgsOk (K : PySem.W.Frag) (F : Hp) : List Sl → List V → Prop
  | nil : ArgsOk K F [] []
  | d {d : D} {v : V} {as : List Sl} {vs : List V} : Rep K F d v → ArgsOk K F as vs → ArgsOk K F (.va d :: as) (v :: vs)
  | o {c : Nat} {fs : List Fd} {a dx C : Addr} {kvs : List (Str × V)} {as : List Sl} {vs : List V} : RfAt K F c fs a dx C kvs → ArgsOk K F as vs → ArgsOk K F (.rf c fs :: as) (.ref a :: vs)
theorem ArgsOk.length {K : PySem.W.Frag} {F : Hp} : ∀ {as : List Sl} {vs : List V}, ArgsOk K F as vs → as.length = vs.length
  | _, _, .nil => rfl
  | _, _, .d _ h => by simp [h.length]
  | _, _, .o _ h => by simp [h.length]
theorem ArgsOk.get {K : PySem.W.Frag} {F : Hp} : ∀ {as : List Sl} {vs : List V}, ArgsOk K F as vs → ∀ {i : Nat} {s : Sl}, as[i]? = some s → ∃ v, vs[i]? = some v ∧ (∀ H, SlOk K F H s (some (some v))) ∧ ∀ H x b, ¬ Inn H s x b
  | _, _, .nil, _, _, h => by simp at h
  | _, _, .d p r, 0, _, h => by cases h; exact ⟨_, rfl, fun H => ⟨_, rfl, p⟩, fun _ _ _ z => z⟩
  | _, _, .o p r, 0, _, h => by cases h; exact ⟨_, rfl, fun H => ⟨_, _, _, _, rfl, p⟩, fun _ _ _ z => z⟩
  | _, _, .d p r, i + 1, _, h => r.get (i := i) (by simpa using h)
  | _, _, .o p r, i + 1, _, h => r.get (i := i) (by simpa using h)
theorem start_get {as : List Sl} {k i : Nat} {s : Sl} (h : (as ++ List.replicate k .un)[i]? = some s) : as[i]? = some s ∨ s = .un := by
  by_cases l : i < as.length
  · rw [List.getElem?_append_left l] at h; exact .inl h
  · rw [List.getElem?_append_right (by simpa using l), List.getElem?_replicate] at h
    split at h <;> cases h
    exact .inr rfl
theorem startV_get {N : List Str} {vs : List V} {i : Nat} {v : V} (h : vs[i]? = some v) : (L2.start N vs)[i]? = some (some v) := by
  unfold L2.start
  rw [List.getElem?_append_left (by simpa using (List.getElem?_eq_some_iff.mp h).1), List.getElem?_map, h]; rfl
theorem start_owA {K : PySem.W.Frag} {F H : Hp} {as : List Sl} {vs : List V} {k i : Nat} {s : Sl} {x : Option (Option V)} {b : Addr} (r : ArgsOk K F as vs) (h : (as ++ List.replicate k .un)[i]? = some s) : ¬ Inn H s x b := by
  rcases start_get h with h | rfl
  · obtain ⟨_, _, _, z⟩ := r.get h; exact z H x b
  · exact id
theorem rs_startA {K : PySem.W.Frag} {F H : Hp} {N : List Str} {as : List Sl} {vs : List V} (e : Emb F H) (r : ArgsOk K F as vs) : RS K F (as ++ List.replicate (N.length - as.length) .un) (L2.start N vs) H := by
  refine ⟨e, by simp [L2.start, r.length], fun i s h => ?_, fun i j d d' a h _ h2 _ => absurd h2 (start_owA r h)⟩
  rcases start_get h with h | rfl
  · obtain ⟨v, hv, k, _⟩ := r.get h
    rw [startV_get hv]; exact k H
  · trivial
/-! ### a def that reads objects -/
def spR (K : PySem.W.Frag) (cl : Cl) (n : Nat) (g : List Sl → R D) : Sp := fun vs H Q E => ∃ F as, vs.length = n ∧ Emb F H ∧ ArgsOk K F as vs ∧ Out (PV K F H) F H (fun c H' => E (cl c) none H') (g as) Q
def fnR (n : Nat) (body : Ga → R Fl) (as : List Sl) : R D := match body (as ++ List.replicate (n - as.length) .un) with
  | .ok (.rt d) => .ok d
  | .ok (.nx _) => .ok .non
  | .ex c => .ex c
  | _ => .no
section
variable {P : Program} {w : World} {K : PySem.W.Frag} {mg : Str → Option Value} {base : Heap}
theorem fokR {x qual : Str} {st : Stmt} {f : Addr} {fd : FuncData} {N ps : List Str} {k n m : Nat} {cl : Cl} {body : Ga → R Fl} (Fu : Fun K x qual st f fd) (S : FnScope N ps (defScope st)) (hn : N.length = n) (hm : ps.length = m)
    (hb : ∀ (cdv : Value) (A : Around) (outer : List Env) (s : Shared) (H : Hp) (E : XK), Room k (A.deeper (envOfC qual (defScope st) s.heap.objs.size f cdv)) → JSs (cxD P w K mg base N qual st f cdv A outer s H E) (wnD cl E) body (defBody st)) :
    FnOk P w K mg base (L2.CX P w) (k + 1) f fd ps (spR K cl m (fnR n body)) := by
  refine Fu.okX S (fun vs H Q E h => ?_) fun cdv A outer s H vs Q E hr h => ?_
  · obtain ⟨F, as, h1, _⟩ := h
    rw [h1, hm]
  · refine ⟨_, (hb cdv A outer s H E hr).pss, ?_⟩
    obtain ⟨F, as, h1, em, rp, o⟩ := h
    subst hn
    refine ⟨⟨F, H, [], none⟩, F, _, ⟨rs_startA (N := N) em rp, .start em, fun i d a e1 e2 => absurd e2 (start_owA rp e1), fun _ _ _ _ _ _ h => nomatch h⟩, ?_⟩
    unfold fnR at o
    cases e : body (as ++ List.replicate (N.length - as.length) .un) with
    | ok fl =>
      rw [e] at o
      cases fl with
      | nx γ => exact fun F' σ' H' q => o _ F' H' q.fi.nxt .non
      | rt d => exact fun v F' H' q p => o v F' H' q.nxt p
      | rx _ => exact o.elim
      | bk γ => exact o.elim
      | ct γ => exact o.elim
    | ex c => rw [e] at o; exact fun σ' F' H' q => o F' H' q.nxt
    | no => rw [e] at o; exact o.elim
end
/-! ### the caller's arguments -/
def isOb : Sl → Bool
  | .ob _ _ _ => true
  | .rf _ _ => true
  | _ => false
def frz : Sl → Sl
  | .ob _ c fs => .rf c fs
  | s => s
def pureFs (fs : List Fd) : Bool := fs.all fun f => !f.1
def pureOb : Sl → Bool
  | .ob _ _ fs => pureFs fs
  | _ => true
inductive ArgsE (K : PySem.W.Frag) (F : Hp) (γ : Ga) (σ : L2.St) : List Sl → List V → Prop
  | nil : ArgsE K F γ σ [] []
  | d {d : D} {v : V} {as : List Sl} {vs : List V} : Rep K F d v → ArgsE K F γ σ as vs → ArgsE K F γ σ (.va d :: as) (v :: vs)
  | o {s : Sl} {v : V} {as : List Sl} {vs : List V} (j : Nat) : γ[j]? = some s → isOb s = true → σ[j]? = some (some v) → ArgsE K F γ σ as vs → ArgsE K F γ σ (s :: as) (v :: vs)
theorem ArgsE.mono {K : PySem.W.Frag} {F F' : Hp} {γ : Ga} {σ : L2.St} (f : Same F F') : ∀ {as : List Sl} {vs : List V}, ArgsE K F γ σ as vs → ArgsE K F' γ σ as vs
  | _, _, .nil => .nil
  | _, _, .d p r => .d (p.mono f) (r.mono f)
  | _, _, .o j a b c r => .o j a b c (r.mono f)
theorem ArgsE.length {K : PySem.W.Frag} {F : Hp} {γ : Ga} {σ : L2.St} : ∀ {as : List Sl} {vs : List V}, ArgsE K F γ σ as vs → as.length = vs.length
  | _, _, .nil => rfl
  | _, _, .d _ h => by simp [h.length]
  | _, _, .o _ _ _ _ h => by simp [h.length]
def OutAo (K : PySem.W.Frag) (W : WN) (F : Hp) (γ : Ga) (σ : L2.St) (H : Hp) (r : R (List Sl)) (Q : List V → Hp → Prop) : Prop := match r with
  | .ok as => ∀ vs F' H', Nxt F H F' H' → ArgsE K F' γ σ as vs → Q vs H'
  | .ex c => ∀ F' H', Nxt F H F' H' → W c σ H'
  | .no => False
def rdAO (K : PySem.W.Frag) (W : WN) (fs : Ga → R (List Sl)) : TA := fun σ H Q => ∃ F γ, RS K F γ σ H ∧ OutAo K W F γ σ H (fs γ) Q
structure JAO (X : Cx) (W : WN) (fs : Ga → R (List Sl)) (es : List Expr) : Prop where
  pa : PA X es (rdAO X.K W fs)
def aNil : Ga → R (List Sl) := fun _ => .ok []
def aD (fa : Ga → R D) (fs : Ga → R (List Sl)) : Ga → R (List Sl) := fun γ => (fa γ).bind fun d => (fs γ).bind fun as => .ok (.va d :: as)
def obAt (cn : Nat) (γ : Ga) (i : Nat) : R Sl := match γ[i]? with
  | some (.ob h c fs) => if c = cn then .ok (.ob h c fs) else .no
  | some (.rf c fs) => if c = cn then .ok (.rf c fs) else .no
  | _ => .no
theorem obAt_ok {cn : Nat} {γ : Ga} {i : Nat} {s : Sl} (h : obAt cn γ i = .ok s) : γ[i]? = some s ∧ isOb s = true ∧ ∃ fs, (∃ h, s = .ob h cn fs) ∨ s = .rf cn fs := by
  unfold obAt at h
  split at h
  · rename_i h0 c fs e
    split at h
    · rename_i q; cases h; subst q; exact ⟨e, rfl, fs, .inl ⟨h0, rfl⟩⟩
    · cases h
  · rename_i c fs e
    split at h
    · rename_i q; cases h; subst q; exact ⟨e, rfl, fs, .inr rfl⟩
    · cases h
  · cases h
theorem obAt_ex {cn : Nat} {γ : Ga} {i : Nat} {c : Nat} : obAt cn γ i ≠ .ex c := by
  unfold obAt
  split
  · split <;> exact fun h => nomatch h
  · split <;> exact fun h => nomatch h
  · exact fun h => nomatch h
def aO (cn i : Nat) (fs : Ga → R (List Sl)) : Ga → R (List Sl) := fun γ => (obAt cn γ i).bind fun s => (fs γ).bind fun as => .ok (s :: as)
section
variable {X : Cx} {W : WN} {fa : Ga → R D} {fs : Ga → R (List Sl)} {e : Expr} {es : List Expr}
theorem jao_nil : JAO X W aNil [] := ⟨PA.imp pa_nil fun σ H Q ⟨F, γ, r, o⟩ => o [] F H (.refl r.emb) .nil⟩
theorem jao_d (ha : J X W fa e) (hr : JAO X W fs es) (hs : starEach (e :: es) X.env = (false, eval e X.env) :: starEach es X.env := by rfl) : JAO X W (aD fa fs) (e :: es) := ⟨PA.imp (pa_cons ha.pe hr.pa hs) fun σ H Q ⟨F, γ, r, o⟩ => by
  refine ⟨F, γ, r, ?_⟩
  unfold aD at o
  cases e1 : fa γ with
  | ok d =>
    simp only [e1, R.bind] at o
    intro v F1 H1 n1 p1
    refine ⟨F1, γ, r.next n1, ?_⟩
    cases e2 : fs γ with
    | ok as =>
      simp only [e2] at o
      exact fun vs F2 H2 n2 p2 => o (v :: vs) F2 H2 (n1.trans n2) (.d (p1.mono n2.f) p2)
    | ex c => simp only [e2] at o; exact fun F2 H2 n2 => o F2 H2 (n1.trans n2)
    | no => simp only [e2] at o; exact o
  | ex c => simp only [e1, R.bind] at o; exact o
  | no => simp only [e1, R.bind] at o; exact o⟩
end
/-! ### objects of one's own, frozen for a call -/
def Owd (as : List Sl) (γ : Ga) (σ : L2.St) (H : Hp) (b : Addr) : Prop := ∃ (j : Nat) (h : Bool) (c : Nat) (fs : List Fd), Sl.ob h c fs ∈ as ∧ γ[j]? = some (Sl.ob h c fs) ∧ Inn H (Sl.ob h c fs) σ[j]? b
open Classical in
noncomputable def frzH (as : List Sl) (γ : Ga) (σ : L2.St) (F H : Hp) : Hp := fun b => if Owd as γ σ H b then H b else F b
open Classical in
noncomputable def unfH (as : List Sl) (γ : Ga) (σ : L2.St) (H F' : Hp) : Hp := fun b => if Owd as γ σ H b then none else F' b
section
variable {K : PySem.W.Frag} {F H : Hp} {γ : Ga} {σ : L2.St} {as : List Sl}
theorem Owd.free (r : RS K F γ σ H) {b : Addr} (h : Owd as γ σ H b) : F b = none ∧ ∃ u, H b = some u := by
  obtain ⟨j, h0, c, fs, _, e, i⟩ := h
  exact i.have (r.sl j _ e)
theorem frzH_yes {b : Addr} (h : Owd as γ σ H b) : frzH as γ σ F H b = H b := by unfold frzH; rw [if_pos h]
theorem frzH_no {b : Addr} (h : ¬ Owd as γ σ H b) : frzH as γ σ F H b = F b := by unfold frzH; rw [if_neg h]
theorem unfH_yes {F' : Hp} {b : Addr} (h : Owd as γ σ H b) : unfH as γ σ H F' b = none := by unfold unfH; rw [if_pos h]
theorem unfH_no {F' : Hp} {b : Addr} (h : ¬ Owd as γ σ H b) : unfH as γ σ H F' b = F' b := by unfold unfH; rw [if_neg h]
theorem frz_same (r : RS K F γ σ H) : Same F (frzH as γ σ F H) := fun b u e => by
  rw [frzH_no fun z => by rw [(z.free r).1] at e; cases e]; exact e
theorem frz_emb (r : RS K F γ σ H) : Emb (frzH as γ σ F H) H := fun b u e => by
  by_cases z : Owd as γ σ H b
  · rw [frzH_yes z] at e; exact .inl e
  · rw [frzH_no z] at e; exact r.emb b u e
theorem FdsOk.frz {F1 : Hp} {a : Addr} (f : Same F F1) : ∀ {fs : List Fd} {vs : List V}, FdsOk K F H a fs vs → (∀ b, OwF fs vs b → F1 b = H b) → Reps K F1 (fs.map (·.2)) vs
  | [], [], _, _ => .nil
  | (false, _) :: fs, v :: vs, h, k => .cons (h.1.mono f) (FdsOk.frz f h.2 k)
  | (true, d) :: fs, v :: vs, h, k => by
    obtain ⟨b, e1, e2, e3, e4, e5⟩ := h.1
    subst e1
    have kb := k b (.inl rfl)
    refine .cons ?_ (FdsOk.frz f h.2 fun b o => k b (.inr o))
    cases d <;> simp only [Own] at e4
    · obtain ⟨xs, q1, q2⟩ := e4; exact .lst (.inl (.inl (kb.trans q1))) (q2.mono f)
    · obtain ⟨xs, q1, q2⟩ := e4; exact .dic (kb.trans q1) (q2.mono f)
  | [], _ :: _, h, _ => h.elim
  | (false, _) :: _, [], h, _ => h.elim
  | (true, _) :: _, [], h, _ => h.elim
theorem ObAt.frz {F1 : Hp} {c : Nat} {fs : List Fd} {a dx C : Addr} {kvs : List (Str × V)} (o : ObAt K F H c fs a dx C kvs) (f : Same F F1) (h : ∀ b, (b = a ∨ b = dx ∨ OwF fs (kvs.map (·.2)) b) → F1 b = H b) : RfAt K F1 c fs a dx C kvs :=
  ⟨o.ne, (h a (.inl rfl)).trans o.ha, (h dx (.inr (.inl rfl))).trans o.hd, o.cl, o.nm, o.le, o.ok.frz f fun b z => h b (.inr (.inr z))⟩
theorem args_frz (r : RS K F γ σ H) : ∀ {bs : List Sl} {vs : List V}, ArgsE K F γ σ bs vs → (∀ s ∈ bs, s ∈ as) → ArgsOk K (frzH as γ σ F H) (bs.map frz) vs
  | _, _, .nil, _ => .nil
  | _, _, .d p q, h => .d (p.mono (frz_same r)) (args_frz r q fun s hs => h s (List.mem_cons_of_mem _ hs))
  | _, _, .o (s := s) j e1 e2 e3 q, h => by
    have ih := args_frz r q fun s hs => h s (List.mem_cons_of_mem _ hs)
    have k := r.sl j _ e1
    cases s <;> first | (cases e2; done) | skip
    · rename_i h0 c fs
      obtain ⟨a, dx, C, kvs, e4, o⟩ := k
      rw [e3] at e4; cases e4
      exact .o (o.frz (frz_same r) fun b z => frzH_yes ⟨j, h0, c, fs, h _ List.mem_cons_self, e1, a, dx, C, kvs, e3, o.ha, z⟩) ih
    · rename_i c fs
      obtain ⟨a, dx, C, kvs, e4, o⟩ := k
      rw [e3] at e4; cases e4
      exact .o (o.mono (frz_same r)) ih
theorem unf_next (r : RS K F γ σ H) {F' H' : Hp} (n : Nxt (frzH as γ σ F H) H F' H') : Nxt F H (unfH as γ σ H F') H' :=
  ⟨fun b u e => by
    have z : ¬ Owd as γ σ H b := fun z => by rw [(z.free r).1] at e; cases e
    rw [unfH_no z]; exact n.f _ _ ((frzH_no z).trans e), fun b u e => by
    by_cases z : Owd as γ σ H b
    · rw [unfH_yes z] at e; cases e
    · rw [unfH_no z] at e
      rcases n.fn b u e with q | q
      · rw [frzH_no z] at q; exact .inl q
      · exact .inr q, fun b u e => by
    by_cases z : Owd as γ σ H b
    · rw [unfH_yes z] at e; cases e
    · rw [unfH_no z] at e; exact n.emb b u e, n.h⟩
theorem pure_own {fs : List Fd} {vs : List V} {b : Addr} : pureFs fs = true → ¬ OwF fs vs b := by
  induction fs generalizing vs with
  | nil => intro _ h; cases vs <;> exact h
  | cons f fs ih =>
    intro h o
    obtain ⟨fl, d⟩ := f
    unfold pureFs at h ih
    rw [List.all_cons, Bool.and_eq_true] at h
    cases fl with
    | true => cases h.1
    | false =>
      cases vs with
      | nil => exact o
      | cons v vs => exact ih h.2 o
/-- data told by a call holds nothing of the objects -/
theorem unf_rep (r : RS K F γ σ H) {F' H' : Hp} (n : Nxt (frzH as γ σ F H) H F' H') {d : D} {v : V} (p : Rep K F' d v) (h : (as.all pureOb || scal d) = true) : Rep K (unfH as γ σ H F') d v := by
  rw [Bool.or_eq_true] at h
  rcases h with h | h
  · refine p.sub fun b o e q => ?_
    rw [unfH_no]
    · exact e
    · intro z
      have fb := frzH_yes (F := F) z
      obtain ⟨u, hu⟩ := (z.free r).2
      have e2 := n.f _ _ (fb.trans hu)
      rw [e] at e2; cases e2
      obtain ⟨j, h0, c, fs, m, ej, i⟩ := z
      have pu : pureFs fs = true := List.all_eq_true.mp h _ m
      obtain ⟨a, dx, C, kvs, e4, ob⟩ := r.sl j _ ej
      obtain ⟨a', dx', C', kvs', e5, ha, k⟩ := i
      rw [e4] at e5; cases e5
      rw [ob.ha] at ha; cases ha
      rcases k with rfl | rfl | k
      · rw [ob.ha] at hu; cases hu; cases q
      · rw [ob.hd] at hu; cases hu; cases q
      · exact pure_own pu k
  · exact p.scal h
end
/-! ### a call that reads objects -/
def bCallR (g : List Sl → R D) (fs : Ga → R (List Sl)) : Ga → R D := fun γ => (fs γ).bind fun as => (g (as.map frz)).bind fun d => if (as.all pureOb || scal d) = true then .ok d else .no
section
variable {X : Cx} {W : WN} {cl : Cl} {fs : Ga → R (List Sl)} {k n : Nat} {f C : Addr} {fd : FuncData} {ps : List Str} {g : List Sl → R D} {x m : Str} {e : Expr} {es : List Expr} {p pos apos : Pos}
theorem callR_of {K : PySem.W.Frag} {σ : L2.St} {H F : Hp} {γ : Ga} {Q : VK} {as : List Sl} {vs : List V} (hn : vs.length = n) (r : RS K F γ σ H) (q : ArgsE K F γ σ as vs)
    (o : Out (PV K F H) F H (fun c H' => W c σ H') ((g (as.map frz)).bind fun d => if (as.all pureOb || scal d) = true then .ok d else .no) Q) : spR K cl n g vs H Q (WE (VW cl W) σ) := by
  refine ⟨frzH as γ σ F H, as.map frz, hn, frz_emb r, args_frz r q fun s h => h, ?_⟩
  cases e2 : g (as.map frz) with
  | ok d =>
    simp only [e2, R.bind] at o
    split at o
    · rename_i h
      exact fun v F' H' n p => o v _ H' (unf_next r n) (unf_rep r n p h)
    · exact o.elim
  | ex c => simp only [e2, R.bind] at o; exact fun F' H' n => ⟨c, rfl, rfl, o _ H' (unf_next r n)⟩
  | no => simp only [e2, R.bind] at o; exact o
end
/-! ### fields -/
theorem take_at {ns : List Str} {n k : Nat} {f : Str} (h : ns[k]? = some f) (hk : k < n) : (ns.take n)[k]? = some f := by rw [List.getElem?_take_of_lt hk, h]
theorem lookup_at : ∀ {kvs : List (Str × V)} {k : Nat} {f : Str}, (kvs.map (·.1)).Nodup → (kvs.map (·.1))[k]? = some f → kvs.lookup f = (kvs.map (·.2))[k]?
  | [], _, _, _, h => by simp at h
  | (g, v) :: kvs, 0, f, _, h => by
    simp at h
    subst h
    simp [List.lookup]
  | (g, v) :: kvs, k + 1, f, nd, h => by
    rw [List.map_cons, List.nodup_cons] at nd
    have h : (kvs.map (·.1))[k]? = some f := by simpa using h
    have ne : (f == g) = false := by
      refine beq_eq_false_iff_ne.mpr fun e => nd.1 ?_
      subst e
      exact List.mem_of_getElem? h
    show (match f == g with | true => some v | false => kvs.lookup f) = _
    rw [ne]
    have := lookup_at nd.2 h
    simpa using this
theorem lookup_none : ∀ {kvs : List (Str × V)} {m : Str}, m ∉ kvs.map (·.1) → kvs.lookup m = none
  | [], _, _ => rfl
  | (g, v) :: kvs, m, h => by
    have ne : (m == g) = false := beq_eq_false_iff_ne.mpr fun e => h (by subst e; simp)
    show (match m == g with | true => some v | false => kvs.lookup m) = _
    rw [ne]
    exact lookup_none fun z => h (by simp at z ⊢; exact .inr z)
theorem fNm_nd (c : Nat) : (fNm c).Nodup := by
  match c with
  | 0 => decide +kernel
  | 1 => decide +kernel
  | 2 => decide +kernel
  | 3 => decide +kernel
  | _ + 4 => show (["order", "kept", "past", "later"] : List Str).Nodup; decide +kernel
theorem FdsOk.get {K : PySem.W.Frag} {F H : Hp} {a : Addr} : ∀ {fs : List Fd} {vs : List V} {k : Nat} {fl : Bool} {d : D}, FdsOk K F H a fs vs → fs[k]? = some (fl, d) → ∃ v, vs[k]? = some v ∧ (fl = false → Rep K F d v) ∧ Rep1 K F H d v
  | [], _, _, _, _, _, e => by simp at e
  | (false, d') :: fs, v :: vs, 0, _, _, h, e => by cases e; exact ⟨v, rfl, fun _ => h.1, .inl h.1⟩
  | (true, d') :: fs, v :: vs, 0, _, _, h, e => by
    cases e
    obtain ⟨b, e1, _, _, e4, _⟩ := h.1
    exact ⟨v, rfl, fun z => (nomatch z), .inr ⟨b, e1, e4⟩⟩
  | (false, _) :: fs, v :: vs, k + 1, _, _, h, e => FdsOk.get (vs := vs) (k := k) h.2 (by simpa using e)
  | (true, _) :: fs, v :: vs, k + 1, _, _, h, e => FdsOk.get (vs := vs) (k := k) h.2 (by simpa using e)
  | (false, _) :: _, [], _, _, _, h, _ => h.elim
  | (true, _) :: _, [], _, _, _, h, _ => h.elim
def bFld (cn i k : Nat) : Ga → R D := fun γ => match γ[i]? with
  | some (.ob _ c fs) => if c = cn then (match fs[k]? with | some (false, d) => .ok d | _ => .no) else .no
  | some (.rf c fs) => if c = cn then (match fs[k]? with | some (_, d) => .ok d | none => .no) else .no
  | _ => .no
/-- .. a list of its own, read alone -/
def bFldR (cn i k : Nat) : Ga → R D := fun γ => match γ[i]? with
  | some (.ob _ c fs) => if c = cn then (match fs[k]? with | some (_, d) => .ok d | _ => .no) else .no
  | _ => .no
theorem obc_inj {K : PySem.W.Frag} {c : Nat} {C C' : Addr} (h : ObC K c C) (h' : ObC K c C') : C = C' := by
  unfold ObC at h h'
  rw [h] at h'
  injection h' with h'
  injection h' with h'
  injection h'
theorem rf_ins {K : PySem.W.Frag} {F H : Hp} {c : Nat} {fs : List Fd} {a dx C : Addr} {kvs : List (Str × V)} (e : Emb F H) (o : RfAt K F c fs a dx C kvs) : H a = some (.ins C dx kvs) := by
  rcases e _ _ o.ha with h | ⟨_, _, z, _⟩
  · exact h
  · cases z
section
variable {X : Cx} {W : WN} {x f : Str} {q pos : Pos} {C : Addr}
theorem fld_get {K : PySem.W.Frag} {n : Nat} {c k : Nat} {f : Str} {kvs : List (Str × V)} {v : V} (hf : (fNm c)[k]? = some f) (nm : kvs.map (·.1) = (fNm c).take n) (hk : k < n) (hv : (kvs.map (·.2))[k]? = some v) : kvs.lookup f = some v := by
  rw [← hv]
  refine lookup_at ?_ ?_
  · rw [nm]; exact (fNm_nd c).sublist (List.take_sublist _ _)
  · rw [nm]; exact take_at hf hk
theorem j_fld (cn i k : Nat) (hO : ObC X.K cn C) (hc : Cls X.K C) (hn : NoAttr X.K C f) (hf : (fNm cn)[k]? = some f := by rfl) (hb : attributeBase (.Name x q) f X.env (eval (.Name x q) X.env) = eval (.Name x q) X.env := by rfl)
    (hN : X.N[i]? = some x := by rfl) (hv : Vis X.env.scope x := by first | exact Or.inl rfl | exact Or.inr (Or.inl rfl) | exact Or.inr (Or.inr rfl)) (hd : (x == ("__debug__" : Str)) = false := by decide) (hcd : (x == ("__classdict__" : Str)) = false := by decide) :
    J X W (bFld cn i k) (.Attribute (.Name x q) f pos) := ⟨PE.imp (pe_fld (pe_var hN hv hd hcd) hb) fun σ H Q ⟨F, γ, r, o⟩ => by
  unfold bFld at o
  split at o
  · rename_i h0 c fs e
    split at o
    · rename_i ec
      subst ec
      split at o
      · rename_i d ed
        obtain ⟨a, dx, C', kvs, e1, ob⟩ := r.sl i _ e
        have := obc_inj hO ob.cl
        subst this
        obtain ⟨v, h1, h2, _⟩ := ob.ok.get ed
        have hk := (List.getElem?_eq_some_iff.mp ed).1
        exact ⟨_, e1, a, C, dx, kvs, v, rfl, ob.ha, hc, hn, fld_get (K := X.K) hf ob.nm hk h1, PV.here (Q := Q) o r.emb (h2 rfl)⟩
      · exact o.elim
    · exact o.elim
  · rename_i c fs e
    split at o
    · rename_i ec
      subst ec
      split at o
      · rename_i fl d ed
        obtain ⟨a, dx, C', kvs, e1, ob⟩ := r.sl i _ e
        have := obc_inj hO ob.cl
        subst this
        have hk := (List.getElem?_eq_some_iff.mp ed).1
        obtain ⟨v, h1, h2⟩ := ob.ok.get (i := k) (d := d) (by rw [List.getElem?_map, ed]; rfl)
        exact ⟨_, e1, a, C, dx, kvs, v, rfl, rf_ins r.emb ob, hc, hn, fld_get (K := X.K) hf ob.nm hk h1, PV.here (Q := Q) o r.emb h2⟩
      · exact o.elim
    · exact o.elim
  · exact o.elim⟩
theorem jr_fld (cn i k : Nat) (hO : ObC X.K cn C) (hc : Cls X.K C) (hn : NoAttr X.K C f) (hf : (fNm cn)[k]? = some f := by rfl) (hb : attributeBase (.Name x q) f X.env (eval (.Name x q) X.env) = eval (.Name x q) X.env := by rfl)
    (hN : X.N[i]? = some x := by rfl) (hv : Vis X.env.scope x := by first | exact Or.inl rfl | exact Or.inr (Or.inl rfl) | exact Or.inr (Or.inr rfl)) (hd : (x == ("__debug__" : Str)) = false := by decide) (hcd : (x == ("__classdict__" : Str)) = false := by decide) :
    JR X W (bFldR cn i k) (.Attribute (.Name x q) f pos) := ⟨PE.imp (pe_fld (pe_var hN hv hd hcd) hb) fun σ H Q ⟨F, γ, r, o⟩ => by
  unfold bFldR at o
  split at o
  · rename_i h0 c fs e
    split at o
    · rename_i ec
      subst ec
      split at o
      · rename_i fl d ed
        obtain ⟨a, dx, C', kvs, e1, ob⟩ := r.sl i _ e
        have := obc_inj hO ob.cl
        subst this
        obtain ⟨v, h1, _, h2⟩ := ob.ok.get ed
        have hk := (List.getElem?_eq_some_iff.mp ed).1
        exact ⟨_, e1, a, C, dx, kvs, v, rfl, ob.ha, hc, hn, fld_get (K := X.K) hf ob.nm hk h1, o v F H (.refl r.emb) h2⟩
      · exact o.elim
    · exact o.elim
  · exact o.elim⟩
end
/-! ### methods that read -/
def tMethX (C : Addr) (m : Str) (sp : Sp) (E : L2.St → XK) (ta : TE) (t : TA) : TE := fun σ H Q => ta σ H fun x H1 => ∃ a dx fs, x = .ref a ∧ H1 a = some (.ins C dx fs) ∧ fs.lookup m = none ∧ t σ H1 fun vs H2 => sp (x :: vs) H2 Q (E σ)
section
variable {X : Cx} {CX : CXT} {k : Nat} {C f : Addr} {fd : FuncData} {ps : List Str} {m : Str} {sp : Sp} {E : L2.St → XK} {o e : Expr} {es : List Expr} {ta : TE} {t : TA} {apos pos : Pos} {pl : Sem Bool}
theorem pe_methX (he : PE X o ta) (c : Cls X.K C) (hm : Meth X.K C m f) (F : FnOk X.prog X.w X.K X.mg X.base CX k f fd ps sp) (hr : Room k X.A) (hb : Binds X.K fd ps []) (hx : ∀ σ, PassesAt CX X σ (E σ)) (ha : PA X (e :: es) t)
    (hst : starEach (e :: es) X.env = (false, eval e X.env) :: starEach es X.env := by rfl) (hpl : (backTo pos (starEach es X.env)).any (·.1) = false := by rfl)
    (ht : eval (.Call (.Attribute o m apos) (e :: es) [] pos) X.env = (do
      let ov ← eval o X.env
      standAt apos.atName
      let (f, first) ← holding [ov] (getMethod ov m pl)
      callWith pos f first (backTo pos (starEach (e :: es) X.env)) (backToKw pos (keywordEach [] X.env))) := by rfl) :
    PE X (.Call (.Attribute o m apos) (e :: es) [] pos) (tMethX C m sp E ta t) := by
  refine ⟨fun pins s σ H Q I h => ?_⟩
  refine PySem.W.methodCall_KW (pl := pl) (thn (he.run pins s σ H _ I h) fun u s1 ⟨x, H1, I1, rx, a, dx, fs, ex, ea, l, q⟩ => ?_) ht
  subst ex
  obtain rfl : u = Value.ref a := rx
  refine getmeth_ok I1 ea c hm l ?_
  refine PySem.W.callWith_K (first := [.ref a]) (h₀ := X.base) I.ok.mod.kin hm.kp (thn (ha.run pos pins s1 σ H1 _ I1 q) fun us s2 ⟨vs, H2, I2, r, q2⟩ => ⟨I2.kIn, ?_⟩) hst hpl
  exact run_fnS (us := .ref a :: us) (vs := .ref a :: vs) F hr hb (hx σ) I2 (.cons rfl r) q2
theorem pe_methX0 (he : PE X o ta) (c : Cls X.K C) (hm : Meth X.K C m f) (F : FnOk X.prog X.w X.K X.mg X.base CX k f fd ps sp) (hr : Room k X.A) (hb : Binds X.K fd ps []) (hx : ∀ σ, PassesAt CX X σ (E σ))
    (ht : eval (.Call (.Attribute o m apos) [] [] pos) X.env = (do
      let ov ← eval o X.env
      standAt apos.atName
      let (f, first) ← holding [ov] (getMethod ov m pl)
      callWith pos f first (backTo pos (starEach [] X.env)) (backToKw pos (keywordEach [] X.env))) := by rfl) :
    PE X (.Call (.Attribute o m apos) [] [] pos) (tMethX C m sp E ta tNil) := by
  refine ⟨fun pins s σ H Q I h => ?_⟩
  refine PySem.W.methodCall_KW (pl := pl) (thn (he.run pins s σ H _ I h) fun u s1 ⟨x, H1, I1, rx, a, dx, fs, ex, ea, l, q⟩ => ?_) ht
  subst ex
  obtain rfl : u = Value.ref a := rx
  refine getmeth_ok I1 ea c hm l ?_
  exact PySem.W.callWith_K0 (first := [.ref a]) I1.kIn hm.kp (run_fnS (us := [.ref a]) (vs := [.ref a]) F hr hb (hx σ) I1 (.cons rfl .nil) q)
end
section
variable {X : Cx} {W : WN} {cl : Cl} {fs : Ga → R (List Sl)} {k n : Nat} {f C : Addr} {fd : FuncData} {ps : List Str} {g : List Sl → R D} {x m : Str} {e : Expr} {es : List Expr} {p pos apos : Pos}
/-- what an object's slot tells ahead of a method's call -/
theorem ob_ins {K : PySem.W.Frag} {F H : Hp} {γ : Ga} {σ : L2.St} {cn i : Nat} {s : Sl} {C : Addr} {m : Str} (r : RS K F γ σ H) (hO : ObC K cn C) (h : obAt cn γ i = .ok s) (hm : (fNm cn).contains m = false) :
    ∃ a dx kvs, σ[i]? = some (some (.ref a)) ∧ H a = some (.ins C dx kvs) ∧ kvs.lookup m = none := by
  obtain ⟨h1, _, fs, h3⟩ := obAt_ok h
  have nm : ∀ {kvs : List (Str × V)} {n : Nat}, kvs.map (·.1) = (fNm cn).take n → kvs.lookup m = none := fun {kvs n} e => lookup_none (by
    rw [e]
    intro z
    have := List.mem_of_mem_take z
    rw [← List.contains_iff_mem, hm] at this
    cases this)
  rcases h3 with ⟨h0, rfl⟩ | rfl
  · obtain ⟨a, dx, C', kvs, e1, ob⟩ := r.sl i _ h1
    have := obc_inj hO ob.cl
    subst this
    exact ⟨a, dx, kvs, e1, ob.ha, nm ob.nm⟩
  · obtain ⟨a, dx, C', kvs, e1, ob⟩ := r.sl i _ h1
    have := obc_inj hO ob.cl
    subst this
    exact ⟨a, dx, kvs, e1, rf_ins r.emb ob, nm ob.nm⟩
theorem j_methR (cn i : Nat) (hO : ObC X.K cn C) (hc : Cls X.K C) (hM : Meth X.K C m f) (F : FnOk X.prog X.w X.K X.mg X.base (L2.CX X.prog X.w) k f fd ps (spR X.K cl n g)) (hr : Room k X.A) (hb : Binds X.K fd ps []) (tk : Takes X (VW cl W))
    (ha : JAO X W fs (e :: es)) (hn : ∀ γ as, fs γ = .ok as → as.length + 1 = n) (hml : (fNm cn).contains m = false := by decide +kernel)
    (hN : X.N[i]? = some x := by rfl) (hv : Vis X.env.scope x := by first | exact Or.inl rfl | exact Or.inr (Or.inl rfl) | exact Or.inr (Or.inr rfl)) (hd : (x == ("__debug__" : Str)) = false := by decide) (hcd : (x == ("__classdict__" : Str)) = false := by decide)
    (hst : starEach (e :: es) X.env = (false, eval e X.env) :: starEach es X.env := by rfl) (hpl : (backTo pos (starEach es X.env)).any (·.1) = false := by rfl) {pl : Sem Bool}
    (ht : eval (.Call (.Attribute (.Name x p) m apos) (e :: es) [] pos) X.env = (do
      let ov ← eval (.Name x p) X.env
      standAt apos.atName
      let (f, first) ← holding [ov] (getMethod ov m pl)
      callWith pos f first (backTo pos (starEach (e :: es) X.env)) (backToKw pos (keywordEach [] X.env))) := by rfl) :
    J X W (bCallR g (aO cn i fs)) (.Call (.Attribute (.Name x p) m apos) (e :: es) [] pos) :=
  ⟨PE.imp (pe_methX (pl := pl) (pe_var hN hv hd hcd) hc hM F hr hb (fun σ => passAt tk σ) ha.pa hst hpl ht) fun σ H Q ⟨F, γ, r, o⟩ => by
    unfold bCallR aO at o
    cases e0 : obAt cn γ i with
    | ok s =>
      simp only [e0, R.bind] at o
      obtain ⟨h1, h2, _⟩ := obAt_ok e0
      obtain ⟨a, dx, kvs, e1, e2, e3⟩ := ob_ins r hO e0 hml
      refine ⟨_, e1, a, dx, kvs, rfl, e2, e3, F, γ, r, ?_⟩
      cases e4 : fs γ with
      | ok as =>
        simp only [e4, R.bind] at o
        exact fun vs F' H' n1 q => callR_of (by rw [List.length_cons, ← q.length]; exact hn γ as e4) (r.next n1) (.o i h1 h2 e1 q) (Out.next (K := X.K) (σ := σ) (W := W) o n1)
      | ex c => simp only [e4, R.bind] at o; exact o
      | no => simp only [e4, R.bind] at o; exact o
    | ex c => exact absurd e0 obAt_ex
    | no => simp only [e0, R.bind] at o; exact o.elim⟩
theorem j_methR0 (cn i : Nat) (hO : ObC X.K cn C) (hc : Cls X.K C) (hM : Meth X.K C m f) (F : FnOk X.prog X.w X.K X.mg X.base (L2.CX X.prog X.w) k f fd ps (spR X.K cl 1 g)) (hr : Room k X.A) (hb : Binds X.K fd ps []) (tk : Takes X (VW cl W))
    (hml : (fNm cn).contains m = false := by decide +kernel)
    (hN : X.N[i]? = some x := by rfl) (hv : Vis X.env.scope x := by first | exact Or.inl rfl | exact Or.inr (Or.inl rfl) | exact Or.inr (Or.inr rfl)) (hd : (x == ("__debug__" : Str)) = false := by decide) (hcd : (x == ("__classdict__" : Str)) = false := by decide) {pl : Sem Bool}
    (ht : eval (.Call (.Attribute (.Name x p) m apos) [] [] pos) X.env = (do
      let ov ← eval (.Name x p) X.env
      standAt apos.atName
      let (f, first) ← holding [ov] (getMethod ov m pl)
      callWith pos f first (backTo pos (starEach [] X.env)) (backToKw pos (keywordEach [] X.env))) := by rfl) :
    J X W (bCallR g (aO cn i aNil)) (.Call (.Attribute (.Name x p) m apos) [] [] pos) :=
  ⟨PE.imp (pe_methX0 (pl := pl) (pe_var hN hv hd hcd) hc hM F hr hb (fun σ => passAt tk σ) ht) fun σ H Q ⟨F, γ, r, o⟩ => by
    unfold bCallR aO at o
    cases e0 : obAt cn γ i with
    | ok s =>
      simp only [e0, aNil, R.bind] at o
      obtain ⟨h1, h2, _⟩ := obAt_ok e0
      obtain ⟨a, dx, kvs, e1, e2, e3⟩ := ob_ins r hO e0 hml
      exact ⟨_, e1, a, dx, kvs, rfl, e2, e3, callR_of rfl r (.o i h1 h2 e1 .nil) o⟩
    | ex c => exact absurd e0 obAt_ex
    | no => simp only [e0, R.bind] at o; exact o.elim⟩
end
end KN
set_option maxHeartbeats 1000000
/-! KnR1: objects that are changed: defs that change one, calls of them -/
namespace KN
open PySem PySem.Spec PyProof.Rows L2
/-! ### behind a change of what O owns -/
abbrev OwnB (H : Hp) (s : Sl) (a : Addr) (b : Addr) : Prop := Inn H s (some (some (.ref a))) b
structure PostM (F H : Hp) (O : Addr → Prop) (F' H' : Hp) : Prop where
  f : Same F F'
  fn : ∀ b o, F' b = some o → F b = some o ∨ H b = none ∨ O b
  emb : Emb F' H'
  h : ∀ b u, H b = some u → ¬ O b → H' b = some u
theorem RB.mut {K : PySem.W.Frag} {B : Bs} {F H F' H' : Hp} {γ : Ga} {σ : L2.St} {i : Nat} {s s' : Sl} {a : Addr} (r : RB K B F γ σ H) (hi : γ[i]? = some s) (ha : σ[i]? = some (some (.ref a)))
    (p : PostM F H (OwnB H s a) F' H') (k : SlOk K F' H' s' (some (some (.ref a)))) (inn : ∀ b, OwnB H' s' a b → OwnB H s a b ∨ H b = none) (nr : hnd s' = true → hnd s = true ∧ isRf s' = false) : RB K B F' (γ.set i s') σ H' := by
  have hv : ∀ b, OwnB H s a b → Inn H s σ[i]? b := fun b z => by rw [ha]; exact z
  have fn : ∀ b, OwnB H s a b → F b = none := fun b z => ((hv b z).have (r.rs.sl i s hi)).1
  refine r.chg hi (s1 := s') (by rw [ha]; exact k) ⟨r.fi.f0.trans p.f, fun b o e => ?_, p.emb, fun b o e => ?_, fun q hq => ?_⟩ p.f (fun b u z1 z2 z3 => ?_) (fun b z => ?_) nr
  · rcases p.fn b o e with z | z | z
    · exact r.fi.fn b o z
    · exact .inr (r.fi.free z)
    · exact .inr (r.ow i s b hi (hv b z))
  · rcases r.fi.h0 b o e with z | z
    · refine .inl (p.h b o z fun q => ?_)
      have := r.ow i s b hi (hv b q)
      rw [e] at this; cases this
    · exact .inr z
  · obtain ⟨y1, ob, u, y2, y3⟩ := r.fi.sS q hq
    exact ⟨p.h _ _ y1 (fun z => by have := fn _ z; rw [y3] at this; cases this), ob, u, y2, p.f _ _ y3⟩
  · rw [ha] at z3
    refine ⟨p.h b u z1 z3, ?_⟩
    cases z : F' b with
    | none => rfl
    | some o =>
      rcases p.fn b o z with y | y | y
      · rw [z2] at y; cases y
      · rw [z1] at y; cases y
      · exact absurd y z3
  · rw [ha] at z ⊢; exact inn b z
/-! ### what such a def promises -/
def OutM (K : PySem.W.Frag) (F H : Hp) (s : Sl) (a : Addr) (W : Nat → Hp → Prop) (r : R (D × Sl)) (Q : VK) : Prop := match r with
  | .ok (d, s') => ∀ v F' H', PostM F H (OwnB H s a) F' H' → SlOk K F' H' s' (some (some (.ref a))) → (∀ b, OwnB H' s' a b → OwnB H s a b ∨ H b = none) → Rep K F' d v → Q v H'
  | .ex c => ∀ F' H', Nxt F H F' H' → W c H'
  | .no => False
/-- data but for an object at i -/
def spM (K : PySem.W.Frag) (cl : Cl) (n i : Nat) (g : List Sl → R (D × Sl)) : Sp := fun vs H Q E => ∃ F as c fs a, vs.length = n ∧ as[i]? = some (.ob true c fs) ∧ vs[i]? = some (.ref a) ∧ RS K F as (vs.map some) H ∧
  (∀ j s, as[j]? = some s → j ≠ i → ∃ d, s = .va d) ∧ OutM K F H (.ob true c fs) a (fun c H' => E (cl c) none H') (g as) Q
def stOf (i : Nat) (o : D) (γ : Ga) : R (D × Sl) := match γ[i]? with
  | some (.ob true c fs) => .ok (o, .ob true c fs)
  | _ => .no
/-- the object is read first, then perhaps changed -/
def fnM (n i : Nat) (body : Ga → R Fl) (as : List Sl) : R (D × Sl) := match as[i]? with
  | some (.ob _ c fs) => if pureFs fs = true then match body (as.set i (.rf c fs) ++ List.replicate (n - as.length) .un) with
    | .ok (.rt d) => .ok (d, .ob true c fs)
    | .ok (.nx _) => .ok (.non, .ob true c fs)
    | .ok (.rx (.rm (some d) γ)) => stOf i d γ
    | .ok (.rx (.rm none γ)) => stOf i .non γ
    | .ex c => .ex c
    | _ => .no
    else .no
  | _ => .no
/-- it is changed from the start; nothing is raised -/
def fnO (n i : Nat) (body : Ga → R Fl) (as : List Sl) : R (D × Sl) := match body (as ++ List.replicate (n - as.length) .un) with
  | .ok (.nx γ) => stOf i .non γ
  | .ok (.rx (.rm (some d) γ)) => stOf i d γ
  | .ok (.rx (.rm none γ)) => stOf i .non γ
  | _ => .no
theorem stOf_ok {i : Nat} {o d : D} {γ : Ga} {s : Sl} (h : stOf i o γ = .ok (d, s)) : d = o ∧ ∃ c fs, s = .ob true c fs ∧ γ[i]? = some (.ob true c fs) := by
  unfold stOf at h
  split at h
  · cases h; exact ⟨rfl, _, _, rfl, by assumption⟩
  · cases h
theorem stOf_ex {i : Nat} {o : D} {γ : Ga} {c : Nat} : stOf i o γ ≠ .ex c := by
  unfold stOf
  split <;> exact fun h => nomatch h
/-! ### the start of its run -/
theorem start_eq {N : List Str} {vs : List V} {i : Nat} (l : i < vs.length) : (L2.start N vs)[i]? = (vs.map some)[i]? := by
  unfold L2.start
  rw [List.getElem?_append_left (by simpa using l)]
theorem rs_un {K : PySem.W.Frag} {F H : Hp} {N : List Str} {as : List Sl} {vs : List V} (r : RS K F as (vs.map some) H) : RS K F (as ++ List.replicate (N.length - as.length) .un) (L2.start N vs) H := by
  have ln : as.length = vs.length := by simpa using r.len
  have at' : ∀ {i s}, (as ++ List.replicate (N.length - as.length) Sl.un)[i]? = some s → (as[i]? = some s ∧ (L2.start N vs)[i]? = (vs.map some)[i]?) ∨ s = Sl.un := fun {i s} h => by
    rcases start_get h with z | z
    · exact .inl ⟨z, start_eq (by rw [← ln]; exact (List.getElem?_eq_some_iff.mp z).1)⟩
    · exact .inr z
  refine ⟨r.emb, by simp [L2.start, ln], fun i s h => ?_, fun i j s s' b h1 h2 i1 i2 => ?_⟩
  · rcases at' h with ⟨z1, z2⟩ | rfl
    · rw [z2]; exact r.sl i s z1
    · trivial
  · rcases at' h1 with ⟨y1, y2⟩ | rfl
    · rcases at' h2 with ⟨z1, z2⟩ | rfl
      · rw [y2] at i1; rw [z2] at i2; exact r.apart i j s s' b y1 z1 i1 i2
      · exact i2.elim
    · exact i1.elim
theorem SlOk.va {K : PySem.W.Frag} {F F' H H' : Hp} {d : D} {x : Option (Option V)} (f : Same F F') (k : SlOk K F H (.va d) x) : SlOk K F' H' (.va d) x := by
  obtain ⟨v, e, p⟩ := k; exact ⟨v, e, p.mono f⟩
theorem ow_pure {K : PySem.W.Frag} {F H : Hp} {h : Bool} {c : Nat} {fs : List Fd} {a dx C : Addr} {kvs : List (Str × V)} (o : ObAt K F H c fs a dx C kvs) (p : pureFs fs = true) {b : Addr} : OwnB H (.ob h c fs) a b ↔ b = a ∨ b = dx := by
  constructor
  · rintro ⟨a', dx', C', kvs', e, h1, k⟩
    cases e
    rw [o.ha] at h1; cases h1
    rcases k with k | k | k
    · exact .inl k
    · exact .inr k
    · exact absurd k (pure_own p)
  · rintro (rfl | rfl)
    · exact ⟨_, _, _, _, rfl, o.ha, .inl rfl⟩
    · exact ⟨_, _, _, _, rfl, o.ha, .inr (.inl rfl)⟩
theorem rem_at {F : Hp} {a dx b : Addr} (h : b = a ∨ b = dx) : rem F a dx b = none := by unfold rem; rw [if_pos h]
theorem rem_no {F : Hp} {a dx b : Addr} (h : ¬ (b = a ∨ b = dx)) : rem F a dx b = F b := by unfold rem; rw [if_neg h]
theorem rem_some {F : Hp} {a dx b : Addr} {o : HO} (h : rem F a dx b = some o) : F b = some o ∧ ¬ (b = a ∨ b = dx) := by
  by_cases z : b = a ∨ b = dx
  · rw [rem_at z] at h; cases h
  · rw [rem_no z] at h; exact ⟨h, z⟩
theorem rem_none {F : Hp} {a dx b : Addr} (h : rem F a dx b = none) : F b = none ∨ b = a ∨ b = dx := by
  by_cases z : b = a ∨ b = dx
  · exact .inr z
  · rw [rem_no z] at h; exact .inl h
theorem rem_free {F : Hp} {a dx b : Addr} (h : F b = none) : rem F a dx b = none := by
  by_cases z : b = a ∨ b = dx
  · exact rem_at z
  · rw [rem_no z]; exact h
theorem rem_rem {F : Hp} {a dx : Addr} : rem (rem F a dx) a dx = rem F a dx := by
  funext b
  by_cases z : b = a ∨ b = dx
  · rw [rem_at z, rem_at z]
  · rw [rem_no z]
theorem Bs.sub_ob {B : Bs} : B.sub.ob = B.ob := by
  unfold Bs.sub
  split
  · rename_i e; exact e.symm
  · rfl
theorem Bs.sub_of {B : Bs} {a dx : Addr} (h : B.ob = some (a, dx)) : B.sub = ⟨rem B.F0 a dx, rem B.H0 a dx, B.S, some (a, dx)⟩ := by
  unfold Bs.sub; rw [h]
theorem Bs.sub_sub {B : Bs} : B.sub.sub = B.sub := by
  cases e : B.ob with
  | none => unfold Bs.sub; rw [e]; simp [e]
  | some p =>
    obtain ⟨a, dx⟩ := p
    have h2 : B.sub.ob = some (a, dx) := Bs.sub_ob.trans e
    rw [Bs.sub_of h2, Bs.sub_of e]
    simp only [rem_rem]
/-- what is known of a base is known of it without the object -/
theorem RB.sub {K : PySem.W.Frag} {B : Bs} {F H : Hp} {γ : Ga} {σ : L2.St} (r : RB K B F γ σ H) : RB K B.sub F γ σ H := by
  cases e : B.ob with
  | none =>
    have : B.sub = B := by unfold Bs.sub; rw [e]
    rw [this]; exact r
  | some p =>
    obtain ⟨a, dx⟩ := p
    rw [Bs.sub_of e]
    refine ⟨r.rs, ⟨fun b o h => r.fi.f0 b o (rem_some h).1, fun b o h => ?_, r.fi.emb, fun b o h => r.fi.h0 b o (rem_some h).1, r.fi.sS⟩, fun i s b h1 h2 => rem_free (r.ow i s b h1 h2), fun j s a' dx' h1 h2 h3 => r.lk j s a' dx' h1 h2 (by rw [e]; exact h3)⟩
    by_cases z : b = a ∨ b = dx
    · exact .inr (rem_at z)
    · rcases r.fi.fn b o h with y | y
      · exact .inl ((rem_no z).trans y)
      · exact .inr (rem_free y)
/-! ### data without an object -/
section
variable {K : PySem.W.Frag} {F F' H : Hp}
theorem RepK.sub (h : ∀ b o, F b = some o → isDt o = true → F' b = some o) : ∀ {es : List (Tx × D)} {kvs : List (Key × V)}, RepK K F es kvs → RepK K F' es kvs
  | _, _, .nil => .nil
  | _, _, .cons a b => .cons (a.sub h) (RepK.sub h b)
theorem Own.sub (h : ∀ b o, F b = some o → isDt o = true → F' b = some o) {d : D} {a : Addr} (o : Own K F H d a) : Own K F' H d a := by
  cases d <;> simp only [Own] at o ⊢
  · obtain ⟨vs, e, r⟩ := o; exact ⟨vs, e, r.sub h⟩
  · obtain ⟨vs, e, r⟩ := o; exact ⟨vs, e, r.sub h⟩
theorem OwK.sub (h : ∀ b o, F b = some o → isDt o = true → F' b = some o) (hn : ∀ b, F b = none → F' b = none) {a : Addr} : ∀ {es : List (Tx × List (Tx × D))} {kvs : List (Key × V)}, OwK K F H a es kvs → OwK K F' H a es kvs
  | [], [], _ => trivial
  | (k, row) :: es, (k', v) :: kvs, ⟨e, ⟨r, kv, e1, e2, e3, e4, e5, e6⟩, o⟩ => ⟨e, ⟨r, kv, e1, e2, hn _ e3, e4, e5.sub h, e6⟩, OwK.sub h hn o⟩
  | [], _ :: _, h => h.elim
  | _ :: _, [], h => h.elim
theorem FdsOk.sub (h : ∀ b o, F b = some o → isDt o = true → F' b = some o) (hn : ∀ b, F b = none → F' b = none) {a : Addr} : ∀ {fs : List Fd} {vs : List V}, FdsOk K F H a fs vs → FdsOk K F' H a fs vs
  | [], [], _ => trivial
  | (false, _) :: fs, v :: vs, k => ⟨k.1.sub h, FdsOk.sub h hn k.2⟩
  | (true, d) :: fs, v :: vs, k => by
    obtain ⟨b, e1, e2, e3, e4, e5⟩ := k.1
    exact ⟨⟨b, e1, e2, hn _ e3, e4.sub h, e5⟩, FdsOk.sub h hn k.2⟩
  | [], _ :: _, h => h.elim
  | (false, _) :: _, [], h => h.elim
  | (true, _) :: _, [], h => h.elim
/-- all but what is read alone -/
theorem SlOk.sub (h : ∀ b o, F b = some o → isDt o = true → F' b = some o) (hn : ∀ b, F b = none → F' b = none) {s : Sl} {x : Option (Option V)} (nr : isRf s = false) (k : SlOk K F H s x) : SlOk K F' H s x := by
  cases s with
  | xc a => exact k
  | rf c fs => cases nr
  | un => trivial
  | va d => obtain ⟨v, e, p⟩ := k; exact ⟨v, e, p.sub h⟩
  | ow d => obtain ⟨a, e1, e2, e3⟩ := k; exact ⟨a, e1, hn _ e2, e3.sub h⟩
  | nd es => obtain ⟨a, kvs, e1, e2, e3, e4⟩ := k; exact ⟨a, kvs, e1, hn _ e2, e3, e4.sub h hn⟩
  | ob hh c fs =>
    obtain ⟨a, dx, C, kvs, e, o⟩ := k
    exact ⟨a, dx, C, kvs, e, hn _ o.fa, hn _ o.fd, o.ne, o.ha, o.hd, o.cl, o.nm, o.le, o.ok.sub h hn⟩
/-- fields that hold data alone -/
theorem fds_pure {a : Addr} : ∀ {fs : List Fd} {vs : List V}, pureFs fs = true → Reps K F (fs.map (·.2)) vs → FdsOk K F H a fs vs
  | [], _, _, .nil => trivial
  | (fl, d) :: fs, _, h, .cons p q => by
    unfold pureFs at h
    rw [List.all_cons, Bool.and_eq_true] at h
    cases fl with
    | true => cases h.1
    | false => exact ⟨p, fds_pure h.2 q⟩
end
/-- an object's place holds no data -/
theorem rem_data {F : Hp} {a dx C : Addr} {kvs : List (Str × V)} (h1 : F a = some (.ins C dx kvs)) (h2 : F dx = some (.own a)) : ∀ b o, F b = some o → isDt o = true → rem F a dx b = some o := fun b o h k => by
  rw [rem_no]
  · exact h
  · rintro (rfl | rfl)
    · rw [h1] at h; cases h; cases k
    · rw [h2] at h; cases h; cases k
/-! ### the object is opened to be changed -/
def onlyRf (i : Nat) (γ : Ga) : Bool := (γ.set i .un).all fun s => !isRf s
def fOpen (i : Nat) (f : Ga → R Fl) : Ga → R Fl := fun γ => match γ[i]? with
  | some (.rf c fs) => if (pureFs fs && onlyRf i γ) = true then match f (γ.set i (.ob true c fs)) with
    | .ok (.nx γ') => .ok (.rx (.rm none γ'))
    | .ok (.rx (.rm o γ')) => .ok (.rx (.rm o γ'))
    | _ => .no
    else .no
  | _ => .no
theorem rb_open {K : PySem.W.Frag} {B : Bs} {F H : Hp} {γ : Ga} {σ : L2.St} (r : RB K B F γ σ H) {i c : Nat} {fs : List Fd} (hi : γ[i]? = some (.rf c fs)) (hp : pureFs fs = true) (ho : onlyRf i γ = true) {a dx : Addr} (hb : B.ob = some (a, dx)) :
    σ[i]? = some (some (.ref a)) ∧ (∃ C kvs, F a = some (.ins C dx kvs)) ∧ F dx = some (.own a) ∧ RB K B.sub (rem F a dx) (γ.set i (.ob true c fs)) σ H := by
  obtain ⟨l1, l2⟩ := r.lk i _ a dx hi rfl hb
  obtain ⟨C, kvs, l3⟩ := l2 rfl
  obtain ⟨a', dx', C', kvs', e, o⟩ := r.rs.sl i _ hi
  rw [l1] at e; cases e
  have := o.ha
  rw [l3] at this; cases this
  have sub := rem_data o.ha o.hd
  have hn : ∀ b, F b = none → rem F a dx b = none := fun b h => rem_free h
  have hH : H a = some (.ins C dx kvs) := rf_ins r.rs.emb o
  have hHd : H dx = some (.own a) := by
    rcases r.rs.emb _ _ o.hd with h | ⟨_, _, z, _⟩
    · exact h
    · cases z
  have oth : ∀ {j s}, j ≠ i → γ[j]? = some s → isRf s = false := fun {j s} nj e => by
    unfold onlyRf at ho
    have m : s ∈ γ.set i .un := List.mem_of_getElem? (i := j) (by rw [List.getElem?_set_ne (Ne.symm nj)]; exact e)
    have := List.all_eq_true.mp ho s m
    simpa using this
  refine ⟨l1, ⟨C, kvs, l3⟩, o.hd, ?_⟩
  rw [Bs.sub_of hb]
  have ob : ObAt K (rem F a dx) H c fs a dx C kvs := ⟨rem_at (.inl rfl), rem_at (.inr rfl), o.ne, hH, hHd, o.cl, o.nm, o.le, fds_pure hp (o.ok.sub sub)⟩
  have own : ∀ b, OwnB H (.ob true c fs) a b → b = a ∨ b = dx := fun b h => (ow_pure ob hp).mp h
  refine ⟨⟨fun b u e => r.rs.emb b u (rem_some e).1, by simp [r.rs.len], fun j s e => ?_, fun j k s s' b e1 e2 h1 h2 => ?_⟩, ⟨fun b u e => ?_, fun b u e => ?_, fun b u e => r.rs.emb b u (rem_some e).1, fun b u e => r.fi.h0 b u (rem_some e).1, fun p hp' => ?_⟩, fun j s b e h => ?_, fun j s a2 dx2 e h h3 => ?_⟩
  · rcases get_set e with ⟨rfl, rfl, l⟩ | ⟨n, e⟩
    · exact ⟨a, dx, C, kvs, l1, ob⟩
    · exact (r.rs.sl j s e).sub sub hn (oth n e)
  · rcases get_set e1 with ⟨rfl, rfl, _⟩ | ⟨n1, y1⟩ <;> rcases get_set e2 with ⟨rfl, rfl, _⟩ | ⟨n2, y2⟩
    · rfl
    · rw [l1] at h1
      have z := (h2.have (r.rs.sl _ _ y2)).1
      rcases own b h1 with rfl | rfl
      · rw [o.ha] at z; cases z
      · rw [o.hd] at z; cases z
    · rw [l1] at h2
      have z := (h1.have (r.rs.sl _ _ y1)).1
      rcases own b h2 with rfl | rfl
      · rw [o.ha] at z; cases z
      · rw [o.hd] at z; cases z
    · exact r.rs.apart j k s s' b y1 y2 h1 h2
  · obtain ⟨e1, e2⟩ := rem_some e
    rw [rem_no e2]; exact r.fi.f0 b u e1
  · obtain ⟨e1, e2⟩ := rem_some e
    rcases r.fi.fn b u e1 with y | y
    · exact .inl ((rem_no e2).trans y)
    · exact .inr (rem_free y)
  · obtain ⟨y1, ob', u, y2, y3⟩ := r.fi.sS p hp'
    exact ⟨y1, ob', u, y2, sub _ _ y3 rfl⟩
  · rcases get_set e with ⟨rfl, rfl, _⟩ | ⟨n, e⟩
    · rw [l1] at h; exact rem_at (own b h)
    · exact rem_free (r.ow j s b e h)
  · rcases get_set e with ⟨rfl, rfl, _⟩ | ⟨n, e⟩
    · cases h3; exact ⟨l1, fun z => nomatch z⟩
    · cases h3
      exact ⟨(r.lk j s a dx e h hb).1, fun z => by rw [oth n e] at z; cases z⟩
section
variable {X : Cx} {W : WN} {f : Ga → R Fl} {sts : List Stmt}
theorem jss_open (i : Nat) (h : JSs X W f sts) : JSs X W (fOpen i f) sts := ⟨PSs.imp h.pss fun E σ H ⟨B, F, γ, r, o⟩ => by
  unfold fOpen at o
  split at o
  · rename_i c fs e
    split at o
    · rename_i hc
      rw [Bool.and_eq_true] at hc
      cases e2 : f (γ.set i (.ob true c fs)) with
      | ok fl =>
        rw [e2] at o
        have main : B.ob ≠ none → OutS X.K W B.sub (.ok fl) E → rdS X.K W f E σ H := fun hb q => by
          obtain ⟨p, hb⟩ := Option.ne_none_iff_exists'.mp hb
          obtain ⟨a, dx⟩ := p
          obtain ⟨_, _, _, r'⟩ := rb_open r e hc.1 hc.2 hb
          exact ⟨B.sub, _, _, r', by rw [e2]; exact q⟩
        cases fl with
        | nx γ' => exact main o.1 o.2
        | rt d => exact o.elim
        | bk γ => exact o.elim
        | ct γ => exact o.elim
        | rx x =>
          cases x with
          | ro c fs => exact o.elim
          | rm d γ' =>
            cases d with
            | none => exact main o.1 ⟨by rw [Bs.sub_ob]; exact o.1, by rw [Bs.sub_sub]; exact o.2⟩
            | some d => exact main o.1 ⟨by rw [Bs.sub_ob]; exact o.1, by rw [Bs.sub_sub]; exact o.2⟩
      | ex c => rw [e2] at o; exact o.elim
      | no => rw [e2] at o; exact o.elim
    · exact o.elim
  · exact o.elim⟩
end
end KN
set_option maxHeartbeats 1000000
/-! KnR2: defs that change an object -/
namespace KN
open PySem PySem.Spec PyProof.Rows L2
theorem app_get {as : List Sl} {k j : Nat} {s : Sl} (h : (as ++ List.replicate k Sl.un)[j]? = some s) : as[j]? = some s ∨ s = .un := start_get h
theorem not_obj {as : List Sl} {i k j : Nat} {s : Sl} {H : Hp} {x : Option (Option V)} {b : Addr} (ho : ∀ j s, as[j]? = some s → j ≠ i → ∃ d, s = .va d) (nj : j ≠ i) (h : (as ++ List.replicate k Sl.un)[j]? = some s) : ¬ Inn H s x b := by
  rcases app_get h with z | rfl
  · obtain ⟨d, rfl⟩ := ho j s z nj; exact id
  · exact id
section
variable {P : Program} {w : World} {K : PySem.W.Frag} {mg : Str → Option Value} {base : Heap}
/-- opened from the start -/
theorem fokO {x qual : Str} {st : Stmt} {f : Addr} {fd : FuncData} {N ps : List Str} {k n m i : Nat} {cl : Cl} {body : Ga → R Fl} (Fu : Fun K x qual st f fd) (S : FnScope N ps (defScope st)) (hn : N.length = n) (hm : ps.length = m)
    (hb : ∀ (cdv : Value) (A : Around) (outer : List Env) (s : Shared) (H : Hp) (E : XK), Room k (A.deeper (envOfC qual (defScope st) s.heap.objs.size f cdv)) → JSs (cxD P w K mg base N qual st f cdv A outer s H E) (wnD cl E) body (defBody st)) :
    FnOk P w K mg base (L2.CX P w) (k + 1) f fd ps (spM K cl m i (fnO n i body)) := by
  refine Fu.okX S (fun vs H Q E h => ?_) fun cdv A outer s H vs Q E hr h => ?_
  · obtain ⟨F, as, c, fs, a, h1, _⟩ := h
    rw [h1, hm]
  · refine ⟨_, (hb cdv A outer s H E hr).pss, ?_⟩
    obtain ⟨F, as, c, fs, a, h1, h2, h3, r, ho, o⟩ := h
    subst hn
    obtain ⟨a', dx, C, kvs, e, ob⟩ := r.sl i _ h2
    have hv : (vs.map some)[i]? = some (some (.ref a)) := by rw [List.getElem?_map, h3]; rfl
    rw [hv] at e; cases e
    have il : i < vs.length := (List.getElem?_eq_some_iff.mp h3).1
    have r1 := rs_un (N := N) r
    have hσ : (L2.start N vs)[i]? = some (some (.ref a)) := by rw [start_eq il]; exact hv
    have hg : (as ++ List.replicate (N.length - as.length) Sl.un)[i]? = some (.ob true c fs) := by
      rw [List.getElem?_append_left (List.getElem?_eq_some_iff.mp h2).1]; exact h2
    open Classical in
    let H0 : Hp := fun b => if OwnB H (.ob true c fs) a b then none else H b
    have H0_yes : ∀ b, OwnB H (.ob true c fs) a b → H0 b = none := fun b z => if_pos z
    have H0_no : ∀ b, ¬ OwnB H (.ob true c fs) a b → H0 b = H b := fun b z => if_neg z
    have H0_some : ∀ b u, H0 b = some u → H b = some u ∧ ¬ OwnB H (.ob true c fs) a b := fun b u z => by
      by_cases q : OwnB H (.ob true c fs) a b
      · rw [H0_yes b q] at z; cases z
      · rw [H0_no b q] at z; exact ⟨z, q⟩
    have fre : ∀ b, OwnB H (.ob true c fs) a b → F b = none := fun b z => (Inn.have (s := .ob true c fs) (x := some (some (.ref a))) z ⟨a, dx, C, kvs, rfl, ob⟩).1
    let B : Bs := ⟨F, H0, [], some (a, dx)⟩
    have rb : RB K B F (as ++ List.replicate (N.length - as.length) .un) (L2.start N vs) H := by
      refine ⟨r1, ⟨.refl _, fun b u e => .inl e, r.emb, fun b u e => .inl (H0_some b u e).1, fun p hp => nomatch hp⟩, fun j s b e h => ?_, fun j s a' dx' e g1 g2 => ?_⟩
      · by_cases nj : j = i
        · subst nj; rw [hg] at e; cases e; rw [hσ] at h; exact H0_yes b h
        · exact absurd h (not_obj ho nj e)
      · by_cases nj : j = i
        · subst nj; rw [hg] at e; cases e; cases g2; exact ⟨hσ, fun z => nomatch z⟩
        · rcases app_get e with z | rfl
          · obtain ⟨d, rfl⟩ := ho j s z nj; cases g1
          · cases g1
    refine ⟨B, F, _, rb, ?_⟩
    have post : ∀ {B' : Bs} {F' : Hp} {γ' : Ga} {σ' : L2.St} {H' : Hp}, (∀ b u, F b = some u → B'.F0 b = some u) → (∀ b u, B'.F0 b = some u → F b = some u) → (∀ b u, H b = some u → ¬ OwnB H (.ob true c fs) a b → B'.H0 b = some u) →
        (∀ b, B'.H0 b = none → OwnB H (.ob true c fs) a b ∨ H b = none) → B'.S = [] → B'.ob = some (a, dx) → RB K B' F' γ' σ' H' → ∀ {d : D} {s : Sl}, stOf i d γ' = .ok (d, s) → PostM F H (OwnB H (.ob true c fs) a) F' H' ∧ SlOk K F' H' s (some (some (.ref a))) ∧ (∀ b, OwnB H' s a b → OwnB H (.ob true c fs) a b ∨ H b = none) := by
      intro B' F' γ' σ' H' b1 b2 b3 b4 b5 b6 q d s hs
      obtain ⟨_, c', fs', rfl, hs2⟩ := stOf_ok hs
      have hl := (q.lk i _ a dx hs2 rfl b6).1
      refine ⟨⟨fun b u e => q.fi.f0 b u (b1 b u e), fun b u e => ?_, q.fi.emb, fun b u e z => ?_⟩, ?_, fun b z => ?_⟩
      · rcases q.fi.fn b u e with y | y
        · exact .inl (b2 b u y)
        · exact .inr ((b4 b y).symm)
      · rcases q.fi.h0 b u (b3 b u e z) with y | ⟨_, _, _, y⟩
        · exact y
        · rw [b5] at y; cases y
      · rw [← hl]; exact q.rs.sl i _ hs2
      · exact b4 b (q.ow i _ b hs2 (by rw [hl]; exact z))
    have own1 : ∀ b, H0 b = none → OwnB H (.ob true c fs) a b ∨ H b = none := fun b z => by
      by_cases q : OwnB H (.ob true c fs) a b
      · exact .inl q
      · rw [H0_no b q] at z; exact .inr z
    have ownA : ∀ b, b = a ∨ b = dx → OwnB H (.ob true c fs) a b := fun b z => ⟨a, dx, C, kvs, rfl, ob.ha, by rcases z with z | z; exact .inl z; exact .inr (.inl z)⟩
    have postS : ∀ {F' : Hp} {γ' : Ga} {σ' : L2.St} {H' : Hp}, RB K B.sub F' γ' σ' H' → ∀ {d : D} {s : Sl}, stOf i d γ' = .ok (d, s) → PostM F H (OwnB H (.ob true c fs) a) F' H' ∧ SlOk K F' H' s (some (some (.ref a))) ∧ (∀ b, OwnB H' s a b → OwnB H (.ob true c fs) a b ∨ H b = none) := fun q => by
      rw [Bs.sub_of (B := B) rfl] at q
      refine post (fun b u e => ?_) (fun b u e => (rem_some e).1) (fun b u e z => ?_) (fun b z => ?_) rfl rfl q
      · show rem F a dx b = some u
        rw [rem_no]
        · exact e
        · rintro (rfl | rfl)
          · rw [ob.fa] at e; cases e
          · rw [ob.fd] at e; cases e
      · show rem H0 a dx b = some u
        rw [rem_no fun y => z (ownA b y), H0_no b z]; exact e
      · rcases rem_none z with y | y
        · exact own1 b y
        · exact .inl (ownA b y)
    unfold fnO at o
    cases e : body (as ++ List.replicate (N.length - as.length) .un) with
    | ok fl =>
      rw [e] at o
      cases fl with
      | nx γ' =>
        intro F' σ' H' q
        simp only at o
        cases e2 : stOf i .non γ' with
        | ok p =>
          obtain ⟨d, s'⟩ := p
          obtain ⟨rfl, _⟩ := stOf_ok e2
          rw [e2] at o
          obtain ⟨p1, p2, p3⟩ := post (fun _ _ h => h) (fun _ _ h => h) (fun b u e z => (H0_no b z).trans e) own1 rfl rfl q e2
          exact o _ F' H' p1 p2 p3 .non
        | ex c => exact absurd e2 stOf_ex
        | no => rw [e2] at o; exact o.elim
      | rt d => exact o.elim
      | bk γ => exact o.elim
      | ct γ => exact o.elim
      | rx x =>
        cases x with
        | ro c fs => exact o.elim
        | rm d γ' =>
          cases d with
          | none =>
            refine ⟨nofun, fun F' σ' H' q => ?_⟩
            simp only at o
            cases e2 : stOf i .non γ' with
            | ok p =>
              obtain ⟨d, s'⟩ := p
              obtain ⟨rfl, _⟩ := stOf_ok e2
              rw [e2] at o
              obtain ⟨p1, p2, p3⟩ := postS q e2
              exact o _ F' H' p1 p2 p3 .non
            | ex c => exact absurd e2 stOf_ex
            | no => rw [e2] at o; exact o.elim
          | some d =>
            refine ⟨nofun, fun v F' σ' H' q pv => ?_⟩
            simp only at o
            cases e2 : stOf i d γ' with
            | ok p =>
              obtain ⟨d', s'⟩ := p
              obtain ⟨rfl, _⟩ := stOf_ok e2
              rw [e2] at o
              obtain ⟨p1, p2, p3⟩ := postS q e2
              exact o _ F' H' p1 p2 p3 pv
            | ex c => exact absurd e2 stOf_ex
            | no => rw [e2] at o; exact o.elim
    | ex c => rw [e] at o; exact o.elim
    | no => rw [e] at o; exact o.elim
/-- read first -/
theorem fokM {x qual : Str} {st : Stmt} {f : Addr} {fd : FuncData} {N ps : List Str} {k n m i : Nat} {cl : Cl} {body : Ga → R Fl} (Fu : Fun K x qual st f fd) (S : FnScope N ps (defScope st)) (hn : N.length = n) (hm : ps.length = m)
    (hb : ∀ (cdv : Value) (A : Around) (outer : List Env) (s : Shared) (H : Hp) (E : XK), Room k (A.deeper (envOfC qual (defScope st) s.heap.objs.size f cdv)) → JSs (cxD P w K mg base N qual st f cdv A outer s H E) (wnD cl E) body (defBody st)) :
    FnOk P w K mg base (L2.CX P w) (k + 1) f fd ps (spM K cl m i (fnM n i body)) := by
  refine Fu.okX S (fun vs H Q E h => ?_) fun cdv A outer s H vs Q E hr h => ?_
  · obtain ⟨F, as, c, fs, a, h1, _⟩ := h
    rw [h1, hm]
  · refine ⟨_, (hb cdv A outer s H E hr).pss, ?_⟩
    obtain ⟨F, as, c, fs, a, h1, h2, h3, r, ho, o⟩ := h
    subst hn
    obtain ⟨a', dx, C, kvs, e, ob⟩ := r.sl i _ h2
    have hv : (vs.map some)[i]? = some (some (.ref a)) := by rw [List.getElem?_map, h3]; rfl
    rw [hv] at e; cases e
    have il : i < vs.length := (List.getElem?_eq_some_iff.mp h3).1
    have ial : i < as.length := (List.getElem?_eq_some_iff.mp h2).1
    have r1 := rs_un (N := N) r
    have hσ : (L2.start N vs)[i]? = some (some (.ref a)) := by rw [start_eq il]; exact hv
    unfold fnM at o
    rw [h2] at o
    simp only at o
    split at o
    case isFalse => exact o.elim
    rename_i hp
    let F1 : Hp := upd (upd F dx (.own a)) a (.ins C dx kvs)
    have F1a : F1 a = some (.ins C dx kvs) := upd_same
    have F1d : F1 dx = some (.own a) := by show upd (upd F dx (.own a)) a (.ins C dx kvs) dx = _; rw [upd_ne ob.ne, upd_same]
    have F1no : ∀ b, ¬ (b = a ∨ b = dx) → F1 b = F b := fun b z => by
      show upd (upd F dx (.own a)) a (.ins C dx kvs) b = _
      rw [upd_ne fun y => z (.inl y), upd_ne fun y => z (.inr y)]
    have FF1 : Same F F1 := fun b u e => by
      rw [F1no]
      · exact e
      · rintro (rfl | rfl)
        · rw [ob.fa] at e; cases e
        · rw [ob.fd] at e; cases e
    have em1 : Emb F1 H := fun b u e => by
      by_cases z : b = a ∨ b = dx
      · rcases z with rfl | rfl
        · rw [F1a] at e; cases e; exact .inl ob.ha
        · rw [F1d] at e; cases e; exact .inl ob.hd
      · rw [F1no b z] at e; exact r.emb b u e
    have rfo : RfAt K F1 c fs a dx C kvs := ⟨ob.ne, F1a, F1d, ob.cl, ob.nm, ob.le, ob.ok.frz FF1 fun b z => absurd z (pure_own hp)⟩
    have gi : (as.set i (.rf c fs) ++ List.replicate (N.length - as.length) Sl.un)[i]? = some (.rf c fs) := by
      rw [List.getElem?_append_left (by simpa using ial), List.getElem?_set_self ial]
    have gj : ∀ {j s}, j ≠ i → (as.set i (.rf c fs) ++ List.replicate (N.length - as.length) Sl.un)[j]? = some s → (as ++ List.replicate (N.length - as.length) Sl.un)[j]? = some s := fun {j s} nj e => by
      by_cases l : j < as.length
      · rw [List.getElem?_append_left (by simpa using l), List.getElem?_set_ne (Ne.symm nj)] at e
        rw [List.getElem?_append_left l]; exact e
      · rw [List.getElem?_append_right (by simpa using l)] at e
        rw [List.getElem?_append_right (by simpa using l)]
        simpa using e
    have vj : ∀ {j s}, j ≠ i → (as ++ List.replicate (N.length - as.length) Sl.un)[j]? = some s → (∃ d, s = .va d) ∨ s = .un := fun {j s} nj e => by
      rcases app_get e with z | z
      · exact .inl (ho j s z nj)
      · exact .inr z
    let B : Bs := ⟨F1, H, [], some (a, dx)⟩
    have rb : RB K B F1 (as.set i (.rf c fs) ++ List.replicate (N.length - as.length) .un) (L2.start N vs) H := by
      have nin : ∀ {j s b} {x : Option (Option V)}, (as.set i (.rf c fs) ++ List.replicate (N.length - as.length) Sl.un)[j]? = some s → ¬ Inn H s x b := fun {j s b x} e => by
        by_cases nj : j = i
        · subst nj; rw [gi] at e; cases e; exact id
        · rcases vj nj (gj nj e) with ⟨d, rfl⟩ | rfl
          · exact id
          · exact id
      refine ⟨⟨em1, by have := r1.len; simpa using this, fun j s e => ?_, fun j k s s' b e1 e2 h1 => absurd h1 (nin e1)⟩, ⟨.refl _, fun b u e => .inl e, em1, fun b u e => .inl e, fun p hp => nomatch hp⟩, fun j s b e h => absurd h (nin e), fun j s a' dx' e g1 g2 => ?_⟩
      · by_cases nj : j = i
        · subst nj; rw [gi] at e; cases e; exact ⟨a, dx, C, kvs, hσ, rfo⟩
        · have e' := gj nj e
          rcases vj nj e' with ⟨d, rfl⟩ | rfl
          · exact (r1.sl j _ e').va FF1
          · trivial
      · by_cases nj : j = i
        · subst nj; rw [gi] at e; cases e; cases g2; exact ⟨hσ, fun _ => ⟨C, kvs, F1a⟩⟩
        · rcases vj nj (gj nj e) with ⟨d, rfl⟩ | rfl <;> cases g1
    refine ⟨B, F1, _, rb, ?_⟩
    have ow := fun {b : Addr} => ow_pure (b := b) (h := true) ob hp
    have slk : SlOk K F H (.ob true c fs) (some (some (.ref a))) := ⟨a, dx, C, kvs, rfl, ob⟩
    /- nothing was changed -/
    have same : ∀ {F' H' : Hp}, Fin B F' H' → Same F1 F' ∧ PostM F H (OwnB H (.ob true c fs) a) (rem F' a dx) H' ∧ SlOk K (rem F' a dx) H' (.ob true c fs) (some (some (.ref a))) ∧ (∀ b, OwnB H' (.ob true c fs) a b → OwnB H (.ob true c fs) a b ∨ H b = none) ∧ (∀ b o, F' b = some o → isDt o = true → rem F' a dx b = some o) ∧ Nxt F H (rem F' a dx) H' := fun {F' H'} q => by
      have hh : ∀ b u, H b = some u → H' b = some u := fun b u e => by
        rcases q.h0 b u e with y | ⟨_, _, _, y⟩
        · exact y
        · cases y
      have ff : Same F (rem F' a dx) := fun b u e => by
        rw [rem_no]
        · exact q.f0 b u (FF1 b u e)
        · rintro (rfl | rfl)
          · rw [ob.fa] at e; cases e
          · rw [ob.fd] at e; cases e
      have fn : ∀ b o, rem F' a dx b = some o → F b = some o ∨ H b = none := fun b o e => by
        obtain ⟨e1, e2⟩ := rem_some e
        rcases q.fn b o e1 with y | y
        · exact .inl ((F1no b e2).symm.trans y)
        · exact .inr y
      have em : Emb (rem F' a dx) H' := fun b u e => q.emb b u (rem_some e).1
      refine ⟨q.f0, ⟨ff, fun b o e => by rcases fn b o e with y | y; exact .inl y; exact .inr (.inl y), em, fun b u e _ => hh b u e⟩, slk.keep ff fun b u z1 z2 z3 => ⟨hh b u z3, rem_at (ow.mp z1)⟩, fun b z => .inl (Inn.back z slk fun b u _ e => hh b u e), rem_data (q.f0 _ _ F1a) (q.f0 _ _ F1d), ⟨ff, fn, em, hh⟩⟩
    have chg : ∀ {F' : Hp} {γ' : Ga} {σ' : L2.St} {H' : Hp}, RB K B.sub F' γ' σ' H' → ∀ {d : D} {s : Sl}, stOf i d γ' = .ok (d, s) → PostM F H (OwnB H (.ob true c fs) a) F' H' ∧ SlOk K F' H' s (some (some (.ref a))) ∧ (∀ b, OwnB H' s a b → OwnB H (.ob true c fs) a b ∨ H b = none) := by
      intro F' γ' σ' H' q d s hs
      obtain ⟨_, c', fs', rfl, hs2⟩ := stOf_ok hs
      rw [Bs.sub_of (B := B) rfl] at q
      have hl := (q.lk i _ a dx hs2 rfl rfl).1
      have remF : rem F1 a dx = F := by
        funext b
        by_cases z : b = a ∨ b = dx
        · rw [rem_at z]
          rcases z with rfl | rfl
          · exact ob.fa.symm
          · exact ob.fd.symm
        · rw [rem_no z, F1no b z]
      have f0 : Same F F' := fun b u e => q.fi.f0 b u (by show rem F1 a dx b = some u; rw [remF]; exact e)
      refine ⟨⟨f0, fun b u e => ?_, q.fi.emb, fun b u e z => ?_⟩, ?_, fun b z => ?_⟩
      · rcases q.fi.fn b u e with y | y
        · exact .inl (by have y : rem F1 a dx b = some u := y; rwa [remF] at y)
        · rcases rem_none y with y | y
          · exact .inr (.inl y)
          · exact .inr (.inr (ow.mpr y))
      · have e2 : rem H a dx b = some u := by rw [rem_no fun y => z (ow.mpr y)]; exact e
        rcases q.fi.h0 b u e2 with y | ⟨_, _, _, y⟩
        · exact y
        · cases y
      · rw [← hl]; exact q.rs.sl i _ hs2
      · rcases rem_none (q.ow i _ b hs2 (by rw [hl]; exact z)) with y | y
        · exact .inr y
        · exact .inl (ow.mpr y)
    cases e : body (as.set i (.rf c fs) ++ List.replicate (N.length - as.length) .un) with
    | ok fl =>
      rw [e] at o
      cases fl with
      | nx γ' =>
        intro F' σ' H' q
        obtain ⟨_, s2, s3, s4, _, _⟩ := same q.fi
        exact o _ _ H' s2 s3 s4 .non
      | rt d =>
        intro v F' H' q pv
        obtain ⟨_, s2, s3, s4, s5, _⟩ := same q
        exact o _ _ H' s2 s3 s4 (pv.sub s5)
      | bk γ => exact o.elim
      | ct γ => exact o.elim
      | rx x =>
        cases x with
        | ro c fs => exact o.elim
        | rm d γ' =>
          cases d with
          | none =>
            refine ⟨nofun, fun F' σ' H' q => ?_⟩
            simp only at o
            cases e2 : stOf i .non γ' with
            | ok p =>
              obtain ⟨d, s'⟩ := p
              obtain ⟨rfl, _⟩ := stOf_ok e2
              rw [e2] at o
              obtain ⟨p1, p2, p3⟩ := chg q e2
              exact o _ F' H' p1 p2 p3 .non
            | ex c => exact absurd e2 stOf_ex
            | no => rw [e2] at o; exact o.elim
          | some d =>
            refine ⟨nofun, fun v F' σ' H' q pv => ?_⟩
            simp only at o
            cases e2 : stOf i d γ' with
            | ok p =>
              obtain ⟨d', s'⟩ := p
              obtain ⟨rfl, _⟩ := stOf_ok e2
              rw [e2] at o
              obtain ⟨p1, p2, p3⟩ := chg q e2
              exact o _ F' H' p1 p2 p3 pv
            | ex c => exact absurd e2 stOf_ex
            | no => rw [e2] at o; exact o.elim
    | ex c =>
      rw [e] at o
      exact fun σ' F' H' q => o _ H' (same q).2.2.2.2.2
    | no => rw [e] at o; exact o.elim
end
end KN
set_option maxHeartbeats 1000000
/-! KnR3: calls that change an object; expressions with an effect -/
namespace KN
open PySem PySem.Spec PyProof.Rows L2
/-! ### arguments with an object among them -/
def insS : Nat → Sl → List D → List Sl
  | 0, s, ds => s :: ds.map .va
  | i + 1, s, d :: ds => .va d :: insS i s ds
  | _ + 1, _, [] => []
inductive ArgsM (K : PySem.W.Frag) (F : Hp) (a : Addr) : Nat → List D → List V → Prop
  | here {ds : List D} {vs : List V} : Reps K F ds vs → ArgsM K F a 0 ds (.ref a :: vs)
  | there {i : Nat} {d : D} {v : V} {ds : List D} {vs : List V} : Rep K F d v → ArgsM K F a i ds vs → ArgsM K F a (i + 1) (d :: ds) (v :: vs)
section
variable {K : PySem.W.Frag} {F F' : Hp} {a : Addr}
theorem ArgsM.mono (f : Same F F') : ∀ {i : Nat} {ds : List D} {vs : List V}, ArgsM K F a i ds vs → ArgsM K F' a i ds vs
  | _, _, _, .here p => .here (p.mono f)
  | _, _, _, .there p q => .there (p.mono f) (q.mono f)
theorem ArgsM.sub (h : ∀ b o, F b = some o → isDt o = true → F' b = some o) : ∀ {i : Nat} {ds : List D} {vs : List V}, ArgsM K F a i ds vs → ArgsM K F' a i ds vs
  | _, _, _, .here p => .here (p.sub h)
  | _, _, _, .there p q => .there (p.sub h) (q.sub h)
theorem ArgsM.len {i : Nat} {ds : List D} {vs : List V} (h : ArgsM K F a i ds vs) : vs.length = ds.length + 1 := by
  induction h with
  | here p => simp [p.length]
  | there _ _ ih => simp [ih]
theorem ArgsM.at {i : Nat} {ds : List D} {vs : List V} (h : ArgsM K F a i ds vs) (s : Sl) : vs[i]? = some (.ref a) ∧ (insS i s ds)[i]? = some s ∧ (insS i s ds).length = vs.length := by
  induction h with
  | here p => exact ⟨rfl, rfl, by simp [insS, p.length]⟩
  | there _ _ ih => exact ⟨ih.1, ih.2.1, by simp [insS, ih.2.2]⟩
theorem ArgsM.get {i : Nat} {ds : List D} {vs : List V} (h : ArgsM K F a i ds vs) (s : Sl) : ∀ {j : Nat} {t : Sl}, (insS i s ds)[j]? = some t → j ≠ i → ∃ d v, t = .va d ∧ vs[j]? = some v ∧ Rep K F d v := by
  induction h with
  | @here ds vs p =>
    intro j t e nj
    cases j with
    | zero => exact absurd rfl nj
    | succ j =>
      simp only [insS, List.getElem?_cons_succ, List.getElem?_map, Option.map_eq_some_iff] at e
      obtain ⟨d, e1, rfl⟩ := e
      obtain ⟨v, h1, h2⟩ := p.get e1
      exact ⟨d, v, rfl, by simpa using h1, h2⟩
  | @there i d v ds vs p q ih =>
    intro j t e nj
    cases j with
    | zero => simp only [insS, List.getElem?_cons_zero, Option.some.injEq] at e; exact ⟨d, v, e.symm, rfl, p⟩
    | succ j => exact ih (by simpa [insS] using e) (fun z => nj (by rw [z]))
theorem ArgsM.rs {H : Hp} {i : Nat} {ds : List D} {vs : List V} {c : Nat} {fs : List Fd} (h : ArgsM K F a i ds vs) (e : Emb F H) (k : SlOk K F H (.ob true c fs) (some (some (.ref a)))) : RS K F (insS i (.ob true c fs) ds) (vs.map some) H := by
  obtain ⟨h1, h2, h3⟩ := h.at (.ob true c fs)
  refine ⟨e, by simpa using h3, fun j s g => ?_, fun j j' s s' b g1 g2 i1 i2 => ?_⟩
  · by_cases nj : j = i
    · subst nj; rw [h2] at g; cases g; rw [List.getElem?_map, h1]; exact k
    · obtain ⟨d, v, rfl, q1, q2⟩ := h.get _ g nj
      rw [List.getElem?_map, q1]; exact ⟨v, rfl, q2⟩
  · have one : ∀ {j s}, (insS i (.ob true c fs) ds)[j]? = some s → Inn H s (vs.map some)[j]? b → j = i := fun {j s} g z => by
      by_cases nj : j = i
      · exact nj
      · obtain ⟨d, v, rfl, _⟩ := h.get _ g nj; exact z.elim
    rw [one g1 i1, one g2 i2]
/-- the call, seen from its caller -/
theorem spM_of {H : Hp} {i n : Nat} {ds : List D} {vs : List V} {c : Nat} {fs : List Fd} {cl : Cl} {g : List Sl → R (D × Sl)} {Q : VK} {E : XK} (h : ArgsM K F a i ds vs) (hn : ds.length + 1 = n) (e : Emb F H) (k : SlOk K F H (.ob true c fs) (some (some (.ref a))))
    (o : OutM K F H (.ob true c fs) a (fun c H' => E (cl c) none H') (g (insS i (.ob true c fs) ds)) Q) : spM K cl n i g vs H Q E := by
  obtain ⟨h1, h2, _⟩ := h.at (.ob true c fs)
  exact ⟨F, _, c, fs, a, by rw [h.len, hn], h2, h1, h.rs e k, fun j s g nj => let ⟨d, _, q, _⟩ := h.get _ g nj; ⟨d, q⟩, o⟩
end
/-! ### the arguments' expressions -/
/-! ### expressions with an effect on objects -/
def OutE (K : PySem.W.Frag) (B : Bs) (F : Hp) (σ : L2.St) (r : R (D × Ga)) (Q : VK) : Prop := match r with
  | .ok (d, γ') => ∀ v F' H', RB K B F' γ' σ H' → Same F F' → Rep K F' d v → Q v H'
  | _ => False
def rdEf (K : PySem.W.Frag) (f : Ga → R (D × Ga)) : TE := fun σ H Q => ∃ B F γ, RB K B F γ σ H ∧ OutE K B F σ (f γ) Q
structure JE (X : Cx) (f : Ga → R (D × Ga)) (e : Expr) : Prop where
  pe : PE X e (rdEf X.K f)
/-- a call's end: the object of slot j -/
def setOb (j : Nat) (h : Bool) (γ : Ga) : D × Sl → R (D × Ga)
  | (d, .ob _ c fs) => .ok (d, γ.set j (.ob h c fs))
  | _ => .no
def eCall (g : List Sl → R (D × Sl)) (cn j i : Nat) (fs : Ga → R (List D)) : Ga → R (D × Ga) := fun γ => match γ[j]? with
  | some (.ob h c fls) => if c = cn then (fs γ).bind fun ds => (g (insS i (.ob true c fls) ds)).bind (setOb j h γ) else .no
  | _ => .no
theorem callE_of {K : PySem.W.Frag} {W : WN} {cl : Cl} {B : Bs} {F H : Hp} {γ : Ga} {σ : L2.St} {j i n : Nat} {h : Bool} {c : Nat} {fls : List Fd} {a : Addr} {ds : List D} {vs : List V} {g : List Sl → R (D × Sl)} {Q : VK} {Z : R (D × Ga)} {F0 : Hp} (f0 : Same F0 F) (r : RB K B F γ σ H) (hj : γ[j]? = some (.ob h c fls)) (ha : σ[j]? = some (some (.ref a)))
    (q : ArgsM K F a i ds vs) (hn : ds.length + 1 = n) (o : OutE K B F0 σ ((g (insS i (.ob true c fls) ds)).bind (setOb j h γ)) Q) : spM K cl n i g vs H Q (WE (VW cl W) σ) := by
  have k := r.rs.sl j _ hj
  rw [ha] at k
  refine spM_of q hn r.rs.emb k ?_
  cases e : g (insS i (.ob true c fls) ds) with
  | ok p =>
    obtain ⟨d, s'⟩ := p
    rw [e] at o
    intro v F' H' p1 p2 p3 pv
    cases s' <;> first | exact o.elim | skip
    rename_i h' c' fs'
    have r' : RB K B F' (γ.set j (.ob h c' fs')) σ H' := r.mut hj ha p1 p2 p3 fun z => ⟨z, rfl⟩
    exact o v F' H' r' (f0.trans p1.f) pv
  | ex c => rw [e] at o; exact o.elim
  | no => rw [e] at o; exact o.elim
section
variable {X : Cx} {W : WN} {cl : Cl} {fs : Ga → R (List D)} {k n : Nat} {f C : Addr} {fd : FuncData} {ps : List Str} {g : List Sl → R (D × Sl)} {x m : Str} {e : Expr} {es : List Expr} {p pos apos : Pos}
/-- o.m(..) -/
theorem je_meth (cn j : Nat) (hO : ObC X.K cn C) (hc : Cls X.K C) (hM : Meth X.K C m f) (F : FnOk X.prog X.w X.K X.mg X.base (L2.CX X.prog X.w) k f fd ps (spM X.K cl n 0 g)) (hr : Room k X.A) (hb : Binds X.K fd ps []) (tk : Takes X (VW cl W))
    (ha : JA X W fs (e :: es)) (hn : ∀ γ ds, fs γ = .ok ds → ds.length + 1 = n) (hml : (fNm cn).contains m = false := by decide +kernel)
    (hN : X.N[j]? = some x := by rfl) (hv : Vis X.env.scope x := by first | exact Or.inl rfl | exact Or.inr (Or.inl rfl) | exact Or.inr (Or.inr rfl)) (hd : (x == ("__debug__" : Str)) = false := by decide) (hcd : (x == ("__classdict__" : Str)) = false := by decide)
    (hst : starEach (e :: es) X.env = (false, eval e X.env) :: starEach es X.env := by rfl) (hpl : (backTo pos (starEach es X.env)).any (·.1) = false := by rfl) {pl : Sem Bool}
    (ht : eval (.Call (.Attribute (.Name x p) m apos) (e :: es) [] pos) X.env = (do
      let ov ← eval (.Name x p) X.env
      standAt apos.atName
      let (f, first) ← holding [ov] (getMethod ov m pl)
      callWith pos f first (backTo pos (starEach (e :: es) X.env)) (backToKw pos (keywordEach [] X.env))) := by rfl) :
    JE X (eCall g cn j 0 fs) (.Call (.Attribute (.Name x p) m apos) (e :: es) [] pos) :=
  ⟨PE.imp (pe_methX (pl := pl) (pe_var hN hv hd hcd) hc hM F hr hb (fun σ => passAt tk σ) ha.pa hst hpl ht) fun σ H Q ⟨B, F, γ, r, o⟩ => by
    unfold eCall at o
    split at o
    case h_2 => exact o.elim
    rename_i h c fls hj
    split at o
    case isFalse => exact o.elim
    rename_i hcn
    subst hcn
    obtain ⟨a, dx, kvs, e1, e2, e3⟩ := ob_ins (s := .ob h c fls) r.rs hO (by unfold obAt; rw [hj]; simp) hml
    refine ⟨_, e1, a, dx, kvs, rfl, e2, e3, F, γ, r.rs, ?_⟩
    cases e4 : fs γ with
    | ok ds =>
      simp only [e4, R.bind] at o
      exact fun vs F' H' n1 q => callE_of (Z := .no) n1.f (r.next n1) hj e1 (.here q) (hn γ ds e4) o
    | ex c => simp only [e4, R.bind] at o; exact o.elim
    | no => simp only [e4, R.bind] at o; exact o.elim⟩
theorem je_meth0 (cn j : Nat) (hO : ObC X.K cn C) (hc : Cls X.K C) (hM : Meth X.K C m f) (F : FnOk X.prog X.w X.K X.mg X.base (L2.CX X.prog X.w) k f fd ps (spM X.K cl 1 0 g)) (hr : Room k X.A) (hb : Binds X.K fd ps []) (tk : Takes X (VW cl W))
    (hml : (fNm cn).contains m = false := by decide +kernel)
    (hN : X.N[j]? = some x := by rfl) (hv : Vis X.env.scope x := by first | exact Or.inl rfl | exact Or.inr (Or.inl rfl) | exact Or.inr (Or.inr rfl)) (hd : (x == ("__debug__" : Str)) = false := by decide) (hcd : (x == ("__classdict__" : Str)) = false := by decide) {pl : Sem Bool}
    (ht : eval (.Call (.Attribute (.Name x p) m apos) [] [] pos) X.env = (do
      let ov ← eval (.Name x p) X.env
      standAt apos.atName
      let (f, first) ← holding [ov] (getMethod ov m pl)
      callWith pos f first (backTo pos (starEach [] X.env)) (backToKw pos (keywordEach [] X.env))) := by rfl) :
    JE X (eCall g cn j 0 bNil) (.Call (.Attribute (.Name x p) m apos) [] [] pos) :=
  ⟨PE.imp (pe_methX0 (pl := pl) (pe_var hN hv hd hcd) hc hM F hr hb (fun σ => passAt tk σ) ht) fun σ H Q ⟨B, F, γ, r, o⟩ => by
    unfold eCall at o
    split at o
    case h_2 => exact o.elim
    rename_i h c fls hj
    split at o
    case isFalse => exact o.elim
    rename_i hcn
    subst hcn
    obtain ⟨a, dx, kvs, e1, e2, e3⟩ := ob_ins (s := .ob h c fls) r.rs hO (by unfold obAt; rw [hj]; simp) hml
    refine ⟨_, e1, a, dx, kvs, rfl, e2, e3, ?_⟩
    exact callE_of (Z := .no) (.refl _) r hj e1 (.here .nil) rfl o⟩
end
end KN
set_option maxHeartbeats 1000000
/-! KnR4: effects in comparisons, tests and statements; fields that are set; new objects -/
namespace KN
open PySem PySem.Spec PyProof.Rows L2
/-! ### comparisons, tests -/
def OutET (K : PySem.W.Frag) (B : Bs) (σ : L2.St) (r : R (Bool × Ga)) (Q : Bool → Hp → Prop) : Prop := match r with
  | .ok (b, γ') => ∀ F' H', RB K B F' γ' σ H' → Q b H'
  | _ => False
def rdTE (K : PySem.W.Frag) (f : Ga → R (Bool × Ga)) : TT := fun σ H Q => ∃ B F γ, RB K B F γ σ H ∧ OutET K B σ (f γ) Q
structure JTE (X : Cx) (f : Ga → R (Bool × Ga)) (e : Expr) : Prop where
  pt : PT X e (rdTE X.K f)
structure JWE (X : Cx) (f : Ga → R (Bool × Ga)) (e : Expr) : Prop where
  pw : PW X e (rdTE X.K f)
section
variable {X : Cx} {W : WN} {fa fb f : Ga → R (D × Ga)} {p q : Ga → R (Bool × Ga)} {a b e : Expr} {rest : List Expr} {pos : Pos}
theorem JWE.t (h : JWE X p e) : JTE X p e := ⟨h.pw.pt⟩
end
/-! ### statements -/
def fExprE (f : Ga → R (D × Ga)) : Ga → R Fl := fun γ => (f γ).bind fun x => .ok (.nx x.2)
def fBdE (bd : D → Ga → R Ga) (f : Ga → R (D × Ga)) : Ga → R Fl := fun γ => (f γ).bind fun x => (bd x.1 x.2).bind fun γ' => .ok (.nx γ')
section
variable {X : Cx} {W : WN} {f : Ga → R (D × Ga)} {p : Ga → R (Bool × Ga)} {ft fe : Ga → R Fl} {e : Expr} {pos pos' apos cpos p1 : Pos}
theorem exE_of {K : PySem.W.Frag} {W : WN} {B : Bs} {F H : Hp} {γ : Ga} {σ : L2.St} {f : Ga → R (D × Ga)} {E : Ends} {k : D × Ga → R Fl} {Q : VK} (r : RB K B F γ σ H) (ne : ∀ c, f γ ≠ .ex c) (o : OutS K W B ((f γ).bind k) E)
    (h : ∀ d γ' v F' H', RB K B F' γ' σ H' → Same F F' → Rep K F' d v → OutS K W B (k (d, γ')) E → Q v H') : rdEf K f σ H Q := by
  refine ⟨B, F, γ, r, ?_⟩
  cases e1 : f γ with
  | ok x => rw [e1] at o; exact fun v F' H' r' s p => h x.1 x.2 v F' H' r' s p o
  | ex c => exact absurd e1 (ne c)
  | no => rw [e1] at o; exact o
/-- what is raised by an effect is nothing that is told -/
def nx {α : Type} (f : Ga → R α) : Ga → R α := fun γ => (f γ).noex
theorem nx_ne {α : Type} {f : Ga → R α} {γ : Ga} {c : Nat} : nx f γ ≠ .ex c := by
  unfold nx; cases f γ <;> exact fun h => nomatch h
theorem JE.nx (h : JE X f e) : JE X (nx f) e := ⟨PE.imp h.pe fun σ H Q ⟨B, F, γ, r, o⟩ => ⟨B, F, γ, r, by
  unfold KN.nx at o
  cases e1 : f γ with
  | ok x => rw [e1] at o; exact o
  | ex c => rw [e1] at o; exact o.elim
  | no => rw [e1] at o; exact o⟩⟩
theorem js_exprE (he : JE X f e) (hs : swapsWith e none pos.line X.env = pure false := by rfl) : JS X W (fExprE (nx f)) (.Expr e pos) := ⟨PS.imp (ps_expr he.nx.pe hs) fun E σ H ⟨B, F, γ, r, o⟩ =>
  exE_of r (fun _ => nx_ne) o fun d γ' v F' H' r' _ p o' => o' F' _ H' r'⟩
theorem js_unpE {is : List Nat} {t : TG} {tg : Expr} (he : JE X f e) (hg : JG X is (bdT is) t tg) (hs : swapsWithSole [tg] e pos.line X.env = pure false := by rfl) (hw : swappedStores [tg] e X.env = pure none := by rfl)
    (h1 : (assignEach [tg] X.env).map (·.2) = [assign tg X.env] := by rfl) : JS X W (fBdE (bdT is) (nx f)) (.Assign [tg] e pos) := ⟨PS.imp (ps_asg he.nx.pe hg.pg hs hw h1) fun E σ H ⟨B, F, γ, r, o⟩ => by
  refine exE_of r (fun _ => nx_ne) o fun d γ1 v F1 H1 r1 _ p1 o1 => ?_
  cases e1 : bdT is d γ1 with
  | ok γ' => simp only [e1, R.bind] at o1; exact hg.go r1.rs p1 e1 fun σ' r' k => o1 F1 σ' H1 (r1.kp r' k)
  | ex c => cases d <;> first | (cases e1; done) | exact absurd e1 (bd_ne _ _ _ _)
  | no => simp only [e1, R.bind] at o1; exact o1.elim⟩
end
end KN
set_option maxHeartbeats 1000000
/-! KnR5: fields that are set, lists of an object, new objects -/
namespace KN
open PySem PySem.Spec PyProof.Rows L2
/-! ### a dict of fields -/
theorem putF_set {f : Str} {v : V} : ∀ {kvs : List (Str × V)} {k : Nat}, (kvs.map (·.1)).Nodup → (kvs.map (·.1))[k]? = some f → (putF f v kvs).map (·.1) = kvs.map (·.1) ∧ (putF f v kvs).map (·.2) = (kvs.map (·.2)).set k v
  | [], _, _, h => by simp at h
  | (g, x) :: kvs, 0, _, h => by
    simp at h
    subst h
    rw [show putF g v ((g, x) :: kvs) = (if g = g then (g, v) :: kvs else (g, x) :: putF g v kvs) from rfl, if_pos rfl]
    exact ⟨rfl, rfl⟩
  | (g, x) :: kvs, k + 1, nd, h => by
    rw [List.map_cons, List.nodup_cons] at nd
    have h : (kvs.map (·.1))[k]? = some f := by simpa using h
    have ne : ¬ g = f := fun e => nd.1 (by subst e; exact List.mem_of_getElem? h)
    obtain ⟨h1, h2⟩ := putF_set (v := v) nd.2 h
    rw [show putF f v ((g, x) :: kvs) = (if g = f then (g, v) :: kvs else (g, x) :: putF f v kvs) from rfl, if_neg ne]
    exact ⟨by simp only [List.map_cons, h1], by simp only [List.map_cons, List.set_cons_succ, h2]⟩
theorem putF_new {f : Str} {v : V} : ∀ {kvs : List (Str × V)}, f ∉ kvs.map (·.1) → putF f v kvs = kvs ++ [(f, v)]
  | [], _ => rfl
  | (g, x) :: kvs, h => by
    have ne : ¬ g = f := fun e => h (by subst e; simp)
    rw [show putF f v ((g, x) :: kvs) = (if g = f then (g, v) :: kvs else (g, x) :: putF f v kvs) from rfl, if_neg ne, putF_new fun z => h (by simp at z ⊢; exact .inr z)]
    rfl
def putFd (k : Nat) (x : Fd) (fs : List Fd) : List Fd := if k < fs.length then fs.set k x else fs ++ [x]
section
variable {K : PySem.W.Frag} {F F' H H' : Hp} {a : Addr}
theorem fds_set {d : D} {v : V} (p : Rep K F d v) : ∀ {fs : List Fd} {vs : List V} {k : Nat}, k < fs.length → pureFs (fs.take k) = true → FdsOk K F H a fs vs → FdsOk K F H a (fs.set k (false, d)) (vs.set k v)
  | [], _, _, h, _, _ => by simp at h
  | (false, _) :: fs, u :: vs, 0, _, _, o => ⟨p, o.2⟩
  | (true, _) :: fs, u :: vs, 0, _, _, o => ⟨p, o.2⟩
  | (false, d0) :: fs, u :: vs, k + 1, h, hp, o => ⟨o.1, fds_set p (by simpa using h) (by unfold pureFs at hp ⊢; simpa using hp) o.2⟩
  | (true, d0) :: fs, u :: vs, k + 1, h, hp, o => by unfold pureFs at hp; simp at hp
  | (false, _) :: _, [], _, _, _, h => h.elim
  | (true, _) :: _, [], _, _, _, h => h.elim
theorem fds_app {d : D} {v : V} (p : Rep K F d v) : ∀ {fs : List Fd} {vs : List V}, pureFs fs = true → FdsOk K F H a fs vs → FdsOk K F H a (fs ++ [(false, d)]) (vs ++ [v])
  | [], [], _, _ => ⟨p, trivial⟩
  | (false, d0) :: fs, u :: vs, hp, o => ⟨o.1, fds_app p (by unfold pureFs at hp ⊢; simpa using hp) o.2⟩
  | (true, d0) :: fs, u :: vs, hp, o => by unfold pureFs at hp; simp at hp
  | [], _ :: _, _, h => h.elim
  | (false, _) :: _, [], _, h => h.elim
theorem fds_appO {d : D} {b : Addr} (nb : b ≠ a) (fb : F b = none) (ob : Own K F H d b) : ∀ {fs : List Fd} {vs : List V}, FdsOk K F H a fs vs → (∀ b0, OwF fs vs b0 → b0 ≠ b) → FdsOk K F H a (fs ++ [(true, d)]) (vs ++ [.ref b])
  | [], [], _, _ => ⟨⟨b, rfl, nb, fb, ob, by simp⟩, trivial⟩
  | (false, d0) :: fs, u :: vs, o, h => ⟨o.1, fds_appO nb fb ob o.2 h⟩
  | (true, d0) :: fs, u :: vs, o, h => by
    obtain ⟨b0, e1, e2, e3, e4, e5⟩ := o.1
    refine ⟨⟨b0, e1, e2, e3, e4, fun z => ?_⟩, fds_appO nb fb ob o.2 fun b0 z => h b0 (.inr z)⟩
    rcases List.mem_append.mp z with z | z
    · exact e5 z
    · exact h b0 (.inl e1) (V.ref.inj (List.mem_singleton.mp z))
  | [], _ :: _, h, _ => h.elim
  | (false, _) :: _, [], h, _ => h.elim
  | (true, _) :: _, [], h, _ => h.elim
theorem owf_mem {b : Addr} : ∀ {fs : List Fd} {vs : List V}, OwF fs vs b → V.ref b ∈ vs
  | [], [], h => h.elim
  | (false, _) :: fs, u :: vs, h => List.mem_cons_of_mem _ (owf_mem (fs := fs) h)
  | (true, _) :: fs, u :: vs, h => by
    rcases h with h | h
    · subst h; exact List.mem_cons_self
    · exact List.mem_cons_of_mem _ (owf_mem h)
  | [], _ :: _, h => h.elim
  | (false, _) :: _, [], h => h.elim
  | (true, _) :: _, [], h => h.elim
theorem owf_set {d : D} {v : V} {b : Addr} : ∀ {fs : List Fd} {vs : List V} {k : Nat}, OwF (fs.set k (false, d)) (vs.set k v) b → OwF fs vs b
  | [], [], _, h => h.elim
  | (false, _) :: fs, u :: vs, 0, h => h
  | (true, _) :: fs, u :: vs, 0, h => .inr h
  | (false, _) :: fs, u :: vs, k + 1, h => owf_set (fs := fs) (k := k) h
  | (true, _) :: fs, u :: vs, k + 1, h => h.imp id fun z => owf_set (k := k) z
  | [], _ :: _, 0, h => h.elim
  | [], _ :: _, _ + 1, h => h.elim
  | (false, _) :: _, [], 0, h => h.elim
  | (true, _) :: _, [], 0, h => h.elim
  | (false, _) :: _, [], _ + 1, h => h.elim
  | (true, _) :: _, [], _ + 1, h => h.elim
theorem owf_app {d : D} {v : V} {b : Addr} : ∀ {fs : List Fd} {vs : List V}, fs.length = vs.length → OwF (fs ++ [(false, d)]) (vs ++ [v]) b → OwF fs vs b
  | [], [], _, h => h.elim
  | (false, _) :: fs, u :: vs, e, h => owf_app (fs := fs) (by simpa using e) h
  | (true, _) :: fs, u :: vs, e, h => h.imp id fun z => owf_app (by simpa using e) z
  | [], _ :: _, e, _ => by simp at e
  | (false, _) :: _, [], e, _ => by simp at e
  | (true, _) :: _, [], e, _ => by simp at e
theorem owf_appO {d : D} {b' b : Addr} : ∀ {fs : List Fd} {vs : List V}, fs.length = vs.length → OwF (fs ++ [(true, d)]) (vs ++ [.ref b']) b → OwF fs vs b ∨ b = b'
  | [], [], _, h => by
    rcases h with h | h
    · cases h; exact .inr rfl
    · exact h.elim
  | (false, _) :: fs, u :: vs, e, h => owf_appO (fs := fs) (by simpa using e) h
  | (true, _) :: fs, u :: vs, e, h => by
    rcases h with h | h
    · exact .inl (.inl h)
    · exact (owf_appO (by simpa using e) h).imp .inr id
  | [], _ :: _, e, _ => by simp at e
  | (false, _) :: _, [], e, _ => by simp at e
  | (true, _) :: _, [], e, _ => by simp at e
/-- a list of the object -/
theorem fds_upd {d : D} : ∀ {fs : List Fd} {vs : List V} {k : Nat}, FdsOk K F H a fs vs → fs[k]? = some (true, d) → ∃ b, vs[k]? = some (.ref b) ∧ OwF fs vs b ∧ Own K F H d b ∧ ∀ d' o, Own K F (upd H b o) d' b → FdsOk K F (upd H b o) a (fs.set k (true, d')) vs
  | [], _, _, _, e => by simp at e
  | (true, _) :: fs, u :: vs, 0, h, e => by
    cases e
    obtain ⟨b, e1, e2, e3, e4, e5⟩ := h.1
    subst e1
    refine ⟨b, rfl, .inl rfl, e4, fun d' o w => ⟨⟨b, rfl, e2, e3, w, e5⟩, h.2.next (.refl _) fun b0 u z1 z2 z3 => ⟨?_, z2⟩⟩⟩
    rw [upd_ne]
    · exact z3
    · rintro rfl; exact e5 (owf_mem z1)
  | (false, _) :: fs, u :: vs, 0, h, e => by cases e
  | (false, d0) :: fs, u :: vs, k + 1, h, e => by
    obtain ⟨b, h1, h2, h3, h4⟩ := fds_upd (k := k) h.2 (by simpa using e)
    exact ⟨b, by simpa using h1, h2, h3, fun d' o w => ⟨h.1, h4 d' o w⟩⟩
  | (true, d0) :: fs, u :: vs, k + 1, h, e => by
    obtain ⟨b, h1, h2, h3, h4⟩ := fds_upd (k := k) h.2 (by simpa using e)
    obtain ⟨b0, e1, e2, e3, e4, e5⟩ := h.1
    refine ⟨b, by simpa using h1, .inr h2, h3, fun d' o w => ⟨⟨b0, e1, e2, e3, e4.next (.refl _) fun u z => ?_, e5⟩, h4 d' o w⟩⟩
    rw [upd_ne]
    · exact z
    · rintro rfl; exact e5 (List.mem_of_getElem? h1)
  | (false, _) :: _, [], _, h, _ => h.elim
  | (true, _) :: _, [], _, h, _ => h.elim
theorem owf_tr {d d' : D} {b : Addr} : ∀ {fs : List Fd} {vs : List V} {k : Nat}, fs[k]? = some (true, d) → OwF (fs.set k (true, d')) vs b → OwF fs vs b
  | [], _, _, e, _ => by simp at e
  | (true, _) :: fs, u :: vs, 0, e, h => h
  | (false, _) :: fs, u :: vs, 0, e, h => by cases e
  | (false, _) :: fs, u :: vs, k + 1, e, h => owf_tr (fs := fs) (k := k) (by simpa using e) h
  | (true, _) :: fs, u :: vs, k + 1, e, h => h.imp id fun z => owf_tr (k := k) (by simpa using e) z
  | (false, _) :: _, [], 0, _, h => h.elim
  | (true, _) :: _, [], 0, _, h => h.elim
  | (false, _) :: _, [], _ + 1, _, h => h.elim
  | (true, _) :: _, [], _ + 1, _, h => h.elim
/-- an object's dict is changed -/
theorem rb_fld {B : Bs} {γ : Ga} {σ : L2.St} {i c : Nat} {h : Bool} {fs fs' : List Fd} {dx C : Addr} {kvs kvs' : List (Str × V)} (r : RB K B F γ σ H) (n : Nxt F H F' H') (hi : γ[i]? = some (.ob h c fs)) (ha : σ[i]? = some (some (.ref a))) (ob : ObAt K F H c fs a dx C kvs)
    (nm' : kvs'.map (·.1) = (fNm c).take fs'.length) (le' : fs'.length ≤ (fNm c).length) (ok' : FdsOk K F' H' a fs' (kvs'.map (·.2))) (own : ∀ b, OwF fs' (kvs'.map (·.2)) b → OwF fs (kvs.map (·.2)) b ∨ H b = none) :
    RB K B F' (γ.set i (.ob h c fs')) σ (upd H' a (.ins C dx kvs')) := by
  have fa' := n.unf ob.fa ob.ha
  have ia : Inn H (.ob h c fs) σ[i]? a := by rw [ha]; exact ⟨a, dx, C, kvs, rfl, ob.ha, .inl rfl⟩
  refine r.chg hi (s1 := .ob h c fs') ?_ ((r.fi.next n).chg fa' (r.ow i _ a hi ia)) n.f (fun b u z1 z2 z3 => ⟨?_, n.unf z2 z1⟩) (fun b z => ?_) fun z => ⟨z, rfl⟩
  · rw [ha]
    refine ⟨a, dx, C, kvs', rfl, fa', n.unf ob.fd ob.hd, ob.ne, upd_same, ?_, ob.cl, nm', le', ok'.next (.refl _) fun b u z1 z2 z3 => ⟨?_, z2⟩⟩
    · rw [upd_ne ob.ne]; exact n.h _ _ ob.hd
    · rw [upd_ne (ok'.own z1).1]; exact z3
  · rw [upd_ne]
    · exact n.h _ _ z1
    · rintro rfl; exact z3 ia
  · rw [ha] at z ⊢
    obtain ⟨a', dx', C', kvs2, e, h1, k⟩ := z
    cases e
    rw [upd_same] at h1; cases h1
    rcases k with rfl | rfl | k
    · exact .inl ⟨b, dx, C, kvs, rfl, ob.ha, .inl rfl⟩
    · exact .inl ⟨a, b, C, kvs, rfl, ob.ha, .inr (.inl rfl)⟩
    · rcases own b k with q | q
      · exact .inl ⟨a, dx, C, kvs, rfl, ob.ha, .inr (.inr q)⟩
      · exact .inr q
/-- a list of an object's is changed -/
theorem rb_lst {B : Bs} {γ : Ga} {σ : L2.St} {i c k : Nat} {h : Bool} {fs : List Fd} {dx C : Addr} {kvs : List (Str × V)} {xs : List D} (r : RB K B F γ σ H) (hi : γ[i]? = some (.ob h c fs)) (ha : σ[i]? = some (some (.ref a))) (ob : ObAt K F H c fs a dx C kvs)
    (hk : fs[k]? = some (true, .lst xs)) : ∃ b vs, (kvs.map (·.2))[k]? = some (.ref b) ∧ H b = some (.lst vs) ∧ Reps K F xs vs ∧ ∀ xs' vs', Reps K F xs' vs' → RB K B F (γ.set i (.ob h c (fs.set k (true, .lst xs')))) σ (upd H b (.lst vs')) := by
  obtain ⟨b, h1, h2, h3, h4⟩ := fds_upd ob.ok hk
  obtain ⟨vs, h5, h6⟩ := h3
  obtain ⟨nba, fb, _⟩ := ob.ok.own h2
  have nbd : b ≠ dx := ob.dne h2
  refine ⟨b, vs, h1, h5, h6, fun xs' vs' rp => ?_⟩
  have ib : Inn H (.ob h c fs) σ[i]? b := by rw [ha]; exact ⟨a, dx, C, kvs, rfl, ob.ha, .inr (.inr h2)⟩
  refine r.chg hi (s1 := .ob h c (fs.set k (true, .lst xs'))) ?_ (r.fi.chg fb (r.ow i _ b hi ib)) (.refl _) (fun b0 u z1 z2 z3 => ⟨?_, z2⟩) (fun b0 z => .inl ?_) fun z => ⟨z, rfl⟩
  · rw [ha]
    refine ⟨a, dx, C, kvs, rfl, ob.fa, ob.fd, ob.ne, ?_, ?_, ob.cl, by rw [List.length_set]; exact ob.nm, by rw [List.length_set]; exact ob.le, h4 _ _ ⟨vs', upd_same, rp⟩⟩
    · rw [upd_ne (Ne.symm nba)]; exact ob.ha
    · rw [upd_ne (Ne.symm nbd)]; exact ob.hd
  · rw [upd_ne]
    · exact z1
    · rintro rfl; exact z3 ib
  · rw [ha] at z ⊢
    obtain ⟨a', dx', C', kvs2, e, h7, k⟩ := z
    cases e
    rw [upd_ne (Ne.symm nba), ob.ha] at h7; cases h7
    refine ⟨a, dx, C, kvs, rfl, ob.ha, ?_⟩
    rcases k with k | k | k
    · exact .inl k
    · exact .inr (.inl k)
    · exact .inr (.inr (owf_tr hk k))
end
/-! ### o.f = e -/
def fldOk (c k : Nat) (fs : List Fd) : Bool := decide (k ≤ fs.length) && decide (k < (fNm c).length) && pureFs (fs.take k)
def fFld (cn i k : Nat) (fe : Ga → R D) : Ga → R Fl := fun γ => (fe γ).bind fun d => match γ[i]? with
  | some (.ob h c fs) => if c = cn then (if fldOk c k fs = true then .ok (.nx (γ.set i (.ob h c (putFd k (false, d) fs)))) else .no) else .no
  | _ => .no
/-- a new list, the object's own -/
def fFldO (cn i k : Nat) (fe : Ga → R D) : Ga → R Fl := fun γ => (fe γ).bind fun d => match γ[i]? with
  | some (.ob h c fs) => if c = cn then (if k = fs.length ∧ k < (fNm c).length then .ok (.nx (γ.set i (.ob h c (fs ++ [(true, d)])))) else .no) else .no
  | _ => .no
theorem names_take {c n k : Nat} {f : Str} {kvs : List (Str × V)} (nm : kvs.map (·.1) = (fNm c).take n) (hf : (fNm c)[k]? = some f) : (kvs.map (·.1)).Nodup ∧ (k < n → (kvs.map (·.1))[k]? = some f) ∧ (n ≤ k → f ∉ kvs.map (·.1)) := by
  have nd := fNm_nd c
  refine ⟨by rw [nm]; exact nd.sublist (List.take_sublist _ _), fun h => by rw [nm]; exact take_at hf h, fun h z => ?_⟩
  rw [nm, List.mem_take_iff_getElem] at z
  obtain ⟨j, hj, e⟩ := z
  obtain ⟨kl, ek⟩ := List.getElem?_eq_some_iff.mp hf
  have jl : j < (fNm c).length := by omega
  exact List.pairwise_iff_getElem.mp nd j k jl kl (by omega) (by rw [e, ek])
theorem lim6 (c : Nat) : (fNm c).length ≤ 6 := by
  match c with
  | 0 => decide
  | 1 => decide
  | 2 => decide
  | 3 => decide
  | _ + 4 => show (["order", "kept", "past", "later"] : List Str).length ≤ 6; decide
section
variable {X : Cx} {W : WN} {fe : Ga → R D} {e : Expr} {x f : Str} {q pos pos' : Pos} {C : Addr}
theorem js_fld (cn i k : Nat) (hO : ObC X.K cn C) (hc : Cls X.K C) (hn : NoAttr X.K C f) (he : J X W fe e) (hf : (fNm cn)[k]? = some f := by rfl) (hN : X.N[i]? = some x := by rfl) (hv : Vis X.env.scope x := by first | exact Or.inl rfl | exact Or.inr (Or.inl rfl) | exact Or.inr (Or.inr rfl))
    (hs : swapsWith e (some (.Attribute (.Name x q) f pos')) pos.line X.env = pure false := by rfl) (hd : (x == ("__debug__" : Str)) = false := by decide) (hcd : (x == ("__classdict__" : Str)) = false := by decide) :
    JS X W (fFld cn i k fe) (.Assign [.Attribute (.Name x q) f pos'] e pos) := ⟨PS.imp (ps_fld (pe_var hN hv hd hcd) he.pe hs) fun E σ H ⟨B, F, γ, r, o⟩ => by
  refine ex_of r o fun d v F' H' n r' p o' => ?_
  split at o'
  case h_2 => exact o'.elim
  rename_i h c fs hi
  split at o'
  case isFalse => exact o'.elim
  rename_i ec
  subst ec
  split at o'
  case isFalse => exact o'.elim
  rename_i ok
  unfold fldOk at ok
  rw [Bool.and_eq_true, Bool.and_eq_true, decide_eq_true_eq, decide_eq_true_eq] at ok
  obtain ⟨⟨k1, k2⟩, k3⟩ := ok
  obtain ⟨a, dx, C', kvs, ha, ob⟩ := r'.rs.sl i _ hi
  have := obc_inj hO ob.cl
  subst this
  have ln : kvs.length = fs.length := by have := ob.ok.len; simpa using this.symm
  obtain ⟨n1, n2, n3⟩ := names_take ob.nm hf
  refine ⟨_, ha, a, C, dx, kvs, rfl, ob.ha, hc, hn, by have := lim6 c; have := ob.le; omega, o' F' σ _ ?_⟩
  unfold putFd
  by_cases lt : k < fs.length
  · rw [if_pos lt]
    obtain ⟨p1, p2⟩ := putF_set (v := v) n1 (n2 lt)
    refine rb_fld r' (.refl r'.rs.emb) hi ha ob (by rw [p1, List.length_set]; exact ob.nm) (by rw [List.length_set]; exact ob.le) (by rw [p2]; exact fds_set p lt k3 ob.ok) fun b z => .inl ?_
    rw [p2] at z
    exact owf_set z
  · rw [if_neg lt]
    have ke : k = fs.length := by omega
    subst ke
    rw [putF_new (n3 (Nat.le_refl _))]
    refine rb_fld r' (.refl r'.rs.emb) hi ha ob ?_ (by rw [List.length_append]; exact k2) (by rw [List.map_append]; exact fds_app p (by simpa using k3) ob.ok) fun b z => .inl ?_
    · rw [List.map_append, ob.nm, List.length_append]
      show _ ++ [f] = List.take (fs.length + 1) (fNm c)
      rw [List.take_add_one, hf]; rfl
    · rw [List.map_append] at z
      exact owf_app ob.ok.len z⟩
theorem js_fldO (cn i k : Nat) (hO : ObC X.K cn C) (hc : Cls X.K C) (hn : NoAttr X.K C f) (he : JF X W fe e) (hf : (fNm cn)[k]? = some f := by rfl) (hN : X.N[i]? = some x := by rfl) (hv : Vis X.env.scope x := by first | exact Or.inl rfl | exact Or.inr (Or.inl rfl) | exact Or.inr (Or.inr rfl))
    (hs : swapsWith e (some (.Attribute (.Name x q) f pos')) pos.line X.env = pure false := by rfl) (hd : (x == ("__debug__" : Str)) = false := by decide) (hcd : (x == ("__classdict__" : Str)) = false := by decide) :
    JS X W (fFldO cn i k fe) (.Assign [.Attribute (.Name x q) f pos'] e pos) := ⟨PS.imp (ps_fld (pe_var hN hv hd hcd) he.pe hs) fun E σ H ⟨B, F, γ, r, o⟩ => by
  refine ⟨F, γ, r.rs, ?_⟩
  unfold fFldO at o
  cases e1 : fe γ with
  | ok d =>
    simp only [e1, R.bind] at o
    intro b F' H' n hb fb ow
    split at o
    case h_2 => exact o.elim
    rename_i h c fs hi
    split at o
    case isFalse => exact o.elim
    rename_i ec
    subst ec
    split at o
    case isFalse => exact o.elim
    rename_i ok
    obtain ⟨k1, k2⟩ := ok
    subst k1
    obtain ⟨a, dx, C', kvs, ha, ob⟩ := r.rs.sl i _ hi
    have := obc_inj hO ob.cl
    subst this
    have ln : kvs.length = fs.length := by have := ob.ok.len; simpa using this.symm
    obtain ⟨n1, n2, n3⟩ := names_take ob.nm hf
    refine ⟨_, ha, a, C, dx, kvs, rfl, n.h _ _ ob.ha, hc, hn, by have := lim6 c; have := ob.le; omega, o F' σ _ ?_⟩
    rw [putF_new (n3 (Nat.le_refl _))]
    have nba : b ≠ a := fun z => by subst z; rw [ob.ha] at hb; cases hb
    refine rb_fld r n hi ha ob ?_ (by rw [List.length_append]; exact k2) ?_ fun b0 z => ?_
    · rw [List.map_append, ob.nm, List.length_append]
      show _ ++ [f] = List.take (fs.length + 1) (fNm c)
      rw [List.take_add_one, hf]; rfl
    · rw [List.map_append]
      refine fds_appO nba fb ow (ob.ok.next n.f fun b0 u z1 z2 z3 => ⟨n.h _ _ z3, n.unf z2 z3⟩) fun b0 z1 z2 => ?_
      subst z2
      obtain ⟨_, _, d0, w⟩ := ob.ok.own z1
      obtain ⟨u, hu⟩ := w.have
      rw [hb] at hu; cases hu
    · rw [List.map_append] at z
      rcases owf_appO ob.ok.len z with y | y
      · exact .inl y
      · subst y; exact .inr hb
  | ex c => rw [e1] at o; exact fun F' H' n => o σ F' H' (r.fi.next n)
  | no => rw [e1] at o; exact o⟩
end
end KN
set_option maxHeartbeats 1000000
/-! KnR6: lists of an object, new objects, what is passed on -/
namespace KN
open PySem PySem.Spec PyProof.Rows L2
/-! ### o.f.append(e), o.f.insert(k, e), o.f.pop(k) -/
def fldL (cn i k : Nat) (γ : Ga) : Option (Bool × List Fd × List D) := match γ[i]? with
  | some (.ob h c fs) => if c = cn then (match fs[k]? with | some (true, .lst xs) => some (h, fs, xs) | _ => none) else none
  | _ => none
theorem fldL_some {cn i k : Nat} {γ : Ga} {h : Bool} {fs : List Fd} {xs : List D} (e : fldL cn i k γ = some (h, fs, xs)) : γ[i]? = some (.ob h cn fs) ∧ fs[k]? = some (true, .lst xs) := by
  unfold fldL at e
  cases e1 : γ[i]? with
  | none => rw [e1] at e; cases e
  | some s =>
    rw [e1] at e
    cases s <;> simp only at e <;> first | (cases e; done) | skip
    rename_i h0 c fs0
    by_cases hc : c = cn
    · rw [if_pos hc] at e
      subst hc
      split at e
      · rename_i hl
        cases e
        exact ⟨rfl, hl⟩
      · cases e
    · rw [if_neg hc] at e; cases e
def fFApp (cn i k : Nat) (fe : Ga → R D) : Ga → R Fl := fun γ => match fldL cn i k γ with
  | some (h, fs, xs) => (fe γ).bind fun d => if xs.length < lim then .ok (.nx (γ.set i (.ob h cn (fs.set k (true, .lst (xs ++ [d])))))) else .no
  | none => .no
def fFIns (cn i k : Nat) (fk fe : Ga → R D) : Ga → R Fl := fun γ => match fldL cn i k γ with
  | some (h, fs, xs) => (fk γ).bind fun j => (fe γ).bind fun d => match j with
    | .int j => if xs.length < lim ∧ 0 ≤ j ∧ j < 2 ^ 63 then .ok (.nx (γ.set i (.ob h cn (fs.set k (true, .lst (xs.take j.toNat ++ [d] ++ xs.drop j.toNat)))))) else .no
    | _ => .no
  | none => .no
def ePop (cn i k : Nat) (fk : Ga → R D) : Ga → R (D × Ga) := fun γ => match fldL cn i k γ with
  | some (h, fs, xs) => (fk γ).bind fun j => match j with
    | .int j => if 0 ≤ j ∧ j.toNat < lim then (match xs[j.toNat]? with | some d => .ok (d, γ.set i (.ob h cn (fs.set k (true, .lst (xs.eraseIdx j.toNat))))) | none => .no) else .no
    | _ => .no
  | none => .no
section
variable {X : Cx} {W : WN} {fe fk : Ga → R D} {e ek : Expr} {x f : Str} {p1 pos apos cpos fpos : Pos} {C : Addr}
/-- a list's place -/
theorem fld_lst {K : PySem.W.Frag} {B : Bs} {F H : Hp} {γ : Ga} {σ : L2.St} {cn i k : Nat} {h : Bool} {fs : List Fd} {xs : List D} {C : Addr} {f : Str} (r : RB K B F γ σ H) (hO : ObC K cn C) (hf : (fNm cn)[k]? = some f) (e : fldL cn i k γ = some (h, fs, xs)) :
    ∃ a dx kvs b vs, σ[i]? = some (some (.ref a)) ∧ H a = some (.ins C dx kvs) ∧ kvs.lookup f = some (.ref b) ∧ H b = some (.lst vs) ∧ Reps K F xs vs ∧ ∀ F' H', RB K B F' γ σ H' → Same F F' → (∀ b u, H b = some u → H' b = some u) → H' b = some (.lst vs) ∧ Reps K F' xs vs ∧
      ∀ xs' vs', Reps K F' xs' vs' → RB K B F' (γ.set i (.ob h cn (fs.set k (true, .lst xs')))) σ (upd H' b (.lst vs')) := by
  obtain ⟨hi, hk⟩ := fldL_some e
  obtain ⟨a, dx, C', kvs, ha, ob⟩ := r.rs.sl i _ hi
  have := obc_inj hO ob.cl
  subst this
  obtain ⟨b, vs, h1, h2, h3, _⟩ := rb_lst r hi ha ob hk
  have kl := (List.getElem?_eq_some_iff.mp hk).1
  refine ⟨a, dx, kvs, b, vs, ha, ob.ha, fld_get (K := K) hf ob.nm kl h1, h2, h3, fun F' H' r' s hh => ?_⟩
  obtain ⟨a', dx', C', kvs', ha', ob'⟩ := r'.rs.sl i _ hi
  rw [ha] at ha'; cases ha'
  have q := hh _ _ ob.ha
  rw [ob'.ha] at q; cases q
  obtain ⟨b', vs', g1, g2, g3, g4⟩ := rb_lst r' hi ha ob' hk
  rw [h1] at g1; cases g1
  have q2 := hh _ _ h2
  rw [g2] at q2; cases q2
  exact ⟨g2, h3.mono s, g4⟩
theorem js_fapp (cn i k : Nat) (hO : ObC X.K cn C) (hc : Cls X.K C) (hn : NoAttr X.K C f) (he : J X W fe e) (hf : (fNm cn)[k]? = some f := by rfl) (hN : X.N[i]? = some x := by rfl) (hv : Vis X.env.scope x := by first | exact Or.inl rfl | exact Or.inr (Or.inl rfl) | exact Or.inr (Or.inr rfl))
    (hb0 : attributeBase (.Name x p1) f X.env (eval (.Name x p1) X.env) = eval (.Name x p1) X.env := by rfl)
    (hb : attributeBase (.Attribute (.Name x p1) f fpos) "append" X.env (eval (.Attribute (.Name x p1) f fpos) X.env) = eval (.Attribute (.Name x p1) f fpos) X.env := by rfl)
    (hfew : ((backTo cpos (starEach [e] X.env)).all (fun x => !x.1) && (backToKw cpos (keywordEach [] X.env)).all (fun x => x.1.isSome) && decide (([e] : List Expr).length + ([] : List Keyword).length + (if ([] : List Keyword).isEmpty then 0 else 1) < 30)) = true := by rfl)
    (hline : (apos.endLine == cpos.line) = true := by rfl) (hs : starEach [e] X.env = (false, eval e X.env) :: starEach [] X.env := by rfl)
    (hw : swapsWith (.Call (.Attribute (.Attribute (.Name x p1) f fpos) "append" apos) [e] [] cpos) none pos.line X.env = pure false := by rfl)
    (hd : (x == ("__debug__" : Str)) = false := by decide) (hcd : (x == ("__classdict__" : Str)) = false := by decide) :
    JS X W (fFApp cn i k fe) (.Expr (.Call (.Attribute (.Attribute (.Name x p1) f fpos) "append" apos) [e] [] cpos) pos) :=
  ⟨PS.imp (ps_expr (pe_bm PySem.F.plainAttrs_list PySem.F.slot_list_append PySem.F.type_list_append mt_append (pe_fld (pe_var hN hv hd hcd) hb0) (pa_cons he.pe pa_nil hs) hb hfew hline hs rfl) hw) fun E σ H ⟨B, F, γ, r, o⟩ => by
    unfold fFApp at o
    cases e0 : fldL cn i k γ with
    | none => rw [e0] at o; exact o.elim
    | some q =>
      obtain ⟨h, fs, xs⟩ := q
      rw [e0] at o
      obtain ⟨a, dx, kvs, b, vs, h1, h2, h3, h4, h5, h6⟩ := fld_lst r hO hf e0
      refine ⟨_, h1, a, C, dx, kvs, .ref b, rfl, h2, hc, hn, h3, .inl ⟨rfl, _, .inl (.inl h4)⟩, ?_⟩
      refine ex_of r o fun d v F1 H1 n1 r1 p1 o1 => ?_
      split at o1
      · rename_i hl
        obtain ⟨g1, g2, g3⟩ := h6 F1 H1 r1 n1.f n1.h
        exact ⟨b, vs, v, rfl, rfl, g1, by rw [← g2.length]; exact Nat.lt_trans hl lim_lt, o1 F1 σ _ (g3 _ _ (g2.append (.cons p1 .nil)))⟩
      · exact o1.elim⟩
theorem js_fins (cn i k : Nat) (hO : ObC X.K cn C) (hc : Cls X.K C) (hn : NoAttr X.K C f) (hk : J X W fk ek) (he : J X W fe e) (hf : (fNm cn)[k]? = some f := by rfl) (hN : X.N[i]? = some x := by rfl) (hv : Vis X.env.scope x := by first | exact Or.inl rfl | exact Or.inr (Or.inl rfl) | exact Or.inr (Or.inr rfl))
    (hb0 : attributeBase (.Name x p1) f X.env (eval (.Name x p1) X.env) = eval (.Name x p1) X.env := by rfl)
    (hb : attributeBase (.Attribute (.Name x p1) f fpos) "insert" X.env (eval (.Attribute (.Name x p1) f fpos) X.env) = eval (.Attribute (.Name x p1) f fpos) X.env := by rfl)
    (hfew : ((backTo cpos (starEach [ek, e] X.env)).all (fun x => !x.1) && (backToKw cpos (keywordEach [] X.env)).all (fun x => x.1.isSome) && decide (([ek, e] : List Expr).length + ([] : List Keyword).length + (if ([] : List Keyword).isEmpty then 0 else 1) < 30)) = true := by rfl)
    (hline : (apos.endLine == cpos.line) = true := by rfl) (hs : starEach [ek, e] X.env = (false, eval ek X.env) :: starEach [e] X.env := by rfl) (hs2 : starEach [e] X.env = (false, eval e X.env) :: starEach [] X.env := by rfl) (hpl : (backTo cpos (starEach [e] X.env)).any (·.1) = false := by rfl)
    (hw : swapsWith (.Call (.Attribute (.Attribute (.Name x p1) f fpos) "insert" apos) [ek, e] [] cpos) none pos.line X.env = pure false := by rfl)
    (hd : (x == ("__debug__" : Str)) = false := by decide) (hcd : (x == ("__classdict__" : Str)) = false := by decide) :
    JS X W (fFIns cn i k fk fe) (.Expr (.Call (.Attribute (.Attribute (.Name x p1) f fpos) "insert" apos) [ek, e] [] cpos) pos) :=
  ⟨PS.imp (ps_expr (pe_bm PySem.F.plainAttrs_list PySem.F.slot_list_insert PySem.F.type_list_insert mt_insert (pe_fld (pe_var hN hv hd hcd) hb0) (pa_cons hk.pe (pa_cons he.pe pa_nil hs2) hs) hb hfew hline hs hpl) hw) fun E σ H ⟨B, F, γ, r, o⟩ => by
    unfold fFIns at o
    cases e0 : fldL cn i k γ with
    | none => rw [e0] at o; exact o.elim
    | some q =>
      obtain ⟨h, fs, xs⟩ := q
      rw [e0] at o
      obtain ⟨a, dx, kvs, b, vs, h1, h2, h3, h4, h5, h6⟩ := fld_lst r hO hf e0
      refine ⟨_, h1, a, C, dx, kvs, .ref b, rfl, h2, hc, hn, h3, .inl ⟨rfl, _, .inl (.inl h4)⟩, ?_⟩
      refine ex_of r o fun dk vk F1 H1 n1 r1 p1 o1 => ?_
      refine ex_of r1 o1 fun d v F2 H2 n2 r2 p2 o2 => ?_
      cases dk <;> first | exact o2.elim | skip
      rename_i j
      cases p1
      simp only at o2
      split at o2
      · rename_i hl
        have n12 := n1.trans n2
        obtain ⟨g1, g2, g3⟩ := h6 F2 H2 r2 n12.f n12.h
        exact ⟨b, vs, j, v, rfl, rfl, g1, by rw [← g2.length]; exact Nat.lt_trans hl.1 lim_lt, hl.2.1, hl.2.2, o2 F2 σ _ (g3 _ _ (((g2.take _).append (.cons p2 .nil)).append (g2.drop _)))⟩
      · exact o2.elim⟩
theorem reps_erase {K : PySem.W.Frag} {F : Hp} : ∀ {ds : List D} {vs : List V} (k : Nat), Reps K F ds vs → Reps K F (ds.eraseIdx k) (vs.eraseIdx k)
  | _, _, _, .nil => .nil
  | _, _, 0, .cons _ q => q
  | _, _, k + 1, .cons p q => .cons p (reps_erase k q)
theorem seqIx {n : Nat} {j : Int} (h0 : 0 ≤ j) (h : j.toNat < n) : seqIndex? j n = some j.toNat := by
  unfold seqIndex?
  have h1 : ¬ j < 0 := by omega
  have h2 : j < (n : Int) := by omega
  simp only [h1, if_false]
  rw [if_pos (by simp [h0, h2])]
theorem je_pop (cn i k : Nat) (hO : ObC X.K cn C) (hc : Cls X.K C) (hn : NoAttr X.K C f) (hk : J X W fk ek) (hf : (fNm cn)[k]? = some f := by rfl) (hN : X.N[i]? = some x := by rfl) (hv : Vis X.env.scope x := by first | exact Or.inl rfl | exact Or.inr (Or.inl rfl) | exact Or.inr (Or.inr rfl))
    (hb0 : attributeBase (.Name x p1) f X.env (eval (.Name x p1) X.env) = eval (.Name x p1) X.env := by rfl)
    (hb : attributeBase (.Attribute (.Name x p1) f fpos) "pop" X.env (eval (.Attribute (.Name x p1) f fpos) X.env) = eval (.Attribute (.Name x p1) f fpos) X.env := by rfl)
    (hfew : ((backTo cpos (starEach [ek] X.env)).all (fun x => !x.1) && (backToKw cpos (keywordEach [] X.env)).all (fun x => x.1.isSome) && decide (([ek] : List Expr).length + ([] : List Keyword).length + (if ([] : List Keyword).isEmpty then 0 else 1) < 30)) = true := by rfl)
    (hline : (apos.endLine == cpos.line) = true := by rfl) (hs : starEach [ek] X.env = (false, eval ek X.env) :: starEach [] X.env := by rfl)
    (hd : (x == ("__debug__" : Str)) = false := by decide) (hcd : (x == ("__classdict__" : Str)) = false := by decide) :
    JE X (ePop cn i k fk) (.Call (.Attribute (.Attribute (.Name x p1) f fpos) "pop" apos) [ek] [] cpos) :=
  ⟨PE.imp (pe_bm PySem.F.plainAttrs_list PySem.F.slot_list_pop PySem.F.type_list_pop mt_popAt (pe_fld (pe_var hN hv hd hcd) hb0) (pa_cons hk.pe pa_nil hs) hb hfew hline hs rfl) fun σ H Q ⟨B, F, γ, r, o⟩ => by
    unfold ePop at o
    cases e0 : fldL cn i k γ with
    | none => rw [e0] at o; exact o.elim
    | some q =>
      obtain ⟨h, fs, xs⟩ := q
      rw [e0] at o
      obtain ⟨a, dx, kvs, b, vs, h1, h2, h3, h4, h5, h6⟩ := fld_lst r hO hf e0
      refine ⟨_, h1, a, C, dx, kvs, .ref b, rfl, h2, hc, hn, h3, .inl ⟨rfl, _, .inl (.inl h4)⟩, ?_⟩
      refine ⟨F, γ, r.rs, ?_⟩
      cases e1 : fk γ with
      | ok d =>
        simp only [e1, R.bind] at o
        intro v F1 H1 n1 p1
        cases d <;> first | exact o.elim | skip
        rename_i j
        cases p1
        simp only at o
        split at o
        · rename_i hl
          cases e2 : xs[j.toNat]? with
          | some d =>
            rw [e2] at o
            obtain ⟨g1, g2, g3⟩ := h6 F1 H1 (r.next n1) n1.f n1.h
            obtain ⟨v, hv', pv⟩ := g2.get e2
            have l1 := (List.getElem?_eq_some_iff.mp hv').1
            have l2 := lim_lt
            refine ⟨b, vs, j, j.toNat, v, rfl, rfl, g1, by omega, ?_, seqIx hl.1 l1, hv', o v F1 _ (g3 _ _ (reps_erase _ g2)) n1.f pv⟩
            have : lim ≤ 2 ^ 62 := by decide
            omega
          | none => rw [e2] at o; exact o.elim
        · exact o.elim
      | ex c => rw [e1] at o; exact o.elim
      | no => rw [e1] at o; exact o.elim⟩
end
/-! ### C(..) -/
def tMakeX (C : Addr) (sp : Sp) (E : L2.St → XK) (t : TA) : TE := fun σ H Q => t σ H fun vs H1 => ∀ x dx, H1 x = none → H1 dx = none → dx ≠ x → sp (.ref x :: vs) (upd (upd H1 dx (.own x)) x (.ins C dx [])) (fun v H2 => v = .non ∧ Q (.ref x) H2) (E σ)
section
variable {X : Cx} {CX : CXT} {k : Nat} {C f : Addr} {fd : FuncData} {ps : List Str} {sp : Sp} {E : L2.St → XK} {e : Expr} {es : List Expr} {t : TA} {p pos : Pos} {x : Str}
theorem run_makeX {pins : List (Addr × Obj)} {σ : L2.St} {H : Hp} {s : Shared} {Q : VK} {us : List Value} {vs : List V} (M : Mk X.K C f) (F : FnOk X.prog X.w X.K X.mg X.base CX k f fd ps sp) (hr : Room (k + 1) X.A) (hb : Binds X.K fd ps [])
    (hx : ∀ σ, PassesAt CX X σ (E σ)) (I : Inv X pins σ H s) (r : Vals vs us)
    (h : ∀ x dx, H x = none → H dx = none → dx ≠ x → sp (.ref x :: vs) (upd (upd H dx (.own x)) x (.ins C dx [])) (fun v H2 => v = .non ∧ Q (.ref x) H2) (E σ)) :
    wpAny (model X.prog X.w) X.A (call (.ref C) us) (EP X pins σ Q) X.xe s := by
  have hq := h (s.heap.objs.size + 1) s.heap.objs.size (I.hok.fresh (Nat.le_succ _)) (I.hok.fresh (Nat.le_refl _)) (Nat.ne_of_lt (Nat.lt_succ_self _))
  have I2 := Inv.made (C := C) I
  have r2 : Vals (V.ref (s.heap.objs.size + 1) :: vs) (Value.ref (s.heap.objs.size + 1) :: us) := .cons rfl r
  have hl : (Value.ref (s.heap.objs.size + 1) :: us ++ []).length = ps.length := by
    have e := r2.length
    rw [F.len _ _ _ _ hq] at e
    rw [List.append_nil]
    exact e.symm
  have hbb := hb _ (Value.ref (s.heap.objs.size + 1) :: us) I2.kIn hl
  rw [List.append_nil] at hbb
  refine wpAny_call (make_map (f := f) I.kIn M.makes M.init (beq_iff_eq.mp M.fn) (codeAny_mono (F.run _ X.stack _ _ ⟨Value.ref (s.heap.objs.size + 1) :: us, []⟩ (Value.ref (s.heap.objs.size + 1) :: us) _ _ (E σ) (hr.make C us [])
    (I2.env0.make C us []) hbb r2 hq) fun r s' hq' => ?_))
  cases r with
  | error e => exact hx σ pins _ _ e s' I2 hq'
  | ok fl =>
    cases fl with
    | ret u =>
      obtain ⟨v, H', I3, rv, ev, q3⟩ := I2.after hq'
      subst ev
      exact ⟨rv, ⟨V.ref (s.heap.objs.size + 1), H', I3, rfl, q3⟩⟩
    | next => exact False.elim hq'
    | brk => exact False.elim hq'
    | cont => exact False.elim hq'
theorem pe_makeX (M : Mk X.K C f) (F : FnOk X.prog X.w X.K X.mg X.base CX k f fd ps sp) (hr : Room (k + 1) X.A) (hg : Gl X x) (hm : X.mg x = some (.ref C)) (hb : Binds X.K fd ps []) (hx : ∀ σ, PassesAt CX X σ (E σ))
    (ha : PA X (e :: es) t) (hdb : (x == ("__debug__" : Str)) = false := by decide) (he : starEach (e :: es) X.env = (false, eval e X.env) :: starEach es X.env := by rfl) (hpl : (backTo pos (starEach es X.env)).any (·.1) = false := by rfl) :
    PE X (.Call (.Name x p) (e :: es) [] pos) (tMakeX C sp E t) := by
  refine ⟨fun pins s σ H Q I h => ?_⟩
  refine wpAny_Call_Name_kw (ld_glob I hg hm ?_ hdb)
  refine PySem.W.callWith_K (h₀ := X.base) I.ok.mod.kin M.kp (thn (ha.run pos pins s σ H _ I h) fun us s1 ⟨vs, H1, I1, r, q⟩ => ⟨I1.kIn, ?_⟩) he hpl
  exact run_makeX M F hr hb hx I1 r q
end
/-- the new object behind __init__ -/
def mkG (g : List Sl → R (D × Sl)) (cn : Nat) (fs : Ga → R (List D)) : Ga → R (Nat × List Fd) := fun γ => (fs γ).bind fun ds => (g (insS 0 (.ob true cn []) ds)).bind fun p => match p with
  | (.non, .ob _ c fls) => .ok (c, fls)
  | _ => .no
theorem mk_of {K : PySem.W.Frag} {W : WN} {cl : Cl} {F H : Hp} {σ : L2.St} {cn n : Nat} {C x dx : Addr} {ds : List D} {vs : List V} {g : List Sl → R (D × Sl)} {Q : VK} (hO : ObC K cn C) (em : Emb F H) (hx : H x = none) (hd : H dx = none) (nx : dx ≠ x) (q : Reps K F ds vs) (hn : ds.length + 1 = n)
    (o : match (g (insS 0 (.ob true cn []) ds)).bind (fun p => match p with | (.non, .ob _ c fls) => R.ok (c, fls) | _ => .no) with
      | .ok (c, fls) => ∀ F' H', Nxt F H F' H' → SlOk K F' H' (.ob false c fls) (some (some (.ref x))) → (∀ b, OwnB H' (.ob false c fls) x b → H b = none) → Q (.ref x) H'
      | .ex c => ∀ F' H', Nxt F H F' H' → W c σ H'
      | .no => False) :
    spM K cl n 0 g (.ref x :: vs) (upd (upd H dx (.own x)) x (.ins C dx [])) (fun v H2 => v = .non ∧ Q (.ref x) H2) (WE (VW cl W) σ) := by
  have fx : F x = none := em.free hx
  have fd : F dx = none := em.free hd
  have up : ∀ b u, H b = some u → upd (upd H dx (.own x)) x (.ins C dx []) b = some u := fun b u e => by rw [upd_ne (ne_of_none e hx), upd_ne (ne_of_none e hd)]; exact e
  have un : ∀ b, upd (upd H dx (.own x)) x (.ins C dx []) b = none → H b = none := fun b e => by
    cases z : H b with
    | none => rfl
    | some u => rw [up b u z] at e; cases e
  have em2 : Emb F (upd (upd H dx (.own x)) x (.ins C dx [])) := fun b u e => by
    rcases em b u e with y | ⟨ob, kvs, y1, y2⟩
    · exact .inl (up _ _ y)
    · exact .inr ⟨ob, kvs, y1, up _ _ y2⟩
  have ob : ObAt K F (upd (upd H dx (.own x)) x (.ins C dx [])) cn [] x dx C [] := ⟨fx, fd, nx, upd_same, by rw [upd_ne nx, upd_same], hO, rfl, Nat.zero_le _, trivial⟩
  have own : ∀ b, OwnB (upd (upd H dx (.own x)) x (.ins C dx [])) (.ob true cn []) x b → H b = none := fun b z => by
    rcases (ow_pure ob rfl).mp z with rfl | rfl
    · exact hx
    · exact hd
  refine spM_of (.here q) hn em2 ⟨x, dx, C, [], rfl, ob⟩ ?_
  cases e : g (insS 0 (.ob true cn []) ds) with
  | ok p =>
    obtain ⟨d, s'⟩ := p
    rw [e] at o
    intro v F' H' p1 p2 p3 pv
    simp only [R.bind] at o
    split at o
    · rename_i c fls e5
      split at e5
      · rename_i h' c' fls' e6
        cases e6
        cases e5
        cases pv
        refine ⟨rfl, o F' H' ⟨p1.f, fun b u z => ?_, p1.emb, fun b u z => p1.h b u (up _ _ z) fun y => by rw [own b y] at z; cases z⟩ p2 fun b z => ?_⟩
        · rcases p1.fn b u z with y | y | y
          · exact .inl y
          · exact .inr (un b y)
          · exact .inr (own b y)
        · rcases p3 b z with y | y
          · exact own b y
          · exact un b y
      · cases e5
    · rename_i e5
      split at e5 <;> cases e5
    · exact o.elim
  | ex c =>
    rw [e] at o
    exact fun F' H' n => ⟨c, rfl, rfl, o F' H' ⟨n.f, fun b u z => (n.fn b u z).imp id (un b), n.emb, fun b u z => n.h _ _ (up _ _ z)⟩⟩
  | no => rw [e] at o; exact o.elim
def fNew (j : Nat) (m : Ga → R (Nat × List Fd)) : Ga → R Fl := fun γ => (m γ).bind fun p => .ok (.nx (γ.set j (.ob false p.1 p.2)))
section
variable {X : Cx} {W : WN} {cl : Cl} {fs : Ga → R (List D)} {k n : Nat} {f C : Addr} {fd : FuncData} {ps : List Str} {g : List Sl → R (D × Sl)} {x y : Str} {e : Expr} {es : List Expr} {p pos pos' pos2 : Pos}
/-- the making of an object, by what is wanted of it -/
theorem make_of {cn : Nat} {B : Bs} {F H : Hp} {γ : Ga} {σ : L2.St} {Q : VK} {E : Ends} {kk : Nat × List Fd → R Fl} (hO : ObC X.K cn C) (hn : ∀ γ ds, fs γ = .ok ds → ds.length + 1 = n) (r : RB X.K B F γ σ H) (o : OutS X.K W B ((mkG g cn fs γ).bind kk) E)
    (h : ∀ c fls a F' H', RB X.K B F' γ σ H' → SlOk X.K F' H' (.ob false c fls) (some (some (.ref a))) → (∀ b, OwnB H' (.ob false c fls) a b → B.H0 b = none) → (∀ (j : Nat) (s : Sl) (b : Addr), γ[j]? = some s → Inn H' s σ[j]? b → OwnB H' (.ob false c fls) a b → False) → OutS X.K W B (kk (c, fls)) E → Q (.ref a) H') :
    tMakeX C (spM X.K cl n 0 g) (WE (VW cl W)) (rdA X.K W fs) σ H Q := by
  refine ⟨F, γ, r.rs, ?_⟩
  unfold mkG at o
  cases e1 : fs γ with
  | ok ds =>
    simp only [e1, R.bind] at o
    intro vs F1 H1 n1 q x dx hx hdx ne
    refine mk_of hO n1.emb hx hdx ne q (hn γ ds e1) ?_
    have r1 := r.next n1
    cases e2 : (g (insS 0 (.ob true cn []) ds)).bind (fun p => match p with | (.non, .ob _ c fls) => R.ok (c, fls) | _ => .no) with
    | ok p =>
      obtain ⟨c, fls⟩ := p
      intro F' H' n2 k own
      refine h c fls x F' H' (r1.next n2) k (fun b z => r1.fi.free (own b z)) (fun j s b e3 z1 z2 => ?_) ?_
      · have z3 := z1.back (r1.rs.sl j s e3) fun b u _ z => n2.h _ _ z
        obtain ⟨_, u, hu⟩ := z3.have (r1.rs.sl j s e3)
        rw [own b z2] at hu; cases hu
      · revert o
        generalize g (insS 0 (.ob true cn []) ds) = gg at e2
        cases gg with
        | ok p2 =>
          simp only [R.bind] at e2 ⊢
          intro o
          rw [e2] at o
          exact o
        | ex c => cases e2
        | no => cases e2
    | ex c =>
      intro F' H' n2
      revert o
      generalize g (insS 0 (.ob true cn []) ds) = gg at e2
      cases gg with
      | ok p2 => simp only [R.bind] at e2 ⊢; intro o; rw [e2] at o; exact o σ F' H' (r1.fi.next n2)
      | ex c => simp only [R.bind] at e2 ⊢; intro o; cases e2; exact o σ F' H' (r1.fi.next n2)
      | no => cases e2
    | no =>
      revert o
      generalize g (insS 0 (.ob true cn []) ds) = gg at e2
      cases gg with
      | ok p2 => simp only [R.bind] at e2 ⊢; intro o; rw [e2] at o; exact o
      | ex c => cases e2
      | no => simp only [R.bind]; exact fun o => o
  | ex c => simp only [e1, R.bind] at o; exact fun F' H' n1 => o σ F' H' (r.fi.next n1)
  | no => simp only [e1, R.bind] at o; exact o.elim
theorem js_new (cn j : Nat) (hO : ObC X.K cn C) (M : Mk X.K C f) (F : FnOk X.prog X.w X.K X.mg X.base (L2.CX X.prog X.w) k f fd ps (spM X.K cl n 0 g)) (hr : Room (k + 1) X.A) (hm : X.mg x = some (.ref C)) (hb : Binds X.K fd ps []) (tk : Takes X (VW cl W)) (hN : X.N.Nodup)
    (ha : JA X W fs (e :: es)) (hn : ∀ γ ds, fs γ = .ok ds → ds.length + 1 = n) (hi : X.N[j]? = some y := by rfl) (hx : Loc X.env.scope y := by first | exact .inl rfl | exact .inr rfl) (hs : swapsWith (.Call (.Name x p) (e :: es) [] pos) (some (.Name y pos')) pos2.line X.env = pure false := by rfl) (hf : X.fn y = true ∨ X.env.scope.names.lookup y = some .local := by first | exact .inl rfl | exact .inr rfl)
    (hg : Gl X x := by rfl) (hdb : (x == ("__debug__" : Str)) = false := by decide) (he : starEach (e :: es) X.env = (false, eval e X.env) :: starEach es X.env := by rfl) (hpl : (backTo pos (starEach es X.env)).any (·.1) = false := by rfl) :
    JS X W (fNew j (mkG g cn fs)) (.Assign [.Name y pos'] (.Call (.Name x p) (e :: es) [] pos) pos2) :=
  ⟨PS.imp (ps_set hN hi hx (pe_makeX M F hr hg hm hb (fun σ => passAt tk σ) ha.pa hdb he hpl) hs hf) fun E σ H ⟨B, F, γ, r, o⟩ =>
    make_of hO hn r o fun c fls a F' H' r' sk ow ap o' => o' F' _ H' (r'.put j (s0 := .ob false c fls) (x0 := some (.ref a)) sk (fun i s b _ e1 z1 z2 => ap i s b e1 z1 z2) ow)⟩
end
end KN
set_option maxHeartbeats 1000000
/-! KnR7: what is passed on unchanged or raises; defs that tell a new object -/
namespace KN
open PySem PySem.Spec PyProof.Rows L2
/-! ### a call that changes what was handed in, or raises -/
/-! ### defs that tell a new object, or data -/
def OutN (K : PySem.W.Frag) (F H : Hp) (W : Nat → Hp → Prop) (r : R Sl) (Q : VK) : Prop := match r with
  | .ok (.va d) => PV K F H d Q
  | .ok (.ob _ c fs) => ∀ a F' H', Nxt F H F' H' → SlOk K F' H' (.ob false c fs) (some (some (.ref a))) → (∀ b, OwnB H' (.ob false c fs) a b → H b = none) → Q (.ref a) H'
  | .ok _ => False
  | .ex c => ∀ F' H', Nxt F H F' H' → W c H'
  | .no => False
section
variable {X : Cx} {W : WN} {cl : Cl} {fs : Ga → R (List Sl)} {k n : Nat} {f C : Addr} {fd : FuncData} {ps : List Str} {g : List Sl → R Sl} {x y m : Str} {e : Expr} {es : List Expr} {p pos pos' pos2 apos : Pos}
theorem OutN.next {K : PySem.W.Frag} {F H F1 H1 : Hp} {W : Nat → Hp → Prop} {s : R Sl} {Q : VK} (o : OutN K F H W s Q) (n : Nxt F H F1 H1) : OutN K F1 H1 W s Q := by
  cases s with
  | ok s =>
    cases s <;> first | exact o | skip
    · exact PV.next (Q := Q) o n
    · exact fun a F' H' m sk ow => o a F' H' (n.trans m) sk fun b z => n.h.free (ow b z)
  | ex c => exact fun F' H' m => o F' H' (n.trans m)
  | no => exact o
end
end KN
set_option maxHeartbeats 1000000
/-! KnR8: small things for what is printed -/
namespace KN
open PySem PySem.Spec PyProof.Rows L2
theorem aNil_len : ∀ γ as, aNil γ = .ok as → as.length = 0 := fun γ as h => by cases h; rfl
theorem aD_len {fa : Ga → R D} {fs : Ga → R (List Sl)} {n : Nat} (h : ∀ γ as, fs γ = .ok as → as.length = n) : ∀ γ as, aD fa fs γ = .ok as → as.length = n + 1 := fun γ as e => by
  unfold aD at e
  cases e1 : fa γ <;> simp only [e1, R.bind] at e
  · cases e2 : fs γ <;> simp only [e2] at e
    · cases e; simp [h γ _ e2]
    · cases e
    · cases e
  · cases e
  · cases e
theorem len1 {fs : Ga → R (List D)} {n : Nat} (h : ∀ γ ds, fs γ = .ok ds → ds.length = n) : ∀ γ ds, fs γ = .ok ds → ds.length + 1 = n + 1 := fun γ ds e => by rw [h γ ds e]
theorem lenS {fs : Ga → R (List Sl)} {n : Nat} (h : ∀ γ ds, fs γ = .ok ds → ds.length = n) : ∀ γ ds, fs γ = .ok ds → ds.length + 1 = n + 1 := fun γ ds e => by rw [h γ ds e]
/-- a class of the program -/
theorem obc {K : PySem.W.Frag} {c : Nat} {C : Addr} {x : Str} (h : PySem.W.nsIn K mainGlobals x = some (some (.ref C))) (e : cNm c = x) : ObC K c C := by subst e; exact h
/-! ### max of three, the place of a text -/
/-! ### a comprehension over a list of one's own; range(a, b, -1); d.pop(k); effects in comprehensions and displays -/
def bLcO (i : Nat) (vs : List Nat) (bd : D → Ga → R Ga) (ifs : Ga → R Bool) (elt : Ga → R D) : Ga → R D := fun γ => match owL γ i with
  | some ds => lcOut bd ifs elt vs γ ds
  | none => .no
end KN
set_option maxHeartbeats 1000000
/-! KnR9: derivations for the meanings of KnR8 -/
namespace KN
open PySem PySem.Spec PyProof.Rows L2
/-! ### sorted of a tuple of texts -/
/-! ### texts the other way -/
/-! ### a comprehension over a list of one's own -/
section
variable {X : Cx} {W : WN} {bd : D → Ga → R Ga} {ifs : Ga → R Bool} {elt : Ga → R D} {own : List (Str × Nat)} {g : TG} {tt : TT} {tg e : Expr} {es : List Expr} {scope : Scope} {pos vpos : Pos}
theorem jf_lcO (i : Nat) {x : Str} (hc : X.calm = true) (hN : X.N.Nodup) (b : Blk X scope own bd ifs elt g tt tg es e) (hx : X.N[i]? = some x := by rfl) (hv : Vis X.env.scope x := by first | exact Or.inl rfl | exact Or.inr (Or.inl rfl) | exact Or.inr (Or.inr rfl)) (hd : (x == ("__debug__" : Str)) = false := by decide)
    (hcd : (x == ("__classdict__" : Str)) = false := by decide) (hs : ∀ y, foldedSetIterable (.Name x vpos) X.env y = pure y := by intro _; rfl) :
    JF X W (bLcO i (own.map (·.2)) bd ifs elt) (.ListComp e [⟨tg, .Name x vpos, es, 0⟩] scope pos) :=
  ⟨PE.imp (pe_lc (te := rdV X.K W0 elt) (g := g) (tt := tt) hc hN (pi_list (pe_var hx hv hd hcd)) b.ok (fun s H C cl fp => (b.hg s H C cl fp).pg) (fun s H C cl fp => (b.ht s H C cl fp).pts) (fun s H C cl fp => (b.he s H C cl fp).pe) hs) fun σ H Q ⟨F, γ, r, o⟩ => by
    unfold bLcO at o
    cases e1 : owL γ i with
    | none => rw [e1] at o; exact o.elim
    | some ds =>
      rw [e1] at o
      simp only at o
      have hγ := owL_some e1
      obtain ⟨v, e3, _, p⟩ := r.sl i _ hγ
      obtain ⟨vs, p1, p2⟩ := p
      cases e2 : lcOut bd ifs elt (own.map (·.2)) γ ds with
      | ok d =>
        rw [e2] at o
        obtain ⟨ys, rfl, h1, h2⟩ := lcOut_ok e2
        refine ⟨_, e3, v, rfl, ⟨vs, .inl (.inl p1)⟩, ?_⟩
        exact tLc_of b r (goes_listO p2) (fun q hq => by rw [List.mem_singleton.mp hq]; exact p1) h1 h2 fun a F2 H2 n2 ha f0 ow => PF.next (Q := Q) o (.refl r.emb) a F2 H2 n2 ha f0 ow
      | ex c => exact absurd e2 lcOut_ne
      | no => rw [e2] at o; exact o.elim⟩
end
/-! ### int(a truth) -/
def dIntB : List D → R D
  | [.bl b] => .ok (.int (if b = true then 1 else 0))
  | _ => .no
theorem c_intB {X : Cx} : CalD X (.type "int") dIntB := by
  refine ⟨fun pins s σ H xs us Q I rv ⟨F, ds, d, e, r, hg, q⟩ => ?_, fun x c => ?_⟩
  · unfold dIntB at hg
    split at hg
    · rename_i b
      cases hg
      obtain ⟨x, rfl, r1⟩ := r.inv1
      have hy : x = .bl b := by
        rcases r1 with p2 | p2
        · cases p2; rfl
        · obtain ⟨_, _, z⟩ := p2
          exact z.elim
      subst hy
      refine call_int1 pins s σ H _ us Q I rv (.inr ⟨b, rfl, ?_⟩)
      have e2 : (V.int (if b then 1 else 0)) = V.int (if b = true then 1 else 0) := rfl
      exact q.here e (.int _)
    · cases hg
  · intro h
    unfold dIntB at h
    split at h <;> cases h
end KN
/-! KnM: the meanings of the defs that stand in more than one law (printed by wip/shared.py) -/
namespace KN
open PySem PySem.Spec PyProof.Rows L2
noncomputable section
def m_is_number : Ga → R Fl := fRet (bAnd (b1 (dIsi .int) (bVar 0)) (bAnd (b1 dNot (b1 (dIsi .bool) (bVar 0))) (bCh dLe dLe (bVar 1) (bVar 0) (bVar 2))))
def g_is_number : List D → R D := fnD 3 m_is_number
def m_is_name : Ga → R Fl := fRet (bAnd (b1 (dIsi .str) (bVar 0)) (bAnd (bCh dLe dLe (bC (.int 1)) (bN dLen (bCons (bVar 0) (bNil))) (bC (.int 8))) (bN dAll (bCons (bLcE (bVar 0) [1] (bdN 1) yes (b2 dIn (bVar 1) (bC (.str [97, 98, 99, 100, 101, 102, 103, 104, 105, 106, 107, 108, 109, 110, 111, 112, 113, 114, 115, 116, 117, 118, 119, 120, 121, 122])))) (bNil)))))
def g_is_name : List D → R D := fnD 2 m_is_name
def m_is_book : Ga → R Fl := fRet (bAnd (b1 (dIsi .tup) (bVar 0)) (bAnd (bCh dLe dLe (bC (.int 1)) (bN dLen (bCons (bVar 0) (bNil))) (bC (.int 8))) (bN dAll (bCons (bLcE (bVar 0) [1] (bdN 1) yes (bCall g_is_name (bCons (bVar 1) (bNil)))) (bNil)))))
def g_is_book : List D → R D := fnD 2 m_is_book
def m_need_book : Ga → R Fl := fIf (tNot (tVal (bCall g_is_book (bCons (bVar 0) (bNil))))) (fRaise 0) (fNil)
def g_need_book : List D → R D := fnD 1 m_need_book
def m_need_order : Ga → R Fl := fIf (tNot (tVal (bCall g_is_number (bCons (bVar 0) (bCons (bC (.int 1)) (bCons (bC (.int 3)) (bNil))))))) (fRaise 1) (fNil)
def g_need_order : List D → R D := fnD 1 m_need_order
def m_need_name : Ga → R Fl := fIf (tNot (tVal (bCall g_is_name (bCons (bVar 0) (bNil))))) (fRaise 2) (fNil)
def g_need_name : List D → R D := fnD 1 m_need_name
def m_end_of : Ga → R Fl := fRet (bSl (bVar 1) (pSo (bN dMax (bCons (bC (.int 0)) (bCons (b2 dSub (bN dLen (bCons (bVar 1) (bNil))) (bVar 0)) (bNil))))) (pNo))
def g_end_of : List D → R D := fnD 2 m_end_of
def m_counted : Ga → R Fl := fSeq (fNd0 2) (fSeq (fForE (bVar 0) (bdN 3) (fForI (iR1 (b2 dAdd (bN dLen (bCons (bVar 3) (bNil))) (bC (.int 1)))) (bdN 4) (fSeq (fSet 5 (bCall g_end_of (bCons (bVar 1) (bCons (bSl (bVar 3) (pNo) (pSo (bVar 4))) (bNil))))) (fSeq (fSet 6 (bSl (bVar 3) (pSo (bVar 4)) (pSo (b2 dAdd (bVar 4) (bC (.int 1)))))) (fBump 2 7 5 6))))) (fFz 2 (fRet (bVar 2))))
def g_counted : List D → R D := fnD 8 m_counted
def m_listed : Ga → R Fl := fRet (bN dTuple (bCons (bLcE (bN dSort (bCons (bVar 0) (bNil))) [1] (bdN 1) yes (bTup (bCons (bVar 1) (bCons (b2 dIx (bVar 0) (bVar 1)) (bNil))))) (bNil)))
def g_listed : List D → R D := fnD 2 m_listed
def m_table : Ga → R Fl := fSeq (fExpr (bCall g_need_book (bCons (bVar 0) (bNil)))) (fSeq (fExpr (bCall g_need_order (bCons (bVar 1) (bNil)))) (fSeq (fSet 2 (bCall g_counted (bCons (bVar 0) (bCons (bVar 1) (bNil))))) (fRet (bLcE (bN dSort (bCons (bVar 2) (bNil))) [3] (bdN 3) yes (bTup (bCons (bVar 3) (bCons (bCall g_listed (bCons (b2 dIx (bVar 2) (bVar 3)) (bNil))) (bNil))))))))
def g_table : List D → R D := fnD 4 m_table
def m_behind : Ga → R Fl := fSeq (fExpr (bCall g_need_book (bCons (bVar 0) (bNil)))) (fSeq (fExpr (bCall g_need_order (bCons (bVar 1) (bNil)))) (fSeq (fIf (tVal (b2 dNe (bVar 2) (bC (.str [])))) (fExpr (bCall g_need_name (bCons (bVar 2) (bNil)))) (fNil)) (fRet (bN dList (bCons (bCall g_listed (bCons (bGet (bCall g_counted (bCons (bVar 0) (bCons (bVar 1) (bNil)))) (bCall g_end_of (bCons (bVar 1) (bCons (bVar 2) (bNil)))) (bC (.dic []))) (bNil))) (bNil))))))
def g_behind : List D → R D := fnD 3 m_behind
def m__law_cell : Ga → R Fl := fSeq (fIf (tVal (b2 dEq (bVar 0) (bLst (bNil)))) (fRet (b2 dMul (bC (.int 7)) (bVar 1))) (fNil)) (fRet (b2 dAdd (b2 dIx (bVar 0) (b2 dMod (bVar 1) (bN dLen (bCons (bVar 0) (bNil))))) (b2 dMul (bC (.int 6553)) (b2 dDiv (bVar 1) (bN dLen (bCons (bVar 0) (bNil)))))))
def g__law_cell : List D → R D := fnD 2 m__law_cell
def m__law_drawn : Ga → R Fl := fSeq (fSet 3 (b2 dMod (b2 dAdd (b2 dMul (b2 dMod (bCall g__law_cell (bCons (bVar 0) (bCons (bVar 1) (bNil)))) (bC (.int 2147483563))) (bC (.int 69069))) (b2 dMul (bC (.int 104723)) (b2 dAdd (bVar 1) (bC (.int 1))))) (bC (.int 2147483563)))) (fSeq (fSet 3 (b2 dMod (b2 dAdd (b2 dMul (bVar 3) (bVar 3)) (b2 dDiv (bVar 3) (bC (.int 3)))) (bC (.int 2147483399)))) (fRet (b2 dMod (b2 dDiv (b2 dMod (b2 dAdd (b2 dMul (bVar 3) (bVar 3)) (b2 dDiv (bVar 3) (bC (.int 7)))) (bC (.int 2147483647))) (bC (.int 11))) (bVar 2))))
def g__law_drawn : List D → R D := fnD 4 m__law_drawn
def m__law_name : Ga → R Fl := fSeq (fSet 3 (b2 dAdd (bC (.int 1)) (bCall g__law_drawn (bCons (bVar 0) (bCons (bVar 1) (bCons (bVar 2) (bNil))))))) (fSeq (fSet 4 (b2 dIx (bLst (bCons (bC (.str [97, 98])) (bCons (bC (.str [97, 98])) (bCons (bC (.str [97, 98, 122])) (bNil))))) (bCall g__law_drawn (bCons (bVar 0) (bCons (b2 dAdd (bVar 1) (bC (.int 9))) (bCons (bC (.int 3)) (bNil))))))) (fRet (b2s dJoin (bC (.str [])) (bLcI (iR1 (bVar 3)) [5] (bdN 5) yes (b2 dIx (bVar 4) (bCall g__law_drawn (bCons (bVar 0) (bCons (b2 dAdd (b2 dAdd (bVar 1) (bC (.int 1))) (bVar 5)) (bCons (bN dLen (bCons (bVar 4) (bNil))) (bNil))))))))))
def g__law_name : List D → R D := fnD 6 m__law_name
def m__law_book : Ga → R Fl := fSeq (fSet 4 (bTup (bNil))) (fSeq (fForI (iR1 (b2 dAdd (bC (.int 1)) (bCall g__law_drawn (bCons (bVar 0) (bCons (bVar 1) (bCons (bVar 2) (bNil))))))) (bdN 5) (fSet 4 (b2 dAdd (bVar 4) (bTup (bCons (bCall g__law_name (bCons (bVar 0) (bCons (b2 dAdd (b2 dAdd (bVar 1) (bC (.int 1))) (b2 dMul (bC (.int 10)) (bVar 5))) (bCons (bVar 3) (bNil))))) (bNil)))))) (fRet (bVar 4)))
def g__law_book : List D → R D := fnD 6 m__law_book
def m_lowest : Ga → R Fl := fSeq (fSet 2 (bVar 0)) (fSeq (fSet 3 (bVar 1)) (fSeq (fWh (tVal (b2 dGt (bVar 2) (bC (.int 0)))) (fPar 2 3 (b2 dMod (bVar 3) (bVar 2)) (bVar 2))) (fRet (bTup (bCons (b2 dDiv (bVar 0) (bVar 3)) (bCons (b2 dDiv (bVar 1) (bVar 3)) (bNil)))))))
def g_lowest : List D → R D := fnD 4 m_lowest
def m_added : Ga → R Fl := fRet (bCall g_lowest (bCons (b2 dAdd (b2 dMul (b2 dIx (bVar 0) (bC (.int 0))) (b2 dIx (bVar 1) (bC (.int 1)))) (b2 dMul (b2 dIx (bVar 1) (bC (.int 0))) (b2 dIx (bVar 0) (bC (.int 1))))) (bCons (b2 dMul (b2 dIx (bVar 0) (bC (.int 1))) (b2 dIx (bVar 1) (bC (.int 1)))) (bNil))))
def g_added : List D → R D := fnD 2 m_added
def m_times : Ga → R Fl := fRet (bCall g_lowest (bCons (b2 dMul (b2 dIx (bVar 0) (bC (.int 0))) (b2 dIx (bVar 1) (bC (.int 0)))) (bCons (b2 dMul (b2 dIx (bVar 0) (bC (.int 1))) (b2 dIx (bVar 1) (bC (.int 1)))) (bNil))))
def g_times : List D → R D := fnD 2 m_times
def m_is_less : Ga → R Fl := fRet (b2 dLt (b2 dMul (b2 dIx (bVar 0) (bC (.int 0))) (b2 dIx (bVar 1) (bC (.int 1)))) (b2 dMul (b2 dIx (bVar 1) (bC (.int 0))) (b2 dIx (bVar 0) (bC (.int 1)))))
def g_is_less : List D → R D := fnD 2 m_is_less
def m_part_of : Ga → R Fl := fSeq (fSet 3 (bGet (bVar 0) (bVar 1) (bC (.dic [])))) (fSeq (fIf (tVal (b2 dNotIn (bVar 2) (bVar 3))) (fRet (bTup (bCons (bC (.int 0)) (bCons (bC (.int 1)) (bNil))))) (fNil)) (fRet (bCall g_lowest (bCons (b2 dIx (bVar 3) (bVar 2)) (bCons (bN dSum (bCons (bLcE (bVar 3) [4] (bdN 4) yes (b2 dIx (bVar 3) (bVar 4))) (bNil))) (bNil))))))
def g_part_of : List D → R D := fnD 5 m_part_of
def m_steps : Ga → R Fl := fSeq (fExpr (bCall g_need_book (bCons (bVar 0) (bNil)))) (fSeq (fExpr (bCall g_need_order (bCons (bVar 1) (bNil)))) (fSeq (fExpr (bCall g_need_name (bCons (bVar 2) (bNil)))) (fSeq (fSet 3 (bCall g_counted (bCons (bVar 0) (bCons (bVar 1) (bNil))))) (fSeq (fOwn 4 (bLst (bNil))) (fSeq (fForI (iR1 (b2 dAdd (bN dLen (bCons (bVar 2) (bNil))) (bC (.int 1)))) (bdN 5) (fSeq (fSet 6 (bCall g_end_of (bCons (bVar 1) (bCons (bSl (bVar 2) (pNo) (pSo (bVar 5))) (bNil))))) (fSeq (fSet 7 (bSl (bVar 2) (pSo (bVar 5)) (pSo (b2 dAdd (bVar 5) (bC (.int 1)))))) (fApp 4 (bTup (bCons (bVar 6) (bCons (bVar 7) (bCons (bCall g_part_of (bCons (bVar 3) (bCons (bVar 6) (bCons (bVar 7) (bNil))))) (bNil))))))))) (fFz 4 (fRet (bVar 4))))))))
def g_steps : List D → R D := fnD 8 m_steps
def m_share : Ga → R Fl := fSeq (fSet 3 (bTup (bCons (bC (.int 1)) (bCons (bC (.int 1)) (bNil))))) (fSeq (fForE (bCall g_steps (bCons (bVar 0) (bCons (bVar 1) (bCons (bVar 2) (bNil))))) (bdT [4, 5, 6]) (fSet 3 (bCall g_times (bCons (bVar 3) (bCons (bVar 6) (bNil)))))) (fRet (bVar 3)))
def g_share : List D → R D := fnD 7 m_share
def m_makes : Ga → R Fl := fRet (b2 dGt (b2 dIx (bCall g_share (bCons (bVar 0) (bCons (bVar 1) (bCons (bVar 2) (bNil))))) (bC (.int 0))) (bC (.int 0)))
def g_makes : List D → R D := fnD 3 m_makes
def m_need_number : Ga → R Fl := fIf (tNot (tVal (bCall g_is_number (bCons (bVar 0) (bCons (bVar 1) (bCons (bVar 2) (bNil))))))) (fRaise 4) (fNil)
def g_need_number : List D → R D := fnD 3 m_need_number
def m_need_all : Ga → R Fl := fSeq (fExpr (bCall g_need_book (bCons (bVar 0) (bNil)))) (fSeq (fExpr (bCall g_need_order (bCons (bVar 1) (bNil)))) (fExpr (bCall g_need_number (bCons (bVar 2) (bCons (bC (.int 1)) (bCons (bC (.int 8)) (bNil)))))))
def g_need_all : List D → R D := fnD 3 m_need_all
def m_ways : Ga → R Fl := fSeq (fSet 3 (bDic1 (bC (.str [])) (bTup (bCons (bC (.int 1)) (bCons (bTup (bCons (bC (.int 1)) (bCons (bC (.int 1)) (bNil)))) (bNil)))))) (fSeq (fForI (iR1 (bVar 2)) (bdN 4) (fSeq (fOwn 5 (bC (.dic []))) (fSeq (fForE (bVar 3) (bdN 6) (fSeq (fBd (bdT [8, 9]) (b2 dIx (bVar 3) (bVar 6))) (fForE (bGet (bVar 0) (bVar 6) (bC (.dic []))) (bdN 7) (fIf (tVal (b2 dNe (bVar 7) (bC (.str [])))) (fSeq (fSet 10 (bCall g_end_of (bCons (bVar 1) (bCons (b2 dAdd (bVar 6) (bVar 7)) (bNil))))) (fSeq (fSet 11 (bGet (bRd 5) (bVar 10) (bTup (bCons (bC (.int 0)) (bCons (bTup (bCons (bC (.int 0)) (bCons (bC (.int 1)) (bNil)))) (bNil)))))) (fSeq (fSet 12 (bCall g_times (bCons (bVar 9) (bCons (bCall g_part_of (bCons (bVar 0) (bCons (bVar 6) (bCons (bVar 7) (bNil))))) (bNil))))) (fPut 5 (bVar 10) (bTup (bCons (b2 dAdd (b2 dIx (bVar 11) (bC (.int 0))) (bVar 8)) (bCons (bCall g_added (bCons (b2 dIx (bVar 11) (bC (.int 1))) (bCons (bVar 12) (bNil)))) (bNil)))))))) (fNil))))) (fFz 5 (fSet 3 (bVar 5)))))) (fRet (bVar 3)))
def g_ways : List D → R D := fnD 13 m_ways
def m_how_many : Ga → R Fl := fSeq (fExpr (bCall g_need_all (bCons (bVar 0) (bCons (bVar 1) (bCons (bVar 2) (bNil)))))) (fSeq (fSet 3 (bCall g_counted (bCons (bVar 0) (bCons (bVar 1) (bNil))))) (fSeq (fSet 4 (bCall g_ways (bCons (bVar 3) (bCons (bVar 1) (bCons (bVar 2) (bNil)))))) (fRet (bN dSum (bCons (bLcE (bVar 4) [5] (bdN 5) (tVal (b2 dIn (bC (.str [])) (bGet (bVar 3) (bVar 5) (bC (.dic []))))) (b2 dIx (b2 dIx (bVar 4) (bVar 5)) (bC (.int 0)))) (bNil))))))
def g_how_many : List D → R D := fnD 6 m_how_many
def m_share_of_length : Ga → R Fl := fSeq (fExpr (bCall g_need_all (bCons (bVar 0) (bCons (bVar 1) (bCons (bVar 2) (bNil)))))) (fSeq (fSet 3 (bCall g_counted (bCons (bVar 0) (bCons (bVar 1) (bNil))))) (fSeq (fSet 4 (bTup (bCons (bC (.int 0)) (bCons (bC (.int 1)) (bNil))))) (fSeq (fSet 5 (bCall g_ways (bCons (bVar 3) (bCons (bVar 1) (bCons (bVar 2) (bNil)))))) (fSeq (fForE (bVar 5) (bdN 6) (fSet 4 (bCall g_added (bCons (bVar 4) (bCons (bCall g_times (bCons (b2 dIx (b2 dIx (bVar 5) (bVar 6)) (bC (.int 1))) (bCons (bCall g_part_of (bCons (bVar 3) (bCons (bVar 6) (bCons (bC (.str [])) (bNil))))) (bNil)))) (bNil)))))) (fRet (bVar 4))))))
def g_share_of_length : List D → R D := fnD 7 m_share_of_length
def m_share_up_to : Ga → R Fl := fSeq (fExpr (bCall g_need_all (bCons (bVar 0) (bCons (bVar 1) (bCons (bVar 2) (bNil)))))) (fSeq (fSet 3 (bTup (bCons (bC (.int 0)) (bCons (bC (.int 1)) (bNil))))) (fSeq (fForI (iR2 (bC (.int 1)) (b2 dAdd (bVar 2) (bC (.int 1)))) (bdN 4) (fSet 3 (bCall g_added (bCons (bVar 3) (bCons (bCall g_share_of_length (bCons (bVar 0) (bCons (bVar 1) (bCons (bVar 4) (bNil))))) (bNil)))))) (fRet (bVar 3))))
def g_share_up_to : List D → R D := fnD 5 m_share_up_to
def m_is_end : Ga → R Fl := fRet (bAnd (b1 (dIsi .str) (bVar 0)) (bAnd (b2 dLe (bN dLen (bCons (bVar 0) (bNil))) (bC (.int 3))) (bN dAll (bCons (bLcE (bVar 0) [1] (bdN 1) yes (b2 dIn (bVar 1) (bC (.str [97, 98, 99, 100, 101, 102, 103, 104, 105, 106, 107, 108, 109, 110, 111, 112, 113, 114, 115, 116, 117, 118, 119, 120, 121, 122])))) (bNil)))))
def g_is_end : List D → R D := fnD 2 m_is_end
def m_is_wish : Ga → R Fl := fSeq (fIf (tOr (tNot (tVal (b1 (dIsi .tup) (bVar 0)))) (tOr (tVal (b2 dNe (bN dLen (bCons (bVar 0) (bNil))) (bC (.int 6)))) (tNot (tVal (bCall g_is_number (bCons (b2 dIx (bVar 0) (bC (.int 0))) (bCons (bC (.int 1)) (bCons (bC (.int 8)) (bNil))))))))) (fRet (bC (.bl false))) (fNil)) (fSeq (fIf (tOr (tNot (tVal (bCall g_is_number (bCons (b2 dIx (bVar 0) (bC (.int 1))) (bCons (b2 dIx (bVar 0) (bC (.int 0))) (bCons (bC (.int 8)) (bNil))))))) (tOr (tNot (tVal (bCall g_is_end (bCons (b2 dIx (bVar 0) (bC (.int 2))) (bNil))))) (tNot (tVal (bCall g_is_end (bCons (b2 dIx (bVar 0) (bC (.int 3))) (bNil))))))) (fRet (bC (.bl false))) (fNil)) (fSeq (fIf (tOr (tNot (tVal (b1 (dIsi .tup) (b2 dIx (bVar 0) (bC (.int 4)))))) (tOr (tVal (b2 dGt (bN dLen (bCons (b2 dIx (bVar 0) (bC (.int 4))) (bNil))) (bC (.int 6)))) (tNot (tVal (bN dAll (bCons (bLcE (b2 dIx (bVar 0) (bC (.int 4))) [1] (bdN 1) yes (bCall g_is_name (bCons (bVar 1) (bNil)))) (bNil))))))) (fRet (bC (.bl false))) (fNil)) (fRet (bAnd (bN dAll (bCons (bLcI (iZpA (b2 dIx (bVar 0) (bC (.int 4))) (bSl (b2 dIx (bVar 0) (bC (.int 4))) (pSo (bC (.int 1))) (pNo))) [1, 2] (bdT [1, 2]) yes (b2 dLt (bVar 1) (bVar 2))) (bNil))) (b1 (dIsi .bool) (b2 dIx (bVar 0) (bC (.int 5))))))))
def g_is_wish : List D → R D := fnD 3 m_is_wish
def m_need_wish : Ga → R Fl := fIf (tNot (tVal (bCall g_is_wish (bCons (bVar 0) (bNil))))) (fRaise 3) (fNil)
def g_need_wish : List D → R D := fnD 1 m_need_wish
def m_is_fit : Ga → R Fl := fSeq (fBd (bdT [3, 4, 5, 6, 7, 8]) (bVar 1)) (fSeq (fIf (tOr (tNot (tVal (bCh dLe dLe (bVar 3) (bN dLen (bCons (bVar 2) (bNil))) (bVar 4)))) (tOr (tNot (tVal (b2s dSw (bVar 2) (bVar 5)))) (tNot (tVal (b2s dEw (bVar 2) (bVar 6)))))) (fRet (bC (.bl false))) (fNil)) (fRet (bAnd (b2 dNotIn (bVar 2) (bVar 7)) (bOr (bVar 8) (b2 dNotIn (bVar 2) (bVar 0))))))
def g_is_fit : List D → R D := fnD 9 m_is_fit
def m_comes_first : Ga → R Fl := fRet (bOr (bCall g_is_less (bCons (b2 dIx (bVar 1) (bC (.int 0))) (bCons (b2 dIx (bVar 0) (bC (.int 0))) (bNil)))) (bAnd (b2 dEq (b2 dIx (bVar 0) (bC (.int 0))) (b2 dIx (bVar 1) (bC (.int 0)))) (b2 dLt (b2 dIx (bVar 0) (bC (.int 1))) (b2 dIx (bVar 1) (bC (.int 1))))))
def g_comes_first : List D → R D := fnD 2 m_comes_first
def m_Search___init__ : Ga → R Fl := fOpen 0 (fSeq (fFld 0 0 0 (bVar 1)) (fSeq (fFld 0 0 1 (bVar 2)) (fSeq (fFld 0 0 2 (bVar 3)) (fSeq (fFld 0 0 3 (bCall g_counted (bCons (bVar 1) (bCons (bVar 2) (bNil))))) (fSeq (fFldO 0 0 4 (bLst (bCons (bTup (bCons (bTup (bCons (bC (.int 1)) (bCons (bC (.int 1)) (bNil)))) (bCons (bC (.str [])) (bNil)))) (bNil)))) (fFldO 0 0 5 (bLst (bNil))))))))
def g_Search___init__ : List Sl → R (D × Sl) := fnM 4 0 m_Search___init__
def m_Search_best : Ga → R Fl := fSeq (fSet 1 (bC (.int 0))) (fSeq (fForI (iEn (bFld 0 0 4)) (bdT [2, 3]) (fIf (tVal (bCall g_is_less (bCons (b2 dIx (b2 dIx (bFld 0 0 4) (bVar 1)) (bC (.int 0))) (bCons (b2 dIx (bVar 3) (bC (.int 0))) (bNil))))) (fSet 1 (bVar 2)) (fNil))) (fRet (bVar 1)))
def g_Search_best : List Sl → R D := fnR 4 m_Search_best
def m_Search_is_done : Ga → R Fl := fSeq (fIf (tVal (b2 dEq (bFld 0 0 4) (bLst (bNil)))) (fRet (bC (.bl true))) (fNil)) (fRet (bAnd (b2 dGe (bN dLen (bCons (bFld 0 0 5) (bNil))) (bVar 1)) (bCall g_is_less (bCons (b2 dIx (b2 dIx (bFld 0 0 4) (bCallR g_Search_best (aO 0 0 aNil))) (bC (.int 0))) (bCons (b2 dIx (b2 dIx (bFld 0 0 5) (b2 dSub (bVar 1) (bC (.int 1)))) (bC (.int 0))) (bNil))))))
def g_Search_is_done : List Sl → R D := fnR 2 m_Search_is_done
def m_Search_go_on : Ga → R Fl := fSeq (fSet 3 (b2 dIx (bFld 0 0 2) (bC (.int 2)))) (fIf (tAnd (tVal (b2 dLe (bN dLen (bCons (bVar 2) (bNil))) (b2 dIx (bFld 0 0 2) (bC (.int 1))))) (tVal (b2 dEq (bSl (bVar 2) (pNo) (pSo (bN dLen (bCons (bVar 3) (bNil))))) (bSl (bVar 3) (pNo) (pSo (bN dLen (bCons (bVar 2) (bNil)))))))) (fFApp 0 0 4 (bTup (bCons (bVar 1) (bCons (bVar 2) (bNil))))) (fNil))
def g_Search_go_on : List Sl → R (D × Sl) := fnO 4 0 m_Search_go_on
def m_Search_put : Ga → R Fl := fSeq (fSet 2 (bC (.int 0))) (fSeq (fWh (tAnd (tVal (b2 dLt (bVar 2) (bN dLen (bCons (bFldR 0 0 5) (bNil))))) (tVal (bCall g_comes_first (bCons (b2 dIx (bFldR 0 0 5) (bVar 2)) (bCons (bVar 1) (bNil)))))) (fSet 2 (b2 dAdd (bVar 2) (bC (.int 1))))) (fFIns 0 0 5 (bVar 2) (bVar 1)))
def g_Search_put : List Sl → R (D × Sl) := fnO 3 0 m_Search_put
def m_Search_step : Ga → R Fl := fSeq (fBdE (bdT [3, 4]) (nx (ePop 0 0 4 (bCallR g_Search_best (aO 0 0 aNil))))) (fSeq (fSet 1 (bCall g_end_of (bCons (bFld 0 0 1) (bCons (bVar 4) (bNil))))) (fForE (bN dSort (bCons (bGet (bFld 0 0 3) (bVar 1) (bC (.dic []))) (bNil))) (bdN 2) (fSeq (fSet 5 (bCall g_times (bCons (bVar 3) (bCons (bCall g_part_of (bCons (bFld 0 0 3) (bCons (bVar 1) (bCons (bVar 2) (bNil))))) (bNil))))) (fIf (tVal (b2 dNe (bVar 2) (bC (.str [])))) (fExprE (nx (eCall g_Search_go_on 0 0 0 (bCons (bVar 5) (bCons (b2 dAdd (bVar 4) (bVar 2)) (bNil)))))) (fIf (tAnd (tVal (b2 dNe (bVar 4) (bC (.str [])))) (tVal (bCall g_is_fit (bCons (bFld 0 0 0) (bCons (bFld 0 0 2) (bCons (bVar 4) (bNil))))))) (fExprE (nx (eCall g_Search_put 0 0 0 (bCons (bTup (bCons (bVar 5) (bCons (bVar 4) (bNil)))) (bNil))))) (fNil))))))
def g_Search_step : List Sl → R (D × Sl) := fnO 6 0 m_Search_step
def m_likeliest_of : Ga → R Fl := fSeq (fNew 4 (mkG g_Search___init__ 0 (bCons (bVar 0) (bCons (bVar 1) (bCons (bVar 2) (bNil)))))) (fSeq (fWh (tNot (tVal (bCallR g_Search_is_done (aO 0 4 (aD (bVar 3) (aNil)))))) (fExprE (nx (eCall g_Search_step 0 4 0 bNil)))) (fRet (bSl (bFldR 0 4 5) (pNo) (pSo (bVar 3)))))
def g_likeliest_of : List D → R D := fnD 5 m_likeliest_of
def m_likeliest : Ga → R Fl := fSeq (fExpr (bCall g_need_book (bCons (bVar 0) (bNil)))) (fSeq (fExpr (bCall g_need_order (bCons (bVar 1) (bNil)))) (fSeq (fExpr (bCall g_need_wish (bCons (bVar 2) (bNil)))) (fSeq (fExpr (bCall g_need_number (bCons (bVar 3) (bCons (bC (.int 1)) (bCons (bC (.int 20)) (bNil)))))) (fRet (bCall g_likeliest_of (bCons (bVar 0) (bCons (bVar 1) (bCons (bVar 2) (bCons (bVar 3) (bNil))))))))))
def g_likeliest : List D → R D := fnD 4 m_likeliest
def m_letter_text : Ga → R Fl := fRet (b2 dAdd (bIf (tVal (b2 dEq (bVar 0) (bC (.str [])))) (bC (.str [46])) (bVar 0)) (bN dStrI (bCons (bVar 1) (bNil))))
def g_letter_text : List D → R D := fnD 2 m_letter_text
def m_need_begun : Ga → R Fl := fSeq (fExpr (bCall g_need_book (bCons (bVar 0) (bNil)))) (fSeq (fExpr (bCall g_need_order (bCons (bVar 1) (bNil)))) (fIf (tVal (b2 dNe (bVar 2) (bC (.str [])))) (fExpr (bCall g_need_name (bCons (bVar 2) (bNil)))) (fNil)))
def g_need_begun : List D → R D := fnD 3 m_need_begun
def m_next_letters : Ga → R Fl := fSeq (fExpr (bCall g_need_begun (bCons (bVar 0) (bCons (bVar 1) (bCons (bVar 2) (bNil)))))) (fSeq (fSet 3 (bCall g_end_of (bCons (bVar 1) (bCons (bVar 2) (bNil))))) (fSeq (fSet 4 (bCall g_counted (bCons (bVar 0) (bCons (bVar 1) (bNil))))) (fSeq (fOwn 5 (bLst (bNil))) (fSeq (fForE (bN dSort (bCons (bGet (bVar 4) (bVar 3) (bC (.dic []))) (bNil))) (bdN 6) (fIf (tVal (b2 dNe (bVar 6) (bC (.str [])))) (fSeq (fSet 7 (bCall g_part_of (bCons (bVar 4) (bCons (bVar 3) (bCons (bVar 6) (bNil)))))) (fSeq (fSet 8 (bN dLen (bCons (bLcO 5 [9] (bdN 9) (tNot (tVal (bCall g_is_less (bCons (b2 dIx (bVar 9) (bC (.int 1))) (bCons (bVar 7) (bNil)))))) (bVar 9)) (bNil)))) (fIns 5 (bVar 8) (bTup (bCons (bVar 6) (bCons (bVar 7) (bNil))))))) (fNil))) (fFz 5 (fRet (bVar 5)))))))
def g_next_letters : List D → R D := fnD 10 m_next_letters
def m_part_begun : Ga → R Fl := fSeq (fSet 3 (bTup (bCons (bC (.int 1)) (bCons (bC (.int 1)) (bNil))))) (fSeq (fForI (iR1 (bN dLen (bCons (bVar 2) (bNil)))) (bdN 4) (fSet 3 (bCall g_times (bCons (bVar 3) (bCons (bCall g_part_of (bCons (bVar 0) (bCons (bCall g_end_of (bCons (bVar 1) (bCons (bSl (bVar 2) (pNo) (pSo (bVar 4))) (bNil)))) (bCons (b2 dIx (bVar 2) (bVar 4)) (bNil))))) (bNil)))))) (fRet (bVar 3)))
def g_part_begun : List D → R D := fnD 5 m_part_begun
def m_ended : Ga → R Fl := fSeq (fSet 4 (bCall g_end_of (bCons (bVar 1) (bCons (bVar 2) (bNil))))) (fSeq (fSet 5 (bDic1 (bVar 4) (bTup (bCons (bC (.int 1)) (bCons (bTup (bCons (bC (.int 1)) (bCons (bC (.int 1)) (bNil)))) (bNil)))))) (fSeq (fSet 6 (bC (.int 0))) (fSeq (fSet 7 (bTup (bCons (bC (.int 0)) (bCons (bC (.int 1)) (bNil))))) (fSeq (fForI (iR1 (b2 dAdd (bVar 3) (bC (.int 1)))) (bdN 8) (fSeq (fOwn 9 (bC (.dic []))) (fSeq (fForE (bVar 5) (bdN 10) (fSeq (fBd (bdT [12, 13]) (b2 dIx (bVar 5) (bVar 10))) (fSeq (fIf (tAnd (tVal (b2 dIn (bC (.str [])) (bGet (bVar 0) (bVar 10) (bC (.dic []))))) (tOr (tVal (b2 dNe (bVar 2) (bC (.str [])))) (tVal (b2 dGt (bVar 8) (bC (.int 0)))))) (fSeq (fSet 6 (b2 dAdd (bVar 6) (bVar 12))) (fSet 7 (bCall g_added (bCons (bVar 7) (bCons (bCall g_times (bCons (bVar 13) (bCons (bCall g_part_of (bCons (bVar 0) (bCons (bVar 10) (bCons (bC (.str [])) (bNil))))) (bNil)))) (bNil)))))) (fNil)) (fForE (bGet (bVar 0) (bVar 10) (bC (.dic []))) (bdN 11) (fIf (tVal (b2 dNe (bVar 11) (bC (.str [])))) (fSeq (fSet 14 (bCall g_end_of (bCons (bVar 1) (bCons (b2 dAdd (bVar 10) (bVar 11)) (bNil))))) (fSeq (fSet 15 (bGet (bRd 9) (bVar 14) (bTup (bCons (bC (.int 0)) (bCons (bTup (bCons (bC (.int 0)) (bCons (bC (.int 1)) (bNil)))) (bNil)))))) (fSeq (fSet 16 (bCall g_times (bCons (bVar 13) (bCons (bCall g_part_of (bCons (bVar 0) (bCons (bVar 10) (bCons (bVar 11) (bNil))))) (bNil))))) (fPut 9 (bVar 14) (bTup (bCons (b2 dAdd (b2 dIx (bVar 15) (bC (.int 0))) (bVar 12)) (bCons (bCall g_added (bCons (b2 dIx (bVar 15) (bC (.int 1))) (bCons (bVar 16) (bNil)))) (bNil)))))))) (fNil)))))) (fFz 9 (fSet 5 (bVar 9)))))) (fRet (bTup (bCons (bVar 6) (bCons (bVar 7) (bNil)))))))))
def g_ended : List D → R D := fnD 17 m_ended
def m_how_many_begun : Ga → R Fl := fSeq (fExpr (bCall g_need_begun (bCons (bVar 0) (bCons (bVar 1) (bCons (bVar 2) (bNil)))))) (fSeq (fSet 3 (bCall g_counted (bCons (bVar 0) (bCons (bVar 1) (bNil))))) (fSeq (fIf (tVal (b2 dEq (b2 dIx (bCall g_part_begun (bCons (bVar 3) (bCons (bVar 1) (bCons (bVar 2) (bNil))))) (bC (.int 0))) (bC (.int 0)))) (fRet (bC (.int 0))) (fNil)) (fRet (b2 dIx (bCall g_ended (bCons (bVar 3) (bCons (bVar 1) (bCons (bVar 2) (bCons (b2 dSub (bC (.int 8)) (bN dLen (bCons (bVar 2) (bNil)))) (bNil)))))) (bC (.int 0))))))
def g_how_many_begun : List D → R D := fnD 4 m_how_many_begun
def m_share_begun : Ga → R Fl := fSeq (fExpr (bCall g_need_begun (bCons (bVar 0) (bCons (bVar 1) (bCons (bVar 2) (bNil)))))) (fSeq (fSet 3 (bCall g_counted (bCons (bVar 0) (bCons (bVar 1) (bNil))))) (fRet (bCall g_times (bCons (bCall g_part_begun (bCons (bVar 3) (bCons (bVar 1) (bCons (bVar 2) (bNil))))) (bCons (b2 dIx (bCall g_ended (bCons (bVar 3) (bCons (bVar 1) (bCons (bVar 2) (bCons (b2 dSub (bC (.int 8)) (bN dLen (bCons (bVar 2) (bNil)))) (bNil)))))) (bC (.int 1))) (bNil))))))
def g_share_begun : List D → R D := fnD 4 m_share_begun
def m_likeliest_begun : Ga → R Fl := fSeq (fExpr (bCall g_need_begun (bCons (bVar 0) (bCons (bVar 1) (bCons (bVar 2) (bNil)))))) (fSeq (fIf (tVal (b2 dEq (bCall g_how_many_begun (bCons (bVar 0) (bCons (bVar 1) (bCons (bVar 2) (bNil))))) (bC (.int 0)))) (fRet (bC .non)) (fNil)) (fRet (b2 dIx (b2 dIx (bCall g_likeliest_of (bCons (bVar 0) (bCons (bVar 1) (bCons (bTup (bCons (bC (.int 1)) (bCons (bC (.int 8)) (bCons (bVar 2) (bCons (bC (.str [])) (bCons (bTup (bNil)) (bCons (bC (.bl true)) (bNil)))))))) (bCons (bC (.int 1)) (bNil)))))) (bC (.int 0))) (bC (.int 1)))))
def g_likeliest_begun : List D → R D := fnD 3 m_likeliest_begun
end
end KN
/-! KnZ: a law's end -/
namespace KN
open PySem PySem.Spec PyProof.Rows L2
theorem cx_end {P : Program} {w : World} {outer : List Env} {H : Hp} {s s' : Shared} {e : Value} (h : L2.CX P w outer H s (fun _ _ _ => False) e s') : False := by
  obtain ⟨_, _, _, _, _, _, _, _, _, _, _, _, h⟩ := h
  exact h
end KN
/-! PA: how meanings are computed; the small defs of every law -/
namespace KN
open PySem PySem.Spec PyProof.Rows L2
noncomputable section
section
variable {f g : Ga → R Fl} {fa fb fc : Ga → R D} {γ : Ga} {p q : Ga → R Bool}
@[simp] theorem fSeq_e : fSeq f g γ = match f γ with | .ok (.nx γ') => g γ' | .ok (.rx (.rm none _)) => .no | r => r := rfl
@[simp] theorem fSet_e {i} : fSet i fa γ = (fa γ).bind fun d => .ok (.nx (γ.set i (.va d))) := rfl
@[simp] theorem fOwn_e {i} : fOwn i fa γ = (fa γ).bind fun d => .ok (.nx (γ.set i (.ow d))) := rfl
@[simp] theorem fNd0_e {i} : fNd0 i γ = .ok (.nx (γ.set i (.nd []))) := rfl
@[simp] theorem fExpr_e : fExpr fa γ = (fa γ).bind fun _ => .ok (.nx γ) := rfl
@[simp] theorem fRet_e : fRet fa γ = (fa γ).bind fun d => .ok (.rt d) := rfl
@[simp] theorem fRetN_e : fRetN γ = .ok (.rt .non) := rfl
@[simp] theorem fNil_e : fNil γ = .ok (.nx γ) := rfl
@[simp] theorem fIf_e : fIf p f g γ = (p γ).bind fun b => if b = true then f γ else g γ := rfl
@[simp] theorem fFz_e {i} : fFz i f γ = match γ[i]? with
  | some (.ow d) => f (γ.set i (.va d))
  | some (.nd es) => f (γ.set i (.va (.dic (es.map fun e => (e.1, .dic e.2)))))
  | _ => .no := rfl
@[simp] theorem bVar_e {i} : bVar i γ = match γ[i]? with | some (.va d) => .ok d | _ => .no := rfl
@[simp] theorem bRd_e {i} : bRd i γ = match γ[i]? with | some (.ow d) => .ok d | _ => .no := rfl
@[simp] theorem bC_e {d} : bC d γ = .ok d := rfl
@[simp] theorem b1_e {h} : b1 h fa γ = (fa γ).bind h := rfl
@[simp] theorem b2_e {h} : b2 h fa fb γ = (fa γ).bind fun x => (fb γ).bind fun y => h x y := rfl
@[simp] theorem bNil_e : bNil γ = .ok [] := rfl
@[simp] theorem bCons_e {fs} : bCons fa fs γ = (fa γ).bind fun x => (fs γ).bind fun xs => .ok (x :: xs) := rfl
@[simp] theorem bN_e {h fs} : bN h fs γ = (fs γ).bind h := rfl
@[simp] theorem bCall_e {h fs} : bCall h fs γ = (fs γ).bind h := rfl
@[simp] theorem bIf_e : bIf p fa fb γ = (p γ).bind fun b => if b = true then fa γ else fb γ := rfl
@[simp] theorem tVal_e : tVal fa γ = (fa γ).bind tB := rfl
@[simp] theorem tB_e {b} : tB (.bl b) = .ok b := rfl
@[simp] theorem tAnd_e : tAnd p q γ = (p γ).bind fun b => if b = true then q γ else .ok false := rfl
@[simp] theorem tOr_e : tOr p q γ = (p γ).bind fun b => if b = true then .ok true else q γ := rfl
@[simp] theorem tNot_e : tNot p γ = (p γ).bind fun b => .ok (!b) := rfl
@[simp] theorem bTup_e {fs} : bTup fs γ = (fs γ).bind fun xs => if xs.length ≤ lim then .ok (.tup xs) else .no := rfl
@[simp] theorem bLst_e {fs} : bLst fs γ = (fs γ).bind fun xs => if xs.length ≤ lim then .ok (.lst xs) else .no := rfl
@[simp] theorem fnD_e {n body ds} : fnD n body ds = match body (ds.map .va ++ List.replicate (n - ds.length) .un) with
  | .ok (.rt d) => .ok d
  | .ok (.nx _) => .ok .non
  | .ex c => .ex c
  | _ => .no := rfl
end
@[simp] theorem dAdd_i {i j} : dAdd (.int i) (.int j) = .ok (.int (i + j)) := rfl
@[simp] theorem dSub_i {i j} : dSub (.int i) (.int j) = .ok (.int (i - j)) := rfl
@[simp] theorem dLt_i {i j} : dLt (.int i) (.int j) = .ok (.bl (decide (i < j))) := rfl
@[simp] theorem dLe_i {i j} : dLe (.int i) (.int j) = .ok (.bl (decide (i ≤ j))) := rfl
@[simp] theorem dGt_i {i j} : dGt (.int i) (.int j) = .ok (.bl (decide (j < i))) := rfl
@[simp] theorem dGe_i {i j} : dGe (.int i) (.int j) = .ok (.bl (decide (j ≤ i))) := rfl
@[simp] theorem dLen_l {xs} : dLen [.lst xs] = .ok (.int xs.length) := rfl
@[simp] theorem dLen_t {xs} : dLen [.tup xs] = .ok (.int xs.length) := rfl
@[simp] theorem dLen_d {xs} : dLen [.dic xs] = .ok (.int xs.length) := rfl
theorem lim_val : lim = 1000000 := rfl
theorem log_s {n : Nat} (hn : n < 2 ^ 100) : n.log2 ≤ 100 := by
  rcases Nat.eq_zero_or_pos n with rfl | hp
  · decide
  · have := (Nat.log2_lt (by omega)).mpr hn; omega
theorem dMul_i {i j : Int} : dMul (.int i) (.int j) = if i.natAbs.log2 + j.natAbs.log2 < 1000000 then .ok (.int (i * j)) else .no := rfl
theorem dDiv_i {i j : Int} : dDiv (.int i) (.int j) = if 0 < j ∧ j.natAbs.log2 < 9000 then .ok (.int (i / j)) else .no := rfl
theorem dMod_i {i j : Int} : dMod (.int i) (.int j) = if 0 < j then .ok (.int (i % j)) else .no := rfl
theorem dMul_s {i j : Int} (h : i.natAbs < 2 ^ 100) (k : j.natAbs < 2 ^ 100) : dMul (.int i) (.int j) = .ok (.int (i * j)) := by
  have h1 := log_s h
  have h2 := log_s k
  rw [dMul_i, if_pos (by omega)]
theorem dDiv_s {i j : Int} (h : 0 < j) (k : j.natAbs < 2 ^ 100) : dDiv (.int i) (.int j) = .ok (.int (i / j)) := by
  have h2 := log_s k
  rw [dDiv_i, if_pos ⟨h, by omega⟩]
theorem dMod_s {i j : Int} (h : 0 < j) : dMod (.int i) (.int j) = .ok (.int (i % j)) := by rw [dMod_i, if_pos h]
def Lk (ns : List Int) : D := .lst (ns.map .int)
theorem at_nat {α : Type} {xs : List α} {i : Int} (h0 : 0 ≤ i) (h1 : i < xs.length) : ∃ x, atI xs i = some x ∧ xs[i.toNat]? = some x := by
  obtain ⟨n, rfl⟩ := Int.eq_ofNat_of_zero_le h0
  have hn : n < xs.length := by omega
  exact ⟨xs[n], L2.atI_nat (List.getElem?_eq_getElem hn), List.getElem?_eq_getElem hn⟩
@[simp] theorem dIx_l {xs i} : dIx (.lst xs) (.int i) = o2r (L2.atI xs i) := rfl
@[simp] theorem dIx_t {xs i} : dIx (.tup xs) (.int i) = o2r (L2.atI xs i) := rfl
@[simp] theorem dIx_d {es k} : dIx (.dic es) (.str k) = o2r (lookK es k) := rfl
@[simp] theorem o2r_some {α : Type} {a : α} : o2r (some a) = .ok a := rfl
theorem pl_lst (n : Nat) (xs : List D) : pl (n + 1) (.lst xs) = xs.all (pl n) := rfl
theorem pl_tup (n : Nat) (xs : List D) : pl (n + 1) (.tup xs) = xs.all (pl n) := rfl
@[simp] theorem pl_int (n : Nat) (i : Int) : pl n (.int i) = true := by cases n <;> rfl
@[simp] theorem pl_bl (n : Nat) (i : Bool) : pl n (.bl i) = true := by cases n <;> rfl
@[simp] theorem pl_non (n : Nat) : pl n .non = true := by cases n <;> rfl
@[simp] theorem pl_str (n : Nat) (s : Tx) : pl n (.str s) = s.all (· < 0x110000) := by cases n <;> rfl
@[simp] theorem eqv_int (n : Nat) (i j : Int) : eqv n (.int i) (.int j) = (i == j) := by cases n <;> rfl
@[simp] theorem eqv_str (n : Nat) (i j : Tx) : eqv n (.str i) (.str j) = (i == j) := by cases n <;> rfl
theorem eqv_lst (n : Nat) (xs ys : List D) : eqv (n + 1) (.lst xs) (.lst ys) = eqvL (eqv n) xs ys := rfl
theorem eqv_tup (n : Nat) (xs ys : List D) : eqv (n + 1) (.tup xs) (.tup ys) = eqvL (eqv n) xs ys := rfl
theorem dEq_p {d e : D} (h : pl 20 d = true) (k : pl 20 e = true) : dEq d e = .ok (.bl (eqv 20 d e)) := by unfold dEq; rw [if_pos ⟨h, k⟩]
theorem dNe_p {d e : D} (h : pl 20 d = true) (k : pl 20 e = true) : dNe d e = .ok (.bl (!eqv 20 d e)) := by unfold dNe; rw [if_pos ⟨h, k⟩]
theorem i2n_i {i : Int} (h : -(2 ^ 60) ≤ i ∧ i < 2 ^ 60) : i2n (.int i) = .ok i := by simp only [i2n]; rw [if_pos (by omega)]
theorem cell_ok {ns : List Int} (hns : ns.length ≤ 63) {k : Int} (h0 : 0 ≤ k) (h1 : k < 2 ^ 90) : ∃ i, g__law_cell [Lk ns, .int k] = .ok (.int i) := by
  unfold g__law_cell Lk
  rw [fnD_e]
  cases ns with
  | nil =>
    refine ⟨7 * k, ?_⟩
    have e7 : (7 : Int).natAbs < 2 ^ 100 := by decide
    have e : dMul (.int 7) (.int k) = .ok (.int (7 * k)) := dMul_s e7 (by omega)
    simp [m__law_cell, dEq, pl, eqv, eqvL, e]
  | cons n ns =>
    have hl : (0 : Int) < (((n :: ns).length : Nat) : Int) := by simp only [List.length_cons]; omega
    have e1 : dEq (.lst ((n :: ns).map D.int)) (.lst []) = .ok (.bl false) := by
      simp [dEq, pl, eqv, eqvL]
    have hm1 := Int.emod_nonneg k (show (((n :: ns).length : Nat) : Int) ≠ 0 by omega)
    have hm2 := Int.emod_lt_of_pos k hl
    obtain ⟨x, hx, hx1⟩ := at_nat (xs := (n :: ns).map D.int) hm1 (by rw [List.length_map]; exact hm2)
    have hx2 : ∃ j, x = .int j := by
      have := List.mem_of_getElem? hx1
      rw [List.mem_map] at this
      obtain ⟨j, _, rfl⟩ := this
      exact ⟨j, rfl⟩
    obtain ⟨j, rfl⟩ := hx2
    refine ⟨j + 6553 * (k / (((n :: ns).length : Nat) : Int)), ?_⟩
    have e2 : dMod (.int k) (.int (((n :: ns).map D.int).length : Nat)) = .ok (.int (k % (((n :: ns).length : Nat) : Int))) := by rw [List.length_map]; exact dMod_s hl
    have e3 : dDiv (.int k) (.int (((n :: ns).map D.int).length : Nat)) = .ok (.int (k / (((n :: ns).length : Nat) : Int))) := by
      rw [List.length_map]
      exact dDiv_s hl (by omega)
    have hq1 : 0 ≤ k / (((n :: ns).length : Nat) : Int) := Int.ediv_nonneg h0 (by omega)
    have hq2 : k / (((n :: ns).length : Nat) : Int) ≤ k := Int.ediv_le_self _ h0
    have e4 : dMul (.int 6553) (.int (k / (((n :: ns).length : Nat) : Int))) = .ok (.int (6553 * (k / (((n :: ns).length : Nat) : Int)))) := dMul_s (by omega) (by omega)
    generalize (List.map D.int (n :: ns)) = L at *
    generalize (((n :: ns).length : Nat) : Int) = m at *
    simp [m__law_cell, lim_val, e1, e2, e3, e4, hx]
def drawnF (ns : List Int) (k m : Int) : Int := match g__law_drawn [Lk ns, .int k, .int m] with
  | .ok (.int i) => i
  | _ => 0
theorem drawn_ok {ns : List Int} (hns : ns.length ≤ 63) {k m : Int} (h0 : 0 ≤ k) (h1 : k < 2 ^ 60) (hm : 0 < m) : g__law_drawn [Lk ns, .int k, .int m] = .ok (.int (drawnF ns k m)) ∧ 0 ≤ drawnF ns k m ∧ drawnF ns k m < m := by
  have key : ∃ i, g__law_drawn [Lk ns, .int k, .int m] = .ok (.int (i % m)) := by
    obtain ⟨c, hc⟩ := cell_ok hns h0 (show k < 2 ^ 90 by omega)
    have b1 := Int.emod_nonneg c (show (2147483563 : Int) ≠ 0 by decide)
    have b2 := Int.emod_lt_of_pos c (show (0 : Int) < 2147483563 by decide)
    have e1 : dMul (.int (c % 2147483563)) (.int 69069) = .ok (.int (c % 2147483563 * 69069)) := dMul_s (by omega) (by omega)
    have e2 : dMul (.int 104723) (.int (k + 1)) = .ok (.int (104723 * (k + 1))) := dMul_s (by omega) (by omega)
    obtain ⟨x, hx⟩ : ∃ x, x = (c % 2147483563 * 69069 + 104723 * (k + 1)) % 2147483563 := ⟨_, rfl⟩
    have x1 : 0 ≤ x := by rw [hx]; exact Int.emod_nonneg _ (by decide)
    have x2 : x < 2147483563 := by rw [hx]; exact Int.emod_lt_of_pos _ (by decide)
    have e3 : dMul (.int x) (.int x) = .ok (.int (x * x)) := dMul_s (by omega) (by omega)
    obtain ⟨y, hy⟩ : ∃ y, y = (x * x + x / 3) % 2147483399 := ⟨_, rfl⟩
    have y1 : 0 ≤ y := by rw [hy]; exact Int.emod_nonneg _ (by decide)
    have y2 : y < 2147483399 := by rw [hy]; exact Int.emod_lt_of_pos _ (by decide)
    have e4 : dMul (.int y) (.int y) = .ok (.int (y * y)) := dMul_s (by omega) (by omega)
    have md : ∀ {a b : Int}, 0 < b → dMod (.int a) (.int b) = .ok (.int (a % b)) := fun h => dMod_s h
    have dv : ∀ {a b : Int}, 0 < b → b < 1000 → dDiv (.int a) (.int b) = .ok (.int (a / b)) := fun h k => dDiv_s h (by omega)
    refine ⟨(y * y + y / 7) % 2147483647 / 11, ?_⟩
    unfold g__law_drawn
    rw [fnD_e]
    simp [m__law_drawn, hc, md, dv, e1, e2, hm, ← hx, e3, ← hy, e4]
  obtain ⟨i, hi⟩ := key
  have : drawnF ns k m = i % m := by unfold drawnF; rw [hi]
  rw [this]
  exact ⟨hi, Int.emod_nonneg _ (by omega), Int.emod_lt_of_pos _ hm⟩
/-! ### comprehensions, loops -/
section
variable {bd : D → Ga → R Ga} {ifs : Ga → R Bool} {elt : Ga → R D} {γ : Ga}
theorem lcGo_fil {α : Type} {inj : α → D} {p : α → Bool} {f : α → D} : ∀ {l : List α}, (∀ a ∈ l, ∃ γ1, bd (inj a) γ = .ok γ1 ∧ ifs γ1 = .ok (p a) ∧ (p a = true → elt γ1 = .ok (f a))) → lcGo bd ifs elt γ (l.map inj) = .ok ((l.filter p).map f)
  | [], _ => rfl
  | a :: l, h => by
    obtain ⟨γ1, h1, h2, h3⟩ := h a List.mem_cons_self
    have ih := lcGo_fil (l := l) fun b hb => h b (List.mem_cons_of_mem _ hb)
    rw [List.map_cons]
    unfold lcGo
    cases hp : p a with
    | true => simp [h1, h2, hp, h3 hp, ih]
    | false => simp [h1, h2, hp, ih]
theorem lcGo_map {α : Type} {inj f : α → D} {l : List α} (h : ∀ a ∈ l, ∃ γ1, bd (inj a) γ = .ok γ1 ∧ elt γ1 = .ok (f a)) : lcGo bd yes elt γ (l.map inj) = .ok (l.map f) := by
  have := lcGo_fil (bd := bd) (ifs := yes) (elt := elt) (γ := γ) (inj := inj) (p := fun _ => true) (f := f) (l := l) fun a ha => by
    obtain ⟨γ1, h1, h2⟩ := h a ha
    exact ⟨γ1, h1, rfl, fun _ => h2⟩
  rw [this]
  congr 2
  exact List.filter_eq_self.mpr fun _ _ => rfl
theorem lcGo_ex {α : Type} {inj : α → D} {P : D → Prop} : ∀ {l : List α}, (∀ a ∈ l, ∃ γ1 d, bd (inj a) γ = .ok γ1 ∧ elt γ1 = .ok d ∧ P d) → ∃ ds, lcGo bd yes elt γ (l.map inj) = .ok ds ∧ ds.length = l.length ∧ ∀ d ∈ ds, P d
  | [], _ => ⟨[], rfl, rfl, fun _ h => nomatch h⟩
  | a :: l, h => by
    obtain ⟨γ1, d, h1, h2, h3⟩ := h a List.mem_cons_self
    obtain ⟨ds, i1, i2, i3⟩ := lcGo_ex (l := l) fun b hb => h b (List.mem_cons_of_mem _ hb)
    refine ⟨d :: ds, ?_, by simp [i2], fun e he => ?_⟩
    · rw [List.map_cons]
      unfold lcGo
      simp [h1, h2, i1, yes]
    · rcases List.mem_cons.mp he with rfl | he
      · exact h3
      · exact i3 e he
theorem lcOut_e {vs : List Nat} {ds ys : List D} (h : lcGo bd ifs elt (wipeG γ vs) ds = .ok ys) (hl : ys.length ≤ lim) : lcOut bd ifs elt vs γ ds = .ok (.lst ys) := by
  unfold lcOut
  rw [h]
  simp [hl]
variable {body : Ga → R Fl}
/-- a loop that ends well, by an invariant -/
theorem forGo_inv {α : Type} {inj : α → D} {I : List α → Ga → Prop} {l0 : List α} {γ : Ga} (step : ∀ done a rest γ, l0 = done ++ a :: rest → I done γ → ∃ γ1, bd (inj a) γ = .ok γ1 ∧ ∃ γ2, (body γ1 = .ok (.nx γ2) ∨ body γ1 = .ok (.ct γ2)) ∧ I (done ++ [a]) γ2) (h0 : I [] γ) : ∃ γ', forGo bd body (l0.map inj) γ = .ok (.nx γ') ∧ I l0 γ' := by
  have aux : ∀ (l done : List α) (γ : Ga), l0 = done ++ l → I done γ → ∃ γ', forGo bd body (l.map inj) γ = .ok (.nx γ') ∧ I l0 γ' := by
    intro l
    induction l with
    | nil => intro done γ e h; exact ⟨γ, rfl, by rw [e]; simpa using h⟩
    | cons a l ih =>
      intro done γ e h
      obtain ⟨γ1, h1, γ2, h2, h3⟩ := step done a l γ e h
      obtain ⟨γ', i1, i2⟩ := ih (done ++ [a]) γ2 (by rw [e]; simp) h3
      refine ⟨γ', ?_, i2⟩
      rw [List.map_cons]
      unfold forGo
      rcases h2 with h2 | h2 <;> simp [h1, h2, i1]
  exact aux l0 [] γ rfl h0
theorem range_split {n i : Nat} {done rest : List Nat} (h : List.range n = done ++ i :: rest) : i = done.length ∧ done.length < n := by
  have e : (List.range n)[done.length]? = some i := by rw [h]; simp
  have l : done.length < n := by
    have := congrArg List.length h
    simp at this; omega
  rw [List.getElem?_range l] at e
  cases e; exact ⟨rfl, l⟩
end
theorem joinT_nil : ∀ ts : List Tx, joinT [] ts = ts.flatten
  | [] => rfl
  | [x] => by simp [joinT]
  | x :: y :: r => by rw [joinT, joinT_nil (y :: r)]; simp
theorem rng_e {n : Nat} {lo : Int} : rngD lo n = (List.range n).map fun i => .int (lo + (i : Nat)) := rfl
/-- letters of the laws' names -/
def ltr (c : Nat) : Prop := c = 97 ∨ c = 98 ∨ c = 122
def nameF (ns : List Int) (at_ most : Int) : Tx := match g__law_name [Lk ns, .int at_, .int most] with
  | .ok (.str s) => s
  | _ => []
theorem one_letters : ∀ {ds : List D}, (∀ d ∈ ds, ∃ c, ltr c ∧ d = .str [c]) → ∃ cs : List Nat, ds = cs.map (fun c => .str [c]) ∧ ∀ c ∈ cs, ltr c
  | [], _ => ⟨[], rfl, fun _ h => nomatch h⟩
  | d :: ds, h => by
    obtain ⟨c, hc, rfl⟩ := h d List.mem_cons_self
    obtain ⟨cs, rfl, h2⟩ := one_letters (ds := ds) fun e he => h e (List.mem_cons_of_mem _ he)
    exact ⟨c :: cs, rfl, fun e he => by
      rcases List.mem_cons.mp he with rfl | he
      · exact hc
      · exact h2 e he⟩
theorem asTxs_one (cs : List Nat) : asTxs (cs.map fun c => D.str [c]) = some (cs.map fun c => [c]) := by
  induction cs with
  | nil => rfl
  | cons c cs ih => simp [asTxs, ih]
theorem flat_one (cs : List Nat) : (cs.map fun c => [c]).flatten = cs := by
  induction cs with
  | nil => rfl
  | cons c cs ih => simp [ih]
theorem sum_one (cs : List Nat) : ((cs.map fun c => [c]).map List.length).sum = cs.length := by
  induction cs with
  | nil => rfl
  | cons c cs ih => rw [List.map_cons, List.map_cons, List.sum_cons, ih, List.length_cons]; simp; omega
theorem join_one {cs : List Nat} (h : cs.length ≤ lim) : dJoin [] (.lst (cs.map fun c => .str [c])) = .ok (.str cs) := by
  show ((o2r (asTxs (cs.map fun c => D.str [c]))).bind fun ts => if (ts.map (·.length)).sum + ts.length * ([] : Tx).length ≤ lim then R.ok (D.str (joinT [] ts)) else R.no) = _
  rw [asTxs_one, o2r_some]
  show (if ((cs.map fun c => [c]).map List.length).sum + _ ≤ lim then _ else _) = _
  rw [sum_one, joinT_nil, flat_one, if_pos (by simpa using h)]
theorem name_ok {ns : List Int} (hns : ns.length ≤ 63) {k m : Int} (h0 : 0 ≤ k) (h1 : k < 2 ^ 50) (hm : 0 < m) (hm2 : m < 1000) : g__law_name [Lk ns, .int k, .int m] = .ok (.str (nameF ns k m)) ∧ 0 < (nameF ns k m).length ∧ ((nameF ns k m).length : Int) ≤ m ∧ ∀ c ∈ nameF ns k m, ltr c := by
  have key : ∃ cs : Tx, g__law_name [Lk ns, .int k, .int m] = .ok (.str cs) ∧ 0 < cs.length ∧ (cs.length : Int) ≤ m ∧ ∀ c ∈ cs, ltr c := by
    obtain ⟨d1, d2, d3⟩ := drawn_ok hns h0 (show k < 2 ^ 60 by omega) hm
    obtain ⟨e1, e2, e3⟩ := drawn_ok hns (show 0 ≤ k + 9 by omega) (show k + 9 < 2 ^ 60 by omega) (show (0 : Int) < 3 by decide)
    generalize drawnF ns k m = n at *
    generalize drawnF ns (k + 9) 3 = j at *
    obtain ⟨L, hL, hLl, hLc⟩ : ∃ L : Tx, L2.atI [D.str [97, 98], D.str [97, 98], D.str [97, 98, 122]] j = some (.str L) ∧ (L.length = 2 ∨ L.length = 3) ∧ ∀ c ∈ L, ltr c := by
      have : j = 0 ∨ j = 1 ∨ j = 2 := by omega
      rcases this with rfl | rfl | rfl
      · exact ⟨[97, 98], rfl, .inl rfl, by simp [ltr]⟩
      · exact ⟨[97, 98], rfl, .inl rfl, by simp [ltr]⟩
      · exact ⟨[97, 98, 122], rfl, .inr rfl, by simp [ltr]⟩
    have hn : -(2 ^ 60) ≤ 1 + n ∧ 1 + n < 2 ^ 60 := by omega
    have comp : ∃ ds, lcGo (bdN 5) yes (b2 dIx (bVar 4) (bCall g__law_drawn (bCons (bVar 0) (bCons (b2 dAdd (b2 dAdd (bVar 1) (bC (.int 1))) (bVar 5)) (bCons (bN dLen (bCons (bVar 4) (bNil))) (bNil)))))) (wipeG [.va (Lk ns), .va (.int k), .va (.int m), .va (.int (1 + n)), .va (.str L), .un] [5]) ((List.range (1 + n).toNat).map fun i => .int (0 + (i : Nat))) = .ok ds ∧ ds.length = (List.range (1 + n).toNat).length ∧ ∀ d ∈ ds, ∃ c, ltr c ∧ d = .str [c] := by
      refine lcGo_ex fun i hi => ?_
      have hi := List.mem_range.mp hi
      have hLL : ((L.length : Nat) : Int) ≤ 3 := by omega
      obtain ⟨f1, f2, f3⟩ := drawn_ok hns (show 0 ≤ k + 1 + (0 + (i : Nat)) by omega) (show k + 1 + (0 + (i : Nat)) < 2 ^ 60 by omega) (show (0 : Int) < (L.length : Nat) by omega)
      obtain ⟨c, hc1, hc2⟩ := at_nat (xs := L) f2 f3
      refine ⟨_, .str [c], rfl, ?_, c, hLc c (List.mem_of_getElem? hc2), rfl⟩
      have l1 : L.length ≤ lim := by rw [lim_val]; omega
      simp [wipeG, dLen, dIx, l1, f1, hc1] at f1 hc1 ⊢
      simp [f1, hc1]
      exact l1
    obtain ⟨ds, c1, c2, c3⟩ := comp
    obtain ⟨cs, rfl, c4⟩ := one_letters c3
    rw [List.length_map, List.length_range] at c2
    have c5 := lcOut_e c1 (by rw [lim_val, List.length_map]; omega)
    refine ⟨cs, ?_, by omega, by omega, c4⟩
    have j1 : dJoin [] (.lst (cs.map fun c => .str [c])) = .ok (.str cs) := join_one (by rw [lim_val]; omega)
    unfold g__law_name
    rw [fnD_e]
    have c6 : bLcI (iR1 (bVar 3)) [5] (bdN 5) yes (b2 dIx (bVar 4) (bCall g__law_drawn (bCons (bVar 0) (bCons (b2 dAdd (b2 dAdd (bVar 1) (bC (.int 1))) (bVar 5)) (bCons (bN dLen (bCons (bVar 4) (bNil))) (bNil)))))) [.va (Lk ns), .va (.int k), .va (.int m), .va (.int (1 + n)), .va (.str L), .un] = .ok (.lst (cs.map fun c => .str [c])) := by
      unfold bLcI iR1
      simp [i2n_i hn, rng_e]
      simpa using c5
    simp [m__law_name, d1, e1, hL, lim_val, b2s, c6, j1]
  obtain ⟨cs, h⟩ := key
  have : nameF ns k m = cs := by unfold nameF; rw [h.1]
  rw [this]
  exact h
/-- a book -/
def bkD (b : List Tx) : D := .tup (b.map .str)
def goodN (m : Int) (x : Tx) : Prop := 0 < x.length ∧ (x.length : Int) ≤ m ∧ ∀ c ∈ x, ltr c
def bookF (ns : List Int) (at_ many most : Int) : List Tx := match g__law_book [Lk ns, .int at_, .int many, .int most] with
  | .ok (.tup xs) => (asTxs xs).getD []
  | _ => []
theorem book_ok {ns : List Int} (hns : ns.length ≤ 63) {k many m : Int} (h0 : 0 ≤ k) (h1 : k < 2 ^ 40) (hmy : 0 < many) (hmy2 : many < 1000) (hm : 0 < m) (hm2 : m < 1000) :
    g__law_book [Lk ns, .int k, .int many, .int m] = .ok (bkD (bookF ns k many m)) ∧ 0 < (bookF ns k many m).length ∧ ((bookF ns k many m).length : Int) ≤ many ∧ ∀ x ∈ bookF ns k many m, goodN m x := by
  have key : ∃ b : List Tx, g__law_book [Lk ns, .int k, .int many, .int m] = .ok (bkD b) ∧ 0 < b.length ∧ (b.length : Int) ≤ many ∧ ∀ x ∈ b, goodN m x := by
    obtain ⟨d1, d2, d3⟩ := drawn_ok hns h0 (show k < 2 ^ 60 by omega) hmy
    generalize drawnF ns k many = n at *
    have hn : -(2 ^ 60) ≤ 1 + n ∧ 1 + n < 2 ^ 60 := by omega
    have loop := forGo_inv (bd := bdN 5) (body := fSet 4 (b2 dAdd (bVar 4) (bTup (bCons (bCall g__law_name (bCons (bVar 0) (bCons (b2 dAdd (b2 dAdd (bVar 1) (bC (.int 1))) (b2 dMul (bC (.int 10)) (bVar 5))) (bCons (bVar 3) (bNil))))) (bNil)))))
      (inj := fun i : Nat => D.int (0 + (i : Nat))) (l0 := List.range (1 + n).toNat)
      (I := fun done γ => ∃ b s5, γ = [.va (Lk ns), .va (.int k), .va (.int many), .va (.int m), .va (bkD b), s5] ∧ b.length = done.length ∧ ∀ x ∈ b, goodN m x)
      (γ := [.va (Lk ns), .va (.int k), .va (.int many), .va (.int m), .va (.tup []), .un]) (fun done i rest γ hr hI => by
        obtain ⟨hi1, hi⟩ := range_split hr
        obtain ⟨b, s5, rfl, hb, hg⟩ := hI
        have e1 : dMul (.int 10) (.int (i : Nat)) = .ok (.int (10 * (i : Nat))) := dMul_s (by decide) (by omega)
        obtain ⟨f1, f2, f3, f4⟩ := name_ok hns (show 0 ≤ k + 1 + 10 * (i : Nat) by omega) (show k + 1 + 10 * (i : Nat) < 2 ^ 50 by omega) hm hm2
        refine ⟨_, rfl, [.va (Lk ns), .va (.int k), .va (.int many), .va (.int m), .va (bkD (b ++ [nameF ns (k + 1 + 10 * (i : Nat)) m])), .va (.int (i : Nat))], .inl ?_, _, _, rfl, ?_, ?_⟩
        · have e2 : dAdd (bkD b) (.tup [.str (nameF ns (k + 1 + 10 * (i : Nat)) m)]) = .ok (bkD (b ++ [nameF ns (k + 1 + 10 * (i : Nat)) m])) := by
            unfold bkD dAdd
            simp only
            rw [if_pos (by rw [lim_val]; simp; omega)]
            simp
          simp [e1, f1, lim_val, e2]
        · simp [hb]
        · intro x hx
          rcases List.mem_append.mp hx with hx | hx
          · exact hg x hx
          · rw [List.mem_singleton.mp hx]; exact ⟨f2, f3, f4⟩) ⟨[], _, rfl, rfl, fun _ h => nomatch h⟩
    obtain ⟨γ', l1, l2⟩ := loop
    obtain ⟨b, s5, rfl, hb, hg⟩ := l2
    have hb' : b.length = (1 + n).toNat := by simpa using hb
    refine ⟨b, ?_, by omega, by omega, hg⟩
    unfold g__law_book
    rw [fnD_e]
    simp [m__law_book, d1, lim_val, fForI, iR1, i2n_i hn, rng_e]
    simp at l1
    simp [l1]
  obtain ⟨b, h⟩ := key
  have : bookF ns k many m = b := by unfold bookF; rw [h.1]; simp [bkD]
  rw [this]
  exact h
end
end KN
/-! PB: association lists, tables of counts, no program in sight -/
namespace KN
open PySem PySem.Spec PyProof.Rows L2
/-! ### association lists -/
section
variable {α β : Type}
def lk : List (Tx × α) → Tx → Option α
  | [], _ => none
  | (k, r) :: es, x => if k = x then some r else lk es x
def pt : List (Tx × α) → Tx → α → List (Tx × α)
  | [], x, r => [(x, r)]
  | (k, r0) :: es, x, r => if k = x then (k, r) :: es else (k, r0) :: pt es x r
def ks (r : List (Tx × α)) : List Tx := r.map (·.1)
theorem lk_pt (r : List (Tx × α)) (x y : Tx) (v : α) : lk (pt r x v) y = if x = y then some v else lk r y := by
  induction r with
  | nil => simp [pt, lk]
  | cons e r ih =>
    obtain ⟨k, r0⟩ := e
    unfold pt
    by_cases h : k = x
    · subst h
      by_cases h2 : k = y <;> simp [lk, h2]
    · by_cases h2 : k = y
      · subst h2
        have : ¬ x = k := fun z => h z.symm
        simp [h, lk, this]
      · simp [h, lk, h2, ih]
theorem lk_none {r : List (Tx × α)} {x : Tx} : lk r x = none ↔ x ∉ ks r := by
  induction r with
  | nil => simp [lk, ks]
  | cons e r ih =>
    obtain ⟨k, r0⟩ := e
    unfold lk
    by_cases h : k = x
    · subst h; simp [ks]
    · have h' : ¬ x = k := fun z => h z.symm
      simp only [h, if_false, ih, ks, List.map_cons, List.mem_cons, h', false_or]
theorem lk_mem {r : List (Tx × α)} {x : Tx} {v : α} (h : lk r x = some v) : (x, v) ∈ r := by
  induction r with
  | nil => cases h
  | cons e r ih =>
    obtain ⟨k, r0⟩ := e
    unfold lk at h
    split at h
    · rename_i q; subst q; cases h; exact List.mem_cons_self
    · exact List.mem_cons_of_mem _ (ih h)
theorem mem_lk {r : List (Tx × α)} (nd : (ks r).Nodup) {x : Tx} {v : α} (h : (x, v) ∈ r) : lk r x = some v := by
  induction r with
  | nil => cases h
  | cons e r ih =>
    obtain ⟨k, r0⟩ := e
    unfold lk
    rw [ks, List.map_cons, List.nodup_cons] at nd
    rcases List.mem_cons.mp h with h | h
    · cases h; simp
    · have : k ≠ x := by rintro rfl; exact nd.1 (List.mem_map.mpr ⟨_, h, rfl⟩)
      rw [if_neg this]; exact ih nd.2 h
theorem ks_pt (r : List (Tx × α)) (x : Tx) (v : α) : ks (pt r x v) = if x ∈ ks r then ks r else ks r ++ [x] := by
  induction r with
  | nil => simp [pt, ks]
  | cons e r ih =>
    obtain ⟨k, r0⟩ := e
    unfold pt
    by_cases h : k = x
    · subst h; simp [ks]
    · have h' : ¬ x = k := fun z => h z.symm
      rw [if_neg h]
      show k :: ks (pt r x v) = _
      rw [ih]
      by_cases m : x ∈ ks r
      · have : x ∈ ks ((k, r0) :: r) := List.mem_cons_of_mem _ m
        rw [if_pos m, if_pos this]; rfl
      · have : x ∉ ks ((k, r0) :: r) := fun z => by
          rcases List.mem_cons.mp z with z | z
          · exact h' z
          · exact m z
        rw [if_neg m, if_neg this]; rfl
theorem nd_pt {r : List (Tx × α)} (nd : (ks r).Nodup) (x : Tx) (v : α) : (ks (pt r x v)).Nodup := by
  rw [ks_pt]
  split
  · exact nd
  · rename_i h
    rw [List.nodup_append]
    exact ⟨nd, by simp, fun a ha b hb => by rw [List.mem_singleton.mp hb]; rintro rfl; exact h ha⟩
theorem len_pt (r : List (Tx × α)) (x : Tx) (v : α) : (pt r x v).length ≤ r.length + 1 := by
  have := congrArg List.length (ks_pt r x v)
  have e1 : (pt r x v).length = (ks (pt r x v)).length := by simp [ks]
  have e2 : (ks r).length = r.length := by simp [ks]
  rw [e1, this]
  split <;> simp [e2]
theorem lk_map (f : α → β) (r : List (Tx × α)) (x : Tx) : lk (r.map fun e => (e.1, f e.2)) x = (lk r x).map f := by
  induction r with
  | nil => rfl
  | cons e r ih =>
    obtain ⟨k, r0⟩ := e
    simp only [List.map_cons, lk]
    split
    · rfl
    · exact ih
theorem pt_map (f : α → β) (r : List (Tx × α)) (x : Tx) (v : α) : (pt r x v).map (fun e => (e.1, f e.2)) = pt (r.map fun e => (e.1, f e.2)) x (f v) := by
  induction r with
  | nil => rfl
  | cons e r ih =>
    obtain ⟨k, r0⟩ := e
    simp only [List.map_cons, pt]
    split
    · rfl
    · rw [List.map_cons, ih]
theorem ks_map (f : α → β) (r : List (Tx × α)) : ks (r.map fun e => (e.1, f e.2)) = ks r := by
  simp [ks]
/-- sorted by keys -/
def lst (d : α) (r : List (Tx × α)) : List (Tx × α) := (sortT (ks r)).map fun l => (l, (lk r l).getD d)
/-- strictly rising keys -/
def SS (r : List (Tx × α)) : Prop := (ks r).Pairwise (· < ·)
theorem SS.nd {r : List (Tx × α)} (h : SS r) : (ks r).Nodup := List.Pairwise.imp (R := fun a b : Tx => a < b) (S := fun a b : Tx => a ≠ b) (fun {a b} h e => by subst e; exact List.lt_irrefl _ h) h
theorem le_lt {a b : Tx} (h : leT a b = true) (n : a ≠ b) : a < b := by
  unfold leT at h
  simp only [Bool.not_eq_true', decide_eq_false_iff_not, List.not_lt] at h
  rcases Decidable.em (a < b) with h2 | h2
  · exact h2
  · exact absurd (List.le_antisymm h (List.not_lt.mp h2)) n
theorem ks_lst (d : α) (r : List (Tx × α)) : ks (lst d r) = sortT (ks r) := by
  unfold lst ks
  rw [List.map_map]
  exact List.map_id _
theorem self_map (d : α) {r : List (Tx × α)} (nd : (ks r).Nodup) : r = (ks r).map fun l => (l, (lk r l).getD d) := by
  unfold ks
  rw [List.map_map]
  conv => lhs; rw [← List.map_id r]
  refine List.map_congr_left fun e he => ?_
  have := mem_lk nd (show (e.1, e.2) ∈ r from he)
  simp [this]
end
/-! ### tables of counts -/
abbrev Rw := List (Tx × Int)
abbrev Tt := List (Tx × Rw)
abbrev Ev := Tx × Tx
def bump (t : Tt) (e : Ev) : Tt := pt t e.1 (pt ((lk t e.1).getD []) e.2 ((lk ((lk t e.1).getD []) e.2).getD 0 + 1))
def rowOf (t : Tt) (c : Tx) : Rw := (lk t c).getD []
def tabOf (es : List Ev) : Tt := es.foldl bump []
/-- the row of what a context was followed by -/
structure TabOk (t : Tt) (es : List Ev) : Prop where
  nd : (ks t).Nodup
  rnd : ∀ c, (ks (rowOf t c)).Nodup
  len : t.length ≤ es.length
  rlen : ∀ c, (rowOf t c).length ≤ es.length
  key : ∀ c, lk t c = none ↔ ∀ l, (c, l) ∉ es
  val : ∀ c l, lk (rowOf t c) l = if es.count (c, l) = 0 then none else some (es.count (c, l) : Int)
theorem rowOf_bump (t : Tt) (e : Ev) (c : Tx) : rowOf (bump t e) c = if e.1 = c then pt (rowOf t c) e.2 ((lk (rowOf t c) e.2).getD 0 + 1) else rowOf t c := by
  unfold rowOf bump
  rw [lk_pt]
  split
  · rename_i h; subst h; rfl
  · rfl
theorem TabOk.step {t : Tt} {es : List Ev} (h : TabOk t es) (e : Ev) : TabOk (bump t e) (es ++ [e]) := by
  refine ⟨nd_pt h.nd _ _, fun c => ?_, ?_, fun c => ?_, fun c => ?_, fun c l => ?_⟩
  · rw [rowOf_bump]
    split
    · exact nd_pt (h.rnd c) _ _
    · exact h.rnd c
  · refine Nat.le_trans (len_pt _ _ _) ?_
    have := h.len; simp; omega
  · rw [rowOf_bump]
    have := h.rlen c
    split
    · refine Nat.le_trans (len_pt _ _ _) ?_
      simp; omega
    · simp; omega
  · unfold bump
    rw [lk_pt]
    by_cases q : e.1 = c
    · subst q
      simp only [if_pos, reduceCtorEq, false_iff]
      intro z
      exact z e.2 (by simp)
    · rw [if_neg q, h.key c]
      constructor
      · intro z l m
        rcases List.mem_append.mp m with m | m
        · exact z l m
        · rw [← List.mem_singleton.mp m] at q; exact q rfl
      · intro z l m
        exact z l (List.mem_append_left _ m)
  · rw [rowOf_bump, List.count_append]
    by_cases q : e.1 = c
    · subst q
      rw [if_pos rfl, lk_pt, h.val]
      by_cases q2 : e.2 = l
      · subst q2
        have : List.count (e.1, e.2) [e] = 1 := by simp
        rw [if_pos rfl, this]
        by_cases z : es.count (e.1, e.2) = 0
        · simp [z]
        · simp [z]
      · have : List.count (e.1, l) [e] = 0 := by
          rw [List.count_eq_zero]
          intro m
          have := List.mem_singleton.mp m
          exact q2 (by rw [← this])
        rw [if_neg q2, this, Nat.add_zero, h.val]
    · have : List.count (c, l) [e] = 0 := by
        rw [List.count_eq_zero]
        intro m
        have := List.mem_singleton.mp m
        exact q (by rw [← this])
      rw [if_neg q, this, Nat.add_zero, h.val]
theorem tabOk (es : List Ev) : TabOk (tabOf es) es := by
  have aux : ∀ (es done : List Ev) (t : Tt), TabOk t done → TabOk (es.foldl bump t) (done ++ es) := by
    intro es
    induction es with
    | nil => intro done t h; simpa using h
    | cons e es ih =>
      intro done t h
      have := ih (done ++ [e]) (bump t e) (h.step e)
      simpa using this
  have := aux es [] [] ⟨by simp [ks], fun c => by simp [rowOf, lk, ks], by simp, fun c => by simp [rowOf, lk], fun c => by simp [lk], fun c l => by simp [rowOf, lk]⟩
  simpa [tabOf] using this
/-- what follows c, with its counts, by rising letters -/
def rowL (es : List Ev) (c : Tx) : Rw := lst 0 (rowOf (tabOf es) c)
end KN
/-! PC: names, books, contexts, counts: what the defs answer -/
namespace KN
open PySem PySem.Spec PyProof.Rows L2
noncomputable section
def rowD (r : Rw) : List (Tx × D) := r.map fun e => (e.1, .int e.2)
def tabD (t : Tt) : Tb := t.map fun e => (e.1, rowD e.2)
theorem lookN_lk (es : Tb) (c : Tx) : lookN es c = lk es c := by
  induction es with
  | nil => rfl
  | cons e es ih => obtain ⟨k, r⟩ := e; simp only [lookN, lk, ih]
theorem putN_pt (es : Tb) (c : Tx) (r : List (Tx × D)) : putN es c r = pt es c r := by
  induction es with
  | nil => rfl
  | cons e es ih => obtain ⟨k, r⟩ := e; simp only [putN, pt, ih]
theorem lookK_lk (es : List (Tx × D)) (c : Tx) : lookK es c = lk es c := by
  unfold lookK
  induction es with
  | nil => rfl
  | cons e es ih =>
    obtain ⟨k, r⟩ := e
    rw [List.find?_cons]
    unfold lk
    by_cases h : k = c
    · subst h; simp
    · have : (k == c) = false := by simp [h]
      simp only [this, h, if_false]; exact ih
theorem putD_pt {es : List (Tx × D)} (nd : (ks es).Nodup) (c : Tx) (d : D) : putD es c d = pt es c d := by
  unfold putD
  induction es with
  | nil => rfl
  | cons e es ih =>
    obtain ⟨k, r⟩ := e
    rw [ks, List.map_cons, List.nodup_cons] at nd
    unfold pt
    by_cases h : k = c
    · subst h
      rw [if_pos (by simp), if_pos rfl, List.map_cons]
      simp only [beq_self_eq_true, if_true]
      congr 1
      conv => rhs; rw [← List.map_id es]
      refine List.map_congr_left fun e he => ?_
      have : e.1 ≠ k := by rintro rfl; exact nd.1 (List.mem_map.mpr ⟨_, he, rfl⟩)
      simp [this]
    · have hk : (k == c) = false := by simp [h]
      rw [if_neg h, List.any_cons]
      simp only [hk, Bool.false_or]
      rw [← ih nd.2]
      split
      · rw [List.map_cons]
        simp only [hk, Bool.false_eq_true, if_false]
      · rfl
theorem lk_rowD (r : Rw) (l : Tx) : lk (rowD r) l = (lk r l).map .int := lk_map D.int r l
theorem pt_rowD (r : Rw) (l : Tx) (n : Int) : pt (rowD r) l (.int n) = rowD (pt r l n) := (pt_map D.int r l n).symm
theorem lk_tabD (t : Tt) (c : Tx) : lk (tabD t) c = (lk t c).map rowD := lk_map rowD t c
theorem pt_tabD (t : Tt) (c : Tx) (r : Rw) : pt (tabD t) c (rowD r) = tabD (pt t c r) := (pt_map rowD t c r).symm
theorem ks_rowD (r : Rw) : ks (rowD r) = ks r := ks_map D.int r
theorem len_rowD (r : Rw) : (rowD r).length = r.length := by simp [rowD]
theorem len_tabD (t : Tt) : (tabD t).length = t.length := by simp [tabD]
theorem look_tabD (t : Tt) (c : Tx) : (lookN (tabD t) c).getD [] = rowD (rowOf t c) := by
  rw [lookN_lk, lk_tabD]
  unfold rowOf
  cases lk t c <;> rfl
theorem fBump_ok {i r c l : Nat} {γ : Ga} {t : Tt} {es : List Ev} (h : TabOk t es) (hl : es.length < 1000) {ck lt : Tx} (h1 : γ[i]? = some (.nd (tabD t))) (h2 : γ[c]? = some (.va (.str ck))) (h3 : γ[l]? = some (.va (.str lt))) (h4 : r < γ.length) :
    fBump i r c l γ = .ok (.nx ((γ.set i (.nd (tabD (bump t (ck, lt))))).set r .un)) := by
  unfold fBump
  rw [h1, h2, h3]
  simp only [look_tabD]
  have e1 : (lookK (rowD (rowOf t ck)) lt).getD (.int 0) = .int ((lk (rowOf t ck) lt).getD 0) := by
    rw [lookK_lk, lk_rowD]
    cases lk (rowOf t ck) lt <;> rfl
  rw [e1]
  simp only
  have l1 := h.len
  have l2 := h.rlen ck
  rw [if_pos ⟨⟨by rw [len_tabD, lim_val]; omega, by rw [len_rowD, lim_val]; omega⟩, h4⟩]
  have e2 : putD (rowD (rowOf t ck)) lt (.int ((lk (rowOf t ck) lt).getD 0 + 1)) = rowD (pt (rowOf t ck) lt ((lk (rowOf t ck) lt).getD 0 + 1)) := by
    rw [putD_pt (by rw [ks_rowD]; exact h.rnd ck), pt_rowD]
  rw [e2, putN_pt, pt_tabD]
  rfl
/-! ### contexts -/
def endT (o : Nat) (t : Tx) : Tx := t.drop (t.length - o)
theorem cut_from {α : Type} (xs : List α) (k : Nat) : cutL xs (some (k : Int)) none = xs.drop k := by
  unfold cutL
  rw [HT.sIx_nat, HT.sIx_none]
  rcases Nat.le_total k xs.length with h | h
  · rw [Nat.min_eq_left h]
    exact List.take_of_length_le (by simp)
  · rw [Nat.min_eq_right h, List.drop_eq_nil_of_le h]; simp
theorem cut_to {α : Type} (xs : List α) (k : Nat) : cutL xs none (some (k : Int)) = xs.take k := by
  unfold cutL
  rw [HT.sIx_nat, HT.sIx_none]
  rcases Nat.le_total k xs.length with h | h
  · rw [Nat.min_eq_left h]; simp
  · rw [Nat.min_eq_right h, List.take_of_length_le h]; simp
theorem cut_mid {α : Type} (xs : List α) (i j : Nat) : cutL xs (some (i : Int)) (some (j : Int)) = (xs.drop i).take (j - i) := by
  unfold cutL
  rw [HT.sIx_nat, HT.sIx_nat]
  rcases Nat.le_total i xs.length with h | h
  · rw [Nat.min_eq_left h]
    rcases Nat.le_total j xs.length with h2 | h2
    · rw [Nat.min_eq_left h2]
    · rw [Nat.min_eq_right h2, List.take_of_length_le (by simp), List.take_of_length_le (by simp; omega)]
  · rw [Nat.min_eq_right h, List.drop_eq_nil_of_le h]; simp
theorem end_ok (o : Nat) {t : Tx} (h : t.length ≤ 1000) : g_end_of [.int o, .str t] = .ok (.str (endT o t)) := by
  have hl : t.length ≤ lim := by rw [lim_val]; omega
  unfold g_end_of
  rw [fnD_e]
  have e : max (0 : Int) ((t.length : Nat) - (o : Nat)) = ((t.length - o : Nat) : Int) := by omega
  simp [m_end_of, bSl, pSo, pNo, dLen, hl, dMax, toI, e, dSl, cut_from, endT]
/-- what a name tells -/
def evs (o : Nat) (x : Tx) : List Ev := (List.range (x.length + 1)).map fun i => (endT o (x.take i), (x.drop i).take 1)
def evB (o : Nat) (b : List Tx) : List Ev := b.flatMap (evs o)
theorem evs_len (o : Nat) (x : Tx) : (evs o x).length = x.length + 1 := by simp [evs]
/-- at most 8 names, of at most 8 letters -/
def smallB (b : List Tx) : Prop := b.length ≤ 8 ∧ ∀ x ∈ b, x.length ≤ 8
theorem evB_len {o : Nat} : ∀ {b : List Tx}, (∀ x ∈ b, x.length ≤ 8) → (evB o b).length ≤ 9 * b.length
  | [], _ => by simp [evB]
  | x :: b, h => by
    have := evB_len (o := o) (b := b) fun y hy => h y (List.mem_cons_of_mem _ hy)
    have h0 := h x List.mem_cons_self
    unfold evB at this ⊢
    rw [List.flatMap_cons, List.length_append, evs_len, List.length_cons]
    omega
theorem tab_app (es fs : List Ev) : tabOf (es ++ fs) = fs.foldl bump (tabOf es) := by simp [tabOf]
def tblD (t : Tt) : D := .dic (t.map fun e => (e.1, .dic (rowD e.2)))
def cStep (x : Tx) (o : Nat) : Nat → Ev := fun i => (endT o (x.take i), (x.drop i).take 1)
theorem evs_e (o : Nat) (x : Tx) : evs o x = (List.range (x.length + 1)).map (cStep x o) := rfl
theorem tab_snoc (es : List Ev) (e : Ev) : tabOf (es ++ [e]) = bump (tabOf es) e := by
  rw [tab_app, List.foldl_cons, List.foldl_nil]
theorem cut1 {x : Tx} (lx : x.length ≤ lim) (i : Nat) : dSl (.str x) none (some (i : Int)) = .ok (.str (x.take i)) := by
  show (if x.length ≤ lim then R.ok (D.str (cutL x none (some (i : Int)))) else .no) = _
  rw [if_pos lx, cut_to]
theorem cut2 {x : Tx} (lx : x.length ≤ lim) (i : Nat) : dSl (.str x) (some (i : Int)) (some ((i : Int) + 1)) = .ok (.str ((x.drop i).take 1)) := by
  have : (i : Int) + 1 = ((i + 1 : Nat) : Int) := by omega
  show (if x.length ≤ lim then R.ok (D.str (cutL x (some (i : Int)) (some ((i : Int) + 1)))) else .no) = _
  rw [if_pos lx, this, cut_mid, Nat.add_sub_cancel_left]
def cIn : Ga → R Fl := fSeq (fSet 5 (bCall g_end_of (bCons (bVar 1) (bCons (bSl (bVar 3) (pNo) (pSo (bVar 4))) (bNil))))) (fSeq (fSet 6 (bSl (bVar 3) (pSo (bVar 4)) (pSo (b2 dAdd (bVar 4) (bC (.int 1)))))) (fBump 2 7 5 6))
def cOut : Ga → R Fl := fForI (iR1 (b2 dAdd (bN dLen (bCons (bVar 3) (bNil))) (bC (.int 1)))) (bdN 4) cIn
theorem m_counted_e : m_counted = fSeq (fNd0 2) (fSeq (fForE (bVar 0) (bdN 3) cOut) (fFz 2 (fRet (bVar 2)))) := rfl
theorem cIn_ok {B : D} {o : Nat} {x : Tx} {es : List Ev} {i : Nat} {s5 s6 s7 : Sl} (hes : es.length < 1000) (hx : x.length ≤ 8) :
    cIn [.va B, .va (.int o), .nd (tabD (tabOf es)), .va (.str x), .va (.int (i : Nat)), s5, s6, s7] = .ok (.nx [.va B, .va (.int o), .nd (tabD (tabOf (es ++ [cStep x o i]))), .va (.str x), .va (.int (i : Nat)), .va (.str (endT o (x.take i))), .va (.str ((x.drop i).take 1)), .un]) := by
  have lx : x.length ≤ lim := by rw [lim_val]; omega
  have c1 := cut1 lx i
  have c2 := cut2 lx i
  have c3 := end_ok o (t := x.take i) (by simp; omega)
  have fb := fBump_ok (i := 2) (r := 7) (c := 5) (l := 6) (tabOk es) hes (ck := endT o (x.take i)) (lt := (x.drop i).take 1) (γ := [.va B, .va (.int o), .nd (tabD (tabOf es)), .va (.str x), .va (.int (i : Nat)), .va (.str (endT o (x.take i))), .va (.str ((x.drop i).take 1)), s7]) rfl rfl rfl (by simp)
  rw [tab_snoc]
  unfold cStep
  generalize endT o (x.take i) = ck at *
  generalize (x.drop i).take 1 = lt at *
  simp at fb
  simp [cIn, bSl, pNo, pSo, toI, c1, c2, c3, fb]
theorem cOut_ok {B : D} {o : Nat} {x : Tx} {es : List Ev} {s4 s5 s6 s7 : Sl} (hes : es.length < 900) (hx : x.length ≤ 8) :
    ∃ s4' s5' s6' s7', cOut [.va B, .va (.int o), .nd (tabD (tabOf es)), .va (.str x), s4, s5, s6, s7] = .ok (.nx [.va B, .va (.int o), .nd (tabD (tabOf (es ++ evs o x))), .va (.str x), s4', s5', s6', s7']) := by
  have inner := forGo_inv (bd := bdN 4) (inj := fun i : Nat => D.int (0 + (i : Nat))) (l0 := List.range (x.length + 1)) (body := cIn)
    (I := fun dn γ => ∃ s4 s5 s6 s7, γ = [.va B, .va (.int o), .nd (tabD (tabOf (es ++ dn.map (cStep x o)))), .va (.str x), s4, s5, s6, s7])
    (γ := [.va B, .va (.int o), .nd (tabD (tabOf es)), .va (.str x), s4, s5, s6, s7]) (fun dn i rest γ hr hI => by
      obtain ⟨s4, s5, s6, s7, rfl⟩ := hI
      obtain ⟨hi1, hi2⟩ := range_split hr
      have st := cIn_ok (B := B) (o := o) (x := x) (es := es ++ dn.map (cStep x o)) (i := i) (s5 := s5) (s6 := s6) (s7 := s7) (by simp; omega) hx
      refine ⟨_, rfl, [.va B, .va (.int o), .nd (tabD (tabOf (es ++ dn.map (cStep x o) ++ [cStep x o i]))), .va (.str x), .va (.int (i : Nat)), .va (.str (endT o (x.take i))), .va (.str ((x.drop i).take 1)), .un], .inl ?_, ?_⟩
      · rw [← st]; simp
      · exact ⟨_, _, _, _, by rw [List.map_append, List.append_assoc, List.map_cons, List.map_nil]⟩) ⟨s4, s5, s6, s7, by simp⟩
  obtain ⟨γ', i1, s4', s5', s6', s7', rfl⟩ := inner
  refine ⟨s4', s5', s6', s7', ?_⟩
  have lx : x.length ≤ lim := by rw [lim_val]; omega
  have e5 : i2n (.int ((x.length : Int) + 1)) = .ok ((x.length : Int) + 1) := i2n_i (by omega)
  have e6 : ((x.length : Int) + 1).toNat = x.length + 1 := by omega
  rw [← evs_e] at i1
  simp at i1
  simp [cOut, fForI, iR1, dLen, lx, e5, e6, rng_e, i1]
theorem counted_ok {b : List Tx} (hb : smallB b) (o : Nat) : g_counted [bkD b, .int o] = .ok (tblD (tabOf (evB o b))) := by
  have outer := forGo_inv (bd := bdN 3) (inj := D.str) (l0 := b) (body := cOut)
    (I := fun done γ => ∃ s3 s4 s5 s6 s7, γ = [.va (bkD b), .va (.int o), .nd (tabD (tabOf (evB o done))), s3, s4, s5, s6, s7])
    (γ := [.va (bkD b), .va (.int o), .nd [], .un, .un, .un, .un, .un]) (fun done x rest γ hx hI => by
      obtain ⟨s3, s4, s5, s6, s7, rfl⟩ := hI
      have hxl : x.length ≤ 8 := hb.2 x (by rw [hx]; simp)
      have hdl : (evB o done).length ≤ 72 := by
        have := evB_len (o := o) (b := done) fun y hy => hb.2 y (by rw [hx]; simp [hy])
        have h8 := hb.1
        rw [hx] at h8
        simp at h8
        omega
      obtain ⟨s4', s5', s6', s7', st⟩ := cOut_ok (B := bkD b) (o := o) (x := x) (es := evB o done) (s4 := s4) (s5 := s5) (s6 := s6) (s7 := s7) (by omega) hxl
      refine ⟨_, rfl, _, .inl st, .va (.str x), s4', s5', s6', s7', ?_⟩
      rw [show evB o (done ++ [x]) = evB o done ++ evs o x by unfold evB; rw [List.flatMap_append]; simp]) ⟨.un, .un, .un, .un, .un, rfl⟩
  obtain ⟨γ', o1, s3, s4, s5, s6, s7, rfl⟩ := outer
  unfold g_counted
  rw [fnD_e, m_counted_e]
  unfold bkD at o1 ⊢
  simp [fForE, items]
  simp [o1, tblD, tabD]
/-! ### names and books -/
def nameOk (s : Tx) : Prop := 1 ≤ s.length ∧ s.length ≤ 8 ∧ ∀ c ∈ s, 97 ≤ c ∧ c ≤ 122
def bookOk (b : List Tx) : Prop := 1 ≤ b.length ∧ b.length ≤ 8 ∧ ∀ x ∈ b, nameOk x
theorem bookOk.small {b : List Tx} (h : bookOk b) : smallB b := ⟨h.2.1, fun x hx => (h.2.2 x hx).2.1⟩
theorem letter_in {c : Nat} (h : 97 ≤ c ∧ c ≤ 122) : dIn (.str [c]) (.str [97, 98, 99, 100, 101, 102, 103, 104, 105, 106, 107, 108, 109, 110, 111, 112, 113, 114, 115, 116, 117, 118, 119, 120, 121, 122]) = .ok (.bl true) := by
  have : c ∈ (List.range' 97 26) := by rw [List.mem_range'_1]; omega
  have all : ∀ c ∈ List.range' 97 26, subT [c] [97, 98, 99, 100, 101, 102, 103, 104, 105, 106, 107, 108, 109, 110, 111, 112, 113, 114, 115, 116, 117, 118, 119, 120, 121, 122] = true := by decide
  unfold dIn dInB
  simp [all c this]
theorem all_true {α : Type} (l : List α) : dAll [.lst (l.map fun _ => D.bl true)] = .ok (.bl true) := by
  have e : (l.map fun _ => D.bl true) = (l.map fun _ => true).map D.bl := by rw [List.map_map]; rfl
  rw [e]
  generalize hz : (l.map fun _ => true) = z
  have hz2 : z.all id = true := by rw [← hz]; simp
  show ((o2r (asBls (z.map D.bl))).bind fun ns => R.ok (D.bl (ns.all id))) = _
  rw [asBls_map, o2r_some]
  show R.ok (D.bl (z.all id)) = _
  rw [hz2]
theorem isName_ok {s : Tx} (h : nameOk s) : g_is_name [.str s] = .ok (.bl true) := by
  obtain ⟨h1, h2, h3⟩ := h
  have hl : s.length ≤ lim := by rw [lim_val]; omega
  have h1' : (1 : Int) ≤ s.length := by omega
  have h2' : (s.length : Int) ≤ 8 := by omega
  unfold g_is_name
  rw [fnD_e]
  have comp := lcGo_map (bd := bdN 1) (elt := b2 dIn (bVar 1) (bC (.str [97, 98, 99, 100, 101, 102, 103, 104, 105, 106, 107, 108, 109, 110, 111, 112, 113, 114, 115, 116, 117, 118, 119, 120, 121, 122]))) (γ := wipeG [.va (.str s), .un] [1]) (inj := fun c : Nat => D.str [c]) (f := fun _ => .bl true) (l := s) fun c hc => ⟨_, rfl, by
    have := letter_in (h3 c hc)
    simp [wipeG, this]⟩
  have c2 := lcOut_e comp (by rw [List.length_map]; exact hl)
  have a1 := all_true s
  simp [m_is_name, bAnd, dIsi, isT, bCh, dLen, hl, h1', h2', bLcE, items, sgn, c2, a1]
theorem isBook_ok {b : List Tx} (h : bookOk b) : g_is_book [bkD b] = .ok (.bl true) := by
  obtain ⟨h1, h2, h3⟩ := h
  have hl : b.length ≤ lim := by rw [lim_val]; omega
  have h1' : (1 : Int) ≤ b.length := by omega
  have h2' : (b.length : Int) ≤ 8 := by omega
  unfold g_is_book
  rw [fnD_e]
  have comp := lcGo_map (bd := bdN 1) (elt := bCall g_is_name (bCons (bVar 1) (bNil))) (γ := wipeG [.va (bkD b), .un] [1]) (inj := D.str) (f := fun _ => .bl true) (l := b) fun c hc => ⟨_, rfl, by
    have := isName_ok (h3 c hc)
    simp [wipeG, this]⟩
  have c2 := lcOut_e comp (by rw [List.length_map]; exact hl)
  have a1 := all_true b
  unfold bkD at c2 ⊢
  simp [m_is_book, bAnd, dIsi, isT, bCh, h1', h2', bLcE, items, c2, a1]
theorem needBook_ok {b : List Tx} (h : bookOk b) : g_need_book [bkD b] = .ok .non := by
  have := isBook_ok h
  unfold g_need_book
  rw [fnD_e]
  simp [m_need_book, this]
theorem needName_ok {s : Tx} (h : nameOk s) : g_need_name [.str s] = .ok .non := by
  have := isName_ok h
  unfold g_need_name
  rw [fnD_e]
  simp [m_need_name, this]
theorem isNumber_ok {i lo hi : Int} : g_is_number [.int i, .int lo, .int hi] = .ok (.bl (decide (lo ≤ i ∧ i ≤ hi))) := by
  unfold g_is_number
  rw [fnD_e]
  by_cases h : lo ≤ i <;> simp [m_is_number, bAnd, dIsi, isT, bCh, dNot, h]
theorem needOrder_ok {o : Nat} (h : 1 ≤ o ∧ o ≤ 3) : g_need_order [.int o] = .ok .non := by
  have := isNumber_ok (i := (o : Int)) (lo := 1) (hi := 3)
  unfold g_need_order
  rw [fnD_e]
  have e : decide ((1 : Int) ≤ o ∧ (o : Int) ≤ 3) = true := by simp; omega
  rw [e] at this
  simp [m_need_order, this]
/-! ### rows -/
def rowT (r : Rw) : List D := r.map fun e => .tup [.str e.1, .int e.2]
theorem listed_ok {r : Rw} (nd : (ks r).Nodup) (hl : r.length < 64) : g_listed [.dic (rowD r)] = .ok (.tup (rowT (lst 0 r))) := by
  unfold g_listed
  rw [fnD_e]
  have e1 : (rowD r).map (·.1) = ks r := ks_rowD r
  have s1 : dSort [.dic (rowD r)] = .ok (.lst ((sortT (ks r)).map D.str)) := by
    unfold dSort dSorted
    simp [len_rowD, hl, e1]
  have comp := lcGo_map (bd := bdN 1) (elt := bTup (bCons (bVar 1) (bCons (b2 dIx (bVar 0) (bVar 1)) (bNil)))) (γ := wipeG [.va (.dic (rowD r)), .un] [1]) (inj := D.str) (f := fun l => .tup [.str l, .int ((lk r l).getD 0)]) (l := sortT (ks r)) fun l hl => ⟨_, rfl, by
    have hm : l ∈ ks r := (sortT_perm _).mem_iff.mp hl
    have : ∃ n, lk r l = some n := by
      cases z : lk r l with
      | none => exact absurd hm (lk_none.mp z)
      | some n => exact ⟨n, rfl⟩
    obtain ⟨n, hn⟩ := this
    have lk1 : lookK (rowD r) l = some (.int n) := by rw [lookK_lk, lk_rowD, hn]; rfl
    simp [wipeG, lk1, hn, lim_val]⟩
  have hln : (sortT (ks r)).length = r.length := by rw [(sortT_perm _).length_eq]; simp [ks]
  have c2 := lcOut_e comp (by rw [List.length_map, lim_val]; omega)
  have e2 : rowT (lst 0 r) = (sortT (ks r)).map fun l => .tup [.str l, .int ((lk r l).getD 0)] := by
    unfold rowT lst; rw [List.map_map]; rfl
  rw [e2]
  simp [m_listed, s1, bLcE, items, c2, dTuple]
end
end KN
/-! PD: behind and table -/
namespace KN
open PySem PySem.Spec PyProof.Rows L2
noncomputable section
theorem look_tbl (t : Tt) (c : Tx) : lookK (t.map fun e => (e.1, D.dic (rowD e.2))) c = (lk t c).map fun r => .dic (rowD r) := by
  rw [lookK_lk]
  exact lk_map (fun r => D.dic (rowD r)) t c
theorem get_tbl (t : Tt) (c : Tx) : (lookK (t.map fun e => (e.1, D.dic (rowD e.2))) c).getD (.dic []) = .dic (rowD (rowOf t c)) := by
  rw [look_tbl]
  unfold rowOf
  cases lk t c <;> rfl
theorem nameOk.pl {s : Tx} (h : nameOk s) : s.all (· < 0x110000) = true := by
  rw [List.all_eq_true]
  intro c hc
  have := (h.2.2 c hc).2
  simp; omega
theorem evB_small {b : List Tx} (hb : smallB b) (o : Nat) : (evB o b).length ≤ 72 := by
  have := evB_len (o := o) hb.2
  have := hb.1
  omega
/-- letters of a row: at most 27 differ -/
theorem behind_ok {b : List Tx} (hb : bookOk b) {o : Nat} (ho : 1 ≤ o ∧ o ≤ 3) {t : Tx} (ht : t = [] ∨ nameOk t) (hr : (rowOf (tabOf (evB o b)) (endT o t)).length < 64) :
    g_behind [bkD b, .int o, .str t] = .ok (.lst (rowT (rowL (evB o b) (endT o t)))) := by
  have h1 := needBook_ok hb
  have h2 := needOrder_ok ho
  have h3 := counted_ok hb.small o
  have hp : t.all (· < 0x110000) = true := by
    rcases ht with rfl | h
    · rfl
    · exact h.pl
  have h4 := end_ok o (t := t) (by rcases ht with rfl | h; · simp
                                   · have := h.2.1; omega)
  have h5 := listed_ok ((tabOk (evB o b)).rnd (endT o t)) hr
  have h6 : dNe (.str t) (.str []) = .ok (.bl (!(t == []))) := by
    rw [dNe_p (by rw [pl_str]; exact hp) (by simp), eqv_str]
  unfold g_behind
  rw [fnD_e]
  unfold tblD at h3
  unfold rowL
  rcases ht with rfl | ht
  · have h6' : dNe (.str []) (.str []) = .ok (.bl false) := h6
    simp [m_behind, h1, h2, h3, h4, h6', bGet, get_tbl, h5, dList]
  · have h7 := needName_ok ht
    have h6' : dNe (.str t) (.str []) = .ok (.bl true) := by
      rw [h6]
      cases t with
      | nil => exact absurd ht.1 (by simp)
      | cons _ _ => rfl
    simp [m_behind, h1, h2, h3, h4, h6', h7, bGet, get_tbl, h5, dList]
end
end KN
/-! PE1: laws about rows, contexts, events -/
namespace KN
open PySem PySem.Spec PyProof.Rows L2
noncomputable section
/-! ### equal to itself -/
theorem eqvL_refl {f : D → D → Bool} : ∀ {xs : List D}, (∀ x ∈ xs, f x x = true) → eqvL f xs xs = true
  | [], _ => rfl
  | x :: xs, h => by
    show (f x x && eqvL f xs xs) = true
    rw [h x List.mem_cons_self, eqvL_refl fun y hy => h y (List.mem_cons_of_mem _ hy)]; rfl
theorem eqv_refl : ∀ (n : Nat) (d : D), pl n d = true → eqv n d d = true
  | n, .non, _ => by cases n <;> rfl
  | n, .bl b, _ => by cases n <;> simp [eqv]
  | n, .int i, _ => by simp
  | n, .str s, _ => by simp
  | 0, .lst _, h => nomatch h
  | 0, .tup _, h => nomatch h
  | n + 1, .lst xs, h => by
    rw [eqv_lst]
    rw [pl_lst, List.all_eq_true] at h
    exact eqvL_refl fun x hx => eqv_refl n x (h x hx)
  | n + 1, .tup xs, h => by
    rw [eqv_tup]
    rw [pl_tup, List.all_eq_true] at h
    exact eqvL_refl fun x hx => eqv_refl n x (h x hx)
  | n, .dic _, h => by cases n <;> exact nomatch h
theorem dNe_self {d : D} (h : pl 20 d = true) : dNe d d = .ok (.bl false) := by rw [dNe_p h h, eqv_refl 20 d h]; rfl
def chs (s : Tx) : Prop := ∀ c ∈ s, c < 0x110000
theorem chs.all {s : Tx} (h : chs s) : s.all (· < 0x110000) = true := by
  rw [List.all_eq_true]; intro c hc; simpa using h c hc
/-! ### contexts -/
theorem endT_idem (o : Nat) (t : Tx) : endT o (endT o t) = endT o t := by
  unfold endT
  rw [List.length_drop, List.drop_drop]
  congr 1; omega
theorem endT_mem {o : Nat} {t : Tx} {c : Nat} (h : c ∈ endT o t) : c ∈ t := List.mem_of_mem_drop h
theorem endT_len (o : Nat) (t : Tx) : (endT o t).length ≤ t.length := by simp [endT]
/-- nothing, or a name -/
def txtOk (t : Tx) : Prop := t = [] ∨ nameOk t
theorem txtOk.chs {t : Tx} (h : txtOk t) : chs t := by
  intro c hc
  rcases h with rfl | h
  · cases hc
  · have := (h.2.2 c hc).2; omega
theorem txtOk.len {t : Tx} (h : txtOk t) : t.length ≤ 8 := by
  rcases h with rfl | h
  · simp
  · exact h.2.1
theorem txtOk_of {t : Tx} (h : t.length ≤ 8) (k : ∀ c ∈ t, 97 ≤ c ∧ c ≤ 122) : txtOk t := by
  cases t with
  | nil => exact .inl rfl
  | cons c t => exact .inr ⟨by simp, h, k⟩
theorem txtOk.let {t : Tx} (h : txtOk t) : ∀ c ∈ t, 97 ≤ c ∧ c ≤ 122 := by
  intro c hc
  rcases h with rfl | h
  · cases hc
  · exact h.2.2 c hc
theorem txtOk.end {t : Tx} (h : txtOk t) (o : Nat) : txtOk (endT o t) := txtOk_of (Nat.le_trans (endT_len o t) h.len) fun c hc => h.let c (endT_mem hc)
/-! ### events -/
theorem evB_mem {o : Nat} {b : List Tx} {e : Ev} (h : e ∈ evB o b) : ∃ x ∈ b, ∃ i, i ≤ x.length ∧ e = (endT o (x.take i), (x.drop i).take 1) := by
  unfold evB at h
  obtain ⟨x, hx, h⟩ := List.mem_flatMap.mp h
  unfold evs at h
  obtain ⟨i, hi, rfl⟩ := List.mem_map.mp h
  exact ⟨x, hx, i, by have := List.mem_range.mp hi; omega, rfl⟩
theorem ev_ctx {o : Nat} {b : List Tx} (hb : ∀ x ∈ b, nameOk x) {e : Ev} (h : e ∈ evB o b) : txtOk e.1 ∧ endT o e.1 = e.1 ∧ chs e.2 := by
  obtain ⟨x, hx, i, hi, rfl⟩ := evB_mem h
  have hn := hb x hx
  refine ⟨txtOk.end (txtOk_of ?_ ?_) o, endT_idem o _, fun c hc => ?_⟩
  · have := hn.2.1; simp; omega
  · exact fun c hc => hn.2.2 c (List.mem_of_mem_take hc)
  · have := (hn.2.2 c (List.mem_of_mem_drop (List.mem_of_mem_take hc))).2; omega
/-! ### sorted rows are sorted -/
/-! ### sums -/
theorem perm_sum {l m : List Int} (p : l.Perm m) : l.sum = m.sum := by
  induction p with
  | nil => rfl
  | cons x _ ih => simp [ih]
  | swap x y l => simp; omega
  | trans _ _ h1 h2 => exact h1.trans h2
def rsum (r : Rw) : Int := (r.map (·.2)).sum
theorem rsum_pt (r : Rw) (nd : (ks r).Nodup) (l : Tx) (n : Int) : rsum (pt r l n) = rsum r - (lk r l).getD 0 + n := by
  induction r with
  | nil => simp [rsum, pt, lk]
  | cons e r ih =>
    obtain ⟨k, m⟩ := e
    rw [ks, List.map_cons, List.nodup_cons] at nd
    have ih := ih nd.2
    unfold rsum at ih ⊢
    unfold pt lk
    by_cases h : k = l
    · simp [h]; omega
    · simp [h, ih]; omega
theorem rsum_lst {r : Rw} (nd : (ks r).Nodup) : rsum (lst 0 r) = rsum r := by
  unfold rsum lst
  rw [List.map_map]
  conv => rhs; rw [self_map 0 nd, List.map_map]
  exact perm_sum ((sortT_perm _).map _)
theorem rowsum (es : List Ev) (c : Tx) : rsum (rowL es c) = (es.countP fun e => e.1 == c : Nat) := by
  unfold rowL
  rw [rsum_lst ((tabOk es).rnd c)]
  have aux : ∀ (fs done : List Ev), rsum (rowOf (tabOf done) c) = (done.countP fun e => e.1 == c : Nat) → rsum (rowOf (tabOf (done ++ fs)) c) = ((done ++ fs).countP fun e => e.1 == c : Nat) := by
    intro fs
    induction fs with
    | nil => intro done h; simpa using h
    | cons f fs ih =>
      intro done h
      have := ih (done ++ [f]) (by
        rw [tab_snoc, rowOf_bump, List.countP_append]
        by_cases z : f.1 = c
        · rw [if_pos z, rsum_pt _ ((tabOk done).rnd c), h]
          simp [z]; omega
        · rw [if_neg z, h]; simp [z])
      simpa using this
  have := aux es [] (by simp [rowOf, tabOf, lk, rsum])
  simpa using this
end
end KN
/-! PF: fractions -/
namespace KN
open PySem PySem.Spec PyProof.Rows L2
noncomputable section
def frD (q : Rat) : D := .tup [.int q.num, .int (q.den : Int)]
/-- neither part is long -/
def sz (n : Nat) (q : Rat) : Prop := 0 ≤ q.num ∧ q.num < 2 ^ n ∧ q.den < 2 ^ n
theorem log_lt {n m : Nat} (h : n < 2 ^ m) : n.log2 ≤ m := by
  rcases Nat.eq_zero_or_pos n with rfl | hp
  · simp
  · have := (Nat.log2_lt (by omega)).mpr h; omega
theorem dMul_l {i j : Int} {a b : Nat} (h : i.natAbs < 2 ^ a) (k : j.natAbs < 2 ^ b) (ab : a + b ≤ 9000) : dMul (.int i) (.int j) = .ok (.int (i * j)) := by
  have h1 := log_lt h
  have h2 := log_lt k
  rw [dMul_i, if_pos (by omega)]
theorem dDiv_l {i j : Int} {b : Nat} (h : 0 < j) (k : j.natAbs < 2 ^ b) (hb : b ≤ 8000) : dDiv (.int i) (.int j) = .ok (.int (i / j)) := by
  have h2 := log_lt k
  rw [dDiv_i, if_pos ⟨h, by omega⟩]
def lowP : Ga → R Bool := tVal (b2 dGt (bVar 2) (bC (.int 0)))
def lowB : Ga → R Fl := fPar 2 3 (b2 dMod (bVar 3) (bVar 2)) (bVar 2)
theorem low_loop (a0 a1 : Sl) : ∀ (n u d : Nat), u ≤ n → ∃ N, whN lowP lowB N [a0, a1, .va (.int u), .va (.int d)] = some (.ok (.nx [a0, a1, .va (.int 0), .va (.int (Nat.gcd u d : Nat))]))
  | n, 0, d, _ => by
    refine ⟨1, ?_⟩
    simp [whN, lowP]
  | 0, u + 1, d, h => by omega
  | n + 1, u + 1, d, h => by
    have hlt : d % (u + 1) ≤ n := by have := Nat.mod_lt d (show 0 < u + 1 by omega); omega
    obtain ⟨N, hN⟩ := low_loop a0 a1 n (d % (u + 1)) (u + 1) hlt
    refine ⟨N + 1, ?_⟩
    have e1 : dMod (.int (d : Nat)) (.int ((u + 1 : Nat) : Int)) = .ok (.int ((d % (u + 1) : Nat) : Int)) := by
      rw [dMod_s (by omega), Int.natCast_emod]
    have e2 : lowP [a0, a1, .va (.int ((u + 1 : Nat) : Int)), .va (.int d)] = .ok true := by
      have : (0 : Int) < ((u + 1 : Nat) : Int) := by omega
      simp only [lowP, tVal_e, b2_e, bVar_e, bC_e, List.getElem?_cons_succ, List.getElem?_cons_zero, R.bind, dGt_i, tB_e, this, decide_true]
    have e3 : lowB [a0, a1, .va (.int ((u + 1 : Nat) : Int)), .va (.int d)] = .ok (.nx [a0, a1, .va (.int ((d % (u + 1) : Nat) : Int)), .va (.int ((u + 1 : Nat) : Int))]) := by
      simp only [lowB, fPar, b2_e, bVar_e, List.getElem?_cons_succ, List.getElem?_cons_zero, R.bind, e1]
      rfl
    rw [Nat.gcd_succ]
    simp only [whN, e2, e3, if_true]
    exact hN
theorem m_lowest_e : m_lowest = fSeq (fSet 2 (bVar 0)) (fSeq (fSet 3 (bVar 1)) (fSeq (fWh lowP lowB) (fRet (bTup (bCons (b2 dDiv (bVar 0) (bVar 3)) (bCons (b2 dDiv (bVar 1) (bVar 3)) (bNil))))))) := rfl
theorem lowest_ok (u d : Nat) (hd : 0 < d) {m : Nat} (hm : d < 2 ^ m) (hm2 : m ≤ 8000) : g_lowest [.int u, .int d] = .ok (frD (mkRat u d)) := by
  obtain ⟨N, hN⟩ := low_loop (.va (.int u)) (.va (.int d)) u u d (Nat.le_refl _)
  have hw := fWh_eq hN
  have g0 : 0 < Nat.gcd u d := Nat.gcd_pos_of_pos_right _ hd
  have g1 : Nat.gcd u d ≤ d := Nat.gcd_le_right _ hd
  have hd0 : d ≠ 0 := by omega
  have e1 : dDiv (.int u) (.int (Nat.gcd u d : Nat)) = .ok (.int ((mkRat u d).num)) := by
    rw [dDiv_l (b := m) (by omega) (by omega) hm2, Rat.num_mkRat, if_neg hd0, Nat.gcd_comm d]; rfl
  have e2 : dDiv (.int d) (.int (Nat.gcd u d : Nat)) = .ok (.int ((mkRat u d).den : Int)) := by
    rw [dDiv_l (b := m) (by omega) (by omega) hm2, Rat.den_mkRat, if_neg hd0, Nat.gcd_comm d]; rfl
  generalize Nat.gcd u d = g at *
  unfold g_lowest
  rw [fnD_e, m_lowest_e]
  simp only [fSeq_e, fSet_e, bVar_e, R.bind, List.map_cons, List.map_nil, List.length_cons, List.length_nil, List.replicate, List.cons_append, List.nil_append, List.getElem?_cons_succ, List.getElem?_cons_zero, List.set_cons_succ, List.set_cons_zero, hw]
  simp [e1, e2, lim_val, frD]
theorem at0 (a b : D) : L2.atI [a, b] 0 = some a := rfl
theorem at1 (a b : D) : L2.atI [a, b] 1 = some b := rfl
theorem sz.abs {n : Nat} {q : Rat} (h : sz n q) : q.num.natAbs < 2 ^ n := by
  obtain ⟨h1, h2, _⟩ := h
  have : ((2 ^ n : Nat) : Int) = 2 ^ n := by simp
  omega
theorem nat_of {i : Int} (h : 0 ≤ i) : ∃ n : Nat, i = n := ⟨i.toNat, by omega⟩
theorem times_ok {p q : Rat} {a b : Nat} (hp : sz a p) (hq : sz b q) (hab : a + b ≤ 8000) : g_times [frD p, frD q] = .ok (frD (p * q)) := by
  have h1 := hp.abs
  have h2 := hq.abs
  have e1 : dMul (.int p.num) (.int q.num) = .ok (.int (p.num * q.num)) := dMul_l h1 h2 (by omega)
  have e2 : dMul (.int (p.den : Int)) (.int (q.den : Int)) = .ok (.int ((p.den * q.den : Nat) : Int)) := by
    rw [dMul_l (a := a) (b := b) (by have := hp.2.2; omega) (by have := hq.2.2; omega) (by omega), Int.natCast_mul]
  obtain ⟨u, hu⟩ := nat_of (Int.mul_nonneg hp.1 hq.1)
  have hd : p.den * q.den < 2 ^ (a + b) := by rw [Nat.pow_add]; exact Nat.mul_lt_mul'' hp.2.2 hq.2.2
  have l := lowest_ok u (p.den * q.den) (Nat.mul_pos p.den_pos q.den_pos) hd (by omega)
  rw [Rat.mul_def', hu]
  rw [hu] at e1
  unfold g_times frD
  rw [fnD_e]
  simp [m_times, at0, at1, e1, e2] at l ⊢
  simp [l, frD]
theorem added_ok {p q : Rat} {a b : Nat} (hp : sz a p) (hq : sz b q) (hab : a + b ≤ 8000) : g_added [frD p, frD q] = .ok (frD (p + q)) := by
  have h1 := hp.abs
  have h2 := hq.abs
  have e1 : dMul (.int p.num) (.int (q.den : Int)) = .ok (.int (p.num * q.den)) := dMul_l h1 (b := b) (by have := hq.2.2; omega) (by omega)
  have e3 : dMul (.int q.num) (.int (p.den : Int)) = .ok (.int (q.num * p.den)) := dMul_l h2 (b := a) (by have := hp.2.2; omega) (by omega)
  have e2 : dMul (.int (p.den : Int)) (.int (q.den : Int)) = .ok (.int ((p.den * q.den : Nat) : Int)) := by
    rw [dMul_l (a := a) (b := b) (by have := hp.2.2; omega) (by have := hq.2.2; omega) (by omega), Int.natCast_mul]
  obtain ⟨u, hu⟩ := nat_of (Int.add_nonneg (Int.mul_nonneg hp.1 (Int.natCast_nonneg q.den)) (Int.mul_nonneg hq.1 (Int.natCast_nonneg p.den)))
  have hd : p.den * q.den < 2 ^ (a + b) := by rw [Nat.pow_add]; exact Nat.mul_lt_mul'' hp.2.2 hq.2.2
  have l := lowest_ok u (p.den * q.den) (Nat.mul_pos p.den_pos q.den_pos) hd (by omega)
  rw [Rat.add_def', hu]
  unfold g_added frD
  rw [fnD_e]
  simp [m_added, at0, at1, e1, e2, e3, hu] at l ⊢
  simp [l, frD]
theorem isLess_ok {p q : Rat} {a b : Nat} (hp : sz a p) (hq : sz b q) (hab : a + b ≤ 8000) : g_is_less [frD p, frD q] = .ok (.bl (decide (p < q))) := by
  have h1 := hp.abs
  have h2 := hq.abs
  have e1 : dMul (.int p.num) (.int (q.den : Int)) = .ok (.int (p.num * q.den)) := dMul_l h1 (b := b) (by have := hq.2.2; omega) (by omega)
  have e3 : dMul (.int q.num) (.int (p.den : Int)) = .ok (.int (q.num * p.den)) := dMul_l h2 (b := a) (by have := hp.2.2; omega) (by omega)
  have e : decide (p < q) = decide (p.num * q.den < q.num * p.den) := by simp [Rat.lt_iff]
  rw [e]
  unfold g_is_less frD
  rw [fnD_e]
  simp [m_is_less, at0, at1, e1, e3]
theorem sz_mono {n m : Nat} {q : Rat} (h : sz n q) (k : n ≤ m) : sz m q := by
  have : 2 ^ n ≤ 2 ^ m := Nat.pow_le_pow_right (by decide) k
  have c1 : ((2 ^ n : Nat) : Int) = 2 ^ n := by simp
  have c2 : ((2 ^ m : Nat) : Int) = 2 ^ m := by simp
  obtain ⟨h1, h2, h3⟩ := h
  refine ⟨h1, ?_, by omega⟩
  omega
theorem sz_mk {u d n : Nat} (hd : 0 < d) (hu : u < 2 ^ n) (hd2 : d < 2 ^ n) : sz n (mkRat u d) := by
  have hd0 : d ≠ 0 := by omega
  unfold sz
  rw [Rat.num_mkRat, Rat.den_mkRat, if_neg hd0, if_neg hd0]
  have c1 : ((2 ^ n : Nat) : Int) = 2 ^ n := by simp
  have g : 0 < Nat.gcd d u := Nat.gcd_pos_of_pos_left _ hd
  have e : ((u : Int)) / ((Nat.gcd d (u : Int).natAbs : Nat) : Int) = ((u / Nat.gcd d u : Nat) : Int) := by simp
  have l1 : u / Nat.gcd d u ≤ u := Nat.div_le_self _ _
  have l2 : d / Nat.gcd d u ≤ d := Nat.div_le_self _ _
  rw [e]
  refine ⟨Int.natCast_nonneg _, ?_, ?_⟩
  · rw [← c1]; exact Int.ofNat_lt.mpr (Nat.lt_of_le_of_lt l1 hu)
  · simpa using Nat.lt_of_le_of_lt l2 hd2
theorem sz_mul {p q : Rat} {a b : Nat} (hp : sz a p) (hq : sz b q) : sz (a + b) (p * q) := by
  rw [Rat.mul_def']
  obtain ⟨u, hu⟩ := nat_of (Int.mul_nonneg hp.1 hq.1)
  obtain ⟨x, hx⟩ := nat_of hp.1
  obtain ⟨y, hy⟩ := nat_of hq.1
  have h1 := hp.abs
  have h2 := hq.abs
  rw [hu]
  refine sz_mk (Nat.mul_pos p.den_pos q.den_pos) ?_ ?_
  · rw [hx, hy] at hu
    rw [hx] at h1
    rw [hy] at h2
    have : u = x * y := by rw [← Int.natCast_mul] at hu; omega
    rw [this, Nat.pow_add]
    exact Nat.mul_lt_mul'' (by simpa using h1) (by simpa using h2)
  · rw [Nat.pow_add]; exact Nat.mul_lt_mul'' hp.2.2 hq.2.2
theorem fr_inj {p q : Rat} : eqv 20 (frD p) (frD q) = decide (p = q) := by
  unfold frD
  rw [eqv_tup]
  show (eqv 19 (.int p.num) (.int q.num) && (eqv 19 (.int (p.den : Int)) (.int (q.den : Int)) && true)) = _
  rw [eqv_int, eqv_int, Bool.eq_iff_iff]
  simp only [Bool.and_true, Bool.and_eq_true, beq_iff_eq, decide_eq_true_eq]
  constructor
  · rintro ⟨h1, h2⟩; exact Rat.ext h1 (by omega)
  · rintro rfl; exact ⟨rfl, rfl⟩
theorem pl_fr (n : Nat) (q : Rat) : pl (n + 1) (frD q) = true := by
  unfold frD; rw [pl_tup]; simp
theorem fr_zero : frD 0 = .tup [.int 0, .int 1] := rfl
end
end KN
/-! PG: shares of names -/
namespace KN
open PySem PySem.Spec PyProof.Rows L2
noncomputable section
def tot (es : List Ev) (c : Tx) : Nat := es.countP fun e => e.1 == c
/-- how often l is behind c, of all behind c -/
def pq (es : List Ev) (e : Ev) : Rat := mkRat (es.count e) (tot es e.1)
theorem count_le_tot (es : List Ev) (e : Ev) : es.count e ≤ tot es e.1 := by
  unfold tot List.count
  exact List.countP_mono_left fun x _ h => by
    have : x = e := by simpa using h
    subst this; simp
theorem tot_le (es : List Ev) (c : Tx) : tot es c ≤ es.length := List.countP_le_length
theorem pq_sz {es : List Ev} (h : es.length < 2 ^ 8) (e : Ev) : sz 8 (pq es e) := by
  have h1 := count_le_tot es e
  have h2 := tot_le es e.1
  unfold pq
  by_cases z : tot es e.1 = 0
  · rw [z, Rat.mkRat_zero]; exact ⟨by decide, by decide, by decide⟩
  · exact sz_mk (by omega) (by omega) (by omega)
theorem pq_zero {es : List Ev} {e : Ev} (h : es.count e = 0) : pq es e = 0 := by
  unfold pq
  rw [h]; exact Rat.zero_mkRat _
theorem sum_vals {r : Rw} (nd : (ks r).Nodup) : ((ks r).map fun l => (lk r l).getD 0).sum = rsum r := by
  unfold rsum
  conv => rhs; rw [self_map 0 nd, List.map_map]
  rfl
theorem rsum_row (es : List Ev) (c : Tx) : rsum (rowOf (tabOf es) c) = (tot es c : Nat) := by
  have := rowsum es c
  unfold rowL at this
  rw [rsum_lst ((tabOk es).rnd c)] at this
  exact this
theorem part_ok {es : List Ev} (hes : es.length < 2 ^ 8) (c l : Tx) : g_part_of [tblD (tabOf es), .str c, .str l] = .ok (frD (pq es (c, l))) := by
  have T := tabOk es
  have hg := get_tbl (tabOf es) c
  have hv := T.val c l
  have hnd := T.rnd c
  have hlen := T.rlen c
  have hrs := rsum_row es c
  have e1 : lookK (rowD (rowOf (tabOf es) c)) l = (lk (rowOf (tabOf es) c) l).map .int := by rw [lookK_lk, lk_rowD]
  unfold g_part_of
  rw [fnD_e]
  unfold tblD
  by_cases z : es.count (c, l) = 0
  · rw [if_pos z] at hv
    rw [pq_zero z, fr_zero]
    have e2 : dNotIn (.str l) (.dic (rowD (rowOf (tabOf es) c))) = .ok (.bl true) := by
      unfold dNotIn dInB; simp [e1, hv]
    simp [m_part_of, bGet, hg, e2, lim_val]
  · rw [if_neg z] at hv
    have e2 : dNotIn (.str l) (.dic (rowD (rowOf (tabOf es) c))) = .ok (.bl false) := by
      unfold dNotIn dInB; simp [e1, hv]
    have e3 : lookK (rowD (rowOf (tabOf es) c)) l = some (.int (es.count (c, l) : Nat)) := by rw [e1, hv]; rfl
    have hk : keysD (rowD (rowOf (tabOf es) c)) = (ks (rowOf (tabOf es) c)).map D.str := by
      unfold keysD rowD ks; rw [List.map_map, List.map_map]; rfl
    have comp := lcGo_map (bd := bdN 4) (elt := b2 dIx (bVar 3) (bVar 4)) (γ := wipeG [.va (.dic ((tabOf es).map fun e => (e.1, D.dic (rowD e.2)))), .va (.str c), .va (.str l), .va (.dic (rowD (rowOf (tabOf es) c))), .un] [4]) (inj := D.str) (f := fun l => .int ((lk (rowOf (tabOf es) c) l).getD 0)) (l := ks (rowOf (tabOf es) c)) fun k hk => ⟨_, rfl, by
      have : ∃ n, lk (rowOf (tabOf es) c) k = some n := by
        cases z : lk (rowOf (tabOf es) c) k with
        | none => exact absurd hk (lk_none.mp z)
        | some n => exact ⟨n, rfl⟩
      obtain ⟨n, hn⟩ := this
      have lk1 : lookK (rowD (rowOf (tabOf es) c)) k = some (.int n) := by rw [lookK_lk, lk_rowD, hn]; rfl
      simp [wipeG, lk1, hn]⟩
    have hl2 : (ks (rowOf (tabOf es) c)).length = (rowOf (tabOf es) c).length := by simp [ks]
    have c2 := lcOut_e comp (by rw [List.length_map, lim_val]; omega)
    have e5 : ((ks (rowOf (tabOf es) c)).map fun l => D.int ((lk (rowOf (tabOf es) c) l).getD 0)) = ((ks (rowOf (tabOf es) c)).map fun l => (lk (rowOf (tabOf es) c) l).getD 0).map D.int := by rw [List.map_map]; rfl
    have e6 : dSum [.lst ((ks (rowOf (tabOf es) c)).map fun l => D.int ((lk (rowOf (tabOf es) c) l).getD 0))] = .ok (.int (tot es c : Nat)) := by
      rw [e5]
      show (o2r (asInts _)).bind (fun ns => R.ok (D.int ns.sum)) = _
      rw [asInts_map, o2r_some]
      show R.ok (D.int _) = _
      rw [sum_vals hnd, hrs]
    have hc := count_le_tot es (c, l)
    have ht := tot_le es c
    have hc : es.count (c, l) ≤ tot es c := hc
    have lo := lowest_ok (es.count (c, l)) (tot es c) (by omega) (m := 8) (by omega) (by omega)
    have hpq : pq es (c, l) = mkRat (es.count (c, l) : Nat) (tot es c) := rfl
    rw [hpq]
    generalize rowD (rowOf (tabOf es) c) = RD at *
    generalize ks (rowOf (tabOf es) c) = KS at *
    generalize (tabOf es).map (fun e => (e.1, D.dic (rowD e.2))) = TD at *
    simp [m_part_of, bGet, hg, e2, e3, bLcE, items, hk, c2, e6, lo]
/-! ### steps -/
def stepD (es : List Ev) (e : Ev) : D := .tup [.str e.1, .str e.2, frD (pq es e)]
def stepsD (es : List Ev) (o : Nat) (x : Tx) : D := .lst ((evs o x).map (stepD es))
def sIn : Ga → R Fl := fSeq (fSet 6 (bCall g_end_of (bCons (bVar 1) (bCons (bSl (bVar 2) (pNo) (pSo (bVar 5))) (bNil))))) (fSeq (fSet 7 (bSl (bVar 2) (pSo (bVar 5)) (pSo (b2 dAdd (bVar 5) (bC (.int 1)))))) (fApp 4 (bTup (bCons (bVar 6) (bCons (bVar 7) (bCons (bCall g_part_of (bCons (bVar 3) (bCons (bVar 6) (bCons (bVar 7) (bNil))))) (bNil)))))))
theorem m_steps_e : m_steps = fSeq (fExpr (bCall g_need_book (bCons (bVar 0) (bNil)))) (fSeq (fExpr (bCall g_need_order (bCons (bVar 1) (bNil)))) (fSeq (fExpr (bCall g_need_name (bCons (bVar 2) (bNil)))) (fSeq (fSet 3 (bCall g_counted (bCons (bVar 0) (bCons (bVar 1) (bNil))))) (fSeq (fOwn 4 (bLst (bNil))) (fSeq (fForI (iR1 (b2 dAdd (bN dLen (bCons (bVar 2) (bNil))) (bC (.int 1)))) (bdN 5) sIn) (fFz 4 (fRet (bVar 4)))))))) := rfl
theorem dLen_s {x : Tx} (h : x.length ≤ lim) : dLen [.str x] = .ok (.int x.length) := by
  show (if x.length ≤ lim then R.ok (D.int x.length) else .no) = _
  rw [if_pos h]
theorem iR1_s {fa : Ga → R D} {γ : Ga} {n : Nat} (h : fa γ = .ok (.int n)) (hn : n < 2 ^ 60) : iR1 fa γ = .ok ((List.range n).map fun i => .int (0 + (i : Nat))) := by
  have e : i2n (.int n) = .ok (n : Int) := i2n_i (by omega)
  unfold iR1
  simp [h, e, rng_e]
theorem steps_ok {b : List Tx} (hb : bookOk b) {o : Nat} (ho : 1 ≤ o ∧ o ≤ 3) {x : Tx} (hx : nameOk x) : g_steps [bkD b, .int o, .str x] = .ok (stepsD (evB o b) o x) := by
  have h1 := needBook_ok hb
  have h2 := needOrder_ok ho
  have h3 := needName_ok hx
  have h4 := counted_ok hb.small o
  have lx : x.length ≤ lim := by have := hx.2.1; rw [lim_val]; omega
  have hes : (evB o b).length < 2 ^ 8 := by have := evB_small hb.small o; omega
  have loop := forGo_inv (bd := bdN 5) (inj := fun i : Nat => D.int (0 + (i : Nat))) (l0 := List.range (x.length + 1)) (body := sIn)
    (I := fun dn γ => ∃ s5 s6 s7, γ = [.va (bkD b), .va (.int o), .va (.str x), .va (tblD (tabOf (evB o b))), .ow (.lst (dn.map fun i => stepD (evB o b) (cStep x o i))), s5, s6, s7])
    (γ := [.va (bkD b), .va (.int o), .va (.str x), .va (tblD (tabOf (evB o b))), .ow (.lst []), .un, .un, .un]) (fun dn i rest γ hr hI => by
      obtain ⟨s5, s6, s7, rfl⟩ := hI
      obtain ⟨hi1, hi2⟩ := range_split hr
      have c1 := cut1 lx i
      have c2 := cut2 lx i
      have c3 := end_ok o (t := x.take i) (by have := hx.2.1; simp; omega)
      have c4 := part_ok hes (endT o (x.take i)) ((x.drop i).take 1)
      have c5 : (dn.map fun i => stepD (evB o b) (cStep x o i)).length < lim := by have := hx.2.1; rw [List.length_map, lim_val]; omega
      refine ⟨_, rfl, [.va (bkD b), .va (.int o), .va (.str x), .va (tblD (tabOf (evB o b))), .ow (.lst ((dn.map fun i => stepD (evB o b) (cStep x o i)) ++ [stepD (evB o b) (cStep x o i)])), .va (.int (i : Nat)), .va (.str (endT o (x.take i))), .va (.str ((x.drop i).take 1))], .inl ?_, ?_⟩
      · have e : stepD (evB o b) (cStep x o i) = .tup [.str (endT o (x.take i)), .str ((x.drop i).take 1), frD (pq (evB o b) (endT o (x.take i), (x.drop i).take 1))] := rfl
        rw [e]
        generalize (dn.map fun i => stepD (evB o b) (cStep x o i)) = DN at *
        generalize tblD (tabOf (evB o b)) = TB at *
        generalize frD (pq (evB o b) (endT o (x.take i), (x.drop i).take 1)) = FR at *
        generalize endT o (x.take i) = ck at *
        generalize (x.drop i).take 1 = lt at *
        have l3 : 3 ≤ lim := by decide
        simp [sIn, bSl, pNo, pSo, toI, c1, c2, c3, c4, fApp, owL, l3, c5]
      · exact ⟨_, _, _, by rw [List.map_append, List.map_cons, List.map_nil]⟩) ⟨.un, .un, .un, rfl⟩
  obtain ⟨γ', l1, s5, s6, s7, rfl⟩ := loop
  have e0 : (b2 dAdd (bN dLen (bCons (bVar 2) (bNil))) (bC (.int 1))) [.va (bkD b), .va (.int o), .va (.str x), .va (tblD (tabOf (evB o b))), .ow (.lst []), .un, .un, .un] = .ok (.int ((x.length + 1 : Nat) : Int)) := by
    simp [dLen_s lx]
  have i1 := iR1_s e0 (by have := hx.2.1; omega)
  have f1 : fForI (iR1 (b2 dAdd (bN dLen (bCons (bVar 2) (bNil))) (bC (.int 1)))) (bdN 5) sIn [.va (bkD b), .va (.int o), .va (.str x), .va (tblD (tabOf (evB o b))), .ow (.lst []), .un, .un, .un] = .ok (.nx [.va (bkD b), .va (.int o), .va (.str x), .va (tblD (tabOf (evB o b))), .ow (.lst ((List.range (x.length + 1)).map fun i => stepD (evB o b) (cStep x o i))), s5, s6, s7]) := by
    unfold fForI
    rw [i1]
    exact l1
  have e9 : stepsD (evB o b) o x = .lst ((List.range (x.length + 1)).map fun i => stepD (evB o b) (cStep x o i)) := by
    unfold stepsD
    rw [evs_e, List.map_map]; rfl
  rw [e9]
  unfold g_steps
  rw [fnD_e, m_steps_e]
  generalize (List.range (x.length + 1)).map (fun i => stepD (evB o b) (cStep x o i)) = DN at *
  generalize tblD (tabOf (evB o b)) = TB at *
  generalize bkD b = B at *
  simp [h1, h2, h3, h4, f1, lim_val]
/-! ### shares -/
def shq (es : List Ev) (l : List Ev) : Rat := l.foldl (fun q e => q * pq es e) 1
def shareQ (es : List Ev) (o : Nat) (x : Tx) : Rat := shq es (evs o x)
theorem shq_sz {es : List Ev} (hes : es.length < 2 ^ 8) (l : List Ev) : sz (8 * l.length + 1) (shq es l) := by
  have aux : ∀ (l : List Ev) (q : Rat) (n : Nat), sz n q → sz (8 * l.length + n) (l.foldl (fun q e => q * pq es e) q) := by
    intro l
    induction l with
    | nil => intro q n h; simpa using h
    | cons e l ih =>
      intro q n h
      have := ih (q * pq es e) (n + 8) (sz_mul h (pq_sz hes e))
      rw [List.foldl_cons, List.length_cons]
      exact sz_mono this (by omega)
  exact aux l 1 1 ⟨by decide, by decide, by decide⟩
theorem share_ok {b : List Tx} (hb : bookOk b) {o : Nat} (ho : 1 ≤ o ∧ o ≤ 3) {x : Tx} (hx : nameOk x) : g_share [bkD b, .int o, .str x] = .ok (frD (shareQ (evB o b) o x)) := by
  have h1 := steps_ok hb ho hx
  have hes : (evB o b).length < 2 ^ 8 := by have := evB_small hb.small o; omega
  have hl : (evs o x).length ≤ 9 := by rw [evs_len]; have := hx.2.1; omega
  have loop := forGo_inv (bd := bdT [4, 5, 6]) (inj := stepD (evB o b)) (l0 := evs o x) (body := fSet 3 (bCall g_times (bCons (bVar 3) (bCons (bVar 6) (bNil)))))
    (I := fun dn γ => ∃ s4 s5 s6, γ = [.va (bkD b), .va (.int o), .va (.str x), .va (frD (shq (evB o b) dn)), s4, s5, s6])
    (γ := [.va (bkD b), .va (.int o), .va (.str x), .va (frD 1), .un, .un, .un]) (fun dn e rest γ hr hI => by
      obtain ⟨s4, s5, s6, rfl⟩ := hI
      have hdl : dn.length ≤ 9 := by have := congrArg List.length hr; simp at this; omega
      have t := times_ok (shq_sz hes dn) (pq_sz hes e) (by omega)
      have e1 : shq (evB o b) (dn ++ [e]) = shq (evB o b) dn * pq (evB o b) e := by unfold shq; rw [List.foldl_append]; rfl
      refine ⟨_, rfl, [.va (bkD b), .va (.int o), .va (.str x), .va (frD (shq (evB o b) (dn ++ [e]))), .va (.str e.1), .va (.str e.2), .va (frD (pq (evB o b) e))], .inl ?_, _, _, _, rfl⟩
      rw [e1]
      simp [t]) ⟨.un, .un, .un, rfl⟩
  obtain ⟨γ', l1, s4, s5, s6, rfl⟩ := loop
  unfold g_share
  rw [fnD_e]
  unfold stepsD at h1
  have l2 : forGo (bdT [4, 5, 6]) (fSet 3 (bCall g_times (bCons (bVar 3) (bCons (bVar 6) (bNil))))) ((evs o x).map (stepD (evB o b))) [.va (bkD b), .va (.int o), .va (.str x), .va (.tup [.int 1, .int 1]), .un, .un, .un] = _ := l1
  generalize (evs o x).map (stepD (evB o b)) = SD at *
  generalize bkD b = B at *
  simp [m_share, fForE, items, h1, lim_val, l2]
  rfl
theorem num_pos {q : Rat} : decide (0 < q.num) = decide (0 < q) := by
  have e := Rat.lt_iff 0 q
  have : (0 : Rat) < q ↔ 0 < q.num := by rw [e]; simp
  simp [this]
theorem makes_ok {b : List Tx} (hb : bookOk b) {o : Nat} (ho : 1 ≤ o ∧ o ≤ 3) {x : Tx} (hx : nameOk x) : g_makes [bkD b, .int o, .str x] = .ok (.bl (decide (0 < shareQ (evB o b) o x))) := by
  have h1 := share_ok hb ho hx
  unfold g_makes
  rw [fnD_e, ← num_pos]
  unfold frD at h1
  simp [m_makes, h1, at0]
theorem shareQ_sz {b : List Tx} (hb : bookOk b) (o : Nat) {x : Tx} (hx : nameOk x) : sz 80 (shareQ (evB o b) o x) := by
  have hes : (evB o b).length < 2 ^ 8 := by have := evB_small hb.small o; omega
  refine sz_mono (shq_sz hes (evs o x)) ?_
  rw [evs_len]; have := hx.2.1; omega
end
end KN
/-! PH: steps through a body, frames; more about shares -/
namespace KN
open PySem PySem.Spec PyProof.Rows L2
noncomputable section
section
variable {f g : Ga → R Fl} {γ γ' : Ga} {p : Ga → R Bool} {d : D} {i : Nat}
theorem seq_nx (h : f γ = .ok (.nx γ')) : fSeq f g γ = g γ' := by rw [fSeq_e, h]
theorem if_f (h : p γ = .ok false) : fIf p f fNil γ = .ok (.nx γ) := by rw [fIf_e, h]; rfl
theorem fn_rt {n : Nat} {ds : List D} (h : f (ds.map .va ++ List.replicate (n - ds.length) .un) = .ok (.rt d)) : fnD n f ds = .ok d := by rw [fnD_e, h]
theorem set_e {fa : Ga → R D} (h : fa γ = .ok d) : fSet i fa γ = .ok (.nx (γ.set i (.va d))) := by rw [fSet_e, h]; rfl
theorem ret_e {fa : Ga → R D} (h : fa γ = .ok d) : fRet fa γ = .ok (.rt d) := by rw [fRet_e, h]; rfl
theorem forE_e {fe : Ga → R D} {bd : D → Ga → R Ga} {ds : List D} {r : R Fl} (h : fe γ = .ok d) (hd : items d = .ok ds) (hn : ∀ es, d ≠ .dic es) (k : forGo bd g ds γ = r) : fForE fe bd g γ = r := by
  unfold fForE
  rw [h]
  cases d <;> first | exact absurd rfl (hn _) | (simp only [R.bind]; rw [hd]; exact k)
theorem lcE_e {fe elt : Ga → R D} {vs : List Nat} {bd : D → Ga → R Ga} {ifs : Ga → R Bool} {ds ys : List D} (h : fe γ = .ok d) (hd : items d = .ok ds) (k : lcGo bd ifs elt (wipeG γ vs) ds = .ok ys) (hl : ys.length ≤ lim) : bLcE fe vs bd ifs elt γ = .ok (.lst ys) := by
  unfold bLcE
  rw [h]
  simp only [R.bind]
  rw [hd]
  exact lcOut_e k hl
/-- a slot that holds d -/
abbrev At (γ : Ga) (i : Nat) (d : D) : Prop := γ[i]? = some (.va d)
theorem At.v (h : At γ i d) : bVar i γ = .ok d := by
  unfold At at h
  rw [bVar_e, h]
theorem At.set {s : Sl} {j : Nat} (h : At γ i d) (n : j ≠ i) : At (γ.set j s) i d := by
  unfold At at h ⊢
  rw [List.getElem?_set_ne n]; exact h
theorem At.new (h : i < γ.length) : At (γ.set i (.va d)) i d := by
  unfold At
  rw [List.getElem?_set_self h]
theorem At.wipe {vs : List Nat} (h : At γ i d) (n : i ∉ vs) : At (wipeG γ vs) i d := by
  induction vs with
  | nil => exact h
  | cons v vs ih =>
    simp only [List.mem_cons, not_or] at n
    exact (ih n.2).set (fun e => n.1 e.symm)
end
/-! ### shares -/
theorem mk_add {a b : Int} {t : Nat} (h : t ≠ 0) : mkRat a t + mkRat b t = mkRat (a + b) t := by
  rw [Rat.mkRat_add_mkRat _ _ h h, ← Int.add_mul, Rat.mkRat_mul_right h]
theorem pq_nonneg (es : List Ev) (e : Ev) : 0 ≤ pq es e := by
  have : 0 ≤ (pq es e).num := by
    unfold pq
    rw [Rat.num_mkRat]
    split
    · decide
    · exact Int.ediv_nonneg (by omega) (by omega)
  exact Rat.num_nonneg.mp this
theorem pq_pos {es : List Ev} {e : Ev} (h : e ∈ es) : 0 < pq es e := by
  have h0 := pq_nonneg es e
  have hc := List.count_pos_iff.mpr h
  have ht := count_le_tot es e
  have : pq es e ≠ 0 := by
    unfold pq
    rw [Rat.mkRat_ne_zero (by omega)]
    omega
  exact Rat.lt_of_le_of_ne h0 (Ne.symm this)
theorem pq_le_one (es : List Ev) (e : Ev) : pq es e ≤ 1 := by
  have hc := count_le_tot es e
  unfold pq
  by_cases z : tot es e.1 = 0
  · rw [z, Rat.mkRat_zero]; decide
  · have e1 : (1 : Rat) = mkRat (tot es e.1 : Nat) (tot es e.1) := by
      have := Rat.mkRat_mul_right (n := 1) (d := 1) (a := tot es e.1) z
      rw [Int.one_mul, Nat.one_mul] at this
      rw [this]; rfl
    have e2 : mkRat (tot es e.1 : Nat) (tot es e.1) = mkRat (es.count e : Nat) (tot es e.1) + mkRat ((tot es e.1 - es.count e : Nat)) (tot es e.1) := by
      rw [mk_add z]; congr 1; omega
    have e3 : 0 ≤ mkRat ((tot es e.1 - es.count e : Nat)) (tot es e.1) := by
      refine Rat.num_nonneg.mp ?_
      rw [Rat.num_mkRat, if_neg z]
      exact Int.ediv_nonneg (by omega) (by omega)
    rw [e1, e2]
    have := Rat.add_le_add_left (a := 0) (b := mkRat ((tot es e.1 - es.count e : Nat)) (tot es e.1)) (c := mkRat (es.count e : Nat) (tot es e.1))
    rw [Rat.add_zero] at this
    exact this.mpr e3
theorem shq_snoc (es l : List Ev) (e : Ev) : shq es (l ++ [e]) = shq es l * pq es e := by unfold shq; rw [List.foldl_append]; rfl
theorem shq_bnd (es : List Ev) : ∀ l : List Ev, ∀ q : Rat, 0 ≤ q → q ≤ 1 → 0 ≤ l.foldl (fun q e => q * pq es e) q ∧ l.foldl (fun q e => q * pq es e) q ≤ 1
  | [], q, h1, h2 => ⟨h1, h2⟩
  | e :: l, q, h1, h2 => shq_bnd es l (q * pq es e) (Rat.mul_nonneg h1 (pq_nonneg es e)) (by
    have a := Rat.mul_le_mul_of_nonneg_left (pq_le_one es e) h1
    rw [Rat.mul_one] at a
    exact Rat.le_trans a h2)
theorem share_ge (es : List Ev) (o : Nat) (x : Tx) : 0 ≤ shareQ es o x := (shq_bnd es _ 1 (by decide) (by decide)).1
theorem lt_tr {a b c : Rat} (h : a < b) (k : b < c) : a < c := Rat.lt_of_le_of_ne (Rat.le_trans (Rat.le_of_lt h) (Rat.le_of_lt k)) (fun e => by subst e; exact absurd (Rat.le_of_lt k) (Rat.not_le.mpr h))
end
end KN
/-! PI: small things that many laws ask -/
namespace KN
open PySem PySem.Spec PyProof.Rows L2
noncomputable section
theorem xNil : dNe (.lst []) (.lst []) = .ok (.bl false) := dNe_self (by rfl)
theorem frNe (q : Rat) : dNe (frD q) (frD q) = .ok (.bl false) := dNe_self (pl_fr 19 q)
theorem nmPl {x : Tx} (h : nameOk x) : pl 20 (.str x) = true := by rw [pl_str]; exact h.pl
theorem nmNe {x : Tx} (h : nameOk x) : dNe (.str x) (.str x) = .ok (.bl false) := dNe_self (nmPl h)
theorem intNe (i : Int) : dNe (.int i) (.int i) = .ok (.bl false) := dNe_self (by simp)
theorem blNe (i : Bool) : dNe (.bl i) (.bl i) = .ok (.bl false) := dNe_self (by simp)
theorem nilLst (xs : List D) : eqv 20 (.lst xs) (.lst []) = xs.isEmpty := by cases xs <;> rfl
theorem strEq {x y : Tx} (hx : chs x) (hy : chs y) : dEq (.str x) (.str y) = .ok (.bl (x == y)) := by
  rw [dEq_p (by rw [pl_str]; exact hx.all) (by rw [pl_str]; exact hy.all), eqv_str]
theorem nameOk.chs {x : Tx} (h : nameOk x) : chs x := fun c hc => by have := (h.2.2 c hc).2; omega
theorem goodN.nm {m : Int} (hm : m ≤ 8) {x : Tx} (h : goodN m x) : nameOk x := ⟨by have := h.1; omega, by have := h.2.1; omega, fun c hc => by
  rcases h.2.2 c hc with rfl | rfl | rfl <;> decide⟩
theorem evLe {o : Nat} {m : Nat} : ∀ {b : List Tx}, (∀ x ∈ b, x.length ≤ m) → (evB o b).length ≤ (m + 1) * b.length
  | [], _ => by simp [evB]
  | x :: b, h => by
    have := evLe (o := o) (b := b) fun y hy => h y (List.mem_cons_of_mem _ hy)
    have h0 := h x List.mem_cons_self
    unfold evB at this ⊢
    rw [List.flatMap_cons, List.length_append, evs_len, List.length_cons, Nat.mul_add]
    omega
theorem ixStr {t : Tx} (h : t.length ≤ lim) {i c : Nat} (hc : t[i]? = some c) : dIx (.str t) (.int i) = .ok (.str [c]) := by
  have : L2.atI t (i : Int) = some c := L2.atI_nat hc
  unfold dIx
  simp only [this]
  rw [if_pos h]
/-! ### products -/
theorem shq_ne {es : List Ev} : ∀ {l : List Ev} {q : Rat}, l.foldl (fun q e => q * pq es e) q ≠ 0 ↔ q ≠ 0 ∧ ∀ e ∈ l, pq es e ≠ 0
  | [], q => by simp
  | e :: l, q => by
    rw [List.foldl_cons, shq_ne (l := l)]
    constructor
    · rintro ⟨h1, h2⟩
      refine ⟨fun z => h1 (by rw [z, Rat.zero_mul]), fun f hf => ?_⟩
      rcases List.mem_cons.mp hf with rfl | hf
      · exact fun z => h1 (by rw [z, Rat.mul_zero])
      · exact h2 f hf
    · rintro ⟨h1, h2⟩
      refine ⟨fun z => ?_, fun f hf => h2 f (List.mem_cons_of_mem _ hf)⟩
      rcases Rat.mul_eq_zero.mp z with y | y
      · exact h1 y
      · exact h2 e List.mem_cons_self y
theorem share_pos_iff {es : List Ev} {o : Nat} {x : Tx} : 0 < shareQ es o x ↔ ∀ e ∈ evs o x, pq es e ≠ 0 := by
  have h := shq_ne (es := es) (l := evs o x) (q := 1)
  constructor
  · intro p
    exact (h.mp (fun z => by
      have p : 0 < (evs o x).foldl (fun q e => q * pq es e) 1 := p
      rw [z] at p; exact Rat.lt_irrefl p)).2
  · intro p
    exact Rat.lt_of_le_of_ne (share_ge es o x) (Ne.symm (h.mpr ⟨by decide, p⟩))
end
end KN
set_option maxHeartbeats 400000
/-! PJ: the best of many books -/
namespace KN
open PySem PySem.Spec PyProof.Rows L2
noncomputable section
/-! ### the first of the greatest -/
theorem nlt {a b : Rat} : ¬ a < b ↔ b ≤ a := Rat.not_lt
theorem le_lt_tr {a b c : Rat} (h : a ≤ b) (k : b < c) : a < c := Decidable.byContradiction fun z => by
  have z := nlt.mp z
  exact nlt.mpr (Rat.le_trans z h) k
/-! ### products -/
theorem sz0 : sz 1 0 := ⟨by decide, by decide, by decide⟩
end
end KN
set_option maxHeartbeats 400000
/-! PK: makers, best_maker; laws of the best -/
set_option maxHeartbeats 400000
/-! PL: all that a book makes -/
namespace KN
open PySem PySem.Spec PyProof.Rows L2
noncomputable section
def nxt (es : List Ev) (c : Tx) : List Tx := (sortT (ks (rowOf (tabOf es) c))).filter fun l => !(l == [])
def grow (es : List Ev) (o : Nat) (ts : List Tx) : List Tx := ts.flatMap fun t => (nxt es (endT o t)).map (t ++ ·)
def paths (es : List Ev) (o : Nat) : Nat → List Tx
  | 0 => [[]]
  | n + 1 => grow es o (paths es o n)
theorem dSort_strs (l : List Tx) : dSort [.lst (l.map .str)] = .ok (.lst ((sortT l).map .str)) := by
  cases l with
  | nil => simp [dSort, asTs, okK, sortK, sortT]
  | cons x l =>
    have e : asTs ((x :: l).map D.str) = none := rfl
    have e2 : asTxs ((x :: l).map D.str) = some (x :: l) := asTxs_map _
    unfold dSort
    simp only [e]
    unfold dSorted
    simp only [e2]
theorem dSort_row {r : Rw} (h : r.length < 64) : dSort [.dic (rowD r)] = .ok (.lst ((sortT (ks r)).map .str)) := by
  have e1 : (rowD r).map (·.1) = ks r := ks_rowD r
  unfold dSort dSorted
  simp only [len_rowD, h, if_true, e1]
theorem row_chs {es : List Ev} (h : ∀ e ∈ es, chs e.2) {c l : Tx} (hl : l ∈ ks (rowOf (tabOf es) c)) : chs l := by
  have : lk (rowOf (tabOf es) c) l ≠ none := fun z => lk_none.mp z hl
  rw [(tabOk es).val] at this
  split at this
  · exact absurd rfl this
  · rename_i z
    exact h (c, l) (Decidable.byContradiction fun y => z (List.count_eq_zero.mpr y))
theorem row_mem2 {es : List Ev} {c l : Tx} : l ∈ ks (rowOf (tabOf es) c) ↔ (c, l) ∈ es := by
  have h := (tabOk es).val c l
  constructor
  · intro hl
    have : lk (rowOf (tabOf es) c) l ≠ none := fun z => lk_none.mp z hl
    rw [h] at this
    split at this
    · exact absurd rfl this
    · rename_i z
      exact Decidable.byContradiction fun y => z (List.count_eq_zero.mpr y)
  · intro hl
    refine Decidable.byContradiction fun y => ?_
    have := lk_none.mpr y
    rw [h] at this
    split at this
    · rename_i z; exact List.count_eq_zero.mp z hl
    · cases this
theorem nxt_mem {es : List Ev} {c l : Tx} : l ∈ nxt es c ↔ (c, l) ∈ es ∧ l ≠ [] := by
  unfold nxt
  rw [List.mem_filter, (sortT_perm _).mem_iff, row_mem2]
  simp
theorem needNumber_ok {i lo hi : Int} (h : lo ≤ i ∧ i ≤ hi) : g_need_number [.int i, .int lo, .int hi] = .ok .non := by
  have := isNumber_ok (i := i) (lo := lo) (hi := hi)
  rw [decide_eq_true h] at this
  unfold g_need_number
  rw [fnD_e]
  simp [m_need_number, this]
theorem needAll_ok {b : List Tx} (hb : bookOk b) {o : Nat} (ho : 1 ≤ o ∧ o ≤ 3) {n : Nat} (hn : 1 ≤ n ∧ n ≤ 8) : g_need_all [bkD b, .int o, .int n] = .ok .non := by
  have h1 := needBook_ok hb
  have h2 := needOrder_ok ho
  have h3 := needNumber_ok (i := (n : Int)) (lo := 1) (hi := 8) (by omega)
  unfold g_need_all
  rw [fnD_e]
  simp [m_need_all, h1, h2, h3]
theorem path_len {es : List Ev} (hc : ∀ e ∈ es, e.2.length ≤ 1) (o : Nat) : ∀ (n : Nat), ∀ t ∈ paths es o n, t.length = n
  | 0, t, h => by
    have : t = [] := List.mem_singleton.mp h
    rw [this]; rfl
  | n + 1, t, h => by
    obtain ⟨u, hu, h⟩ := List.mem_flatMap.mp h
    obtain ⟨l, hl, rfl⟩ := List.mem_map.mp h
    have ih := path_len hc o n u hu
    obtain ⟨h1, h2⟩ := nxt_mem.mp hl
    have := hc _ h1
    have : l.length = 1 := by
      have : l.length ≠ 0 := fun z => h2 (List.length_eq_zero_iff.mp z)
      have := hc _ h1
      simp at this; omega
    rw [List.length_append, ih, this]
/-- the end may stand behind t -/
def ends (es : List Ev) (o : Nat) (t : Tx) : Bool := decide ((endT o t, []) ∈ es)
def made (es : List Ev) (o n : Nat) : List Tx := sortT ((paths es o n).filter (ends es o))
theorem in_row {es : List Ev} (c l : Tx) : dIn (.str l) (.dic (rowD (rowOf (tabOf es) c))) = .ok (.bl (decide ((c, l) ∈ es))) := by
  show (R.ok (lookK (rowD (rowOf (tabOf es) c)) l).isSome).bind (fun b => R.ok (D.bl b)) = _
  rw [lookK_lk, lk_rowD, (tabOk es).val]
  show R.ok (D.bl _) = _
  congr 2
  rw [Bool.eq_iff_iff]
  by_cases z : es.count (c, l) = 0
  · have := List.count_eq_zero.mp z
    simp [z, this]
  · have : (c, l) ∈ es := Decidable.byContradiction fun y => z (List.count_eq_zero.mpr y)
    simp [z, this]
end
end KN
set_option maxHeartbeats 400000
/-! PM: what is made, by its shares -/
namespace KN
open PySem PySem.Spec PyProof.Rows L2
noncomputable section
theorem step_app {o i : Nat} {u l : Tx} (h : i < u.length) : cStep (u ++ l) o i = cStep u o i := by
  unfold cStep
  rw [List.take_append_of_le_length (by omega), List.drop_append_of_le_length (by omega)]
  congr 1
  rw [List.take_append_of_le_length (by simp; omega)]
theorem step_last {o : Nat} {u l : Tx} (h : l.length ≤ 1) : cStep (u ++ l) o u.length = (endT o u, l) := by
  unfold cStep
  simp [List.take_of_length_le h]
theorem path_mem {es : List Ev} (hc : ∀ e ∈ es, e.2.length ≤ 1) (o : Nat) : ∀ (n : Nat) (t : Tx), t ∈ paths es o n ↔ t.length = n ∧ ∀ i, i < n → cStep t o i ∈ es
  | 0, t => by
    constructor
    · intro h
      have : t = [] := List.mem_singleton.mp h
      subst this
      exact ⟨rfl, fun i hi => by omega⟩
    · rintro ⟨h, _⟩
      rw [List.length_eq_zero_iff.mp h]
      exact List.mem_singleton.mpr rfl
  | n + 1, t => by
    constructor
    · intro h
      have hlen := path_len hc o (n + 1) t h
      refine ⟨hlen, ?_⟩
      obtain ⟨u, hu, h⟩ := List.mem_flatMap.mp h
      obtain ⟨l, hl, rfl⟩ := List.mem_map.mp h
      obtain ⟨h1, h2⟩ := (path_mem hc o n u).mp hu
      obtain ⟨h3, h4⟩ := nxt_mem.mp hl
      have h5 : l.length ≤ 1 := hc _ h3
      intro i hi
      by_cases z : i < n
      · rw [step_app (by omega)]; exact h2 i z
      · have : i = u.length := by omega
        rw [this, step_last h5]; exact h3
    · rintro ⟨h1, h2⟩
      have e : t = t.take n ++ t.drop n := (List.take_append_drop n t).symm
      have hl : (t.drop n).length = 1 := by simp; omega
      have hu : (t.take n).length = n := by simp; omega
      refine List.mem_flatMap.mpr ⟨t.take n, (path_mem hc o n _).mpr ⟨hu, fun i hi => ?_⟩, List.mem_map.mpr ⟨t.drop n, nxt_mem.mpr ⟨?_, ?_⟩, e.symm⟩⟩
      · have := h2 i (by omega)
        rw [e, step_app (by omega)] at this
        exact this
      · have := h2 n (by omega)
        rw [e] at this
        have q := step_last (o := o) (u := t.take n) (l := t.drop n) (by omega)
        rw [hu] at q
        rw [q] at this
        exact this
      · intro z; rw [z] at hl; simp at hl
theorem pq_iff {es : List Ev} {e : Ev} : pq es e ≠ 0 ↔ e ∈ es := by
  constructor
  · intro h
    exact Decidable.byContradiction fun z => h (pq_zero (List.count_eq_zero.mpr z))
  · intro h z
    have := pq_pos h
    rw [z] at this
    exact Rat.lt_irrefl this
theorem share_iff {es : List Ev} {o : Nat} {t : Tx} : 0 < shareQ es o t ↔ ∀ e ∈ evs o t, e ∈ es := by
  rw [share_pos_iff]
  exact ⟨fun h e he => pq_iff.mp (h e he), fun h e he => pq_iff.mpr (h e he)⟩
theorem made_mem {es : List Ev} (hc : ∀ e ∈ es, e.2.length ≤ 1) {o n : Nat} {t : Tx} : t ∈ made es o n ↔ t.length = n ∧ 0 < shareQ es o t := by
  unfold made
  rw [(sortT_perm _).mem_iff, List.mem_filter, path_mem hc]
  unfold ends
  rw [decide_eq_true_iff, share_iff]
  constructor
  · rintro ⟨⟨h1, h2⟩, h3⟩
    refine ⟨h1, fun e he => ?_⟩
    rw [evs_e] at he
    obtain ⟨i, hi, rfl⟩ := List.mem_map.mp he
    have hi := List.mem_range.mp hi
    by_cases z : i < n
    · exact h2 i z
    · have : i = t.length := by omega
      rw [this]
      unfold cStep
      simpa using h3
  · rintro ⟨h1, h2⟩
    refine ⟨⟨h1, fun i hi => h2 _ (by rw [evs_e]; exact List.mem_map.mpr ⟨i, List.mem_range.mpr (by omega), rfl⟩)⟩, ?_⟩
    have := h2 (cStep t o t.length) (by rw [evs_e]; exact List.mem_map.mpr ⟨t.length, List.mem_range.mpr (by omega), rfl⟩)
    unfold cStep at this
    simpa using this
theorem nxt_nodup (es : List Ev) (c : Tx) : (nxt es c).Nodup := by
  unfold nxt
  exact List.Pairwise.filter _ ((sortT_perm _).nodup_iff.mpr ((tabOk es).rnd c))
theorem nd_flat {α β : Type} {f : α → List β} : ∀ {l : List α}, l.Pairwise (fun a b => ∀ x, x ∈ f a → x ∉ f b) → (∀ a ∈ l, (f a).Nodup) → (l.flatMap f).Nodup
  | [], _, _ => by simp
  | a :: l, h, k => by
    rw [List.pairwise_cons] at h
    rw [List.flatMap_cons, List.nodup_append]
    refine ⟨k a List.mem_cons_self, nd_flat h.2 fun b hb => k b (List.mem_cons_of_mem _ hb), fun x hx y hy e => ?_⟩
    subst e
    obtain ⟨b, hb, hxb⟩ := List.mem_flatMap.mp hy
    exact h.1 b hb x hx hxb
theorem path_nodup {es : List Ev} (hc : ∀ e ∈ es, e.2.length ≤ 1) (o : Nat) : ∀ n, (paths es o n).Nodup
  | 0 => by show ([[]] : List Tx).Nodup; simp
  | n + 1 => by
    have ih := path_nodup hc o n
    have len := path_len hc o n
    show (grow es o (paths es o n)).Nodup
    unfold grow
    refine nd_flat ?_ fun t _ => ?_
    rotate_left
    · exact (List.pairwise_map.mpr ((nxt_nodup es _).imp fun h e => h (List.append_cancel_left e)))
    · refine List.Pairwise.imp_of_mem (fun {a b} ha hb hab => ?_) ih
      intro x hx hy
      obtain ⟨l, _, e1⟩ := List.mem_map.mp hx
      obtain ⟨k, _, e2⟩ := List.mem_map.mp hy
      have la := len a ha
      have lb := len b hb
      have := congrArg (List.take n) (e1.trans e2.symm)
      rw [List.take_left' la, List.take_left' lb] at this
      exact hab this
end
end KN
set_option maxHeartbeats 400000
/-! PN: ways: numbers and shares by contexts -/
namespace KN
open PySem PySem.Spec PyProof.Rows L2
noncomputable section
abbrev Wt := List (Tx × (Int × Rat))
abbrev It3 := Tx × (Int × Rat)
def wv (W : Wt) (k : Tx) : Int × Rat := (lk W k).getD (0, 0)
def wadd (W : Wt) (e : It3) : Wt := pt W e.1 ((wv W e.1).1 + e.2.1, (wv W e.1).2 + e.2.2)
def rS : List Rat → Rat := fun l => l.foldl (· + ·) 0
theorem rS_acc : ∀ (l : List Rat) (a : Rat), l.foldl (· + ·) a = a + rS l
  | [], a => (Rat.add_zero a).symm
  | x :: l, a => by
    unfold rS
    rw [List.foldl_cons, List.foldl_cons, rS_acc l, rS_acc l, Rat.zero_add, Rat.add_assoc]
theorem rS_cons (x : Rat) (l : List Rat) : rS (x :: l) = x + rS l := by
  show (x :: l).foldl _ 0 = _
  rw [List.foldl_cons, rS_acc, Rat.zero_add]
theorem rS_app (l m : List Rat) : rS (l ++ m) = rS l + rS m := by
  show (l ++ m).foldl _ 0 = _
  rw [List.foldl_append, rS_acc]; rfl
theorem wfold_nd : ∀ (its : List It3) {W : Wt}, (ks W).Nodup → (ks (its.foldl wadd W)).Nodup
  | [], _, h => h
  | e :: its, W, h => wfold_nd its (nd_pt h _ _)
/-! ### no denominator is long -/
def fct : Nat → Nat
  | 0 => 1
  | n + 1 => (n + 1) * fct n
theorem fct_pos : ∀ n, 0 < fct n
  | 0 => by decide
  | n + 1 => Nat.mul_pos (by omega) (fct_pos n)
theorem fct_dvd {t : Nat} (h0 : 0 < t) : ∀ {n : Nat}, t ≤ n → t ∣ fct n
  | 0, h => by omega
  | n + 1, h => by
    by_cases z : t = n + 1
    · subst z; exact Nat.dvd_mul_right _ _
    · exact Nat.dvd_mul_left_of_dvd (fct_dvd h0 (by omega)) _
theorem fct72 : fct 72 < 2 ^ 346 := by decide +kernel
/-- a share of n steps, summed over m -/
def Fr (n m : Nat) (q : Rat) : Prop := ∃ a : Nat, q = mkRat a (fct 72 ^ n) ∧ a ≤ m * fct 72 ^ n
theorem K_ne (n : Nat) : fct 72 ^ n ≠ 0 := Nat.ne_of_gt (Nat.pow_pos (fct_pos 72))
theorem Fr.zero (n : Nat) : Fr n 0 0 := ⟨0, (Rat.zero_mkRat _).symm, by omega⟩
theorem Fr.one : Fr 0 1 1 := ⟨1, rfl, by simp⟩
theorem Fr.add {n m k : Nat} {p q : Rat} (hp : Fr n m p) (hq : Fr n k q) : Fr n (m + k) (p + q) := by
  obtain ⟨a, rfl, h1⟩ := hp
  obtain ⟨b, rfl, h2⟩ := hq
  refine ⟨a + b, by rw [mk_add (K_ne n), Int.natCast_add], ?_⟩
  rw [Nat.add_mul]; omega
theorem mk_mul (a b : Int) {c d : Nat} : mkRat a c * mkRat b d = mkRat (a * b) (c * d) := by
  first | exact Rat.mkRat_mul_mkRat .. | simp [Rat.mkRat_mul_mkRat]
theorem pq_fct {es : List Ev} (hes : es.length ≤ 72) (e : Ev) : ∃ c : Nat, pq es e = mkRat c (fct 72) ∧ c ≤ fct 72 := by
  have hc := count_le_tot es e
  have ht := tot_le es e.1
  unfold pq
  by_cases z : tot es e.1 = 0
  · rw [z, Rat.mkRat_zero]; exact ⟨0, (Rat.zero_mkRat _).symm, by omega⟩
  · obtain ⟨k, hk⟩ := fct_dvd (t := tot es e.1) (by omega) (n := 72) (by omega)
    have k0 : k ≠ 0 := by
      rintro rfl
      have := fct_pos 72
      omega
    refine ⟨es.count e * k, ?_, ?_⟩
    · rw [hk, Int.natCast_mul, Rat.mkRat_mul_right k0]
    · rw [hk]; exact Nat.mul_le_mul_right _ hc
theorem Fr.mul {n m : Nat} {q : Rat} (hq : Fr n m q) {es : List Ev} (hes : es.length ≤ 72) (e : Ev) : Fr (n + 1) m (q * pq es e) := by
  obtain ⟨a, rfl, h1⟩ := hq
  obtain ⟨c, h2, h3⟩ := pq_fct hes e
  refine ⟨a * c, by rw [h2, mk_mul, Nat.pow_succ, Int.natCast_mul], ?_⟩
  rw [Nat.pow_succ, ← Nat.mul_assoc]
  exact Nat.mul_le_mul h1 h3
theorem Fr.sz {n m : Nat} {q : Rat} (hq : Fr n m q) (hn : n ≤ 9) (hm : m < 2 ^ 20) : sz 3200 q := by
  obtain ⟨a, rfl, h1⟩ := hq
  have k1 : fct 72 ^ n ≤ 2 ^ 3114 := by
    have h := Nat.pow_le_pow_left (Nat.le_of_lt fct72) n
    have h2 : (2 ^ 346) ^ n ≤ 2 ^ 3114 := by
      rw [← Nat.pow_mul]
      exact Nat.pow_le_pow_right (by decide) (by omega)
    exact Nat.le_trans h h2
  have k2 : a < 2 ^ 3200 := by
    have h2 : m * fct 72 ^ n ≤ 2 ^ 20 * 2 ^ 3114 := Nat.mul_le_mul (by omega) k1
    rw [← Nat.pow_add] at h2
    have h3 : 2 ^ (20 + 3114) < 2 ^ 3200 := Nat.pow_lt_pow_right (by decide) (by decide)
    omega
  have k3 : fct 72 ^ n < 2 ^ 3200 := Nat.lt_of_le_of_lt k1 (Nat.pow_lt_pow_right (by decide) (by decide))
  exact sz_mk (Nat.pos_of_ne_zero (K_ne n)) k2 k3
end
end KN
set_option maxHeartbeats 400000
/-! PO: ways, evaluated -/
namespace KN
open PySem PySem.Spec PyProof.Rows L2
noncomputable section
def wE (e : Int × Rat) : D := .tup [.int e.1, frD e.2]
def wD (W : Wt) : List (Tx × D) := W.map fun e => (e.1, wE e.2)
theorem lk_wD (W : Wt) (k : Tx) : lk (wD W) k = (lk W k).map wE := lk_map wE W k
theorem get_wD (W : Wt) (k : Tx) : (lookK (wD W) k).getD (.tup [.int 0, .tup [.int 0, .int 1]]) = wE (wv W k) := by
  rw [lookK_lk, lk_wD]
  unfold wv
  cases lk W k <;> rfl
theorem ks_wD (W : Wt) : ks (wD W) = ks W := ks_map wE W
theorem put_wD {W : Wt} (nd : (ks W).Nodup) (k : Tx) (v : Int × Rat) : putD (wD W) k (wE v) = wD (pt W k v) := by
  rw [putD_pt (by rw [ks_wD]; exact nd)]
  exact (pt_map wE W k v).symm
abbrev pt' {α : Type} := @pt α
def wI : Ga → R Fl := fSeq (fSet 10 (bCall g_end_of (bCons (bVar 1) (bCons (b2 dAdd (bVar 6) (bVar 7)) (bNil))))) (fSeq (fSet 11 (bGet (bRd 5) (bVar 10) (bTup (bCons (bC (.int 0)) (bCons (bTup (bCons (bC (.int 0)) (bCons (bC (.int 1)) (bNil)))) (bNil)))))) (fSeq (fSet 12 (bCall g_times (bCons (bVar 9) (bCons (bCall g_part_of (bCons (bVar 0) (bCons (bVar 6) (bCons (bVar 7) (bNil))))) (bNil))))) (fPut 5 (bVar 10) (bTup (bCons (b2 dAdd (b2 dIx (bVar 11) (bC (.int 0))) (bVar 8)) (bCons (bCall g_added (bCons (b2 dIx (bVar 11) (bC (.int 1))) (bCons (bVar 12) (bNil)))) (bNil)))))))
structure Wk (es : List Ev) (o : Nat) (n : D) (γ : Ga) : Prop where
  len : γ.length = 13
  t : At γ 0 (tblD (tabOf es))
  o : At γ 1 (.int o)
  n : At γ 2 n
abbrev Ao' (γ : Ga) (i : Nat) (d : D) : Prop := γ[i]? = some (.ow d)
theorem Wk.set {es : List Ev} {o : Nat} {n : D} {γ : Ga} {s : Sl} {j : Nat} (F : Wk es o n γ) (h1 : 3 ≤ j) : Wk es o n (γ.set j s) :=
  ⟨by simp [F.len], F.t.set (by omega), F.o.set (by omega), F.n.set (by omega)⟩
theorem Ao'.set {γ : Ga} {s : Sl} {i j : Nat} {d : D} (h : Ao' γ i d) (n : j ≠ i) : Ao' (γ.set j s) i d := by
  unfold Ao' at h ⊢
  rw [List.getElem?_set_ne n]; exact h
theorem wI_ok {es : List Ev} (hes : es.length ≤ 72) {o : Nat} {n X : D} {γ : Ga} (F : Wk es o n γ) {c l : Tx} {m : Int} {q : Rat} {W : Wt} (h3 : At γ 3 X) (h6 : At γ 6 (.str c)) (h7 : At γ 7 (.str l)) (h8 : At γ 8 (.int m)) (h9 : At γ 9 (frD q)) (h5 : Ao' γ 5 (.dic (wD W)))
    (hcl : c.length + l.length ≤ 500) (nd : (ks W).Nodup) (hW : W.length < 900000) {a b : Nat} (ha : sz a q) (hb : sz b (wv W (endT o (c ++ l))).2) (hab : a + 8 + b ≤ 8000) :
    ∃ γ', wI γ = .ok (.nx γ') ∧ Wk es o n γ' ∧ At γ' 3 X ∧ At γ' 6 (.str c) ∧ At γ' 8 (.int m) ∧ At γ' 9 (frD q) ∧ Ao' γ' 5 (.dic (wD (wadd W (endT o (c ++ l), (m, q * pq es (c, l)))))) := by
  have en := end_ok o (t := c ++ l) (by simp; omega)
  have pt := part_ok (es := es) (by omega) c l
  have tm := times_ok ha (pq_sz (es := es) (by omega) (c, l)) (by omega)
  have ad := added_ok hb (sz_mul ha (pq_sz (es := es) (by omega) (c, l))) (by omega)
  have cc : dAdd (.str c) (.str l) = .ok (.str (c ++ l)) := by
    show (if c.length + l.length ≤ lim then R.ok (D.str (c ++ l)) else .no) = _
    rw [if_pos (by rw [lim_val]; omega)]
  have gw := get_wD W (endT o (c ++ l))
  have pw := put_wD nd (endT o (c ++ l)) ((wv W (endT o (c ++ l))).1 + m, (wv W (endT o (c ++ l))).2 + q * pq es (c, l))
  have ew : wadd W (endT o (c ++ l), (m, q * pq es (c, l))) = pt' W (endT o (c ++ l)) ((wv W (endT o (c ++ l))).1 + m, (wv W (endT o (c ++ l))).2 + q * pq es (c, l)) := rfl
  rw [ew]
  have lw : (wD W).length < lim := by unfold wD; rw [List.length_map, lim_val]; omega
  have l2 : 2 ≤ lim := by decide
  generalize endT o (c ++ l) = k at *
  generalize wv W k = v at *
  generalize pq es (c, l) = p at *
  have t0 := F.t
  have t1 := F.o
  have hl := F.len
  unfold wI
  have e10 : fSet 10 (bCall g_end_of (bCons (bVar 1) (bCons (b2 dAdd (bVar 6) (bVar 7)) (bNil)))) γ = .ok (.nx (γ.set 10 (.va (.str k)))) := set_e (by
    simp [t1, h6, h7, cc, en])
  rw [seq_nx e10]
  have a10 : At (γ.set 10 (.va (.str k))) 10 (.str k) := At.new (by omega)
  have e11 : fSet 11 (bGet (bRd 5) (bVar 10) (bTup (bCons (bC (.int 0)) (bCons (bTup (bCons (bC (.int 0)) (bCons (bC (.int 1)) (bNil)))) (bNil))))) (γ.set 10 (.va (.str k))) = .ok (.nx ((γ.set 10 (.va (.str k))).set 11 (.va (wE v)))) := set_e (by
    have h5' := Ao'.set (s := .va (.str k)) h5 (j := 10) (by omega)
    unfold bGet
    generalize wD W = WD at *
    simp only [bRd_e, h5', bVar_e, a10, bTup_e, bCons_e, bNil_e, bC_e, R.bind, List.length_cons, List.length_nil, l2, if_true, gw])
  rw [seq_nx e11]
  have F1 : Wk es o n ((γ.set 10 (.va (.str k))).set 11 (.va (wE v))) := (F.set (by omega)).set (by omega)
  have g3 : At ((γ.set 10 (.va (.str k))).set 11 (.va (wE v))) 3 X := (h3.set (by omega)).set (by omega)
  have g5 : Ao' ((γ.set 10 (.va (.str k))).set 11 (.va (wE v))) 5 (.dic (wD W)) := (h5.set (by omega)).set (by omega)
  have g6 : At ((γ.set 10 (.va (.str k))).set 11 (.va (wE v))) 6 (.str c) := (h6.set (by omega)).set (by omega)
  have g7 : At ((γ.set 10 (.va (.str k))).set 11 (.va (wE v))) 7 (.str l) := (h7.set (by omega)).set (by omega)
  have g8 : At ((γ.set 10 (.va (.str k))).set 11 (.va (wE v))) 8 (.int m) := (h8.set (by omega)).set (by omega)
  have g9 : At ((γ.set 10 (.va (.str k))).set 11 (.va (wE v))) 9 (frD q) := (h9.set (by omega)).set (by omega)
  have g10 : At ((γ.set 10 (.va (.str k))).set 11 (.va (wE v))) 10 (.str k) := a10.set (by omega)
  have g11 : At ((γ.set 10 (.va (.str k))).set 11 (.va (wE v))) 11 (wE v) := At.new (by simp; omega)
  generalize (γ.set 10 (.va (.str k))).set 11 (.va (wE v)) = γ1 at *
  have t0 := F1.t
  have hl1 := F1.len
  have e12 : fSet 12 (bCall g_times (bCons (bVar 9) (bCons (bCall g_part_of (bCons (bVar 0) (bCons (bVar 6) (bCons (bVar 7) (bNil))))) (bNil)))) γ1 = .ok (.nx (γ1.set 12 (.va (frD (q * p))))) := set_e (by
    generalize tblD (tabOf es) = T at *
    simp [t0, g6, g7, g9, pt, tm])
  rw [seq_nx e12]
  have k5 : Ao' (γ1.set 12 (.va (frD (q * p)))) 5 (.dic (wD W)) := g5.set (by omega)
  have k8 : At (γ1.set 12 (.va (frD (q * p)))) 8 (.int m) := g8.set (by omega)
  have k10 : At (γ1.set 12 (.va (frD (q * p)))) 10 (.str k) := g10.set (by omega)
  have k11 : At (γ1.set 12 (.va (frD (q * p)))) 11 (wE v) := g11.set (by omega)
  have k12 : At (γ1.set 12 (.va (frD (q * p)))) 12 (frD (q * p)) := At.new (by omega)
  refine ⟨(γ1.set 12 (.va (frD (q * p)))).set 5 (.ow (.dic (wD (pt' W k (v.1 + m, v.2 + q * p))))), ?_, (F1.set (by omega)).set (by omega), (g3.set (by omega)).set (by omega), (g6.set (by omega)).set (by omega), k8.set (by omega), (g9.set (by omega)).set (by omega), List.getElem?_set_self (by simp; omega)⟩
  have ok : owK (γ1.set 12 (.va (frD (q * p)))) 5 = some (wD W) := by unfold owK; rw [k5]
  unfold fPut
  rw [ok]
  simp only
  have val : bTup (bCons (b2 dAdd (b2 dIx (bVar 11) (bC (.int 0))) (bVar 8)) (bCons (bCall g_added (bCons (b2 dIx (bVar 11) (bC (.int 1))) (bCons (bVar 12) (bNil)))) (bNil))) (γ1.set 12 (.va (frD (q * p)))) = .ok (wE (v.1 + m, v.2 + q * p)) := by
    unfold wE at k11 ⊢
    generalize γ1.set 12 (.va (frD (q * p))) = γ2 at *
    simp [k8, k11, k12, at0, at1, ad, l2]
  rw [val, k10.v]
  show (if (wD W).length < lim then R.ok (Fl.nx (List.set (γ1.set 12 (.va (frD (q * p)))) 5 (.ow (.dic (putD (wD W) k (wE (v.1 + m, v.2 + q * p))))))) else R.no) = _
  rw [if_pos lw, pw]
/-! ### the letters behind a context -/
theorem forE_d {g : Ga → R Fl} {γ γ' : Ga} {fe : Ga → R D} {bd : D → Ga → R Ga} {es : List (Tx × D)} (h : fe γ = .ok (.dic es)) (k : forGo bd g (keysD es) γ = .ok (.nx γ')) : fForE fe bd g γ = .ok (.nx γ') := by
  unfold fForE
  rw [h]
  simp only [R.bind]
  rw [k]; rfl
def wL : Ga → R Fl := fIf (tVal (b2 dNe (bVar 7) (bC (.str [])))) wI (fNil)
def items3 (es : List Ev) (o : Nat) (c : Tx) (m : Int) (q : Rat) (ls : List Tx) : List It3 := (ls.filter fun l => !(l == [])).map fun l => (endT o (c ++ l), (m, q * pq es (c, l)))
theorem keys_row (r : Rw) : keysD (rowD r) = (ks r).map .str := by
  unfold keysD rowD ks; rw [List.map_map, List.map_map]; rfl
theorem wL_loop {es : List Ev} (hes : es.length ≤ 72) {o : Nat} {n X : D} {γ : Ga} (F : Wk es o n γ) {c : Tx} {m : Int} {q : Rat} {W : Wt} (h3 : At γ 3 X) (h6 : At γ 6 (.str c)) (h8 : At γ 8 (.int m)) (h9 : At γ 9 (frD q)) (h5 : Ao' γ 5 (.dic (wD W)))
    {ls : List Tx} (hc : c.length ≤ 400) (hls : ∀ l ∈ ls, l.length ≤ 8 ∧ chs l) (nd : (ks W).Nodup) (hW : W.length + ls.length < 900000) {a b : Nat} (ha : sz a q) (hab : a + 8 + b ≤ 8000)
    (hb : ∀ (dn : List Tx) (k : Tx), (∃ rest, ls = dn ++ rest) → sz b (wv ((items3 es o c m q dn).foldl wadd W) k).2) :
    ∃ γ', forGo (bdN 7) wL (ls.map .str) γ = .ok (.nx γ') ∧ Wk es o n γ' ∧ At γ' 3 X ∧ At γ' 6 (.str c) ∧ At γ' 8 (.int m) ∧ At γ' 9 (frD q) ∧ Ao' γ' 5 (.dic (wD ((items3 es o c m q ls).foldl wadd W))) := by
  have len : ∀ (its : List It3) (W : Wt), (its.foldl wadd W).length ≤ W.length + its.length := by
    intro its
    induction its with
    | nil => intro W; simp
    | cons e its ih =>
      intro W
      have h1 := ih (wadd W e)
      have h2 := len_pt W e.1 ((wv W e.1).1 + e.2.1, (wv W e.1).2 + e.2.2)
      have h2 : (wadd W e).length ≤ W.length + 1 := h2
      rw [List.foldl_cons, List.length_cons]; omega
  obtain ⟨γ', l1, r⟩ := forGo_inv (bd := bdN 7) (inj := D.str) (l0 := ls) (body := wL) (I := fun dn γ => Wk es o n γ ∧ At γ 3 X ∧ At γ 6 (.str c) ∧ At γ 8 (.int m) ∧ At γ 9 (frD q) ∧ Ao' γ 5 (.dic (wD ((items3 es o c m q dn).foldl wadd W)))) (γ := γ) (fun dn l rest γ hr hI => by
    obtain ⟨F, h3, h6, h8, h9, h5⟩ := hI
    obtain ⟨hl8, hlc⟩ := hls l (by rw [hr]; simp)
    have hlen := F.len
    have F1 : Wk es o n (γ.set 7 (.va (.str l))) := F.set (by omega)
    have g7 : At (γ.set 7 (.va (.str l))) 7 (.str l) := At.new (by omega)
    have g3 : At (γ.set 7 (.va (.str l))) 3 X := h3.set (by omega)
    have g6 : At (γ.set 7 (.va (.str l))) 6 (.str c) := h6.set (by omega)
    have g8 : At (γ.set 7 (.va (.str l))) 8 (.int m) := h8.set (by omega)
    have g9 : At (γ.set 7 (.va (.str l))) 9 (frD q) := h9.set (by omega)
    have g5 := Ao'.set (s := .va (.str l)) h5 (j := 7) (by omega)
    have ne : dNe (.str l) (.str []) = .ok (.bl (!(l == []))) := by
      rw [dNe_p (by rw [pl_str]; exact hlc.all) (by simp), eqv_str]
    by_cases z : l = []
    · subst z
      have ne : dNe (.str []) (.str []) = .ok (.bl false) := ne
      have e : items3 es o c m q (dn ++ [[]]) = items3 es o c m q dn := by unfold items3; simp
      refine ⟨_, rfl, γ.set 7 (.va (.str [])), .inl ?_, F1, g3, g6, g8, g9, by rw [e]; exact g5⟩
      exact if_f (by simp [g7, ne])
    · have zb : (l == []) = false := by simpa using z
      rw [zb] at ne
      have e : items3 es o c m q (dn ++ [l]) = items3 es o c m q dn ++ [(endT o (c ++ l), (m, q * pq es (c, l)))] := by unfold items3; simp [z]
      have li : (items3 es o c m q dn).length ≤ dn.length := by
        unfold items3
        rw [List.length_map]
        exact List.length_filter_le _ _
      have hdl : dn.length < ls.length := by rw [hr]; simp
      obtain ⟨γ', r1, r2, r3, r4, r5, r6, r7⟩ := wI_ok hes F1 (l := l) g3 g6 g7 g8 g9 g5 (by omega) (wfold_nd _ nd) (by have := len (items3 es o c m q dn) W; omega) ha (hb dn _ ⟨l :: rest, hr⟩) hab
      refine ⟨_, rfl, γ', .inl ?_, r2, r3, r4, r5, r6, by rw [e, List.foldl_append]; exact r7⟩
      unfold wL
      rw [fIf_e]
      have tv : tVal (b2 dNe (bVar 7) (bC (.str []))) (γ.set 7 (.va (.str l))) = .ok true := by
        rw [tVal_e, b2_e, g7.v]
        simp only [bC_e, R.bind, ne]
        rfl
      rw [tv]
      exact r1) ⟨F, h3, h6, h8, h9, h5⟩
  exact ⟨γ', l1, r⟩
end
end KN
set_option maxHeartbeats 400000
/-! PP: what ways come to, in plain words -/
namespace KN
open PySem PySem.Spec PyProof.Rows L2
noncomputable section
def rowl (es : List Ev) (c : Tx) : List Tx := ks (rowOf (tabOf es) c)
def stepW (es : List Ev) (o : Nat) (W : Wt) : List It3 := W.flatMap fun e => items3 es o e.1 e.2.1 e.2.2 (rowl es e.1)
def waysL (es : List Ev) (o : Nat) : Nat → Wt
  | 0 => [([], (1, 1))]
  | n + 1 => (stepW es o (waysL es o n)).foldl wadd []
/-! ### sums -/
theorem rS_nil : rS [] = 0 := rfl
theorem rS_mul {α : Type} (c : Rat) (f : α → Rat) : ∀ l : List α, rS (l.map fun x => c * f x) = c * rS (l.map f)
  | [] => by simp [rS_nil, Rat.mul_zero]
  | a :: l => by rw [List.map_cons, List.map_cons, rS_cons, rS_cons, rS_mul c f l, Rat.mul_add]
theorem rS_flat {α β : Type} (f : α → List β) (g : β → Rat) : ∀ l : List α, rS ((l.flatMap f).map g) = rS (l.map fun a => rS ((f a).map g))
  | [] => rfl
  | a :: l => by rw [List.flatMap_cons, List.map_append, rS_app, List.map_cons, rS_cons, rS_flat f g l]
theorem rS_perm {l m : List Rat} (h : l.Perm m) : rS l = rS m := by
  induction h with
  | nil => rfl
  | cons x _ ih => rw [rS_cons, rS_cons, ih]
  | swap x y l => rw [rS_cons, rS_cons, rS_cons, rS_cons, ← Rat.add_assoc, ← Rat.add_assoc, Rat.add_comm x y]
  | trans _ _ h1 h2 => exact h1.trans h2
theorem rS_filter0 {α : Type} (p : α → Bool) (f : α → Rat) : ∀ l : List α, (∀ a ∈ l, p a = false → f a = 0) → rS ((l.filter p).map f) = rS (l.map f)
  | [], _ => rfl
  | a :: l, h => by
    have ih := rS_filter0 p f l fun b hb => h b (List.mem_cons_of_mem _ hb)
    rw [List.filter_cons, List.map_cons, rS_cons]
    cases z : p a with
    | true => simp only [if_true]; rw [List.map_cons, rS_cons, ih]
    | false => rw [h a List.mem_cons_self z, Rat.zero_add]; simpa using ih
theorem rS_len (l : List α) : rS (l.map fun _ => (1 : Rat)) = ((l.length : Nat) : Rat) := by
  induction l with
  | nil => rfl
  | cons a l ih => rw [List.map_cons, rS_cons, ih, List.length_cons, Rat.natCast_add, Rat.add_comm]; rfl
/-! ### a sum over contexts -/
structure Lin (es : List Ev) (π : Int × Rat → Rat) (w : Ev → Rat) : Prop where
  zero : π (0, 0) = 0
  one : π (1, 1) = 1
  add : ∀ a b : Int × Rat, π (a.1 + b.1, a.2 + b.2) = π a + π b
  mul : ∀ (v : Int × Rat) (e : Ev), π (v.1, v.2 * pq es e) = π v * w e
theorem lin_q (es : List Ev) : Lin es (fun v => v.2) (pq es) := ⟨rfl, rfl, fun _ _ => rfl, fun _ _ => rfl⟩
theorem lin_m (es : List Ev) : Lin es (fun v => (v.1 : Rat)) (fun _ => 1) := ⟨rfl, rfl, fun a b => Rat.intCast_add _ _, fun v e => (Rat.mul_one _).symm⟩
theorem wadd_cons (k : Tx) (v : Int × Rat) (W : Wt) (e : It3) : wadd ((k, v) :: W) e = if k = e.1 then (k, (v.1 + e.2.1, v.2 + e.2.2)) :: W else (k, v) :: wadd W e := by
  unfold wadd wv
  simp only [pt, lk]
  by_cases z : k = e.1
  · simp only [z, if_true, Option.getD_some]
  · simp only [z, if_false]
def gI (π : Int × Rat → Rat) (F : Tx → Rat) (W : List It3) : Rat := rS (W.map fun e => π e.2 * F e.1)
section
variable {es : List Ev} {π : Int × Rat → Rat} {w : Ev → Rat} (L : Lin es π w)
include L
theorem gI_wadd (F : Tx → Rat) : ∀ (W : Wt) (e : It3), gI π F (wadd W e) = gI π F W + π e.2 * F e.1
  | [], e => by
    have h := L.add (0, 0) e.2
    unfold gI wadd
    show rS ([(e.1, ((0 : Int) + e.2.1, (0 : Rat) + e.2.2))].map fun e => π e.2 * F e.1) = rS [] + _
    rw [List.map_cons, rS_cons, List.map_nil, rS_nil]
    simp only at h ⊢
    rw [h, L.zero]
    grind
  | (k, v) :: W, e => by
    have ih := gI_wadd F W e
    rw [wadd_cons]
    unfold gI at *
    by_cases z : k = e.1
    · have h := L.add v e.2
      simp only [z, if_true, List.map_cons, rS_cons]
      rw [h]; grind
    · simp only [z, if_false, List.map_cons, rS_cons]
      rw [ih]; grind
theorem gI_fold (F : Tx → Rat) : ∀ (its : List It3) (W : Wt), gI π F (its.foldl wadd W) = gI π F W + gI π F its
  | [], W => by show _ = _ + rS []; rw [rS_nil, Rat.add_zero]; rfl
  | e :: its, W => by
    rw [List.foldl_cons, gI_fold F its, gI_wadd L F W e]
    have : gI π F (e :: its) = π e.2 * F e.1 + gI π F its := by unfold gI; rw [List.map_cons, rS_cons]
    rw [this, Rat.add_assoc]
def nxF (es : List Ev) (o : Nat) (w : Ev → Rat) (F : Tx → Rat) (c : Tx) : Rat := rS (((rowl es c).filter fun l => !(l == [])).map fun l => w (c, l) * F (endT o (c ++ l)))
theorem gI_items (F : Tx → Rat) (o : Nat) (e : It3) : gI π F (items3 es o e.1 e.2.1 e.2.2 (rowl es e.1)) = π e.2 * nxF es o w F e.1 := by
  unfold gI items3 nxF
  rw [List.map_map, ← rS_mul]
  congr 1
  refine List.map_congr_left fun l _ => ?_
  have := L.mul e.2 (e.1, l)
  simp only [Function.comp] at this ⊢
  rw [this]; grind
theorem gI_step (F : Tx → Rat) (o : Nat) (W : Wt) : gI π F (stepW es o W) = gI π (nxF es o w F) W := by
  unfold stepW
  show rS ((W.flatMap _).map _) = _
  rw [rS_flat]
  show _ = rS (W.map _)
  congr 1
  refine List.map_congr_left fun e _ => ?_
  exact gI_items L F o e
omit L in
def wT (w : Ev → Rat) (o : Nat) (t : Tx) : Rat := ((List.range t.length).map (cStep t o)).foldl (fun q e => q * w e) 1
def pS (es : List Ev) (w : Ev → Rat) (o : Nat) (F : Tx → Rat) (n : Nat) : Rat := rS ((paths es o n).map fun t => wT w o t * F (endT o t))
omit L in
theorem wT_app (o : Nat) {t l : Tx} (h : l.length = 1) : wT w o (t ++ l) = wT w o t * w (endT o t, l) := by
  unfold wT
  rw [List.length_append, h, List.range_succ, List.map_append, List.foldl_append]
  have e : (List.range t.length).map (cStep (t ++ l) o) = (List.range t.length).map (cStep t o) := List.map_congr_left fun i hi => step_app (List.mem_range.mp hi)
  rw [e]
  show _ * w (cStep (t ++ l) o t.length) = _
  rw [step_last (by omega)]
omit L in
theorem end_app (o : Nat) (t l : Tx) : endT o (endT o t ++ l) = endT o (t ++ l) := by
  unfold endT
  rw [List.length_append, List.length_append, List.length_drop]
  have e : t.drop (t.length - o) ++ l = (t ++ l).drop (t.length - o) := (List.drop_append_of_le_length (by omega)).symm
  rw [e, List.drop_drop]
  congr 1; omega
omit L in
theorem pS_succ (hc : ∀ e ∈ es, e.2.length ≤ 1) (o : Nat) (F : Tx → Rat) (n : Nat) : pS es w o F (n + 1) = pS es w o (nxF es o w F) n := by
  unfold pS
  show rS ((grow es o (paths es o n)).map _) = _
  unfold grow
  rw [rS_flat]
  congr 1
  refine List.map_congr_left fun t _ => ?_
  unfold nxF
  rw [← rS_mul, List.map_map]
  have p : (nxt es (endT o t)).Perm ((rowl es (endT o t)).filter fun l => !(l == [])) := (sortT_perm _).filter _
  refine (rS_perm (p.map _)).trans ?_
  congr 1
  refine List.map_congr_left fun l hl => ?_
  have h1 := nxt_mem.mp (p.mem_iff.mpr hl)
  have h2 : l.length = 1 := by
    have := hc _ h1.1
    have h3 : l.length ≠ 0 := fun z => h1.2 (List.length_eq_zero_iff.mp z)
    simp only at this; omega
  simp only [Function.comp]
  rw [wT_app o h2, end_app]; grind
theorem ways_sum (hc : ∀ e ∈ es, e.2.length ≤ 1) (o : Nat) : ∀ (n : Nat) (F : Tx → Rat), gI π F (waysL es o n) = pS es w o F n
  | 0, F => by
    show rS ([(([] : Tx), ((1 : Int), (1 : Rat)))].map _) = rS ([([] : Tx)].map _)
    rw [List.map_cons, List.map_cons, rS_cons, rS_cons]
    simp only [L.one]
    simp [wT, endT]
  | n + 1, F => by
    show gI π F ((stepW es o (waysL es o n)).foldl wadd []) = _
    rw [gI_fold L, gI_step L, ways_sum hc o n, pS_succ hc]
    show rS [] + _ = _
    rw [rS_nil, Rat.zero_add]
end
/-! ### sizes -/
def FrZ (n : Nat) (v : Int × Rat) : Prop := 0 ≤ v.1 ∧ Fr n v.1.toNat v.2
theorem FrZ.add {n : Nat} {u v : Int × Rat} (hu : FrZ n u) (hv : FrZ n v) : FrZ n (u.1 + v.1, u.2 + v.2) := by
  have h1 := hu.1
  have h2 := hv.1
  refine ⟨by show 0 ≤ u.1 + v.1; omega, ?_⟩
  have : (u.1 + v.1).toNat = u.1.toNat + v.1.toNat := by omega
  show Fr n (u.1 + v.1).toNat _
  rw [this]
  exact hu.2.add hv.2
theorem FrZ.zero (n : Nat) : FrZ n (0, 0) := ⟨by decide, Fr.zero n⟩
theorem mem_pt {α : Type} {k : Tx} {v : α} : ∀ {W : List (Tx × α)} {e : Tx × α}, e ∈ pt W k v → e ∈ W ∨ e = (k, v)
  | [], e, h => .inr (List.mem_singleton.mp h)
  | (k', v') :: W, e, h => by
    unfold pt at h
    split at h
    · rename_i z
      subst z
      rcases List.mem_cons.mp h with h | h
      · exact .inr h
      · exact .inl (List.mem_cons_of_mem _ h)
    · rcases List.mem_cons.mp h with h | h
      · exact .inl (by rw [h]; exact List.mem_cons_self)
      · rcases mem_pt h with h | h
        · exact .inl (List.mem_cons_of_mem _ h)
        · exact .inr h
theorem wv_or (W : Wt) (k : Tx) : wv W k = (0, 0) ∨ (k, wv W k) ∈ W := by
  unfold wv
  cases h : lk W k with
  | none => exact .inl rfl
  | some v => exact .inr (lk_mem h)
theorem fold_fr {n : Nat} : ∀ (its : List It3) {W : Wt}, (∀ e ∈ W, FrZ n e.2) → (∀ e ∈ its, FrZ n e.2) → ∀ e ∈ its.foldl wadd W, FrZ n e.2
  | [], _, h, _ => h
  | e :: its, W, h, k => fold_fr its (W := wadd W e) (fun f hf => by
    rcases mem_pt hf with hf | rfl
    · exact h f hf
    · refine FrZ.add ?_ (k e List.mem_cons_self)
      rcases wv_or W e.1 with z | z
      · rw [z]; exact .zero n
      · exact h _ z) fun f hf => k f (List.mem_cons_of_mem _ hf)
def cI (W : List It3) : Int := (W.map fun e => e.2.1).sum
theorem cI_wadd : ∀ (W : Wt) (e : It3), cI (wadd W e) = cI W + e.2.1
  | [], e => by unfold cI wadd; show ([((0 : Int) + e.2.1)]).sum = ([] : List Int).sum + e.2.1; simp
  | (k, v) :: W, e => by
    have ih := cI_wadd W e
    rw [wadd_cons]
    unfold cI at *
    by_cases z : k = e.1
    · simp only [z, if_true, List.map_cons, List.sum_cons]
      omega
    · simp only [z, if_false, List.map_cons, List.sum_cons]
      rw [ih]; omega
theorem cI_fold : ∀ (its : List It3) (W : Wt), cI (its.foldl wadd W) = cI W + cI its
  | [], W => by show _ = _ + ([] : List Int).sum; simp
  | e :: its, W => by
    rw [List.foldl_cons, cI_fold its, cI_wadd]
    have : cI (e :: its) = e.2.1 + cI its := by unfold cI; simp
    omega
theorem cI_app (a b : List It3) : cI (a ++ b) = cI a + cI b := by unfold cI; rw [List.map_append, List.sum_append]
theorem cI_ge {its : List It3} (h : ∀ e ∈ its, 0 ≤ e.2.1) : 0 ≤ cI its := by
  induction its with
  | nil => decide
  | cons e its ih =>
    have h1 := h e List.mem_cons_self
    have h2 := ih fun f hf => h f (List.mem_cons_of_mem _ hf)
    unfold cI at h2 ⊢
    rw [List.map_cons, List.sum_cons]; omega
theorem cI_mem {W : List It3} (h : ∀ e ∈ W, 0 ≤ e.2.1) {e : It3} (he : e ∈ W) : e.2.1 ≤ cI W := by
  obtain ⟨a, b, rfl⟩ := List.append_of_mem he
  have h1 := cI_ge fun f hf => h f (List.mem_append_left _ hf)
  have h2 := cI_ge (its := b) fun f hf => h f (List.mem_append_right _ (List.mem_cons_of_mem _ hf))
  rw [cI_app]
  have : cI (e :: b) = e.2.1 + cI b := by unfold cI; simp
  omega
theorem cI_gI : ∀ W : List It3, (cI W : Rat) = gI (fun v => (v.1 : Rat)) (fun _ => 1) W
  | [] => rfl
  | e :: W => by
    have ih := cI_gI W
    unfold cI gI at *
    rw [List.map_cons, List.sum_cons, List.map_cons, rS_cons, Rat.intCast_add, ih, Rat.mul_one]
theorem wT_one (o : Nat) (t : Tx) : wT (fun _ => 1) o t = 1 := by
  unfold wT
  generalize (List.range t.length).map (cStep t o) = l
  induction l with
  | nil => rfl
  | cons e l ih => rw [List.foldl_cons, Rat.mul_one]; exact ih
theorem cI_ways {es : List Ev} (hc : ∀ e ∈ es, e.2.length ≤ 1) (o n : Nat) : cI (waysL es o n) = ((paths es o n).length : Nat) := by
  have h := ways_sum (lin_m es) hc o n fun _ => 1
  rw [← cI_gI] at h
  have e : pS es (fun _ => 1) o (fun _ => 1) n = (((paths es o n).length : Nat) : Rat) := by
    unfold pS
    rw [← rS_len]
    congr 1
    refine List.map_congr_left fun t _ => ?_
    rw [wT_one, Rat.mul_one]
  rw [e] at h
  exact_mod_cast h
theorem items_fr {es : List Ev} (hes : es.length ≤ 72) {o n : Nat} {W : Wt} (h : ∀ e ∈ W, FrZ n e.2) : ∀ e ∈ stepW es o W, FrZ (n + 1) e.2 := fun e he => by
  obtain ⟨f, hf, he⟩ := List.mem_flatMap.mp he
  obtain ⟨l, _, rfl⟩ := List.mem_map.mp he
  exact ⟨(h f hf).1, (h f hf).2.mul hes (f.1, l)⟩
theorem ways_fr {es : List Ev} (hes : es.length ≤ 72) (o : Nat) : ∀ n, ∀ e ∈ waysL es o n, FrZ n e.2
  | 0, e, he => by rw [List.mem_singleton.mp he]; exact ⟨by decide, Fr.one⟩
  | n + 1, e, he => fold_fr _ (W := []) (fun _ h => nomatch h) (items_fr hes (ways_fr hes o n)) e he
theorem ways_nd (es : List Ev) (o : Nat) : ∀ n, (ks (waysL es o n)).Nodup
  | 0 => by show [([] : Tx)].Nodup; simp
  | n + 1 => wfold_nd _ (by show ([] : List Tx).Nodup; simp)
theorem fold_keys : ∀ (its : List It3) (W : Wt), ∀ k ∈ ks (its.foldl wadd W), k ∈ ks W ∨ k ∈ its.map (·.1)
  | [], W, k, h => .inl h
  | e :: its, W, k, h => by
    rcases fold_keys its (wadd W e) k h with h | h
    · unfold wadd at h
      rw [ks_pt] at h
      split at h
      · exact .inl h
      · rcases List.mem_append.mp h with h | h
        · exact .inl h
        · rw [List.mem_singleton.mp h]; exact .inr (by simp)
    · exact .inr (List.mem_cons_of_mem _ h)
theorem ways_keys {es : List Ev} {o n : Nat} {k : Tx} (h : k ∈ ks (waysL es o n)) : k = [] ∨ ∃ e ∈ es, k = endT o (e.1 ++ e.2) := by
  cases n with
  | zero => exact .inl (List.mem_singleton.mp h)
  | succ n =>
    rcases fold_keys _ _ k h with h | h
    · exact nomatch h
    · obtain ⟨e, he, rfl⟩ := List.mem_map.mp h
      obtain ⟨f, hf, he⟩ := List.mem_flatMap.mp he
      obtain ⟨l, hl, rfl⟩ := List.mem_map.mp he
      exact .inr ⟨(f.1, l), row_mem2.mp (List.mem_filter.mp hl).1, rfl⟩
theorem ways_len {es : List Ev} (o n : Nat) : (waysL es o n).length ≤ es.length + 1 := by
  have h := List.Nodup.length_le_of_subset (l₂ := [] :: es.map fun e => endT o (e.1 ++ e.2)) (ways_nd es o n) fun k hk => by
    rcases ways_keys hk with h | ⟨e, he, h⟩
    · rw [h]; exact List.mem_cons_self
    · rw [h]; exact List.mem_cons_of_mem _ (List.mem_map.mpr ⟨e, he, rfl⟩)
  unfold ks at h
  simpa using h
end
end KN
set_option maxHeartbeats 400000
/-! PQ: ways, evaluated; how_many, share_of_length, lengths -/
namespace KN
open PySem PySem.Spec PyProof.Rows L2
noncomputable section
def wC : Ga → R Fl := fSeq (fBd (bdT [8, 9]) (b2 dIx (bVar 3) (bVar 6))) (fForE (bGet (bVar 0) (bVar 6) (bC (.dic []))) (bdN 7) wL)
theorem m_ways_e : m_ways = fSeq (fSet 3 (bDic1 (bC (.str [])) (bTup (bCons (bC (.int 1)) (bCons (bTup (bCons (bC (.int 1)) (bCons (bC (.int 1)) (bNil)))) (bNil)))))) (fSeq (fForI (iR1 (bVar 2)) (bdN 4) (fSeq (fOwn 5 (bC (.dic []))) (fSeq (fForE (bVar 3) (bdN 6) wC) (fFz 5 (fSet 3 (bVar 5)))))) (fRet (bVar 3))) := rfl
structure Bk (es : List Ev) : Prop where
  n : es.length ≤ 72
  c : ∀ e ∈ es, e.1.length ≤ 3 ∧ chs e.2 ∧ e.2.length ≤ 1
/-- any prefix of what a turn adds is small -/
theorem pre_sz {es : List Ev} (hb : Bk es) {o n : Nat} (hn : n + 1 ≤ 9) (hp : (paths es o (n + 1)).length ≤ lim) {dn rest : List It3} (h : stepW es o (waysL es o n) = dn ++ rest) (k : Tx) : sz 3200 (wv (dn.foldl wadd []) k).2 := by
  have all := items_fr hb.n (o := o) (ways_fr hb.n o n)
  rw [h] at all
  have a1 := fold_fr dn (W := []) (fun _ h => nomatch h) fun e he => all e (List.mem_append_left _ he)
  have tot : cI (stepW es o (waysL es o n)) = ((paths es o (n + 1)).length : Nat) := by
    have := cI_ways (fun e he => (hb.c e he).2.2) o (n + 1)
    show cI _ = _
    rw [← this]
    show _ = cI ((stepW es o (waysL es o n)).foldl wadd [])
    rw [cI_fold]
    show _ = ([] : List Int).sum + _
    simp
  rw [h, cI_app] at tot
  have r0 := cI_ge (its := rest) fun e he => (all e (List.mem_append_right _ he)).1
  rcases wv_or (dn.foldl wadd []) k with z | z
  · rw [z]; exact sz_mono sz0 (by decide)
  · have f := a1 _ z
    have le := cI_mem (fun e he => (a1 e he).1) z
    rw [cI_fold] at le
    have e0 : cI [] = 0 := rfl
    have hl := lim_val
    refine f.2.sz hn ?_
    have := f.1
    simp only at le this ⊢
    omega
theorem ways_sz {es : List Ev} (hb : Bk es) {o n : Nat} (hn : n ≤ 9) (hp : (paths es o n).length ≤ lim) {e : It3} (he : e ∈ waysL es o n) : sz 3200 e.2.2 := by
  have f := ways_fr hb.n o n e he
  have le := cI_mem (fun e he => (ways_fr hb.n o n e he).1) he
  rw [cI_ways (fun e he => (hb.c e he).2.2)] at le
  have hl := lim_val
  refine f.2.sz hn ?_
  have := f.1
  omega
theorem rowl_len (es : List Ev) (c : Tx) : (rowl es c).length ≤ es.length := by
  unfold rowl ks; rw [List.length_map]; exact (tabOk es).rlen c
theorem items_len (es : List Ev) (o : Nat) (c : Tx) (m : Int) (q : Rat) (ls : List Tx) : (items3 es o c m q ls).length ≤ ls.length := by
  unfold items3; rw [List.length_map]; exact List.length_filter_le _ _
theorem step_len (es : List Ev) (o : Nat) : ∀ W : Wt, (stepW es o W).length ≤ W.length * es.length
  | [] => by simp [stepW]
  | e :: W => by
    have h := step_len es o W
    have h1 := items_len es o e.1 e.2.1 e.2.2 (rowl es e.1)
    have h2 := rowl_len es e.1
    unfold stepW at h ⊢
    rw [List.flatMap_cons, List.length_append, List.length_cons, Nat.add_mul]
    omega
theorem fold_len : ∀ (its : List It3) (W : Wt), (its.foldl wadd W).length ≤ W.length + its.length
  | [], W => by simp
  | e :: its, W => by
    have h1 := fold_len its (wadd W e)
    have h2 : (wadd W e).length ≤ W.length + 1 := len_pt W e.1 _
    rw [List.foldl_cons, List.length_cons]; omega
theorem ways_ctx {es : List Ev} (hb : Bk es) {o n : Nat} (ho : o ≤ 3) {k : Tx} (h : k ∈ ks (waysL es o n)) : k.length ≤ 3 := by
  rcases ways_keys h with rfl | ⟨e, _, rfl⟩
  · simp
  · unfold endT; simp; omega
theorem look_wD {W : Wt} (nd : (ks W).Nodup) {e : It3} (he : e ∈ W) : lookK (wD W) e.1 = some (wE e.2) := by
  rw [lookK_lk, lk_wD, mem_lk nd (x := e.1) (v := e.2) he]; rfl
theorem wC_loop {es : List Ev} (hb : Bk es) {o n : Nat} (ho : o ≤ 3) (hn : n + 1 ≤ 9) (hp : (paths es o n).length ≤ lim) (hp' : (paths es o (n + 1)).length ≤ lim) {N : D} {γ : Ga} (F : Wk es o N γ) (h3 : At γ 3 (.dic (wD (waysL es o n)))) (h5 : Ao' γ 5 (.dic (wD []))) :
    ∃ γ', forGo (bdN 6) wC ((waysL es o n).map fun e => .str e.1) γ = .ok (.nx γ') ∧ Wk es o N γ' ∧ Ao' γ' 5 (.dic (wD (waysL es o (n + 1)))) := by
  have len := ways_len (es := es) o n
  have slen := step_len es o (waysL es o n)
  have sl2 : (stepW es o (waysL es o n)).length ≤ 73 * 72 := Nat.le_trans slen (Nat.mul_le_mul (by have := hb.n; omega) hb.n)
  obtain ⟨γ', l1, F', _, h5'⟩ := forGo_inv (bd := bdN 6) (inj := fun e : It3 => D.str e.1) (l0 := waysL es o n) (body := wC) (I := fun dn γ => Wk es o N γ ∧ At γ 3 (.dic (wD (waysL es o n))) ∧ Ao' γ 5 (.dic (wD ((stepW es o dn).foldl wadd [])))) (γ := γ) (fun dn e rest γ hr hI => by
    obtain ⟨F, h3, h5⟩ := hI
    have he : e ∈ waysL es o n := by rw [hr]; simp
    have hl := F.len
    have hk : e.1 ∈ ks (waysL es o n) := List.mem_map.mpr ⟨e, he, rfl⟩
    have ctx := ways_ctx hb ho hk
    have look := look_wD (ways_nd es o n) he
    have F1 : Wk es o N (γ.set 6 (.va (.str e.1))) := F.set (by omega)
    have a6 : At (γ.set 6 (.va (.str e.1))) 6 (.str e.1) := At.new (by omega)
    have a3 := At.set (s := .va (.str e.1)) h3 (j := 6) (by omega)
    have a5 := Ao'.set (s := .va (.str e.1)) h5 (j := 6) (by omega)
    have hs : stepW es o (waysL es o n) = stepW es o dn ++ (items3 es o e.1 e.2.1 e.2.2 (rowl es e.1) ++ stepW es o rest) := by
      rw [hr]; unfold stepW; rw [List.flatMap_append, List.flatMap_cons]
    have hs2 : stepW es o (dn ++ [e]) = stepW es o dn ++ items3 es o e.1 e.2.1 e.2.2 (rowl es e.1) := by
      unfold stepW; rw [List.flatMap_append]; simp
    have eb : fBd (bdT [8, 9]) (b2 dIx (bVar 3) (bVar 6)) (γ.set 6 (.va (.str e.1))) = .ok (.nx (((γ.set 6 (.va (.str e.1))).set 8 (.va (.int e.2.1))).set 9 (.va (frD e.2.2)))) := by
      unfold fBd
      rw [b2_e, a3.v, a6.v]
      have : dIx (.dic (wD (waysL es o n))) (.str e.1) = .ok (wE e.2) := by
        show o2r _ = _
        rw [look]; rfl
      simp only [R.bind, this]
      rfl
    generalize hγ : γ.set 6 (.va (.str e.1)) = γ1 at *
    have hl1 := F1.len
    have F2 : Wk es o N ((γ1.set 8 (.va (.int e.2.1))).set 9 (.va (frD e.2.2))) := (F1.set (by omega)).set (by omega)
    have b6 : At ((γ1.set 8 (.va (.int e.2.1))).set 9 (.va (frD e.2.2))) 6 (.str e.1) := (a6.set (by omega)).set (by omega)
    have b3 : At ((γ1.set 8 (.va (.int e.2.1))).set 9 (.va (frD e.2.2))) 3 (.dic (wD (waysL es o n))) := (a3.set (by omega)).set (by omega)
    have b5 : Ao' ((γ1.set 8 (.va (.int e.2.1))).set 9 (.va (frD e.2.2))) 5 (.dic (wD ((stepW es o dn).foldl wadd []))) := (a5.set (by omega)).set (by omega)
    have b8 : At ((γ1.set 8 (.va (.int e.2.1))).set 9 (.va (frD e.2.2))) 8 (.int e.2.1) := (At.new (by omega)).set (by omega)
    have b9 : At ((γ1.set 8 (.va (.int e.2.1))).set 9 (.va (frD e.2.2))) 9 (frD e.2.2) := At.new (by simp; omega)
    have rl := rowl_len es e.1
    have dlen : (stepW es o dn).length ≤ 73 * 72 := by
      have := congrArg List.length hs
      simp only [List.length_append] at this
      omega
    obtain ⟨γ3, r1, r2, r3, r4, r5, r6, r7⟩ := wL_loop hb.n F2 (c := e.1) (m := e.2.1) (q := e.2.2) (W := (stepW es o dn).foldl wadd []) (ls := rowl es e.1) b3 b6 b8 b9 b5 (by omega) (fun l hl => by
        have := hb.c _ (row_mem2.mp hl)
        exact ⟨by have := this.2.2; simp only at this; omega, this.2.1⟩) (wfold_nd _ (by show ([] : List Tx).Nodup; simp)) (by
        have h1 := fold_len (stepW es o dn) []
        have h2 := hb.n
        have h3 := lim_val
        simp only [List.length_nil] at h1
        omega) (a := 3200) (b := 3200) (ways_sz hb (by omega) hp he) (by decide) (fun ds k ⟨rs, hrs⟩ => by
        rw [← List.foldl_append]
        refine pre_sz hb hn hp' (rest := items3 es o e.1 e.2.1 e.2.2 rs ++ stepW es o rest) ?_ k
        rw [hs, hrs]
        unfold items3
        rw [List.filter_append, List.map_append]
        simp only [List.append_assoc])
    refine ⟨_, rfl, γ3, .inl ?_, r2, r3, by rw [hs2, List.foldl_append]; exact r7⟩
    show wC (γ.set 6 (.va (.str e.1))) = _
    rw [hγ]
    unfold wC
    rw [seq_nx eb]
    have t0 := F2.t
    have gt := get_tbl (tabOf es) e.1
    generalize (γ1.set 8 (.va (.int e.2.1))).set 9 (.va (frD e.2.2)) = γ2 at *
    refine forE_d (es := rowD (rowOf (tabOf es) e.1)) ?_ (by rw [keys_row]; exact r1)
    unfold bGet
    rw [t0.v, b6.v]
    simp only [R.bind, bC_e]
    unfold tblD
    simp only
    rw [gt]) ⟨F, h3, h5⟩
  exact ⟨γ', l1, F', h5'⟩
theorem keys_wD (W : Wt) : keysD (wD W) = W.map fun e => .str e.1 := by
  unfold keysD wD; rw [List.map_map]; rfl
theorem ways_ok {es : List Ev} (hb : Bk es) {o n : Nat} (ho : o ≤ 3) (hn : n ≤ 8) (hp : ∀ k, k ≤ n → (paths es o k).length ≤ lim) : g_ways [tblD (tabOf es), .int o, .int n] = .ok (.dic (wD (waysL es o n))) := by
  obtain ⟨γ', l1, F', h3'⟩ := forGo_inv (bd := bdN 4) (inj := fun i : Nat => D.int (0 + (i : Nat))) (l0 := List.range n) (body := fSeq (fOwn 5 (bC (.dic []))) (fSeq (fForE (bVar 3) (bdN 6) wC) (fFz 5 (fSet 3 (bVar 5)))))
    (I := fun dn γ => Wk es o (.int n) γ ∧ At γ 3 (.dic (wD (waysL es o dn.length)))) (γ := [.va (tblD (tabOf es)), .va (.int o), .va (.int n), .va (.dic (wD (waysL es o 0))), .un, .un, .un, .un, .un, .un, .un, .un, .un]) (fun dn i rest γ hr hI => by
      obtain ⟨F, h3⟩ := hI
      obtain ⟨hi1, hi2⟩ := range_split hr
      have hl := F.len
      have F1 : Wk es o (.int n) ((γ.set 4 (.va (.int (0 + (i : Nat))))).set 5 (.ow (.dic []))) := (F.set (by omega)).set (by omega)
      have a3 : At ((γ.set 4 (.va (.int (0 + (i : Nat))))).set 5 (.ow (.dic []))) 3 (.dic (wD (waysL es o dn.length))) := (h3.set (by omega)).set (by omega)
      have a5 : Ao' ((γ.set 4 (.va (.int (0 + (i : Nat))))).set 5 (.ow (.dic []))) 5 (.dic (wD [])) := List.getElem?_set_self (by simp; omega)
      obtain ⟨γ2, r1, F2, r5⟩ := wC_loop hb ho (n := dn.length) (by omega) (hp _ (by omega)) (hp _ (by omega)) F1 a3 a5
      refine ⟨_, rfl, (γ2.set 5 (.va (.dic (wD (waysL es o (dn.length + 1)))))).set 3 (.va (.dic (wD (waysL es o (dn.length + 1))))), .inl ?_, ?_⟩
      · rw [seq_nx (γ' := (γ.set 4 (.va (.int (0 + (i : Nat))))).set 5 (.ow (.dic []))) rfl]
        rw [seq_nx (γ' := γ2) (forE_d (es := wD (waysL es o dn.length)) a3.v (by rw [keys_wD]; exact r1))]
        rw [fFz_e, r5]
        simp only
        have l2 := F2.len
        refine set_e (At.v (At.new (by omega)))
      · have l2 := F2.len
        refine ⟨⟨by simp [l2], ?_, ?_, ?_⟩, ?_⟩
        · exact (F2.t.set (by omega)).set (by omega)
        · exact (F2.o.set (by omega)).set (by omega)
        · exact (F2.n.set (by omega)).set (by omega)
        · rw [List.length_append]; exact At.new (by simp; omega)) ⟨⟨rfl, rfl, rfl, rfl⟩, rfl⟩
  rw [List.length_range] at h3'
  unfold g_ways
  refine fn_rt ?_
  rw [m_ways_e]
  show fSeq _ _ [.va (tblD (tabOf es)), .va (.int o), .va (.int n), .un, .un, .un, .un, .un, .un, .un, .un, .un, .un] = _
  rw [seq_nx (γ' := [.va (tblD (tabOf es)), .va (.int o), .va (.int n), .va (.dic (wD (waysL es o 0))), .un, .un, .un, .un, .un, .un, .un, .un, .un]) (by
    generalize tblD (tabOf es) = T
    refine set_e ?_
    have l2 : 2 ≤ lim := by decide
    simp [bDic1, l2]
    first | rfl | trivial)]
  have ef : fForI (iR1 (bVar 2)) (bdN 4) (fSeq (fOwn 5 (bC (.dic []))) (fSeq (fForE (bVar 3) (bdN 6) wC) (fFz 5 (fSet 3 (bVar 5))))) [.va (tblD (tabOf es)), .va (.int o), .va (.int n), .va (.dic (wD (waysL es o 0))), .un, .un, .un, .un, .un, .un, .un, .un, .un] = .ok (.nx γ') := by
    unfold fForI
    rw [iR1_s (fa := bVar 2) (n := n) rfl (by omega)]
    exact l1
  rw [seq_nx ef]
  exact ret_e h3'.v
end
end KN
set_option maxHeartbeats 400000
/-! PR: how_many, share_of_length, lengths -/
namespace KN
open PySem PySem.Spec PyProof.Rows L2
noncomputable section
theorem bk_of {b : List Tx} (hb : bookOk b) {o : Nat} (ho : o ≤ 3) : Bk (evB o b) := ⟨evB_small hb.small o, fun e he => by
  refine ⟨?_, (ev_ctx hb.2.2 he).2.2, ?_⟩
  · obtain ⟨x, _, i, _, rfl⟩ := evB_mem he
    unfold endT; simp; omega
  · obtain ⟨x, _, i, _, rfl⟩ := evB_mem he
    simp; omega⟩
/-- no way is too broad -/
def Nar (es : List Ev) (o n : Nat) : Prop := ∀ k, k ≤ n → (paths es o k).length ≤ lim
theorem Nar.le {es : List Ev} {o n m : Nat} (h : Nar es o n) (k : m ≤ n) : Nar es o m := fun j hj => h j (by omega)
theorem path_pow {es : List Ev} {a : Nat} (h : ∀ c, (nxt es c).length ≤ a) (o : Nat) : ∀ n, (paths es o n).length ≤ a ^ n
  | 0 => by show ([[]] : List Tx).length ≤ _; simp
  | n + 1 => by
    have ih := path_pow h o n
    have g : ∀ ts : List Tx, (grow es o ts).length ≤ ts.length * a := by
      intro ts
      induction ts with
      | nil => simp [grow]
      | cons t ts ih =>
        have h1 := h (endT o t)
        unfold grow at ih ⊢
        rw [List.flatMap_cons, List.length_append, List.length_map, List.length_cons, Nat.add_mul]
        omega
    rw [Nat.pow_succ]
    exact Nat.le_trans (g _) (Nat.mul_le_mul_right _ ih)
theorem nar_of {es : List Ev} {L : List Tx} (h : ∀ e ∈ es, e.2 = [] ∨ e.2 ∈ L) {n : Nat} (hl : L.length ^ n ≤ lim) (h0 : 0 < L.length) (o : Nat) : Nar es o n := fun k hk => by
  refine Nat.le_trans (path_pow (a := L.length) (fun c => ?_) o k) (Nat.le_trans (Nat.pow_le_pow_right h0 hk) hl)
  refine List.Nodup.length_le_of_subset (nxt_nodup es c) fun l hl => ?_
  obtain ⟨h1, h2⟩ := nxt_mem.mp hl
  rcases h _ h1 with z | z
  · exact absurd z h2
  · exact z
theorem m_how_many_e : m_how_many = fSeq (fExpr (bCall g_need_all (bCons (bVar 0) (bCons (bVar 1) (bCons (bVar 2) (bNil)))))) (fSeq (fSet 3 (bCall g_counted (bCons (bVar 0) (bCons (bVar 1) (bNil))))) (fSeq (fSet 4 (bCall g_ways (bCons (bVar 3) (bCons (bVar 1) (bCons (bVar 2) (bNil)))))) (fRet (bN dSum (bCons (bLcE (bVar 4) [5] (bdN 5) (tVal (b2 dIn (bC (.str [])) (bGet (bVar 3) (bVar 5) (bC (.dic []))))) (b2 dIx (b2 dIx (bVar 4) (bVar 5)) (bC (.int 0)))) (bNil)))))) := rfl
theorem sum_ind (es : List Ev) (p : Tx → Bool) : ∀ W : List It3, gI (fun v => (v.1 : Rat)) (fun c => if p c = true then 1 else 0) W = ((((W.filter fun e => p e.1).map fun e => e.2.1).sum : Int) : Rat)
  | [] => rfl
  | e :: W => by
    have ih := sum_ind es p W
    unfold gI at ih ⊢
    rw [List.map_cons, rS_cons, ih, List.filter_cons]
    cases z : p e.1 with
    | true => simp only [z, if_true]; rw [List.map_cons, List.sum_cons, Rat.intCast_add, Rat.mul_one]
    | false => simp only [z, Bool.false_eq_true, if_false]; rw [Rat.mul_zero, Rat.zero_add]
theorem sum_ind2 (p : Tx → Bool) : ∀ l : List Tx, rS (l.map fun t => if p t = true then (1 : Rat) else 0) = (((l.filter p).length : Nat) : Rat)
  | [] => rfl
  | t :: l => by
    have ih := sum_ind2 p l
    rw [List.map_cons, rS_cons, ih, List.filter_cons]
    cases z : p t with
    | true => simp only [if_true]; rw [List.length_cons, Rat.natCast_add, Rat.add_comm]; rfl
    | false => simp only [Bool.false_eq_true, if_false]; rw [Rat.zero_add]
theorem many_made {es : List Ev} (hc : ∀ e ∈ es, e.2.length ≤ 1) (o n : Nat) : (((waysL es o n).filter fun e => decide ((e.1, ([] : Tx)) ∈ es)).map fun e => e.2.1).sum = ((made es o n).length : Nat) := by
  have h := ways_sum (lin_m es) hc o n fun c => if decide ((c, ([] : Tx)) ∈ es) = true then 1 else 0
  rw [sum_ind es fun c => decide ((c, ([] : Tx)) ∈ es)] at h
  have e : pS es (fun _ => 1) o (fun c => if decide ((c, ([] : Tx)) ∈ es) = true then (1 : Rat) else 0) n = (((made es o n).length : Nat) : Rat) := by
    unfold pS made
    rw [(sortT_perm _).length_eq, ← sum_ind2]
    congr 1
    refine List.map_congr_left fun t _ => ?_
    rw [wT_one, Rat.one_mul]
    rfl
  rw [e] at h
  exact_mod_cast h
theorem how_many_ok {b : List Tx} (hb : bookOk b) {o : Nat} (ho : 1 ≤ o ∧ o ≤ 3) {n : Nat} (hn : 1 ≤ n ∧ n ≤ 8) (hs : Nar (evB o b) o n) : g_how_many [bkD b, .int o, .int n] = .ok (.int ((made (evB o b) o n).length : Nat)) := by
  have h1 := needAll_ok hb ho hn
  have h2 := counted_ok hb.small o
  have bk := bk_of hb ho.2
  have h3 := ways_ok bk ho.2 hn.2 hs
  have mm := many_made (fun e he => (bk.c e he).2.2) o n
  have nd := ways_nd (evB o b) o n
  have wl := ways_len (es := evB o b) o n
  have hes := bk.n
  generalize evB o b = es at *
  have comp := lcGo_fil (bd := bdN 5) (ifs := tVal (b2 dIn (bC (.str [])) (bGet (bVar 3) (bVar 5) (bC (.dic []))))) (elt := b2 dIx (b2 dIx (bVar 4) (bVar 5)) (bC (.int 0))) (γ := wipeG [.va (bkD b), .va (.int o), .va (.int n), .va (tblD (tabOf es)), .va (.dic (wD (waysL es o n))), .un] [5]) (inj := fun e : It3 => D.str e.1) (p := fun e => decide ((e.1, ([] : Tx)) ∈ es)) (f := fun e => .int e.2.1) (l := waysL es o n) fun e he => ⟨_, rfl, by
      have gt := get_tbl (tabOf es) e.1
      have ir := in_row (es := es) e.1 []
      unfold tblD
      generalize (tabOf es).map (fun e => (e.1, D.dic (rowD e.2))) = TD at *
      generalize rowD (rowOf (tabOf es) e.1) = RD at *
      generalize bkD b = B at *
      generalize wD (waysL es o n) = WD at *
      simp [wipeG, bGet, gt, ir], fun _ => by
      have lw := look_wD nd he
      unfold wE at lw
      have : dIx (.dic (wD (waysL es o n))) (.str e.1) = .ok (.tup [.int e.2.1, frD e.2.2]) := by show o2r _ = _; rw [lw]; rfl
      generalize tblD (tabOf es) = TD at *
      generalize bkD b = B at *
      generalize wD (waysL es o n) = WD at *
      simp [wipeG, this, at0]⟩
  have c2 := lcE_e (γ := [.va (bkD b), .va (.int o), .va (.int n), .va (tblD (tabOf es)), .va (.dic (wD (waysL es o n))), .un]) (fe := bVar 4) (d := .dic (wD (waysL es o n))) (ds := (waysL es o n).map fun e => .str e.1) rfl (by rw [← keys_wD]; rfl) comp (by
    rw [List.length_map]
    refine Nat.le_trans (List.length_filter_le _ _) ?_
    rw [lim_val]; omega)
  have e6 : dSum [.lst (((waysL es o n).filter fun e => decide ((e.1, ([] : Tx)) ∈ es)).map fun e => D.int e.2.1)] = .ok (.int ((made es o n).length : Nat)) := by
    have e5 : (((waysL es o n).filter fun e => decide ((e.1, ([] : Tx)) ∈ es)).map fun e => D.int e.2.1) = (((waysL es o n).filter fun e => decide ((e.1, ([] : Tx)) ∈ es)).map fun e => e.2.1).map D.int := by rw [List.map_map]; rfl
    rw [e5]
    show (o2r (asInts _)).bind (fun ns => R.ok (D.int ns.sum)) = _
    rw [asInts_map, o2r_some]
    show R.ok (D.int _) = _
    rw [mm]
  unfold g_how_many
  refine fn_rt ?_
  rw [m_how_many_e]
  generalize bkD b = B at *
  generalize tblD (tabOf es) = T at *
  generalize wD (waysL es o n) = WD at *
  show fSeq _ _ [.va B, .va (.int o), .va (.int n), .un, .un, .un] = _
  rw [seq_nx (γ' := [.va B, .va (.int o), .va (.int n), .un, .un, .un]) (by rw [fExpr_e]; simp [h1])]
  rw [seq_nx (γ' := [.va B, .va (.int o), .va (.int n), .va T, .un, .un]) (by simp [h2])]
  rw [seq_nx (γ' := [.va B, .va (.int o), .va (.int n), .va T, .va (.dic WD), .un]) (by simp [h3])]
  refine ret_e ?_
  rw [bN_e, bCons_e, c2]
  exact e6
/-! ### the share of a length -/
def lenQ (es : List Ev) (o n : Nat) : Rat := rS ((made es o n).map (shareQ es o))
theorem share_wT (es : List Ev) (o : Nat) (t : Tx) : shareQ es o t = wT (pq es) o t * pq es (endT o t, []) := by
  unfold shareQ wT
  rw [evs_e, List.range_succ, List.map_append]
  show shq es (_ ++ [cStep t o t.length]) = _
  rw [shq_snoc]
  unfold shq cStep
  simp
theorem sum_len {es : List Ev} (hc : ∀ e ∈ es, e.2.length ≤ 1) (o n : Nat) : gI (fun v => v.2) (fun c => pq es (c, [])) (waysL es o n) = lenQ es o n := by
  rw [ways_sum (lin_q es) hc]
  unfold pS lenQ made
  refine Eq.trans ?_ (rS_perm ((sortT_perm _).map _)).symm
  rw [rS_filter0]
  · congr 1
    refine List.map_congr_left fun t _ => ?_
    exact (share_wT es o t).symm
  · intro t _ h
    rw [share_wT]
    have : (endT o t, ([] : Tx)) ∉ es := by
      unfold ends at h
      simpa using h
    rw [pq_zero (List.count_eq_zero.mpr this), Rat.mul_zero]
theorem m_share_of_length_e : m_share_of_length = fSeq (fExpr (bCall g_need_all (bCons (bVar 0) (bCons (bVar 1) (bCons (bVar 2) (bNil)))))) (fSeq (fSet 3 (bCall g_counted (bCons (bVar 0) (bCons (bVar 1) (bNil))))) (fSeq (fSet 4 (bTup (bCons (bC (.int 0)) (bCons (bC (.int 1)) (bNil))))) (fSeq (fSet 5 (bCall g_ways (bCons (bVar 3) (bCons (bVar 1) (bCons (bVar 2) (bNil)))))) (fSeq (fForE (bVar 5) (bdN 6) (fSet 4 (bCall g_added (bCons (bVar 4) (bCons (bCall g_times (bCons (b2 dIx (b2 dIx (bVar 5) (bVar 6)) (bC (.int 1))) (bCons (bCall g_part_of (bCons (bVar 3) (bCons (bVar 6) (bCons (bC (.str [])) (bNil))))) (bNil)))) (bNil)))))) (fRet (bVar 4)))))) := rfl
theorem gI_fr {es : List Ev} (hes : es.length ≤ 72) {n : Nat} (l : Tx) : ∀ {W : List It3}, (∀ e ∈ W, FrZ n e.2) → Fr (n + 1) (cI W).toNat (gI (fun v => v.2) (fun c => pq es (c, l)) W)
  | [], _ => Fr.zero _
  | e :: W, h => by
    have ih := gI_fr hes l (W := W) fun f hf => h f (List.mem_cons_of_mem _ hf)
    have he := h e List.mem_cons_self
    have c0 := cI_ge (its := W) fun f hf => (h f (List.mem_cons_of_mem _ hf)).1
    have e1 : (cI (e :: W)).toNat = e.2.1.toNat + (cI W).toNat := by
      have : cI (e :: W) = e.2.1 + cI W := by unfold cI; simp
      have := he.1
      omega
    have e2 : gI (fun v => v.2) (fun c => pq es (c, l)) (e :: W) = e.2.2 * pq es (e.1, l) + gI (fun v => v.2) (fun c => pq es (c, l)) W := by
      unfold gI; rw [List.map_cons, rS_cons]
    rw [e1, e2]
    exact (he.2.mul hes (e.1, l)).add ih
theorem share_of_length_ok {b : List Tx} (hb : bookOk b) {o : Nat} (ho : 1 ≤ o ∧ o ≤ 3) {n : Nat} (hn : 1 ≤ n ∧ n ≤ 8) (hs : Nar (evB o b) o n) : g_share_of_length [bkD b, .int o, .int n] = .ok (frD (lenQ (evB o b) o n)) := by
  have h1 := needAll_ok hb ho hn
  have h2 := counted_ok hb.small o
  have bk := bk_of hb ho.2
  have h3 := ways_ok bk ho.2 hn.2 hs
  have hc := fun e he => (bk.c e he).2.2
  have sl := sum_len hc o n
  have nd := ways_nd (evB o b) o n
  have hes := bk.n
  have cw := cI_ways hc o n
  have wf := ways_fr hes o n
  have ws := fun e he => ways_sz bk (o := o) (n := n) (by omega) (hs n (Nat.le_refl _)) (e := e) he
  have hpl := hs n (Nat.le_refl _)
  generalize evB o b = es at *
  have loop := forGo_inv (bd := bdN 6) (inj := fun e : It3 => D.str e.1) (l0 := waysL es o n) (body := fSet 4 (bCall g_added (bCons (bVar 4) (bCons (bCall g_times (bCons (b2 dIx (b2 dIx (bVar 5) (bVar 6)) (bC (.int 1))) (bCons (bCall g_part_of (bCons (bVar 3) (bCons (bVar 6) (bCons (bC (.str [])) (bNil))))) (bNil)))) (bNil)))))
    (I := fun dn γ => ∃ s6, γ = [.va (bkD b), .va (.int o), .va (.int n), .va (tblD (tabOf es)), .va (frD (gI (fun v => v.2) (fun c => pq es (c, [])) dn)), .va (.dic (wD (waysL es o n))), s6])
    (γ := [.va (bkD b), .va (.int o), .va (.int n), .va (tblD (tabOf es)), .va (frD 0), .va (.dic (wD (waysL es o n))), .un]) (fun dn e rest γ hr hI => by
      obtain ⟨s6, rfl⟩ := hI
      have he : e ∈ waysL es o n := by rw [hr]; simp
      have lw := look_wD nd he
      unfold wE at lw
      have lx : dIx (.dic (wD (waysL es o n))) (.str e.1) = .ok (.tup [.int e.2.1, frD e.2.2]) := by show o2r _ = _; rw [lw]; rfl
      have pt := part_ok (es := es) (by omega) e.1 []
      have tm := times_ok (ws e he) (pq_sz (es := es) (by omega) (e.1, [])) (by omega)
      have fr := gI_fr hes ([] : Tx) (W := dn) (n := n) fun f hf => wf f (by rw [hr]; exact List.mem_append_left _ hf)
      have s1 : sz 3200 (gI (fun v => v.2) (fun c => pq es (c, [])) dn) := by
        refine fr.sz (by omega) ?_
        have c1 := cI_ge (its := e :: rest) fun f hf => (wf f (by rw [hr]; exact List.mem_append_right _ hf)).1
        have hl := lim_val
        rw [hr, cI_app] at cw
        omega
      have ad := added_ok s1 (sz_mul (ws e he) (pq_sz (es := es) (by omega) (e.1, []))) (by omega)
      have e2 : gI (fun v => v.2) (fun c => pq es (c, [])) (dn ++ [e]) = gI (fun v => v.2) (fun c => pq es (c, [])) dn + e.2.2 * pq es (e.1, []) := by
        unfold gI; rw [List.map_append, rS_app]
        show _ + rS [_] = _
        rw [rS_cons, rS_nil, Rat.add_zero]
      refine ⟨_, rfl, [.va (bkD b), .va (.int o), .va (.int n), .va (tblD (tabOf es)), .va (frD (gI (fun v => v.2) (fun c => pq es (c, [])) (dn ++ [e]))), .va (.dic (wD (waysL es o n))), .va (.str e.1)], .inl ?_, _, rfl⟩
      rw [e2]
      generalize tblD (tabOf es) = T at *
      generalize bkD b = B at *
      generalize wD (waysL es o n) = WD at *
      simp [lx, at1, pt, tm, ad]) ⟨.un, rfl⟩
  obtain ⟨γ', l1, s6, rfl⟩ := loop
  rw [sl] at l1
  unfold g_share_of_length
  refine fn_rt ?_
  rw [m_share_of_length_e]
  have kw := keys_wD (waysL es o n)
  generalize bkD b = B at *
  generalize tblD (tabOf es) = T at *
  generalize wD (waysL es o n) = WD at *
  have l2 : 2 ≤ lim := by decide
  show fSeq _ _ [.va B, .va (.int o), .va (.int n), .un, .un, .un, .un] = _
  rw [seq_nx (γ' := [.va B, .va (.int o), .va (.int n), .un, .un, .un, .un]) (by rw [fExpr_e]; simp [h1])]
  rw [seq_nx (γ' := [.va B, .va (.int o), .va (.int n), .va T, .un, .un, .un]) (by simp [h2])]
  rw [seq_nx (γ' := [.va B, .va (.int o), .va (.int n), .va T, .va (frD 0), .un, .un]) (by simp [l2, fr_zero])]
  rw [seq_nx (γ' := [.va B, .va (.int o), .va (.int n), .va T, .va (frD 0), .va (.dic WD), .un]) (by simp [h3])]
  rw [seq_nx (forE_d (es := WD) rfl (by rw [kw]; exact l1))]
  rfl
/-! ### lengths -/
end
end KN
set_option maxHeartbeats 400000
/-! PS: guards; lists of texts; what is made is a name -/
namespace KN
open PySem PySem.Spec PyProof.Rows L2
noncomputable section
section
variable {fe fa fb elt : Ga → R D} {vs : List Nat} {bd : D → Ga → R Ga} {ifs : Ga → R Bool} {f : Ga → R Fl} {γ : Ga} {d : D}
theorem lim0 : (0 : Nat) ≤ lim := Nat.zero_le _
end
/-! ### lists of texts -/
theorem strsPl {l : List Tx} (h : ∀ x ∈ l, chs x) : pl 20 (.lst (l.map .str)) = true := by
  rw [pl_lst, List.all_eq_true]
  intro d hd
  obtain ⟨a, ha, rfl⟩ := List.mem_map.mp hd
  rw [pl_str]; exact (h a ha).all
theorem ints_pl {α : Type} (f : α → Int) (l : List α) : pl 20 (.lst (l.map fun a => .int (f a))) = true := by
  rw [pl_lst, List.all_eq_true]
  intro d hd
  obtain ⟨a, ha, rfl⟩ := List.mem_map.mp hd
  simp
theorem neNil (xs : List D) (h : pl 20 (.lst xs) = true) : dNe (.lst xs) (.lst []) = .ok (.bl (!xs.isEmpty)) := by
  rw [dNe_p h (by rfl), nilLst]
theorem eqNil (xs : List D) (h : pl 20 (.lst xs) = true) : dEq (.lst xs) (.lst []) = .ok (.bl xs.isEmpty) := by
  rw [dEq_p h (by rfl), nilLst]
/-! ### what is made is a name -/
theorem made_letter {o : Nat} {b : List Tx} {t : Tx} (h : 0 < shareQ (evB o b) o t) {c : Nat} (hc : c ∈ t) : ∃ x ∈ b, c ∈ x := by
  rw [share_iff] at h
  obtain ⟨i, hi, rfl⟩ := List.mem_iff_getElem.mp hc
  have := h (cStep t o i) (by rw [evs_e]; exact List.mem_map.mpr ⟨i, List.mem_range.mpr (by omega), rfl⟩)
  obtain ⟨x, hx, j, _, e⟩ := evB_mem this
  have e2 : (t.drop i).take 1 = (x.drop j).take 1 := congrArg Prod.snd e
  have e3 : [t[i]] = (x.drop j).take 1 := by rw [← e2, List.drop_eq_getElem_cons hi]; rfl
  have e4 : t[i] ∈ (x.drop j).take 1 := by rw [← e3]; exact List.mem_singleton.mpr rfl
  exact ⟨x, hx, List.mem_of_mem_drop (List.mem_of_mem_take e4)⟩
theorem made_name {o : Nat} {b : List Tx} (hb : bookOk b) (ho : o ≤ 3) {n : Nat} (hn : 1 ≤ n ∧ n ≤ 8) {t : Tx} (h : t ∈ made (evB o b) o n) : nameOk t := by
  obtain ⟨h1, h2⟩ := (made_mem (fun e he => ((bk_of hb ho).c e he).2.2)).mp h
  refine ⟨by omega, by omega, fun c hc => ?_⟩
  obtain ⟨x, hx, hcx⟩ := made_letter h2 hc
  exact (hb.2.2 x hx).2.2 c hcx
theorem abz_nar {o : Nat} {b : List Tx} (hb : ∀ x ∈ b, ∀ c ∈ x, ltr c) {n : Nat} (hn : n ≤ 12) : Nar (evB o b) o n := by
  refine nar_of (L := [[97], [98], [122]]) (fun e he => ?_) ?_ (by decide) o
  · obtain ⟨x, hx, i, hi, rfl⟩ := evB_mem he
    by_cases z : i < x.length
    · right
      have e : (x.drop i).take 1 = [x[i]] := by rw [List.drop_eq_getElem_cons z]; rfl
      simp only [e]
      rcases hb x hx x[i] (List.getElem_mem z) with z | z | z <;> rw [z] <;> decide
    · left
      show (x.drop i).take 1 = []
      rw [List.drop_eq_nil_of_le (by omega)]; rfl
  · have : ([[97], [98], [122]] : List Tx).length ^ n ≤ 3 ^ 12 := Nat.pow_le_pow_right (by decide) hn
    have h2 : 3 ^ 12 ≤ lim := by decide
    omega
theorem shq_fr {es : List Ev} (hes : es.length ≤ 72) : ∀ l : List Ev, Fr l.length 1 (shq es l) := by
  intro l
  have aux : ∀ (l : List Ev) (n : Nat) (q : Rat), Fr n 1 q → Fr (n + l.length) 1 (l.foldl (fun q e => q * pq es e) q) := by
    intro l
    induction l with
    | nil => intro n q h; exact h
    | cons e l ih =>
      intro n q h
      have := ih (n + 1) _ (h.mul hes e)
      rw [List.length_cons, List.foldl_cons]
      have e2 : n + (l.length + 1) = n + 1 + l.length := by omega
      rw [e2]; exact this
  have := aux l 0 1 Fr.one
  rw [Nat.zero_add] at this
  exact this
theorem share_fr {es : List Ev} (hes : es.length ≤ 72) (o : Nat) (t : Tx) : Fr (t.length + 1) 1 (shareQ es o t) := by
  have := shq_fr hes (evs o t)
  rw [evs_len] at this
  exact this
theorem shares_fr {es : List Ev} (hes : es.length ≤ 72) (o n : Nat) : ∀ ts : List Tx, (∀ t ∈ ts, t.length = n) → Fr (n + 1) ts.length (rS (ts.map (shareQ es o)))
  | [], _ => Fr.zero _
  | t :: ts, h => by
    have ih := shares_fr hes o n ts fun u hu => h u (List.mem_cons_of_mem _ hu)
    have h1 := share_fr hes o t
    rw [h t List.mem_cons_self] at h1
    rw [List.map_cons, rS_cons, List.length_cons, Nat.add_comm ts.length 1]
    exact h1.add ih
theorem rS_snoc (l : List Rat) (q : Rat) : rS (l ++ [q]) = rS l + q := by rw [rS_app, rS_cons, rS_nil, Rat.add_zero]
theorem made_len {es : List Ev} {o n : Nat} (h : Nar es o n) : (made es o n).length ≤ lim := by
  unfold made
  rw [(sortT_perm _).length_eq]
  exact Nat.le_trans (List.length_filter_le _ _) (h n (Nat.le_refl _))
end
end KN
set_option maxHeartbeats 400000
/-! PT: shares of all lengths come to one, but for what goes on; short names by a great order -/
namespace KN
open PySem PySem.Spec PyProof.Rows L2
noncomputable section
theorem rS_mk {α : Type} (f : α → Int) {d : Nat} (hd : d ≠ 0) : ∀ l : List α, rS (l.map fun x => mkRat (f x) d) = mkRat ((l.map f).sum) d
  | [] => by rw [List.map_nil, List.map_nil, rS_nil, List.sum_nil, Rat.zero_mkRat]
  | x :: l => by rw [List.map_cons, List.map_cons, rS_cons, List.sum_cons, rS_mk f hd l, mk_add hd]
theorem one_mk {d : Nat} (hd : d ≠ 0) : mkRat (d : Nat) d = 1 := by
  have := Rat.mkRat_mul_right (n := 1) (d := 1) (a := d) hd
  rw [Int.one_mul, Nat.one_mul] at this
  rw [this]; rfl
theorem row_all {es : List Ev} {c : Tx} (h : tot es c ≠ 0) : rS ((rowl es c).map fun l => pq es (c, l)) = 1 := by
  have T := tabOk es
  have e : ((rowl es c).map fun l => pq es (c, l)) = (rowl es c).map fun l => mkRat ((lk (rowOf (tabOf es) c) l).getD 0) (tot es c) := List.map_congr_left fun l hl => by
    have v := T.val c l
    unfold pq
    rw [v]
    split
    · rename_i z; rw [z]; rfl
    · rfl
  rw [e, rS_mk _ h]
  have := sum_vals (T.rnd c)
  unfold rowl
  rw [this, rsum_row, one_mk h]
theorem end_row {es : List Ev} {c : Tx} : rS (((rowl es c).filter fun l => l == []).map fun l => pq es (c, l)) = pq es (c, []) := by
  have nd : (rowl es c).Nodup := (tabOk es).rnd c
  rw [List.filter_beq, nd.count]
  split
  · rw [List.replicate_one, List.map_cons, List.map_nil, rS_cons, rS_nil, Rat.add_zero]
  · rename_i z
    have : (c, ([] : Tx)) ∉ es := fun y => z (row_mem2.mpr y)
    rw [pq_zero (List.count_eq_zero.mpr this)]
    rfl
/-! ### what goes on -/
def upQ (es : List Ev) (o n : Nat) : Rat := rS ((List.range n).map fun i => lenQ es o (i + 1))
theorem up_succ (es : List Ev) (o n : Nat) : upQ es o (n + 1) = upQ es o n + lenQ es o (n + 1) := by
  unfold upQ
  rw [List.range_succ, List.map_append, List.map_cons, List.map_nil, rS_snoc]
/-! ### share_up_to -/
theorem Fr.up {n m : Nat} {q : Rat} (h : Fr n m q) : Fr (n + 1) m q := by
  obtain ⟨a, rfl, h1⟩ := h
  refine ⟨a * fct 72, ?_, ?_⟩
  · rw [Nat.pow_succ, Int.natCast_mul, Rat.mkRat_mul_right (Nat.ne_of_gt (fct_pos 72))]
  · rw [Nat.pow_succ, ← Nat.mul_assoc]
    exact Nat.mul_le_mul_right _ h1
theorem Fr.le {n k m : Nat} {q : Rat} (h : Fr n m q) (hk : n ≤ k) : Fr k m q := by
  obtain ⟨j, rfl⟩ : ∃ j, k = n + j := ⟨k - n, by omega⟩
  clear hk
  induction j with
  | zero => exact h
  | succ j ih => exact ih.up
theorem len_fr {es : List Ev} (hes : es.length ≤ 72) (hc : ∀ e ∈ es, e.2.length ≤ 1) (o n : Nat) : Fr (n + 1) (made es o n).length (lenQ es o n) :=
  shares_fr hes o n (made es o n) fun t ht => ((made_mem hc).mp ht).1
def cntU (es : List Ev) (o n : Nat) : Nat := ((List.range n).map fun i => (made es o (i + 1)).length).sum
theorem up_fr {es : List Ev} (hes : es.length ≤ 72) (hc : ∀ e ∈ es, e.2.length ≤ 1) (o : Nat) : ∀ n, n ≤ 8 → Fr 9 (cntU es o n) (upQ es o n)
  | 0, _ => Fr.zero _
  | n + 1, h => by
    have e : cntU es o (n + 1) = cntU es o n + (made es o (n + 1)).length := by
      unfold cntU
      rw [List.range_succ, List.map_append, List.sum_append]
      simp
    rw [up_succ, e]
    exact (up_fr hes hc o n (by omega)).add ((len_fr hes hc o (n + 1)).le (by omega))
theorem made_pow {es : List Ev} {a : Nat} (h : ∀ c, (nxt es c).length ≤ a) (o n : Nat) : (made es o n).length ≤ a ^ n := by
  unfold made
  rw [(sortT_perm _).length_eq]
  exact Nat.le_trans (List.length_filter_le _ _) (path_pow h o n)
/-- few names of all lengths -/
def Few (es : List Ev) (o n : Nat) : Prop := Nar es o n ∧ cntU es o n < 2 ^ 20
theorem cnt_mono (es : List Ev) (o : Nat) {n m : Nat} (h : n ≤ m) : cntU es o n ≤ cntU es o m := by
  obtain ⟨j, rfl⟩ : ∃ j, m = n + j := ⟨m - n, by omega⟩
  unfold cntU
  rw [List.range_add, List.map_append, List.sum_append]
  omega
theorem Few.le {es : List Ev} {o n m : Nat} (h : Few es o n) (k : m ≤ n) : Few es o m := ⟨h.1.le k, Nat.lt_of_le_of_lt (cnt_mono es o k) h.2⟩
theorem abz_nxt {o : Nat} {b : List Tx} (hb : ∀ x ∈ b, ∀ c ∈ x, ltr c) (c : Tx) : (nxt (evB o b) c).length ≤ 3 := by
  refine List.Nodup.length_le_of_subset (l₂ := [[97], [98], [122]]) (nxt_nodup _ c) fun l hl => ?_
  obtain ⟨h1, h2⟩ := nxt_mem.mp hl
  obtain ⟨x, hx, i, hi, e⟩ := evB_mem h1
  have e2 : l = (x.drop i).take 1 := congrArg Prod.snd e
  have z : i < x.length := Decidable.byContradiction fun z => h2 (by rw [e2, List.drop_eq_nil_of_le (by omega)]; rfl)
  have e3 : (x.drop i).take 1 = [x[i]] := by rw [List.drop_eq_getElem_cons z]; rfl
  rw [e2, e3]
  rcases hb x hx x[i] (List.getElem_mem z) with z | z | z <;> rw [z] <;> decide
theorem abz_few {o : Nat} {b : List Tx} (hb : ∀ x ∈ b, ∀ c ∈ x, ltr c) {n : Nat} (hn : n ≤ 8) : Few (evB o b) o n := by
  refine Few.le (n := 8) ⟨abz_nar hb (by omega), ?_⟩ hn
  have h := fun i => made_pow (es := evB o b) (a := 3) (abz_nxt hb) o (i + 1)
  unfold cntU
  have : ∀ n, ((List.range n).map fun i => (made (evB o b) o (i + 1)).length).sum ≤ ((List.range n).map fun i => 3 ^ (i + 1)).sum := by
    intro n
    induction n with
    | zero => simp
    | succ n ih =>
      rw [List.range_succ, List.map_append, List.map_append, List.sum_append, List.sum_append]
      have := h n
      simp at this ⊢
      omega
  exact Nat.lt_of_le_of_lt (this 8) (by decide)
theorem m_share_up_to_e : m_share_up_to = fSeq (fExpr (bCall g_need_all (bCons (bVar 0) (bCons (bVar 1) (bCons (bVar 2) (bNil)))))) (fSeq (fSet 3 (bTup (bCons (bC (.int 0)) (bCons (bC (.int 1)) (bNil))))) (fSeq (fForI (iR2 (bC (.int 1)) (b2 dAdd (bVar 2) (bC (.int 1)))) (bdN 4) (fSet 3 (bCall g_added (bCons (bVar 3) (bCons (bCall g_share_of_length (bCons (bVar 0) (bCons (bVar 1) (bCons (bVar 4) (bNil))))) (bNil)))))) (fRet (bVar 3)))) := rfl
theorem iR2_one {fa fb : Ga → R D} {γ : Ga} {n : Nat} (h1 : fa γ = .ok (.int 1)) (h2 : fb γ = .ok (.int ((n : Nat) + 1))) (hn : n < 2 ^ 50) : iR2 fa fb γ = .ok ((List.range n).map fun i => .int (1 + (i : Nat))) := by
  unfold iR2
  rw [h1, h2]
  simp only [R.bind]
  rw [i2n_i (by omega), i2n_i (by omega)]
  have : ((n : Int) + 1 - 1).toNat = n := by omega
  simp only [R.bind, this]
  rfl
theorem share_up_to_ok {b : List Tx} (hb : bookOk b) {o : Nat} (ho : 1 ≤ o ∧ o ≤ 3) {n : Nat} (hn : 1 ≤ n ∧ n ≤ 8) (hs : Few (evB o b) o n) : g_share_up_to [bkD b, .int o, .int n] = .ok (frD (upQ (evB o b) o n)) := by
  have h1 := needAll_ok hb ho hn
  have bk := bk_of hb ho.2
  have hc := fun e he => (bk.c e he).2.2
  obtain ⟨γ', l1, s4, rfl⟩ := forGo_inv (bd := bdN 4) (inj := fun i : Nat => D.int (1 + (i : Nat))) (l0 := List.range n) (body := fSet 3 (bCall g_added (bCons (bVar 3) (bCons (bCall g_share_of_length (bCons (bVar 0) (bCons (bVar 1) (bCons (bVar 4) (bNil))))) (bNil)))))
    (I := fun dn γ => ∃ s4, γ = [.va (bkD b), .va (.int o), .va (.int n), .va (frD (upQ (evB o b) o dn.length)), s4]) (γ := [.va (bkD b), .va (.int o), .va (.int n), .va (frD 0), .un]) (fun dn i rest γ hr hI => by
      obtain ⟨s4, rfl⟩ := hI
      obtain ⟨e1, e2⟩ := range_split hr
      have sl := share_of_length_ok hb ho (n := i + 1) (by omega) (hs.1.le (by omega))
      have ee : ((i + 1 : Nat) : Int) = 1 + (i : Nat) := by omega
      rw [ee] at sl
      have s1 := ((up_fr bk.n hc o dn.length (by omega)).sz (by omega) (Nat.lt_of_le_of_lt (cnt_mono _ _ (by omega)) hs.2))
      have c2 : (made (evB o b) o (i + 1)).length < 2 ^ 20 := by
        have := made_len (hs.1.le (show i + 1 ≤ n by omega))
        rw [lim_val] at this; omega
      have s2 := ((len_fr bk.n hc o (i + 1)).sz (by omega) c2)
      have ad := added_ok s1 s2 (by omega)
      refine ⟨_, rfl, [.va (bkD b), .va (.int o), .va (.int n), .va (frD (upQ (evB o b) o (dn ++ [i]).length)), .va (.int (1 + (i : Nat)))], .inl ?_, _, rfl⟩
      rw [List.length_append, List.length_singleton, up_succ, ← e1]
      rw [← e1] at ad
      generalize bkD b = B at *
      simp [sl, ad]) ⟨.un, rfl⟩
  rw [List.length_range] at l1
  unfold g_share_up_to
  refine fn_rt ?_
  rw [m_share_up_to_e]
  have l2 : 2 ≤ lim := by decide
  generalize bkD b = B at *
  show fSeq _ _ [.va B, .va (.int o), .va (.int n), .un, .un] = _
  rw [seq_nx (γ' := [.va B, .va (.int o), .va (.int n), .un, .un]) (by rw [fExpr_e]; simp [h1])]
  rw [seq_nx (γ' := [.va B, .va (.int o), .va (.int n), .va (frD 0), .un]) (by simp [l2, fr_zero])]
  have ef : fForI (iR2 (bC (.int 1)) (b2 dAdd (bVar 2) (bC (.int 1)))) (bdN 4) (fSet 3 (bCall g_added (bCons (bVar 3) (bCons (bCall g_share_of_length (bCons (bVar 0) (bCons (bVar 1) (bCons (bVar 4) (bNil))))) (bNil))))) [.va B, .va (.int o), .va (.int n), .va (frD 0), .un] = .ok (.nx [.va B, .va (.int o), .va (.int n), .va (frD (upQ (evB o b) o n)), s4]) := by
    unfold fForI
    rw [iR2_one (n := n) rfl (by simp) (by omega)]
    exact l1
  rw [seq_nx ef]
  rfl
/-! ### short names by a great order -/
end
end KN
set_option maxHeartbeats 400000
/-! PW: what the laws count themselves -/
set_option maxHeartbeats 400000
/-! PX: the laws' own shares -/
set_option maxHeartbeats 400000
/-! PY: what is a name, a book, of whatever thing; refusals; the laws' own rows -/
namespace KN
open PySem PySem.Spec PyProof.Rows L2
noncomputable section
abbrev LET : Tx := [97, 98, 99, 100, 101, 102, 103, 104, 105, 106, 107, 108, 109, 110, 111, 112, 113, 114, 115, 116, 117, 118, 119, 120, 121, 122]
theorem all_bl {α : Type} (f : α → Bool) (l : List α) : dAll [.lst (l.map fun a => D.bl (f a))] = .ok (.bl (l.all f)) := by
  have e : (l.map fun a => D.bl (f a)) = (l.map f).map D.bl := by rw [List.map_map]; rfl
  rw [e]
  show ((o2r (asBls ((l.map f).map D.bl))).bind fun ns => R.ok (D.bl (ns.all id))) = _
  rw [asBls_map, o2r_some]
  show R.ok (D.bl ((l.map f).all id)) = _
  rw [List.all_map]
  rfl
/-! ### the laws' own rows -/
/-! ### what sorted(row.items()) tells -/
end
end KN
set_option maxHeartbeats 400000
/-! PZ: the laws' own shares, name by name; sums -/
set_option maxHeartbeats 400000
/-! QK: books and tables written -/
namespace KN
open PySem PySem.Spec PyProof.Rows L2
noncomputable section
theorem addT {s t : Tx} (h : s.length + t.length ≤ lim) : dAdd (.str s) (.str t) = .ok (.str (s ++ t)) := by
  show (if s.length + t.length ≤ lim then R.ok (D.str (s ++ t)) else .no) = _
  rw [if_pos h]
theorem eqNilT {t : Tx} (h : chs t) : dEq (.str t) (.str []) = .ok (.bl (t == [])) := by
  rw [dEq_p (by rw [pl_str]; exact h.all) (by simp), eqv_str]
theorem neNilT {t : Tx} (h : chs t) : dNe (.str t) (.str []) = .ok (.bl (!(t == []))) := by
  rw [dNe_p (by rw [pl_str]; exact h.all) (by simp), eqv_str]
/-! ### letters with how often -/
def ltx (l : Tx) (n : Nat) : Tx := (if l = [] then [46] else l) ++ TL.numL n
theorem num_len {n : Nat} (h : n < 1000) : (TL.numL n).length ≤ 3 := TL.numL_len (by decide) h
theorem ltx_len {l : Tx} {n : Nat} (hl : l.length ≤ 8) (h : n < 1000) : (ltx l n).length ≤ 11 := by
  have := num_len h
  unfold ltx
  rw [List.length_append]
  split
  · show 1 + _ ≤ _; omega
  · omega
/-! ### joining -/
theorem join_len (s : Tx) : ∀ ts : List Tx, (joinT s ts).length ≤ (ts.map (·.length)).sum + ts.length * s.length
  | [] => Nat.zero_le _
  | [x] => by show x.length ≤ _; simp
  | x :: y :: r => by
    have := join_len s (y :: r)
    show (x ++ (s ++ joinT s (y :: r))).length ≤ _
    rw [List.length_append, List.length_append, List.map_cons, List.sum_cons, List.length_cons, Nat.succ_mul]
    omega
theorem sum_le {m : Nat} : ∀ {ts : List Tx}, (∀ t ∈ ts, t.length ≤ m) → (ts.map (·.length)).sum ≤ ts.length * m
  | [], _ => Nat.zero_le _
  | t :: ts, h => by
    have := sum_le (ts := ts) fun t ht => h t (List.mem_cons_of_mem _ ht)
    have := h t List.mem_cons_self
    rw [List.map_cons, List.sum_cons, List.length_cons, Nat.succ_mul]
    omega
/-! ### books -/
/-! ### cutting -/
/-! ### tables -/
def rowN (es : List Ev) (c : Tx) : List (Tx × Nat) := (sortT (ks (rowOf (tabOf es) c))).map fun l => (l, es.count (c, l))
def wordsN (es : List Ev) (c : Tx) : List Tx := (rowN es c).map fun e => ltx e.1 e.2
def headT (c : Tx) : Tx := if c = [] then [45] else c
def lineT (es : List Ev) (c : Tx) : Tx := headT c ++ [58, 32] ++ joinT [32] (wordsN es c) ++ [10]
def ctxL (es : List Ev) : List Tx := sortT (ks (tabOf es))
structure Sm (es : List Ev) : Prop where
  few : es.length < 64
  ok : ∀ e ∈ es, chs e.1 ∧ e.1.length ≤ 8 ∧ chs e.2 ∧ e.2.length ≤ 8
theorem Sm.row {es : List Ev} (h : Sm es) (c : Tx) : ∀ e ∈ rowN es c, chs e.1 ∧ e.1.length ≤ 8 ∧ e.2 < 64 ∧ 0 < e.2 := fun e he => by
  obtain ⟨l, hl, rfl⟩ := List.mem_map.mp he
  have hm := row_mem2.mp ((sortT_perm _).mem_iff.mp hl)
  have o := h.ok _ hm
  have cl : es.count (c, l) ≤ es.length := List.count_le_length
  have := h.few
  exact ⟨o.2.2.1, o.2.2.2, by show es.count (c, l) < 64; omega, List.count_pos_iff.mpr hm⟩
theorem Sm.rowLen {es : List Ev} (h : Sm es) (c : Tx) : (rowN es c).length < 64 := by
  unfold rowN
  rw [List.length_map, (sortT_perm _).length_eq]
  have : (ks (rowOf (tabOf es) c)).length = (rowOf (tabOf es) c).length := by simp [ks]
  have := (tabOk es).rlen c
  have := h.few
  omega
theorem Sm.ctx {es : List Ev} (h : Sm es) : ∀ c ∈ ctxL es, chs c ∧ c.length ≤ 8 ∧ rowN es c ≠ [] := fun c hc => by
  have hm : c ∈ ks (tabOf es) := (sortT_perm _).mem_iff.mp hc
  have hk : ¬ lk (tabOf es) c = none := fun z => (lk_none.mp z) hm
  rw [(tabOk es).key c] at hk
  obtain ⟨l, hl⟩ : ∃ l, (c, l) ∈ es := Classical.byContradiction fun z => hk fun l hl => z ⟨l, hl⟩
  have o := h.ok _ hl
  refine ⟨o.1, o.2.1, fun z => ?_⟩
  have : l ∈ (sortT (ks (rowOf (tabOf es) c))) := (sortT_perm _).mem_iff.mpr (row_mem2.mpr hl)
  unfold rowN at z
  rw [List.map_eq_nil_iff.mp z] at this
  cases this
theorem Sm.words {es : List Ev} (h : Sm es) (c : Tx) : ∀ t ∈ wordsN es c, t.length ≤ 11 := fun t ht => by
  obtain ⟨e, he, rfl⟩ := List.mem_map.mp ht
  have := h.row c e he
  exact ltx_len this.2.1 (by omega)
theorem Sm.jlen {es : List Ev} (h : Sm es) (c : Tx) : (joinT [32] (wordsN es c)).length ≤ 64 * 12 := by
  have h1 := join_len [32] (wordsN es c)
  have h2 := sum_le (h.words c)
  have h3 : (wordsN es c).length < 64 := by unfold wordsN; rw [List.length_map]; exact h.rowLen c
  simp only [List.length_cons, List.length_nil] at h1
  omega
theorem head_len {c : Tx} (h : c.length ≤ 8) : (headT c).length ≤ 8 := by
  unfold headT; split
  · decide
  · exact h
theorem Sm.line {es : List Ev} (h : Sm es) {c : Tx} (hc : c ∈ ctxL es) : (lineT es c).length ≤ 800 := by
  have h1 := h.jlen c
  have h2 := head_len (h.ctx c hc).2.1
  unfold lineT
  simp only [List.length_append, List.length_cons, List.length_nil]
  omega
end
end KN
set_option maxHeartbeats 400000
/-! QL: a table's text -/
namespace KN
open PySem PySem.Spec PyProof.Rows L2
noncomputable section
def tt2b1 : Ga → R Fl := fOwn 5 (bLcE (bVar 4) [6, 7] (bdT [6, 7]) yes (bCall g_letter_text (bCons (bVar 6) (bCons (bVar 7) bNil))))
def tt2b2 : Ga → R Fl := fApp 2 (b2 dAdd (b2 dAdd (b2 dAdd (bIf (tVal (b2 dNe (bVar 3) (bC (.str [])))) (bVar 3) (bC (.str [45]))) (bC (.str [58, 32]))) (b2s dJoin (bC (.str [32])) (bRd 5))) (bC (.str [10])))
def tt2b : Ga → R Fl := fSeq tt2b1 (tt2b2)
def tt2 : Ga → R Fl := fForE (bCall g_table (bCons (bVar 0) (bCons (bVar 1) bNil))) (bdT [3, 4]) tt2b
def tt : Ga → R Fl := fSeq (fOwn 2 (bLst bNil)) (fSeq tt2 ((fRet (b2s dJoin (bC (.str [])) (bRd 2)))))
end
end KN
set_option maxHeartbeats 400000
/-! QM: wishes -/
namespace KN
open PySem PySem.Spec PyProof.Rows L2
noncomputable section
structure Wi where
  lo : Nat
  hi : Nat
  hd : Tx
  tl : Tx
  bar : List Tx
  told : Bool
def wiD (w : Wi) : D := .tup [.int (w.lo : Nat), .int (w.hi : Nat), .str w.hd, .str w.tl, .tup (w.bar.map .str), .bl w.told]
def endOk (t : Tx) : Prop := t.length ≤ 3 ∧ ∀ c ∈ t, 97 ≤ c ∧ c ≤ 122
structure WiOk (w : Wi) : Prop where
  lo1 : 1 ≤ w.lo
  lh : w.lo ≤ w.hi
  hi8 : w.hi ≤ 8
  hd : endOk w.hd
  tl : endOk w.tl
  few : w.bar.length ≤ 6
  names : ∀ x ∈ w.bar, nameOk x
  up : w.bar.Pairwise (· < ·)
theorem endOk.chs {t : Tx} (h : endOk t) : chs t := fun c hc => by have := (h.2 c hc).2; omega
theorem is_end_ok {t : Tx} (h : endOk t) : g_is_end [.str t] = .ok (.bl true) := by
  have ll : dLen [.str t] = .ok (.int (t.length : Nat)) := by
    show (if t.length ≤ lim then R.ok (D.int (t.length : Nat)) else .no) = _
    rw [if_pos (by have := h.1; rw [lim_val]; omega)]
  have le : dLe (.int (t.length : Nat)) (.int 3) = .ok (.bl true) := by
    show R.ok (D.bl (decide _)) = _
    rw [decide_eq_true (by have := h.1; omega)]
  have comp := lcGo_map (bd := bdN 1) (elt := b2 dIn (bVar 1) (bC (.str LET))) (γ := wipeG [.va (.str t), .un] [1]) (inj := fun c : Nat => D.str [c]) (f := fun _ => .bl true) (l := t) fun c hc => ⟨_, rfl, by
    have := letter_in (h.2 c hc)
    simp [wipeG]
    exact this⟩
  have cl := lcE_e (fe := bVar 0) (γ := [.va (.str t), .un]) (d := .str t) rfl rfl comp (by rw [List.length_map, lim_val]; have := h.1; omega)
  have al : dAll [.lst (t.map fun _ => D.bl true)] = .ok (.bl true) := by
    have := all_bl (fun _ : Nat => true) t
    have e : (t.all fun _ => true) = true := by simp
    rw [e] at this
    exact this
  have i1 : dIsi .str (.str t) = .ok (.bl true) := rfl
  unfold g_is_end
  refine fn_rt ?_
  show fRet _ [.va (.str t), .un] = _
  refine ret_e ?_
  have e3 : bN dAll (bCons (bLcE (bVar 0) [1] (bdN 1) yes (b2 dIn (bVar 1) (bC (.str LET)))) bNil) [.va (.str t), .un] = .ok (.bl true) := by
    rw [bN_e, bCons_e, cl, bNil_e]
    exact al
  show bAnd _ (bAnd _ (bN dAll (bCons (bLcE (bVar 0) [1] (bdN 1) yes (b2 dIn (bVar 1) (bC (.str LET)))) bNil))) [.va (.str t), .un] = _
  generalize bN dAll (bCons (bLcE (bVar 0) [1] (bdN 1) yes (b2 dIn (bVar 1) (bC (.str LET)))) bNil) = A at *
  simp [bAnd, i1, ll, le, e3]
section
variable {w : Wi}
theorem wi0 : dIx (wiD w) (.int 0) = .ok (.int (w.lo : Nat)) := rfl
theorem wi1 : dIx (wiD w) (.int 1) = .ok (.int (w.hi : Nat)) := rfl
theorem wi2 : dIx (wiD w) (.int 2) = .ok (.str w.hd) := rfl
theorem wi3 : dIx (wiD w) (.int 3) = .ok (.str w.tl) := rfl
theorem wi4 : dIx (wiD w) (.int 4) = .ok (.tup (w.bar.map .str)) := rfl
theorem wi5 : dIx (wiD w) (.int 5) = .ok (.bl w.told) := rfl
end
def isw1 : Ga → R Fl := fIf (tOr (tNot (tVal (b1 (dIsi .tup) (bVar 0)))) (tOr (tVal (b2 dNe (bN dLen (bCons (bVar 0) (bNil))) (bC (.int 6)))) (tNot (tVal (bCall g_is_number (bCons (b2 dIx (bVar 0) (bC (.int 0))) (bCons (bC (.int 1)) (bCons (bC (.int 8)) (bNil))))))))) (fRet (bC (.bl false))) (fNil)
def isw2 : Ga → R Fl := fIf (tOr (tNot (tVal (bCall g_is_number (bCons (b2 dIx (bVar 0) (bC (.int 1))) (bCons (b2 dIx (bVar 0) (bC (.int 0))) (bCons (bC (.int 8)) (bNil))))))) (tOr (tNot (tVal (bCall g_is_end (bCons (b2 dIx (bVar 0) (bC (.int 2))) (bNil))))) (tNot (tVal (bCall g_is_end (bCons (b2 dIx (bVar 0) (bC (.int 3))) (bNil))))))) (fRet (bC (.bl false))) (fNil)
def isw3 : Ga → R Fl := fIf (tOr (tNot (tVal (b1 (dIsi .tup) (b2 dIx (bVar 0) (bC (.int 4)))))) (tOr (tVal (b2 dGt (bN dLen (bCons (b2 dIx (bVar 0) (bC (.int 4))) (bNil))) (bC (.int 6)))) (tNot (tVal (bN dAll (bCons (bLcE (b2 dIx (bVar 0) (bC (.int 4))) [1] (bdN 1) yes (bCall g_is_name (bCons (bVar 1) (bNil)))) (bNil))))))) (fRet (bC (.bl false))) (fNil)
def isw4 : Ga → R Fl := fRet (bAnd (bN dAll (bCons (bLcI (iZpA (b2 dIx (bVar 0) (bC (.int 4))) (bSl (b2 dIx (bVar 0) (bC (.int 4))) (pSo (bC (.int 1))) (pNo))) [1, 2] (bdT [1, 2]) yes (b2 dLt (bVar 1) (bVar 2))) (bNil))) (b1 (dIsi .bool) (b2 dIx (bVar 0) (bC (.int 5)))))
theorem m_is_wish_e : m_is_wish = fSeq isw1 (fSeq isw2 (fSeq isw3 isw4)) := rfl
theorem is_wish_ok {w : Wi} (h : WiOk w) : g_is_wish [wiD w] = .ok (.bl true) := by
  have n0 := isNumber_ok (i := (w.lo : Nat)) (lo := 1) (hi := 8)
  rw [decide_eq_true (by have := h.lo1; have := h.lh; have := h.hi8; omega)] at n0
  have n1 := isNumber_ok (i := (w.hi : Nat)) (lo := (w.lo : Nat)) (hi := 8)
  rw [decide_eq_true (by have := h.lh; have := h.hi8; omega)] at n1
  have e2 := is_end_ok h.hd
  have e3 := is_end_ok h.tl
  have i0 := wi0 (w := w)
  have i1 := wi1 (w := w)
  have i2 := wi2 (w := w)
  have i3 := wi3 (w := w)
  have i4 := wi4 (w := w)
  have i5 := wi5 (w := w)
  have t0 : dIsi .tup (wiD w) = .ok (.bl true) := rfl
  have l0 : dLen [wiD w] = .ok (.int 6) := rfl
  have t4 : dIsi .tup (.tup (w.bar.map .str)) = .ok (.bl true) := rfl
  have l4 : dLen [.tup (w.bar.map .str)] = .ok (.int (w.bar.length : Nat)) := by
    show R.ok (D.int _) = _
    rw [List.length_map]
  have g4 : dGt (.int (w.bar.length : Nat)) (.int 6) = .ok (.bl false) := by
    show R.ok (D.bl (decide _)) = _
    rw [decide_eq_false (by have := h.few; omega)]
  have n6 : dNe (.int 6) (.int 6) = .ok (.bl false) := rfl
  have b5 : dIsi .bool (.bl w.told) = .ok (.bl true) := rfl
  have comp := lcGo_map (bd := bdN 1) (elt := bCall g_is_name (bCons (bVar 1) (bNil))) (γ := wipeG [.va (wiD w), .un, .un] [1]) (inj := D.str) (f := fun _ => .bl true) (l := w.bar) fun x hx => ⟨_, rfl, by
    have := isName_ok (h.names x hx)
    generalize wiD w = WD at *
    simp [wipeG, this]⟩
  have cl := lcE_e (fe := b2 dIx (bVar 0) (bC (.int 4))) (γ := [.va (wiD w), .un, .un]) (d := .tup (w.bar.map .str)) rfl rfl comp (by rw [List.length_map, lim_val]; have := h.few; omega)
  have al : bN dAll (bCons (bLcE (b2 dIx (bVar 0) (bC (.int 4))) [1] (bdN 1) yes (bCall g_is_name (bCons (bVar 1) (bNil)))) (bNil)) [.va (wiD w), .un, .un] = .ok (.bl true) := by
    rw [bN_e, bCons_e, cl, bNil_e]
    have := all_bl (fun _ : Tx => true) w.bar
    have e : (w.bar.all fun _ => true) = true := by simp
    rw [e] at this
    exact this
  have k1 : isw1 [.va (wiD w), .un, .un] = .ok (.nx [.va (wiD w), .un, .un]) := by
    refine if_f ?_
    generalize wiD w = WD at *
    simp [t0, l0, n6, i0, n0]
  have k2 : isw2 [.va (wiD w), .un, .un] = .ok (.nx [.va (wiD w), .un, .un]) := by
    refine if_f ?_
    generalize wiD w = WD at *
    simp [i0, i1, n1, i2, e2, i3, e3]
  have k3 : isw3 [.va (wiD w), .un, .un] = .ok (.nx [.va (wiD w), .un, .un]) := by
    refine if_f ?_
    generalize bN dAll (bCons (bLcE (b2 dIx (bVar 0) (bC (.int 4))) [1] (bdN 1) yes (bCall g_is_name (bCons (bVar 1) (bNil)))) (bNil)) = A at *
    generalize wiD w = WD at *
    generalize D.tup (w.bar.map .str) = BT at *
    simp [i4, t4, l4, g4, al]
  have sl : dSl (.tup (w.bar.map .str)) (some 1) none = .ok (.tup ((w.bar.drop 1).map .str)) := by
    show R.ok (D.tup (cutL (w.bar.map D.str) (some ((1 : Nat) : Int)) none)) = _
    rw [cut_from, List.map_drop]
  have zi : zipA (.tup (w.bar.map .str)) (.tup ((w.bar.drop 1).map .str)) = .ok ((w.bar.zip (w.bar.drop 1)).map fun p => D.tup [.str p.1, .str p.2]) := by
    show R.ok (zipD _ _) = _
    unfold zipD
    rw [List.zip_map, List.map_map]; rfl
  have ez : iZpA (b2 dIx (bVar 0) (bC (.int 4))) (bSl (b2 dIx (bVar 0) (bC (.int 4))) (pSo (bC (.int 1))) (pNo)) [.va (wiD w), .un, .un] = .ok ((w.bar.zip (w.bar.drop 1)).map fun p => D.tup [.str p.1, .str p.2]) := by
    unfold iZpA
    generalize wiD w = WD at *
    generalize ((w.bar.zip (w.bar.drop 1)).map fun p => D.tup [.str p.1, .str p.2]) = ZL at *
    generalize D.tup ((w.bar.drop 1).map .str) = B1 at *
    generalize D.tup (w.bar.map .str) = BT at *
    simp [i4, bSl, pSo, pNo, toI, sl, zi]
  have up : ∀ p ∈ w.bar.zip (w.bar.drop 1), p.1 < p.2 := fun p hp => by
    obtain ⟨i, hi⟩ := List.mem_iff_getElem?.mp hp
    rw [List.getElem?_zip_eq_some] at hi
    obtain ⟨h1, h2⟩ := hi
    rw [List.getElem?_drop] at h2
    obtain ⟨l1, e1⟩ := List.getElem?_eq_some_iff.mp h1
    obtain ⟨l2, e2⟩ := List.getElem?_eq_some_iff.mp h2
    rw [← e1, ← e2]
    exact List.pairwise_iff_getElem.mp h.up i (1 + i) l1 l2 (by omega)
  have comp2 := lcGo_map (bd := bdT [1, 2]) (elt := b2 dLt (bVar 1) (bVar 2)) (γ := wipeG [.va (wiD w), .un, .un] [1, 2]) (inj := fun p : Tx × Tx => D.tup [.str p.1, .str p.2]) (f := fun _ => .bl true) (l := w.bar.zip (w.bar.drop 1)) fun p hp => ⟨[.va (wiD w), .va (.str p.1), .va (.str p.2)], rfl, by
    have := up p hp
    show R.ok (D.bl (decide (p.1 < p.2))) = _
    rw [decide_eq_true this]⟩
  have co : bLcI (iZpA (b2 dIx (bVar 0) (bC (.int 4))) (bSl (b2 dIx (bVar 0) (bC (.int 4))) (pSo (bC (.int 1))) (pNo))) [1, 2] (bdT [1, 2]) yes (b2 dLt (bVar 1) (bVar 2)) [.va (wiD w), .un, .un] = .ok (.lst ((w.bar.zip (w.bar.drop 1)).map fun _ => D.bl true)) := by
    unfold bLcI
    rw [ez]
    refine lcOut_e comp2 ?_
    rw [List.length_map, List.length_zip, lim_val]
    have := h.few
    omega
  have al2 : bN dAll (bCons (bLcI (iZpA (b2 dIx (bVar 0) (bC (.int 4))) (bSl (b2 dIx (bVar 0) (bC (.int 4))) (pSo (bC (.int 1))) (pNo))) [1, 2] (bdT [1, 2]) yes (b2 dLt (bVar 1) (bVar 2))) (bNil)) [.va (wiD w), .un, .un] = .ok (.bl true) := by
    rw [bN_e, bCons_e, co, bNil_e]
    have := all_bl (fun _ : Tx × Tx => true) (w.bar.zip (w.bar.drop 1))
    have e : ((w.bar.zip (w.bar.drop 1)).all fun _ => true) = true := by simp
    rw [e] at this
    exact this
  unfold g_is_wish
  refine fn_rt ?_
  rw [m_is_wish_e]
  show fSeq _ _ [.va (wiD w), .un, .un] = _
  rw [seq_nx k1, seq_nx k2, seq_nx k3]
  unfold isw4
  refine ret_e ?_
  generalize bN dAll (bCons (bLcI (iZpA (b2 dIx (bVar 0) (bC (.int 4))) (bSl (b2 dIx (bVar 0) (bC (.int 4))) (pSo (bC (.int 1))) (pNo))) [1, 2] (bdT [1, 2]) yes (b2 dLt (bVar 1) (bVar 2))) (bNil)) = A at *
  generalize wiD w = WD at *
  simp [bAnd, al2, i5, b5]
theorem needWish_ok {w : Wi} (h : WiOk w) : g_need_wish [wiD w] = .ok .non := by
  have i := is_wish_ok h
  unfold g_need_wish
  rw [fnD_e]
  generalize wiD w = WD at *
  simp [m_need_wish, i]
/-! ### which names are wanted -/
def fitP (b : List Tx) (w : Wi) (x : Tx) : Bool := decide (w.lo ≤ x.length ∧ x.length ≤ w.hi) && (decide (w.hd.length ≤ x.length) && (x.take w.hd.length == w.hd)) && (decide (w.tl.length ≤ x.length) && (x.drop (x.length - w.tl.length) == w.tl)) && !(w.bar.contains x) && (w.told || !(b.contains x))
theorem in_txs {x : Tx} {l : List Tx} (hx : chs x) (hl : ∀ y ∈ l, chs y) : dInB (.str x) (.tup (l.map .str)) = .ok (l.contains x) := by
  have f1 : flatD (.str x) = true := by show x.all (· < 0x110000) = true; exact hx.all
  have f2 : (l.map D.str).all flatD = true := by
    rw [List.all_eq_true]
    intro d hd
    obtain ⟨y, hy, rfl⟩ := List.mem_map.mp hd
    show y.all (· < 0x110000) = true
    exact (hl y hy).all
  have e : ((l.map D.str).any fun z => eqv 20 z (.str x)) = l.contains x := by
    rw [List.any_map, Bool.eq_iff_iff, List.any_eq_true]
    simp only [Function.comp, eqv_str, beq_iff_eq, List.contains_iff_mem]
    exact ⟨fun ⟨y, hy, e⟩ => e ▸ hy, fun h => ⟨x, h, rfl⟩⟩
  show (if flatD (.str x) = true ∧ (l.map D.str).all flatD = true then R.ok ((l.map D.str).any fun z => eqv 20 z (.str x)) else R.no) = _
  rw [if_pos ⟨f1, f2⟩, e]
theorem len_str {x : Tx} (h : x.length ≤ lim) : dLen [.str x] = .ok (.int (x.length : Nat)) := by
  show (if x.length ≤ lim then R.ok (D.int (x.length : Nat)) else .no) = _
  rw [if_pos h]
end
end KN
set_option maxHeartbeats 400000
/-! QN: the laws' own wishes -/
set_option maxHeartbeats 400000
/-! RA: beginnings with a head, by how they end: sums over them -/
namespace KN
open PySem PySem.Spec PyProof.Rows L2
noncomputable section
/-! ### a letter that goes on with a head -/
/-- a beginning agrees with a head -/
def preH (hd t : Tx) : Bool := t.take hd.length == hd.take t.length
section
variable {es : List Ev} {w : Ev → Rat} {π : Int × Rat → Rat}
theorem nxt_len1 (hc : ∀ e ∈ es, e.2.length ≤ 1) {c l : Tx} (h : l ∈ nxt es c) : l.length = 1 := by
  have h1 := nxt_mem.mp h
  have := hc _ h1.1
  have h3 : l.length ≠ 0 := fun z => h1.2 (List.length_eq_zero_iff.mp z)
  simp only at this; omega
/-! ### beginnings by how they end -/
/-! ### sizes -/
/-! ### what ends as it should -/
def sfx (tl x : Tx) : Bool := decide (tl.length ≤ x.length) && (x.drop (x.length - tl.length) == tl)
end
end
end KN
set_option maxHeartbeats 400000
/-! RB: a tally's step and its end -/
namespace KN
open PySem PySem.Spec PyProof.Rows L2
noncomputable section
@[simp] theorem bFld_e {cn i k : Nat} {γ : Ga} : bFld cn i k γ = match γ[i]? with
  | some (.ob _ c fs) => if c = cn then (match fs[k]? with | some (false, d) => .ok d | _ => .no) else .no
  | some (.rf c fs) => if c = cn then (match fs[k]? with | some (_, d) => .ok d | none => .no) else .no
  | _ => .no := rfl
/-! ### a letter more -/
theorem ne_nil_ok {l : Tx} (h : chs l) : dNe (.str l) (.str []) = .ok (.bl (!(l == []))) := by
  rw [dNe_p (by rw [pl_str]; exact h.all) (by simp), eqv_str]
end
end KN
set_option maxHeartbeats 400000
/-! RC: a tally's whole step, its end; what is wanted of a book -/
namespace KN
open PySem PySem.Spec PyProof.Rows L2
noncomputable section
@[simp] theorem fnO_e {n i : Nat} {body : Ga → R Fl} {as : List Sl} : fnO n i body as = match body (as ++ List.replicate (n - as.length) .un) with
  | .ok (.nx γ) => stOf i .non γ
  | .ok (.rx (.rm (some d) γ)) => stOf i d γ
  | .ok (.rx (.rm none γ)) => stOf i .non γ
  | _ => .no := rfl
@[simp] theorem fnR_e {n : Nat} {body : Ga → R Fl} {as : List Sl} : fnR n body as = match body (as ++ List.replicate (n - as.length) .un) with
  | .ok (.rt d) => .ok d
  | .ok (.nx _) => .ok .non
  | .ex c => .ex c
  | _ => .no := rfl
end
end KN
set_option maxHeartbeats 400000
/-! RD: the share of what is wanted -/
namespace KN
open PySem PySem.Spec PyProof.Rows L2
noncomputable section
/-! ### all made names, those that are wanted -/
def allM (es : List Ev) (o hi : Nat) : List Tx := (List.range hi).flatMap fun i => made es o (i + 1)
def goodW (b : List Tx) (o : Nat) (w : Wi) : List Tx := (allM (evB o b) o w.hi).filter (fitP b w)
def fitQ (b : List Tx) (o : Nat) (w : Wi) : Rat := rS ((goodW b o w).map (shareQ (evB o b) o))
def freeW (w : Wi) : Wi := { w with bar := [], told := true }
theorem allM_mem {es : List Ev} (hc : ∀ e ∈ es, e.2.length ≤ 1) {o hi : Nat} {t : Tx} : t ∈ allM es o hi ↔ 1 ≤ t.length ∧ t.length ≤ hi ∧ 0 < shareQ es o t := by
  unfold allM
  rw [List.mem_flatMap]
  constructor
  · rintro ⟨i, hi, h⟩
    obtain ⟨h1, h2⟩ := (made_mem hc).mp h
    have := List.mem_range.mp hi
    exact ⟨by omega, by omega, h2⟩
  · rintro ⟨h1, h2, h3⟩
    exact ⟨t.length - 1, List.mem_range.mpr (by omega), (made_mem hc).mpr ⟨by omega, h3⟩⟩
theorem made_nd {es : List Ev} (hc : ∀ e ∈ es, e.2.length ≤ 1) (o n : Nat) : (made es o n).Nodup := by
  unfold made
  exact ((sortT_perm _).nodup_iff).mpr ((path_nodup hc o n).filter _)
theorem allM_nd {es : List Ev} (hc : ∀ e ∈ es, e.2.length ≤ 1) (o hi : Nat) : (allM es o hi).Nodup := by
  unfold allM
  refine nd_flat ?_ fun i _ => made_nd hc o (i + 1)
  refine List.Pairwise.imp (R := fun a b : Nat => a < b) (fun {a b} h x h1 h2 => ?_) List.pairwise_lt_range
  have := ((made_mem hc).mp h1).1
  have := ((made_mem hc).mp h2).1
  omega
/-- what a wish asks of the weaker kind -/
structure WiG (w : Wi) : Prop where
  hi8 : w.hi ≤ 8
  hd : w.hd.length ≤ 100 ∧ chs w.hd
  tl : w.tl.length ≤ 100 ∧ chs w.tl
  bar : ∀ y ∈ w.bar, chs y
theorem WiOk.g {w : Wi} (h : WiOk w) : WiG w := ⟨h.hi8, ⟨by have := h.hd.1; omega, h.hd.chs⟩, ⟨by have := h.tl.1; omega, h.tl.chs⟩, fun y hy => (h.names y hy).chs⟩
theorem WiG.free {w : Wi} (h : WiG w) : WiG (freeW w) := ⟨h.hi8, h.hd, h.tl, fun y hy => nomatch hy⟩
theorem is_fit_g {b : List Tx} {w : Wi} {x : Tx} (hb : ∀ y ∈ b, chs y) (hw : ∀ y ∈ w.bar, chs y) (hx : chs x) (hl : x.length ≤ 1000) : g_is_fit [bkD b, wiD w, .str x] = .ok (.bl (fitP b w x)) := by
  have ll := len_str (x := x) (by rw [lim_val]; omega)
  have n1 : dNotIn (.str x) (.tup (w.bar.map .str)) = .ok (.bl (!(w.bar.contains x))) := by
    unfold dNotIn; rw [in_txs hx hw]; rfl
  have n2 : dNotIn (.str x) (bkD b) = .ok (.bl (!(b.contains x))) := by
    unfold dNotIn bkD; rw [in_txs hx hb]; rfl
  have s1 : dSw x (.str w.hd) = .ok (.bl (decide (w.hd.length ≤ x.length) && (x.take w.hd.length == w.hd))) := rfl
  have s2 : dEw x (.str w.tl) = .ok (.bl (decide (w.tl.length ≤ x.length) && (x.drop (x.length - w.tl.length) == w.tl))) := rfl
  have c1 : dLe (.int (w.lo : Nat)) (.int (x.length : Nat)) = .ok (.bl (decide (w.lo ≤ x.length))) := by
    show R.ok (D.bl (decide _)) = _
    congr 2; rw [decide_eq_decide]; omega
  have c2 : dLe (.int (x.length : Nat)) (.int (w.hi : Nat)) = .ok (.bl (decide (x.length ≤ w.hi))) := by
    show R.ok (D.bl (decide _)) = _
    congr 2; rw [decide_eq_decide]; omega
  have bd : fBd (bdT [3, 4, 5, 6, 7, 8]) (bVar 1) [.va (bkD b), .va (wiD w), .va (.str x), .un, .un, .un, .un, .un, .un] = .ok (.nx [.va (bkD b), .va (wiD w), .va (.str x), .va (.int (w.lo : Nat)), .va (.int (w.hi : Nat)), .va (.str w.hd), .va (.str w.tl), .va (.tup (w.bar.map .str)), .va (.bl w.told)]) := rfl
  unfold g_is_fit
  rw [fnD_e]
  show (match m_is_fit [.va (bkD b), .va (wiD w), .va (.str x), .un, .un, .un, .un, .un, .un] with
    | R.ok (Fl.rt d) => R.ok d
    | R.ok (Fl.nx γ) => R.ok D.non
    | R.ex c => R.ex c
    | x => R.no) = _
  unfold m_is_fit fitP
  rw [seq_nx bd]
  generalize (decide (w.hd.length ≤ x.length) && (x.take w.hd.length == w.hd)) = p1 at *
  generalize (decide (w.tl.length ≤ x.length) && (x.drop (x.length - w.tl.length) == w.tl)) = p2 at *
  generalize w.bar.contains x = p3 at *
  generalize b.contains x = p4 at *
  generalize bkD b = B at *
  generalize wiD w = WD at *
  generalize w.bar.map D.str = BR at *
  generalize ((x.length : Nat) : Int) = xl at *
  generalize ((w.lo : Nat) : Int) = lo at *
  generalize ((w.hi : Nat) : Int) = hi at *
  generalize w.told = td at *
  by_cases z1 : w.lo ≤ x.length
  · rw [decide_eq_true z1] at c1
    by_cases z2 : x.length ≤ w.hi
    · rw [decide_eq_true z2] at c2
      rw [decide_eq_true ⟨z1, z2⟩]
      cases p1 <;> cases p2 <;> cases p3 <;> cases td <;> simp [bCh, ll, c1, c2, b2s, s1, s2, n1, n2, bAnd, bOr]
    · rw [decide_eq_false z2] at c2
      rw [decide_eq_false (fun h => z2 h.2)]
      simp [bCh, ll, c1, c2]
  · rw [decide_eq_false z1] at c1
    rw [decide_eq_false (fun h => z1 h.1)]
    simp [bCh, ll, c1]
/-! ### lengths one by one -/
theorem Fr.zero' (n m : Nat) : Fr n m 0 := ⟨0, (Rat.zero_mkRat _).symm, by omega⟩
/-! ### barred ones taken away -/
theorem rS_nonneg {α : Type} (f : α → Rat) : ∀ l : List α, (∀ a ∈ l, 0 ≤ f a) → 0 ≤ rS (l.map f)
  | [], _ => by rw [List.map_nil, rS_nil]; exact Rat.le_refl
  | a :: l, h => by
    rw [List.map_cons, rS_cons]
    exact Rat.add_nonneg (h a List.mem_cons_self) (rS_nonneg f l fun x hx => h x (List.mem_cons_of_mem _ hx))
theorem fr_shares {es : List Ev} (hes : es.length ≤ 72) (o : Nat) : ∀ ts : List Tx, (∀ t ∈ ts, t.length ≤ 8) → Fr 9 ts.length (rS (ts.map (shareQ es o)))
  | [], _ => Fr.zero' _ _
  | t :: ts, h => by
    rw [List.map_cons, rS_cons, List.length_cons, Nat.add_comm ts.length]
    exact ((share_fr hes o t).le (by have := h t List.mem_cons_self; omega)).add (fr_shares hes o ts fun x hx => h x (List.mem_cons_of_mem _ hx))
end
end KN
set_option maxHeartbeats 400000
/-! RE: share_fitting, can_fit -/
set_option maxHeartbeats 400000
/-! RF: the search's methods -/
namespace KN
open PySem PySem.Spec PyProof.Rows L2
noncomputable section
@[simp] theorem bFldR_e {cn i k : Nat} {γ : Ga} : bFldR cn i k γ = match γ[i]? with
  | some (.ob _ c fs) => if c = cn then (match fs[k]? with | some (_, d) => .ok d | _ => .no) else .no
  | _ => .no := rfl
abbrev Hd := Rat × Tx
def hdD (e : Hd) : D := .tup [frD e.1, .str e.2]
abbrev sF (B : D) (o : Nat) (W T : D) (hs fs : List Hd) : List Fd := [(false, B), (false, .int (o : Nat)), (false, W), (false, T), (true, .lst (hs.map hdD)), (true, .lst (fs.map hdD))]
def szH (hs : List Hd) : Prop := ∀ e ∈ hs, sz 3200 e.1 ∧ chs e.2
theorem at_hd {hs : List Hd} {i : Nat} {e : Hd} (h : hs[i]? = some e) : dIx (.lst (hs.map hdD)) (.int (i : Nat)) = .ok (hdD e) := by
  show o2r (L2.atI (hs.map hdD) (i : Nat)) = _
  rw [L2.atI_nat (v := hdD e) (by rw [List.getElem?_map, h]; rfl)]; rfl
theorem hd0 (e : Hd) : dIx (hdD e) (.int 0) = .ok (frD e.1) := rfl
theorem hd1 (e : Hd) : dIx (hdD e) (.int 1) = .ok (.str e.2) := rfl
/-! ### the likeliest beginning -/
def sbB : Ga → R Fl := fIf (tVal (bCall g_is_less (bCons (b2 dIx (b2 dIx (bFld 0 0 4) (bVar 1)) (bC (.int 0))) (bCons (b2 dIx (bVar 3) (bC (.int 0))) (bNil))))) (fSet 1 (bVar 2)) (fNil)
theorem m_Search_best_e : m_Search_best = fSeq (fSet 1 (bC (.int 0))) (fSeq (fForI (iEn (bFld 0 0 4)) (bdT [2, 3]) sbB) (fRet (bVar 1))) := rfl
def inH (e : Hd × Nat) : D := .tup [.int (e.2 : Nat), hdD e.1]
theorem enu_hs (hs : List Hd) : enuD (hs.map hdD) = hs.zipIdx.map inH := by
  unfold enuD
  rw [List.zipIdx_map, List.map_map]
  rfl
theorem zip_split {hs : List Hd} {dn rest : List (Hd × Nat)} {e : Hd × Nat} (h : hs.zipIdx = dn ++ e :: rest) : e.2 = dn.length ∧ hs[dn.length]? = some e.1 := by
  have h1 : hs.zipIdx[dn.length]? = some e := by rw [h]; simp
  rw [List.getElem?_zipIdx] at h1
  cases q : hs[dn.length]? with
  | none => rw [q] at h1; cases h1
  | some x =>
    rw [q] at h1
    simp at h1
    subst h1
    exact ⟨rfl, rfl⟩
theorem best_ok {B W T : D} {o : Nat} {hs fs : List Hd} (hz : szH hs) : ∃ i, g_Search_best [.rf 0 (sF B o W T hs fs)] = .ok (.int (i : Nat)) ∧ (hs ≠ [] → ∃ e, hs[i]? = some e ∧ ∀ f ∈ hs, f.1 ≤ e.1) := by
  obtain ⟨γ', l1, p, s2, s3, rfl, hp1, hp2⟩ := forGo_inv (bd := bdT [2, 3]) (inj := inH) (l0 := hs.zipIdx) (body := sbB)
    (I := fun dn γ => ∃ (p : Nat) (s2 s3 : Sl), γ = [.rf 0 (sF B o W T hs fs), .va (.int (p : Nat)), s2, s3] ∧ (dn = [] → p = 0) ∧ (dn ≠ [] → ∃ e, hs[p]? = some e ∧ ∀ f ∈ dn, f.1.1 ≤ e.1))
    (γ := [.rf 0 (sF B o W T hs fs), .va (.int 0), .un, .un]) (fun dn e rest γ hr hI => by
      obtain ⟨p, s2, s3, rfl, h1, h2⟩ := hI
      obtain ⟨ei, hx⟩ := zip_split hr
      have hne : hs ≠ [] := fun z => by subst z; simp at hx
      have hpe : ∃ q, hs[p]? = some q ∧ ∀ f ∈ dn, f.1.1 ≤ q.1 := by
        by_cases z : dn = []
        · subst z
          have := h1 rfl
          subst this
          exact ⟨e.1, hx, fun f hf => nomatch hf⟩
        · exact h2 z
      obtain ⟨q, hq, hq2⟩ := hpe
      have le := isLess_ok (hz q (List.mem_of_getElem? hq)).1 (hz e.1 (List.mem_of_getElem? hx)).1 (by omega)
      have a1 := at_hd hq
      refine ⟨[.rf 0 (sF B o W T hs fs), .va (.int (p : Nat)), .va (.int (e.2 : Nat)), .va (hdD e.1)], rfl, ?_⟩
      have run : sbB [.rf 0 (sF B o W T hs fs), .va (.int (p : Nat)), .va (.int (e.2 : Nat)), .va (hdD e.1)] = .ok (.nx [.rf 0 (sF B o W T hs fs), .va (.int ((if q.1 < e.1.1 then e.2 else p : Nat) : Int)), .va (.int (e.2 : Nat)), .va (hdD e.1)]) := by
        have h0 := hd0 q
        have h0' := hd0 e.1
        unfold sbB sF
        generalize hs.map hdD = HL at *
        generalize fs.map hdD = FL at *
        generalize hdD q = Q at *
        generalize hdD e.1 = E1 at *
        by_cases z : q.1 < e.1.1
        · rw [decide_eq_true z] at le
          rw [if_pos z]
          simp [a1, h0, h0', le]
        · rw [decide_eq_false z] at le
          rw [if_neg z]
          simp [a1, h0, h0', le]
      refine ⟨_, .inl run, _, _, _, rfl, fun z => by simp at z, fun _ => ?_⟩
      by_cases z : q.1 < e.1.1
      · rw [if_pos z, ei]
        refine ⟨e.1, hx, fun f hf => ?_⟩
        rcases List.mem_append.mp hf with y | y
        · exact Rat.le_trans (hq2 f y) (Rat.le_of_lt z)
        · rw [List.mem_singleton.mp y]; exact Rat.le_refl
      · rw [if_neg z]
        refine ⟨q, hq, fun f hf => ?_⟩
        rcases List.mem_append.mp hf with y | y
        · exact hq2 f y
        · rw [List.mem_singleton.mp y]; exact Rat.not_lt.mp z) ⟨0, .un, .un, rfl, fun _ => rfl, fun z => absurd rfl z⟩
  refine ⟨p, ?_, fun hne => ?_⟩
  · unfold g_Search_best
    rw [fnR_e, m_Search_best_e]
    have e1 : fSet 1 (bC (.int 0)) ([.rf 0 (sF B o W T hs fs)] ++ List.replicate (4 - [Sl.rf 0 (sF B o W T hs fs)].length) .un) = .ok (.nx [.rf 0 (sF B o W T hs fs), .va (.int 0), .un, .un]) := rfl
    rw [seq_nx e1]
    have e2 : fForI (iEn (bFld 0 0 4)) (bdT [2, 3]) sbB [.rf 0 (sF B o W T hs fs), .va (.int 0), .un, .un] = .ok (.nx [.rf 0 (sF B o W T hs fs), .va (.int (p : Nat)), s2, s3]) := by
      unfold fForI iEn
      show forGo _ _ (enuD (hs.map hdD)) _ = _
      rw [enu_hs]; exact l1
    rw [seq_nx e2]
    rfl
  · have zn : hs.zipIdx ≠ [] := fun z => hne (by simpa using z)
    obtain ⟨e, h1, h2⟩ := hp2 zn
    refine ⟨e, h1, fun f hf => ?_⟩
    obtain ⟨i, hi, rfl⟩ := List.mem_iff_getElem.mp hf
    exact h2 (hs[i], i) (List.mem_of_getElem? (i := i) (by rw [List.getElem?_zipIdx, List.getElem?_eq_getElem hi]; simp))
/-! ### which comes first -/
def cfB (a b : Hd) : Bool := decide (b.1 < a.1) || (decide (a.1 = b.1) && decide (a.2 < b.2))
theorem comes_ok {a b : Hd} (ha : sz 3200 a.1) (hb : sz 3200 b.1) : g_comes_first [hdD a, hdD b] = .ok (.bl (cfB a b)) := by
  have le := isLess_ok hb ha (by omega)
  have eq : dEq (frD a.1) (frD b.1) = .ok (.bl (decide (a.1 = b.1))) := by
    rw [dEq_p (pl_fr 19 _) (pl_fr 19 _), fr_inj]
  have lt : dLt (.str a.2) (.str b.2) = .ok (.bl (decide (a.2 < b.2))) := rfl
  have a0 := hd0 a
  have a1 := hd1 a
  have b0 := hd0 b
  have b1 := hd1 b
  unfold g_comes_first cfB
  rw [fnD_e]
  generalize hdD a = A at *
  generalize hdD b = B at *
  generalize decide (b.1 < a.1) = p1 at *
  generalize decide (a.1 = b.1) = p2 at *
  generalize decide (a.2 < b.2) = p3 at *
  cases p1 <;> cases p2 <;> simp [m_comes_first, bOr, bAnd, a0, a1, b0, b1, le, eq, lt]
/-! ### a name more -/
def insC (f : List Hd) (e : Hd) : List Hd := f.take (f.takeWhile fun x => cfB x e).length ++ [e] ++ f.drop (f.takeWhile fun x => cfB x e).length
def spP : Ga → R Bool := tAnd (tVal (b2 dLt (bVar 2) (bN dLen (bCons (bFldR 0 0 5) (bNil))))) (tVal (bCall g_comes_first (bCons (b2 dIx (bFldR 0 0 5) (bVar 2)) (bCons (bVar 1) (bNil)))))
def spB : Ga → R Fl := fSet 2 (b2 dAdd (bVar 2) (bC (.int 1)))
theorem m_Search_put_e : m_Search_put = fSeq (fSet 2 (bC (.int 0))) (fSeq (fWh spP spB) (fFIns 0 0 5 (bVar 2) (bVar 1))) := rfl
theorem put_loop {B W T : D} {o : Nat} {hs fs : List Hd} {e : Hd} (hz : szH fs) (he : sz 3200 e.1) : ∀ (n i : Nat), fs.length - i ≤ n → i ≤ fs.length → (∀ j, j < i → ∃ x, fs[j]? = some x ∧ cfB x e = true) →
    ∃ N, whN spP spB N [.ob true 0 (sF B o W T hs fs), .va (hdD e), .va (.int (i : Nat))] = some (.ok (.nx [.ob true 0 (sF B o W T hs fs), .va (hdD e), .va (.int ((fs.takeWhile fun x => cfB x e).length : Nat))]))
  | n, i, hn, hi, hall => by
    have tw : ∀ (l : List Hd) (i : Nat), (∀ j, j < i → ∃ x, l[j]? = some x ∧ cfB x e = true) → (i = l.length ∨ ∃ x, l[i]? = some x ∧ cfB x e = false) → (l.takeWhile fun x => cfB x e).length = i := by
      intro l
      induction l with
      | nil =>
        intro i h1 h2
        rcases h2 with h2 | ⟨x, h2, _⟩
        · simp at h2 ⊢; omega
        · simp at h2
      | cons a l ih =>
        intro i h1 h2
        cases i with
        | zero =>
          rcases h2 with h2 | ⟨x, h2, h3⟩
          · simp at h2
          · simp at h2; subst h2
            rw [List.takeWhile_cons_of_neg (p := fun x => cfB x e) (by simp [h3])]; rfl
        | succ i =>
          obtain ⟨x, hx, hc⟩ := h1 0 (by omega)
          simp at hx; subst hx
          rw [List.takeWhile_cons_of_pos (p := fun x => cfB x e) hc, List.length_cons, ih i (fun j hj => by simpa using h1 (j + 1) (by omega)) (h2.imp (fun z => by simpa using z) fun ⟨x, h3, h4⟩ => ⟨x, by simpa using h3, h4⟩)]
    by_cases z : i < fs.length
    · have hx : fs[i]? = some fs[i] := List.getElem?_eq_getElem z
      have cf := comes_ok (hz _ (List.getElem_mem z)).1 he
      have a1 := at_hd hx
      have zi : decide ((i : Int) < (fs.length : Int)) = true := decide_eq_true (by omega)
      have cond : spP [.ob true 0 (sF B o W T hs fs), .va (hdD e), .va (.int (i : Nat))] = .ok (cfB fs[i] e) := by
        have ll : dLen [.lst (fs.map hdD)] = .ok (.int (fs.length : Nat)) := by rw [dLen_l, List.length_map]
        unfold spP sF
        generalize hs.map hdD = HL at *
        generalize fs.map hdD = FL at *
        generalize hdD fs[i] = Q at *
        generalize hdD e = E1 at *
        simp only [tAnd_e, tVal_e, b2_e, bVar_e, bN_e, bCons_e, bNil_e, bFldR_e, bCall_e, R.bind, List.getElem?_cons_zero, List.getElem?_cons_succ, if_true, ll, dLt_i, zi, tB_e, a1, cf]
      cases q : cfB fs[i] e with
      | true =>
        rw [q] at cond
        cases n with
        | zero => omega
        | succ n =>
          obtain ⟨N, hN⟩ := put_loop (B := B) (W := W) (T := T) (o := o) (hs := hs) hz he n (i + 1) (by omega) (by omega) fun j hj => by
            by_cases y : j = i
            · subst y; exact ⟨_, hx, q⟩
            · exact hall j (by omega)
          refine ⟨N + 1, ?_⟩
          rw [whN]
          rw [cond]
          exact hN
      | false =>
        rw [q] at cond
        refine ⟨1, ?_⟩
        rw [whN, cond, tw fs i hall (.inr ⟨_, hx, q⟩)]
    · have hi2 : i = fs.length := by omega
      have zi : decide ((i : Int) < (fs.length : Int)) = false := decide_eq_false (by omega)
      have cond : spP [.ob true 0 (sF B o W T hs fs), .va (hdD e), .va (.int (i : Nat))] = .ok false := by
        have ll : dLen [.lst (fs.map hdD)] = .ok (.int (fs.length : Nat)) := by rw [dLen_l, List.length_map]
        unfold spP sF
        generalize hs.map hdD = HL at *
        generalize fs.map hdD = FL at *
        generalize hdD e = E1 at *
        simp only [tAnd_e, tVal_e, b2_e, bVar_e, bN_e, bCons_e, bNil_e, bFldR_e, R.bind, List.getElem?_cons_zero, List.getElem?_cons_succ, if_true, ll, dLt_i, zi, tB_e]
        rfl
      refine ⟨1, ?_⟩
      rw [whN, cond, tw fs i hall (.inl hi2)]
theorem put_ok {B W T : D} {o : Nat} {hs fs : List Hd} {e : Hd} (hz : szH fs) (he : sz 3200 e.1) (hl : fs.length < lim) : g_Search_put [.ob true 0 (sF B o W T hs fs), .va (hdD e)] = .ok (.non, .ob true 0 (sF B o W T hs (insC fs e))) := by
  obtain ⟨N, hN⟩ := put_loop (B := B) (W := W) (T := T) (o := o) (hs := hs) hz he fs.length 0 (by omega) (by omega) fun j hj => by omega
  have wh := fWh_eq hN
  unfold g_Search_put
  rw [fnO_e, m_Search_put_e]
  have e1 : fSet 2 (bC (.int 0)) ([.ob true 0 (sF B o W T hs fs), .va (hdD e)] ++ List.replicate (3 - [Sl.ob true 0 (sF B o W T hs fs), .va (hdD e)].length) .un) = .ok (.nx [.ob true 0 (sF B o W T hs fs), .va (hdD e), .va (.int ((0 : Nat) : Int))]) := rfl
  rw [seq_nx e1, seq_nx wh]
  have le : (fs.takeWhile fun x => cfB x e).length ≤ fs.length := (List.takeWhile_sublist _).length_le
  have lm : (fs.map hdD).length < lim := by rw [List.length_map]; exact hl
  have mi : insC fs e = fs.take (fs.takeWhile fun x => cfB x e).length ++ [e] ++ fs.drop (fs.takeWhile fun x => cfB x e).length := rfl
  have me : (insC fs e).map hdD = (fs.map hdD).take (fs.takeWhile fun x => cfB x e).length ++ [hdD e] ++ (fs.map hdD).drop (fs.takeWhile fun x => cfB x e).length := by
    rw [mi, List.map_append, List.map_append, List.map_take, List.map_drop]; rfl
  generalize (fs.takeWhile fun x => cfB x e).length = k at *
  have k2 : (0 : Int) ≤ (k : Nat) ∧ ((k : Nat) : Int) < 2 ^ 63 := by
    have := lim_val
    constructor <;> omega
  have fi : fFIns 0 0 5 (bVar 2) (bVar 1) [.ob true 0 (sF B o W T hs fs), .va (hdD e), .va (.int (k : Nat))] = .ok (.nx [.ob true 0 (sF B o W T hs (insC fs e)), .va (hdD e), .va (.int (k : Nat))]) := by
    unfold fFIns
    show (if (fs.map hdD).length < lim ∧ (0 : Int) ≤ (k : Nat) ∧ ((k : Nat) : Int) < 2 ^ 63 then R.ok (Fl.nx [.ob true 0 [(false, B), (false, .int (o : Nat)), (false, W), (false, T), (true, .lst (hs.map hdD)), (true, .lst ((fs.map hdD).take ((k : Nat) : Int).toNat ++ [hdD e] ++ (fs.map hdD).drop ((k : Nat) : Int).toNat))], .va (hdD e), .va (.int (k : Nat))]) else R.no) = _
    rw [if_pos ⟨lm, k2⟩]
    unfold sF
    rw [me]
    rfl
  rw [fi]
  rfl
/-! ### a beginning more -/
theorem m_go_e : m_Search_go_on = fSeq (fSet 3 (b2 dIx (bFld 0 0 2) (bC (.int 2)))) (fIf (tAnd (tVal (b2 dLe (bN dLen (bCons (bVar 2) (bNil))) (b2 dIx (bFld 0 0 2) (bC (.int 1))))) (tVal (b2 dEq (bSl (bVar 2) (pNo) (pSo (bN dLen (bCons (bVar 3) (bNil))))) (bSl (bVar 3) (pNo) (pSo (bN dLen (bCons (bVar 2) (bNil)))))))) (fFApp 0 0 4 (bTup (bCons (bVar 1) (bCons (bVar 2) (bNil))))) (fNil)) := rfl
def goH (w : Wi) (hs : List Hd) (e : Hd) : List Hd := if (decide (e.2.length ≤ w.hi) && preH w.hd e.2) = true then hs ++ [e] else hs
theorem go_ok {B T : D} {o : Nat} {w : Wi} (hw : WiG w) {hs fs : List Hd} {e : Hd} (hl : hs.length < lim) (he : e.2.length ≤ 500 ∧ chs e.2) : g_Search_go_on [.ob true 0 (sF B o (wiD w) T hs fs), .va (frD e.1), .va (.str e.2)] = .ok (.non, .ob true 0 (sF B o (wiD w) T (goH w hs e) fs)) := by
  have i1 : dIx (wiD w) (.int 1) = .ok (.int (w.hi : Nat)) := rfl
  have i2 : dIx (wiD w) (.int 2) = .ok (.str w.hd) := rfl
  have l1 : dLen [.str e.2] = .ok (.int (e.2.length : Nat)) := dLen_s (by rw [lim_val]; omega)
  have l2 : dLen [.str w.hd] = .ok (.int (w.hd.length : Nat)) := dLen_s (by have := hw.hd.1; rw [lim_val]; omega)
  have c1 := cut1 (x := e.2) (by rw [lim_val]; omega) w.hd.length
  have c2 := cut1 (x := w.hd) (by have := hw.hd.1; rw [lim_val]; omega) e.2.length
  have eq : dEq (.str (e.2.take w.hd.length)) (.str (w.hd.take e.2.length)) = .ok (.bl (preH w.hd e.2)) := strEq (fun c hc => he.2 c (List.mem_of_mem_take hc)) (fun c hc => hw.hd.2 c (List.mem_of_mem_take hc))
  have lm : (hs.map hdD).length < lim := by rw [List.length_map]; exact hl
  have two : 2 ≤ lim := by decide
  have ci : decide ((e.2.length : Int) ≤ (w.hi : Int)) = decide (e.2.length ≤ w.hi) := by rw [decide_eq_decide]; omega
  have me : (hs ++ [e]).map hdD = hs.map hdD ++ [.tup [frD e.1, .str e.2]] := by rw [List.map_append]; rfl
  unfold g_Search_go_on goH
  rw [fnO_e, m_go_e]
  have s1 : fSet 3 (b2 dIx (bFld 0 0 2) (bC (.int 2))) ([.ob true 0 (sF B o (wiD w) T hs fs), .va (frD e.1), .va (.str e.2)] ++ List.replicate (4 - [Sl.ob true 0 (sF B o (wiD w) T hs fs), .va (frD e.1), .va (.str e.2)].length) .un) = .ok (.nx [.ob true 0 (sF B o (wiD w) T hs fs), .va (frD e.1), .va (.str e.2), .va (.str w.hd)]) := rfl
  rw [seq_nx s1]
  have cond : tAnd (tVal (b2 dLe (bN dLen (bCons (bVar 2) (bNil))) (b2 dIx (bFld 0 0 2) (bC (.int 1))))) (tVal (b2 dEq (bSl (bVar 2) (pNo) (pSo (bN dLen (bCons (bVar 3) (bNil))))) (bSl (bVar 3) (pNo) (pSo (bN dLen (bCons (bVar 2) (bNil))))))) [.ob true 0 (sF B o (wiD w) T hs fs), .va (frD e.1), .va (.str e.2), .va (.str w.hd)] = .ok (decide (e.2.length ≤ w.hi) && preH w.hd e.2) := by
    unfold sF
    generalize hs.map hdD = HL at *
    generalize fs.map hdD = FL at *
    generalize wiD w = WD at *
    generalize frD e.1 = F1 at *
    generalize preH w.hd e.2 = ph at *
    simp [bSl, pNo, pSo, toI, i1, l1, l2, c1, c2, eq, ci]
    by_cases q : e.2.length ≤ w.hi <;> simp [q]
  rw [fIf_e, cond]
  cases (decide (e.2.length ≤ w.hi) && preH w.hd e.2) with
  | false => rfl
  | true =>
    simp only [R.bind, if_true]
    have fa : fFApp 0 0 4 (bTup (bCons (bVar 1) (bCons (bVar 2) (bNil)))) [.ob true 0 (sF B o (wiD w) T hs fs), .va (frD e.1), .va (.str e.2), .va (.str w.hd)] = .ok (.nx [.ob true 0 (sF B o (wiD w) T (hs ++ [e]) fs), .va (frD e.1), .va (.str e.2), .va (.str w.hd)]) := by
      have val : bTup (bCons (bVar 1) (bCons (bVar 2) (bNil))) [.ob true 0 (sF B o (wiD w) T hs fs), .va (frD e.1), .va (.str e.2), .va (.str w.hd)] = .ok (hdD e) := by
        rw [bTup_e, bCons_e]
        simp [two]
        rfl
      unfold fFApp
      show (R.bind (bTup (bCons (bVar 1) (bCons (bVar 2) (bNil))) [.ob true 0 (sF B o (wiD w) T hs fs), .va (frD e.1), .va (.str e.2), .va (.str w.hd)]) fun d => if (hs.map hdD).length < lim then R.ok (Fl.nx [.ob true 0 [(false, B), (false, .int (o : Nat)), (false, wiD w), (false, T), (true, .lst (hs.map hdD ++ [d])), (true, .lst (fs.map hdD))], .va (frD e.1), .va (.str e.2), .va (.str w.hd)]) else R.no) = _
      rw [val]
      show (if (hs.map hdD).length < lim then _ else _) = _
      rw [if_pos lm]
      unfold sF
      rw [me]
      rfl
    rw [fa]
    rfl
end
end KN
set_option maxHeartbeats 400000
/-! RG: the search's step, whether it is done -/
namespace KN
open PySem PySem.Spec PyProof.Rows L2
noncomputable section
def kidsOf (es : List Ev) (o : Nat) (w : Wi) (e : Hd) (ls : List Tx) : List Hd := ((ls.filter fun l => !(l == [])).filter fun l => decide (e.2.length + l.length ≤ w.hi) && preH w.hd (e.2 ++ l)).map fun l => (e.1 * pq es (endT o e.2, l), e.2 ++ l)
def kids (es : List Ev) (o : Nat) (w : Wi) (e : Hd) : List Hd := kidsOf es o w e (sortT (rowl es (endT o e.2)))
def fsOf (b : List Tx) (es : List Ev) (o : Nat) (w : Wi) (e : Hd) (fs : List Hd) (ls : List Tx) : List Hd := if (ls.contains [] && (!(e.2 == []) && fitP b w e.2)) = true then insC fs (e.1 * pq es (endT o e.2, []), e.2) else fs
def ssB : Ga → R Fl := fSeq (fSet 5 (bCall g_times (bCons (bVar 3) (bCons (bCall g_part_of (bCons (bFld 0 0 3) (bCons (bVar 1) (bCons (bVar 2) (bNil))))) (bNil))))) (fIf (tVal (b2 dNe (bVar 2) (bC (.str [])))) (fExprE (nx (eCall g_Search_go_on 0 0 0 (bCons (bVar 5) (bCons (b2 dAdd (bVar 4) (bVar 2)) (bNil)))))) (fIf (tAnd (tVal (b2 dNe (bVar 4) (bC (.str [])))) (tVal (bCall g_is_fit (bCons (bFld 0 0 0) (bCons (bFld 0 0 2) (bCons (bVar 4) (bNil))))))) (fExprE (nx (eCall g_Search_put 0 0 0 (bCons (bTup (bCons (bVar 5) (bCons (bVar 4) (bNil)))) (bNil))))) (fNil)))
theorem m_Search_step_e : m_Search_step = fSeq (fBdE (bdT [3, 4]) (nx (ePop 0 0 4 (bCallR g_Search_best (aO 0 0 aNil))))) (fSeq (fSet 1 (bCall g_end_of (bCons (bFld 0 0 1) (bCons (bVar 4) (bNil))))) (fForE (bN dSort (bCons (bGet (bFld 0 0 3) (bVar 1) (bC (.dic []))) (bNil))) (bdN 2) ssB)) := rfl
section
variable {b : List Tx} {es : List Ev} {o : Nat} {w : Wi}
theorem ssB_go (hes : es.length ≤ 72) (hw : WiG w) {hs fs : List Hd} {e : Hd} {l : Tx} (hl : l ≠ []) (hlc : l.length ≤ 8 ∧ chs l) (he : sz 3200 e.1 ∧ e.2.length ≤ 100 ∧ chs e.2) (hh : hs.length < lim) {s5 : Sl} :
    ssB [.ob true 0 (sF (bkD b) o (wiD w) (tblD (tabOf es)) hs fs), .va (.str (endT o e.2)), .va (.str l), .va (frD e.1), .va (.str e.2), s5] =
      .ok (.nx [.ob true 0 (sF (bkD b) o (wiD w) (tblD (tabOf es)) (goH w hs (e.1 * pq es (endT o e.2, l), e.2 ++ l)) fs), .va (.str (endT o e.2)), .va (.str l), .va (frD e.1), .va (.str e.2), .va (frD (e.1 * pq es (endT o e.2, l)))]) := by
  have pt := part_ok (es := es) (by omega) (endT o e.2) l
  have tm := times_ok he.1 (pq_sz (es := es) (by omega) (endT o e.2, l)) (by omega)
  have ne := ne_nil_ok hlc.2
  have zb : (l == ([] : Tx)) = false := by simpa using hl
  rw [zb] at ne
  have ne : dNe (.str l) (.str []) = .ok (.bl true) := ne
  have cc : dAdd (.str e.2) (.str l) = .ok (.str (e.2 ++ l)) := by
    show (if e.2.length + l.length ≤ lim then R.ok (D.str (e.2 ++ l)) else .no) = _
    rw [if_pos (by rw [lim_val]; omega)]
  have go := go_ok (B := bkD b) (T := tblD (tabOf es)) (o := o) hw (hs := hs) (fs := fs) (e := (e.1 * pq es (endT o e.2, l), e.2 ++ l)) hh ⟨by simp; omega, fun c hc => by
    rcases List.mem_append.mp hc with z | z
    · exact he.2.2 c z
    · exact hlc.2 c z⟩
  simp only at go
  unfold ssB
  have f5 : fSet 5 (bCall g_times (bCons (bVar 3) (bCons (bCall g_part_of (bCons (bFld 0 0 3) (bCons (bVar 1) (bCons (bVar 2) (bNil))))) (bNil)))) [.ob true 0 (sF (bkD b) o (wiD w) (tblD (tabOf es)) hs fs), .va (.str (endT o e.2)), .va (.str l), .va (frD e.1), .va (.str e.2), s5] = .ok (.nx [.ob true 0 (sF (bkD b) o (wiD w) (tblD (tabOf es)) hs fs), .va (.str (endT o e.2)), .va (.str l), .va (frD e.1), .va (.str e.2), .va (frD (e.1 * pq es (endT o e.2, l)))]) := by
    unfold sF
    generalize hs.map hdD = HL
    generalize fs.map hdD = FL
    generalize tblD (tabOf es) = T at *
    generalize bkD b = B
    generalize wiD w = WD
    simp [pt, tm]
  rw [seq_nx f5]
  generalize frD (e.1 * pq es (endT o e.2, l)) = NQ at *
  generalize (sF (bkD b) o (wiD w) (tblD (tabOf es)) hs fs) = F1 at *
  generalize (sF (bkD b) o (wiD w) (tblD (tabOf es)) (goH w hs (e.1 * pq es (endT o e.2, l), e.2 ++ l)) fs) = F2 at *
  simp [ne, fExprE, nx, eCall, insS, cc, go, setOb, R.noex]
theorem ssB_put (hes : es.length ≤ 72) (hb : ∀ y ∈ b, chs y) (hw : WiG w) {hs fs : List Hd} {e : Hd} (he : sz 3190 e.1 ∧ e.2.length ≤ 100 ∧ chs e.2) (hz : szH fs) (hh : fs.length < lim) {s5 : Sl} :
    ssB [.ob true 0 (sF (bkD b) o (wiD w) (tblD (tabOf es)) hs fs), .va (.str (endT o e.2)), .va (.str []), .va (frD e.1), .va (.str e.2), s5] =
      .ok (.nx [.ob true 0 (sF (bkD b) o (wiD w) (tblD (tabOf es)) hs (fsOf b es o w e fs [[]])), .va (.str (endT o e.2)), .va (.str []), .va (frD e.1), .va (.str e.2), .va (frD (e.1 * pq es (endT o e.2, [])))]) := by
  have pt := part_ok (es := es) (by omega) (endT o e.2) []
  have tm := times_ok he.1 (pq_sz (es := es) (by omega) (endT o e.2, [])) (by omega)
  have szn := sz_mono (sz_mul he.1 (pq_sz (es := es) (by omega) (endT o e.2, []))) (m := 3200) (by omega)
  have ne0 : dNe (.str []) (.str []) = .ok (.bl false) := by rw [dNe_p (by rfl) (by rfl)]; rfl
  have ne := ne_nil_ok he.2.2
  have fit := is_fit_g (b := b) (w := w) (x := e.2) hb hw.bar he.2.2 (by omega)
  have pu := put_ok (B := bkD b) (W := wiD w) (T := tblD (tabOf es)) (o := o) (hs := hs) (e := (e.1 * pq es (endT o e.2, []), e.2)) hz szn hh
  have hd : hdD (e.1 * pq es (endT o e.2, []), e.2) = .tup [frD (e.1 * pq es (endT o e.2, [])), .str e.2] := rfl
  rw [hd] at pu
  have two : 2 ≤ lim := by decide
  unfold ssB
  have f5 : fSet 5 (bCall g_times (bCons (bVar 3) (bCons (bCall g_part_of (bCons (bFld 0 0 3) (bCons (bVar 1) (bCons (bVar 2) (bNil))))) (bNil)))) [.ob true 0 (sF (bkD b) o (wiD w) (tblD (tabOf es)) hs fs), .va (.str (endT o e.2)), .va (.str []), .va (frD e.1), .va (.str e.2), s5] = .ok (.nx [.ob true 0 (sF (bkD b) o (wiD w) (tblD (tabOf es)) hs fs), .va (.str (endT o e.2)), .va (.str []), .va (frD e.1), .va (.str e.2), .va (frD (e.1 * pq es (endT o e.2, [])))]) := by
    unfold sF
    generalize hs.map hdD = HL
    generalize fs.map hdD = FL
    generalize tblD (tabOf es) = T at *
    generalize bkD b = B
    generalize wiD w = WD
    simp [pt, tm]
  rw [seq_nx f5]
  have cond : tAnd (tVal (b2 dNe (bVar 4) (bC (.str [])))) (tVal (bCall g_is_fit (bCons (bFld 0 0 0) (bCons (bFld 0 0 2) (bCons (bVar 4) (bNil)))))) [.ob true 0 (sF (bkD b) o (wiD w) (tblD (tabOf es)) hs fs), .va (.str (endT o e.2)), .va (.str []), .va (frD e.1), .va (.str e.2), .va (frD (e.1 * pq es (endT o e.2, [])))] = .ok (!(e.2 == []) && fitP b w e.2) := by
    unfold sF
    generalize hs.map hdD = HL
    generalize fs.map hdD = FL
    generalize tblD (tabOf es) = T at *
    generalize bkD b = B at *
    generalize wiD w = WD at *
    generalize fitP b w e.2 = p at *
    generalize frD (e.1 * pq es (endT o e.2, [])) = NQ
    cases q : (e.2 == ([] : Tx)) with
    | true => rw [q] at ne; have ne : dNe (.str e.2) (.str []) = .ok (.bl false) := ne; simp [ne]
    | false => rw [q] at ne; have ne : dNe (.str e.2) (.str []) = .ok (.bl true) := ne; simp [ne, fit]
  have hc : ([[]] : List Tx).contains [] = true := rfl
  unfold fsOf
  rw [hc, Bool.true_and, fIf_e]
  have t0 : tVal (b2 dNe (bVar 2) (bC (.str []))) [.ob true 0 (sF (bkD b) o (wiD w) (tblD (tabOf es)) hs fs), .va (.str (endT o e.2)), .va (.str []), .va (frD e.1), .va (.str e.2), .va (frD (e.1 * pq es (endT o e.2, [])))] = .ok false := by
    rw [tVal_e, b2_e]
    show (dNe (.str []) (.str [])).bind tB = _
    rw [ne0]; rfl
  rw [t0]
  simp only [R.bind, Bool.false_eq_true, if_false]
  rw [fIf_e, cond]
  cases (!(e.2 == []) && fitP b w e.2) with
  | false => rfl
  | true =>
    simp only [R.bind, if_true]
    generalize frD (e.1 * pq es (endT o e.2, [])) = NQ at *
    generalize (sF (bkD b) o (wiD w) (tblD (tabOf es)) hs fs) = F1 at *
    generalize (sF (bkD b) o (wiD w) (tblD (tabOf es)) hs (insC fs (e.1 * pq es (endT o e.2, []), e.2))) = F2 at *
    simp [fExprE, nx, eCall, insS, two, pu, setOb, R.noex]
theorem kidsOf_snoc {e : Hd} {dn : List Tx} {l : Tx} (hl : l ≠ []) (hs : List Hd) : goH w (hs ++ kidsOf es o w e dn) (e.1 * pq es (endT o e.2, l), e.2 ++ l) = hs ++ kidsOf es o w e (dn ++ [l]) := by
  have zb : (l == ([] : Tx)) = false := by simpa using hl
  unfold goH kidsOf
  simp only [List.filter_append, List.map_append, List.length_append]
  have : [l].filter (fun l => !(l == [])) = [l] := by simp [hl]
  rw [this]
  by_cases q : (decide (e.2.length + l.length ≤ w.hi) && preH w.hd (e.2 ++ l)) = true
  · rw [if_pos q, List.filter_cons_of_pos (by exact q)]
    simp
  · rw [if_neg q, List.filter_cons_of_neg (by exact q)]
    simp
theorem kidsOf_nil {e : Hd} {dn : List Tx} : kidsOf es o w e (dn ++ [[]]) = kidsOf es o w e dn := by
  unfold kidsOf
  simp
theorem kidsOf_len {e : Hd} (ls : List Tx) : (kidsOf es o w e ls).length ≤ ls.length := by
  unfold kidsOf
  rw [List.length_map]
  exact Nat.le_trans (List.length_filter_le _ _) (List.length_filter_le _ _)
theorem map_erase {α β : Type} (f : α → β) : ∀ (l : List α) (i : Nat), (l.map f).eraseIdx i = (l.eraseIdx i).map f
  | [], _ => rfl
  | _ :: _, 0 => rfl
  | a :: l, i + 1 => by simp [map_erase f l i]
theorem step_ok (hb : Bk es) (h64 : es.length < 64) (hbc : ∀ y ∈ b, chs y) (hw : WiG w) {hs fs : List Hd} (hne : hs ≠ []) (hz : ∀ e ∈ hs, sz 3190 e.1 ∧ e.2.length ≤ 100 ∧ chs e.2) (hzf : szH fs) (hl : hs.length + 100 < lim) (hfl : fs.length < lim) :
    ∃ i e, hs[i]? = some e ∧ (∀ f ∈ hs, f.1 ≤ e.1) ∧ g_Search_step [.ob true 0 (sF (bkD b) o (wiD w) (tblD (tabOf es)) hs fs)] = .ok (.non, .ob true 0 (sF (bkD b) o (wiD w) (tblD (tabOf es)) (hs.eraseIdx i ++ kids es o w e) (fsOf b es o w e fs (sortT (rowl es (endT o e.2)))))) := by
  have hz2 : szH hs := fun e he => ⟨sz_mono (hz e he).1 (by omega), (hz e he).2.2⟩
  obtain ⟨i, hbest, hi⟩ := best_ok (B := bkD b) (W := wiD w) (T := tblD (tabOf es)) (o := o) (fs := fs) hz2
  obtain ⟨e, he, hmax⟩ := hi hne
  refine ⟨i, e, he, hmax, ?_⟩
  have il := (List.getElem?_eq_some_iff.mp he).1
  have em := List.mem_of_getElem? he
  obtain ⟨ez, el, ec⟩ := hz e em
  have en := end_ok o (t := e.2) (by omega)
  have rl := rowl_len es (endT o e.2)
  have SRl : (sortT (rowl es (endT o e.2))).length ≤ 72 := by rw [(sortT_perm _).length_eq]; have := hb.n; omega
  have SRn : (sortT (rowl es (endT o e.2))).Nodup := ((sortT_perm _).nodup_iff).mpr ((tabOk es).rnd _)
  have hel : (hs.eraseIdx i).length ≤ hs.length := (List.eraseIdx_sublist _ _).length_le
  obtain ⟨γ', l1, s2, s5, rfl⟩ := forGo_inv (bd := bdN 2) (inj := D.str) (l0 := sortT (rowl es (endT o e.2))) (body := ssB)
    (I := fun dn γ => ∃ s2 s5, γ = [.ob true 0 (sF (bkD b) o (wiD w) (tblD (tabOf es)) (hs.eraseIdx i ++ kidsOf es o w e dn) (fsOf b es o w e fs dn)), .va (.str (endT o e.2)), s2, .va (frD e.1), .va (.str e.2), s5])
    (γ := [.ob true 0 (sF (bkD b) o (wiD w) (tblD (tabOf es)) (hs.eraseIdx i) fs), .va (.str (endT o e.2)), .un, .va (frD e.1), .va (.str e.2), .un]) (fun dn l rest γ hr hI => by
      obtain ⟨s2, s5, rfl⟩ := hI
      have lm : l ∈ rowl es (endT o e.2) := (sortT_perm _).mem_iff.mp (by rw [hr]; simp)
      have hlc := hb.c _ (row_mem2.mp lm)
      have dl : dn.length < 72 := by
        have := congrArg List.length hr
        simp at this
        omega
      have kl := kidsOf_len (es := es) (o := o) (w := w) (e := e) dn
      by_cases z : l = []
      · subst z
        have nin : [] ∉ dn := fun y => by
          rw [hr] at SRn
          exact (List.nodup_append.mp SRn).2.2 [] y [] List.mem_cons_self rfl
        have f0 : fsOf b es o w e fs dn = fs := by
          unfold fsOf
          have : dn.contains [] = false := by simpa [List.contains_iff_mem] using nin
          rw [this]; rfl
        have f1 : fsOf b es o w e fs (dn ++ [[]]) = fsOf b es o w e fs [[]] := by
          unfold fsOf
          have h1 : (dn ++ [[]]).contains ([] : Tx) = true := by simp [List.contains_iff_mem]
          have h2 : ([[]] : List Tx).contains [] = true := rfl
          rw [h1, h2]
        have st := ssB_put hb.n hbc hw (o := o) (hs := hs.eraseIdx i ++ kidsOf es o w e dn) (fs := fsOf b es o w e fs dn) (e := e) ⟨ez, el, ec⟩ (by rw [f0]; exact hzf) (by rw [f0]; exact hfl) (s5 := s5)
        refine ⟨_, rfl, _, .inl st, .va (.str []), .va (frD (e.1 * pq es (endT o e.2, []))), ?_⟩
        rw [f1, f0, kidsOf_nil]
      · have st := ssB_go hb.n hw (b := b) (o := o) (hs := hs.eraseIdx i ++ kidsOf es o w e dn) (fs := fsOf b es o w e fs dn) (e := e) z ⟨by have := hlc.2.2; simp only at this; omega, hlc.2.1⟩ ⟨sz_mono ez (by omega), el, ec⟩ (by rw [List.length_append]; omega) (s5 := s5)
        rw [kidsOf_snoc z] at st
        have f1 : fsOf b es o w e fs (dn ++ [l]) = fsOf b es o w e fs dn := by
          unfold fsOf
          have : (dn ++ [l]).contains ([] : Tx) = dn.contains [] := by
            rw [Bool.eq_iff_iff]
            simp only [List.contains_iff_mem, List.mem_append, List.mem_singleton]
            exact ⟨fun h => h.elim id fun y => absurd y.symm z, .inl⟩
          rw [this]
        refine ⟨_, rfl, _, .inl st, .va (.str l), .va (frD (e.1 * pq es (endT o e.2, l))), ?_⟩
        rw [f1]) ⟨.un, .un, by
          have k0 : kidsOf es o w e [] = [] := rfl
          have f0 : fsOf b es o w e fs [] = fs := rfl
          rw [k0, f0, List.append_nil]⟩
  unfold g_Search_step
  rw [fnO_e, m_Search_step_e]
  have pb : bCallR g_Search_best (aO 0 0 aNil) [.ob true 0 (sF (bkD b) o (wiD w) (tblD (tabOf es)) hs fs), .un, .un, .un, .un, .un] = .ok (.int (i : Nat)) := by
    unfold bCallR aO aNil
    generalize (sF (bkD b) o (wiD w) (tblD (tabOf es)) hs fs) = F1 at *
    simp [obAt, frz, hbest, scal, R.bind]
  have lmi : i < lim := by omega
  have pop : ePop 0 0 4 (bCallR g_Search_best (aO 0 0 aNil)) [.ob true 0 (sF (bkD b) o (wiD w) (tblD (tabOf es)) hs fs), .un, .un, .un, .un, .un] = .ok (hdD e, [.ob true 0 (sF (bkD b) o (wiD w) (tblD (tabOf es)) (hs.eraseIdx i) fs), .un, .un, .un, .un, .un]) := by
    unfold ePop
    have fl : fldL 0 0 4 [.ob true 0 (sF (bkD b) o (wiD w) (tblD (tabOf es)) hs fs), .un, .un, .un, .un, .un] = some (true, sF (bkD b) o (wiD w) (tblD (tabOf es)) hs fs, hs.map hdD) := rfl
    rw [fl]
    simp only
    rw [pb]
    have g : (hs.map hdD)[i]? = some (hdD e) := by rw [List.getElem?_map, he]; rfl
    have me : (hs.map hdD).eraseIdx i = (hs.eraseIdx i).map hdD := map_erase _ _ _
    show (if (0 : Int) ≤ ((i : Nat) : Int) ∧ (((i : Nat) : Int)).toNat < lim then (match (hs.map hdD)[(((i : Nat) : Int)).toNat]? with | some d => R.ok (d, _) | none => R.no) else R.no) = _
    rw [if_pos ⟨by omega, by simpa using lmi⟩, Int.toNat_natCast, g]
    show R.ok (hdD e, [Sl.ob true 0 [(false, bkD b), (false, .int (o : Nat)), (false, wiD w), (false, tblD (tabOf es)), (true, .lst ((hs.map hdD).eraseIdx ((i : Nat) : Int).toNat)), (true, .lst (fs.map hdD))], _, _, _, _, _]) = _
    rw [Int.toNat_natCast, me]
  have s1 : fBdE (bdT [3, 4]) (nx (ePop 0 0 4 (bCallR g_Search_best (aO 0 0 aNil)))) ([.ob true 0 (sF (bkD b) o (wiD w) (tblD (tabOf es)) hs fs)] ++ List.replicate (6 - [Sl.ob true 0 (sF (bkD b) o (wiD w) (tblD (tabOf es)) hs fs)].length) .un) = .ok (.nx [.ob true 0 (sF (bkD b) o (wiD w) (tblD (tabOf es)) (hs.eraseIdx i) fs), .un, .un, .va (frD e.1), .va (.str e.2), .un]) := by
    unfold fBdE nx
    show R.bind ((ePop 0 0 4 (bCallR g_Search_best (aO 0 0 aNil)) [.ob true 0 (sF (bkD b) o (wiD w) (tblD (tabOf es)) hs fs), .un, .un, .un, .un, .un]).noex) _ = _
    rw [pop]
    rfl
  rw [seq_nx s1]
  have s2' : fSet 1 (bCall g_end_of (bCons (bFld 0 0 1) (bCons (bVar 4) (bNil)))) [.ob true 0 (sF (bkD b) o (wiD w) (tblD (tabOf es)) (hs.eraseIdx i) fs), .un, .un, .va (frD e.1), .va (.str e.2), .un] = .ok (.nx [.ob true 0 (sF (bkD b) o (wiD w) (tblD (tabOf es)) (hs.eraseIdx i) fs), .va (.str (endT o e.2)), .un, .va (frD e.1), .va (.str e.2), .un]) := by
    unfold sF
    generalize (hs.eraseIdx i).map hdD = HL
    generalize fs.map hdD = FL
    generalize tblD (tabOf es) = T
    generalize bkD b = B
    generalize wiD w = WD
    simp [en]
  rw [seq_nx s2']
  have gt := get_tbl (tabOf es) (endT o e.2)
  have srt : bN dSort (bCons (bGet (bFld 0 0 3) (bVar 1) (bC (.dic []))) (bNil)) [.ob true 0 (sF (bkD b) o (wiD w) (tblD (tabOf es)) (hs.eraseIdx i) fs), .va (.str (endT o e.2)), .un, .va (frD e.1), .va (.str e.2), .un] = .ok (.lst ((sortT (rowl es (endT o e.2))).map .str)) := by
    have ds := dSort_row (r := rowOf (tabOf es) (endT o e.2)) (by have := (tabOk es).rlen (endT o e.2); omega)
    have bg : bGet (bFld 0 0 3) (bVar 1) (bC (.dic [])) [.ob true 0 (sF (bkD b) o (wiD w) (tblD (tabOf es)) (hs.eraseIdx i) fs), .va (.str (endT o e.2)), .un, .va (frD e.1), .va (.str e.2), .un] = .ok (.dic (rowD (rowOf (tabOf es) (endT o e.2)))) := by
      unfold bGet sF tblD
      simp only [bFld_e, bVar_e, bC_e, R.bind, List.getElem?_cons_zero, List.getElem?_cons_succ, if_true]
      rw [gt]
    rw [bN_e, bCons_e, bg]
    exact ds
  rw [forE_e (d := .lst ((sortT (rowl es (endT o e.2))).map .str)) srt rfl (fun es h => nomatch h) l1]
  rfl
/-! ### whether it is done -/
theorem m_Search_is_done_e : m_Search_is_done = fSeq (fIf (tVal (b2 dEq (bFld 0 0 4) (bLst (bNil)))) (fRet (bC (.bl true))) (fNil)) (fRet (bAnd (b2 dGe (bN dLen (bCons (bFld 0 0 5) (bNil))) (bVar 1)) (bCall g_is_less (bCons (b2 dIx (b2 dIx (bFld 0 0 4) (bCallR g_Search_best (aO 0 0 aNil))) (bC (.int 0))) (bCons (b2 dIx (b2 dIx (bFld 0 0 5) (b2 dSub (bVar 1) (bC (.int 1)))) (bC (.int 0))) (bNil)))))) := rfl
theorem pl_hd {hs : List Hd} (hz : szH hs) : pl 20 (.lst (hs.map hdD)) = true := by
  rw [pl_lst, List.all_map, List.all_eq_true]
  intro e he
  show pl 19 (.tup [frD e.1, .str e.2]) = true
  rw [pl_tup]
  have h1 : pl 18 (frD e.1) = true := pl_fr 17 _
  have h2 : pl 18 (.str e.2) = true := (hz e he).2.all
  simp [h1, h2]
theorem done_ok {B W T : D} {hs fs : List Hd} {many : Nat} (hm : 1 ≤ many) (hz : szH hs) (hzf : szH fs) : ∃ d : Bool, g_Search_is_done [.rf 0 (sF B o W T hs fs), .va (.int (many : Nat))] = .ok (.bl d) ∧ (hs = [] → d = true) ∧ (d = true → hs = [] ∨ ∃ x, fs[many - 1]? = some x ∧ ∀ f ∈ hs, f.1 < x.1) := by
  have eq := eqNil (hs.map hdD) (pl_hd hz)
  have red : ∀ d : Bool, m_Search_is_done [Sl.rf 0 (sF B o W T hs fs), .va (.int (many : Nat))] = .ok (.rt (.bl d)) → g_Search_is_done [.rf 0 (sF B o W T hs fs), .va (.int (many : Nat))] = .ok (.bl d) := fun d h => by
    unfold g_Search_is_done
    rw [fnR_e]
    show (match m_Search_is_done [Sl.rf 0 (sF B o W T hs fs), .va (.int (many : Nat))] with
      | R.ok (Fl.rt d) => R.ok d
      | R.ok (Fl.nx γ) => R.ok D.non
      | R.ex c => R.ex c
      | _ => R.no) = _
    rw [h]
  have lim0 : 0 ≤ lim := by decide
  by_cases z : hs = []
  · subst z
    refine ⟨true, red _ ?_, fun _ => rfl, fun _ => .inl rfl⟩
    rw [m_Search_is_done_e]
    have eq : dEq (.lst []) (.lst []) = .ok (.bl true) := eq
    have c : tVal (b2 dEq (bFld 0 0 4) (bLst (bNil))) [Sl.rf 0 (sF B o W T [] fs), .va (.int (many : Nat))] = .ok true := by
      rw [tVal_e, b2_e]
      show (dEq (.lst []) (.lst [])).bind tB = _
      rw [eq]; rfl
    rw [fSeq_e, fIf_e, c]
    rfl
  · obtain ⟨i, hbest, hi⟩ := best_ok (B := B) (W := W) (T := T) (o := o) (fs := fs) hz
    obtain ⟨e, he, hmax⟩ := hi z
    have emp : (hs.map hdD).isEmpty = false := by cases hs with | nil => exact absurd rfl z | cons _ _ => rfl
    rw [emp] at eq
    have c : fIf (tVal (b2 dEq (bFld 0 0 4) (bLst (bNil)))) (fRet (bC (.bl true))) (fNil) [Sl.rf 0 (sF B o W T hs fs), .va (.int (many : Nat))] = .ok (.nx [Sl.rf 0 (sF B o W T hs fs), .va (.int (many : Nat))]) := by
      refine if_f ?_
      rw [tVal_e, b2_e]
      show (dEq (.lst (hs.map hdD)) (.lst [])).bind tB = _
      rw [eq]; rfl
    have a1 := at_hd he
    have pb : bCallR g_Search_best (aO 0 0 aNil) [Sl.rf 0 (sF B o W T hs fs), .va (.int (many : Nat))] = .ok (.int (i : Nat)) := by
      unfold bCallR aO aNil
      generalize (sF B o W T hs fs) = F1 at *
      simp [obAt, frz, hbest, scal, R.bind]
    by_cases q : many ≤ fs.length
    · have hx : fs[many - 1]? = some fs[many - 1] := List.getElem?_eq_getElem (by omega)
      have a2 := at_hd hx
      have le := isLess_ok (hz e (List.mem_of_getElem? he)).1 (hzf _ (List.getElem_mem (by omega : many - 1 < fs.length))).1 (by omega)
      have mi : ((many : Nat) : Int) - 1 = ((many - 1 : Nat) : Int) := by omega
      have gi : decide ((many : Int) ≤ (fs.length : Int)) = true := decide_eq_true (by omega)
      have e0 := hd0 e
      have x0 := hd0 (fs[many - 1])
      refine ⟨decide (e.1 < (fs[many - 1]).1), red _ ?_, fun y => absurd y z, fun d => .inr ⟨_, hx, fun f hf => ?_⟩⟩
      · have val : bAnd (b2 dGe (bN dLen (bCons (bFld 0 0 5) (bNil))) (bVar 1)) (bCall g_is_less (bCons (b2 dIx (b2 dIx (bFld 0 0 4) (bCallR g_Search_best (aO 0 0 aNil))) (bC (.int 0))) (bCons (b2 dIx (b2 dIx (bFld 0 0 5) (b2 dSub (bVar 1) (bC (.int 1)))) (bC (.int 0))) (bNil)))) [Sl.rf 0 (sF B o W T hs fs), .va (.int (many : Nat))] = .ok (.bl (decide (e.1 < (fs[many - 1]).1))) := by
          have ll : dLen [.lst (fs.map hdD)] = .ok (.int (fs.length : Nat)) := by rw [dLen_l, List.length_map]
          generalize decide (e.1 < (fs[many - 1]).1) = dd at *
          generalize hdD (fs[many - 1]) = X1 at *
          generalize hdD e = E1 at *
          unfold sF at pb ⊢
          generalize hs.map hdD = HL at *
          generalize fs.map hdD = FL at *
          simp [bAnd, ll, gi, q, pb, a1, e0, mi, a2, x0, le]
        rw [m_Search_is_done_e, seq_nx c, ret_e val]
      · have := of_decide_eq_true d
        exact le_lt_tr (hmax f hf) this
    · have gi : decide ((many : Int) ≤ (fs.length : Int)) = false := decide_eq_false (by omega)
      refine ⟨false, red _ ?_, fun y => absurd y z, fun d => nomatch d⟩
      rw [m_Search_is_done_e, seq_nx c]
      have val : bAnd (b2 dGe (bN dLen (bCons (bFld 0 0 5) (bNil))) (bVar 1)) (bCall g_is_less (bCons (b2 dIx (b2 dIx (bFld 0 0 4) (bCallR g_Search_best (aO 0 0 aNil))) (bC (.int 0))) (bCons (b2 dIx (b2 dIx (bFld 0 0 5) (b2 dSub (bVar 1) (bC (.int 1)))) (bC (.int 0))) (bNil)))) [Sl.rf 0 (sF B o W T hs fs), .va (.int (many : Nat))] = .ok (.bl false) := by
        have ll : dLen [.lst (fs.map hdD)] = .ok (.int (fs.length : Nat)) := by rw [dLen_l, List.length_map]
        unfold sF
        generalize hs.map hdD = HL at *
        generalize fs.map hdD = FL at *
        generalize ((many : Nat) : Int) = mm at *
        simp [bAnd, ll, gi]
      rw [ret_e val]
end
end
end KN
set_option maxHeartbeats 400000
/-! RH: the order of names with shares; the search's invariant -/
namespace KN
open PySem PySem.Spec PyProof.Rows L2
noncomputable section
/-! ### the order -/
theorem cf_iff {a b : Hd} : cfB a b = true ↔ b.1 < a.1 ∨ (a.1 = b.1 ∧ a.2 < b.2) := by
  unfold cfB; simp
theorem tlt_tr {a b c : Tx} (h : a < b) (k : b < c) : a < c := List.lt_trans h k
theorem tlt_irr (a : Tx) : ¬ a < a := List.lt_irrefl a
theorem rlt_irr (a : Rat) : ¬ a < a := fun h => Rat.not_le.mpr h Rat.le_refl
theorem cf_tr {a b c : Hd} (h : cfB a b = true) (k : cfB b c = true) : cfB a c = true := by
  rw [cf_iff] at *
  rcases h with h | ⟨h1, h2⟩ <;> rcases k with k | ⟨k1, k2⟩
  · exact .inl (lt_tr k h)
  · exact .inl (k1 ▸ h)
  · exact .inl (h1 ▸ k)
  · exact .inr ⟨h1.trans k1, tlt_tr h2 k2⟩
theorem cf_irr (a : Hd) : cfB a a = false := by
  cases h : cfB a a with
  | false => rfl
  | true =>
    rcases cf_iff.mp h with h | ⟨_, h⟩
    · exact absurd h (rlt_irr _)
    · exact absurd h (tlt_irr _)
theorem tlt_tot {a b : Tx} (h : a ≠ b) : a < b ∨ b < a := by
  by_cases z : a < b
  · exact .inl z
  · exact .inr (le_lt (by unfold leT; simp [z]) (Ne.symm h))
theorem cf_tot {a b : Hd} (h : a.2 ≠ b.2) : cfB a b = true ∨ cfB b a = true := by
  rw [cf_iff, cf_iff]
  by_cases z : a.1 < b.1
  · exact .inr (.inl z)
  · by_cases y : b.1 < a.1
    · exact .inl (.inl y)
    · have e : a.1 = b.1 := Rat.le_antisymm (Rat.not_lt.mp y) (Rat.not_lt.mp z)
      rcases tlt_tot h with q | q
      · exact .inl (.inr ⟨e, q⟩)
      · exact .inr (.inr ⟨e.symm, q⟩)
abbrev Srt (l : List Hd) : Prop := l.Pairwise fun a b => cfB a b = true
theorem srt_uniq {l m : List Hd} (hl : Srt l) (hm : Srt m) (h : ∀ e, e ∈ l ↔ e ∈ m) : l = m := by
  have nd : ∀ {l : List Hd}, Srt l → l.Nodup := fun h => List.Pairwise.imp (R := fun a b : Hd => cfB a b = true) (fun {a b} k e => by subst e; rw [cf_irr] at k; cases k) h
  refine List.Perm.eq_of_pairwise (le := fun a b => cfB a b = true) (fun a b _ _ h k => ?_) hl hm ((List.perm_ext_iff_of_nodup (nd hl) (nd hm)).mpr h)
  have := cf_tr h k
  rw [cf_irr] at this; cases this
theorem insC_eq (f : List Hd) (e : Hd) : insC f e = (f.takeWhile fun x => cfB x e) ++ [e] ++ f.dropWhile fun x => cfB x e := by
  unfold insC
  have h : (f.takeWhile fun x => cfB x e) ++ (f.dropWhile fun x => cfB x e) = f := List.takeWhile_append_dropWhile
  generalize hA : (f.takeWhile fun x => cfB x e) = A at *
  generalize hB : (f.dropWhile fun x => cfB x e) = B at *
  rw [← h, List.take_left' rfl, List.drop_left' rfl]
theorem insC_mem {f : List Hd} {e x : Hd} : x ∈ insC f e ↔ x ∈ f ∨ x = e := by
  have h : (f.takeWhile fun x => cfB x e) ++ (f.dropWhile fun x => cfB x e) = f := List.takeWhile_append_dropWhile
  rw [insC_eq]
  constructor
  · intro k
    rcases List.mem_append.mp k with k | k
    · rcases List.mem_append.mp k with k | k
      · exact .inl (by rw [← h]; exact List.mem_append_left _ k)
      · exact .inr (List.mem_singleton.mp k)
    · exact .inl (by rw [← h]; exact List.mem_append_right _ k)
  · rintro (k | k)
    · rw [← h] at k
      rcases List.mem_append.mp k with k | k
      · exact List.mem_append_left _ (List.mem_append_left _ k)
      · exact List.mem_append_right _ k
    · subst k; exact List.mem_append_left _ (List.mem_append_right _ List.mem_cons_self)
theorem insC_srt {f : List Hd} {e : Hd} (h : Srt f) (ne : ∀ x ∈ f, x.2 ≠ e.2) : Srt (insC f e) := by
  induction f with
  | nil => rw [insC_eq]; exact List.pairwise_singleton _ _
  | cons a f ih =>
    rw [insC_eq]
    cases q : cfB a e with
    | true =>
      rw [List.takeWhile_cons_of_pos (p := fun x => cfB x e) q, List.dropWhile_cons_of_pos (p := fun x => cfB x e) q]
      have h' := List.pairwise_cons.mp h
      have ih := ih h'.2 fun x hx => ne x (List.mem_cons_of_mem _ hx)
      rw [insC_eq] at ih
      show Srt (a :: _)
      refine List.pairwise_cons.mpr ⟨fun y hy => ?_, ih⟩
      have hy : y ∈ insC f e := by rw [insC_eq]; exact hy
      rcases insC_mem.mp hy with z | z
      · exact h'.1 y z
      · subst z; exact q
    | false =>
      rw [List.takeWhile_cons_of_neg (p := fun x => cfB x e) (by simp [q]), List.dropWhile_cons_of_neg (p := fun x => cfB x e) (by simp [q])]
      have ea : cfB e a = true := (cf_tot (ne a List.mem_cons_self)).resolve_left (by simp [q])
      show Srt (e :: a :: f)
      refine List.pairwise_cons.mpr ⟨fun y hy => ?_, h⟩
      rcases List.mem_cons.mp hy with z | z
      · subst z; exact ea
      · exact cf_tr ea ((List.pairwise_cons.mp h).1 y z)
/-! ### the ranking of what is wanted -/
def rankL (b : List Tx) (o : Nat) (w : Wi) : List Hd := (goodW b o w).foldl (fun acc x => insC acc (shareQ (evB o b) o x, x)) []
theorem rank_fold (f : Tx → Rat) : ∀ (l : List Tx) (acc : List Hd), Srt acc → l.Nodup → (∀ e ∈ acc, e.2 ∉ l) → Srt (l.foldl (fun acc x => insC acc (f x, x)) acc) ∧ ∀ e, e ∈ l.foldl (fun acc x => insC acc (f x, x)) acc ↔ e ∈ acc ∨ (e.2 ∈ l ∧ e.1 = f e.2)
  | [], acc, h, _, _ => ⟨h, fun e => ⟨.inl, fun z => z.elim id fun y => nomatch y.1⟩⟩
  | x :: l, acc, h, nd, hn => by
    rw [List.nodup_cons] at nd
    obtain ⟨h1, h2⟩ := rank_fold f l (insC acc (f x, x)) (insC_srt h fun y hy z => hn y hy (by rw [z]; exact List.mem_cons_self)) nd.2 fun e he => by
      rcases insC_mem.mp he with z | z
      · exact fun y => hn e z (List.mem_cons_of_mem _ y)
      · subst z; exact nd.1
    refine ⟨h1, fun e => ?_⟩
    rw [List.foldl_cons, h2, insC_mem]
    constructor
    · rintro ((z | z) | ⟨z1, z2⟩)
      · exact .inl z
      · subst z; exact .inr ⟨List.mem_cons_self, rfl⟩
      · exact .inr ⟨List.mem_cons_of_mem _ z1, z2⟩
    · rintro (z | ⟨z1, z2⟩)
      · exact .inl (.inl z)
      · rcases List.mem_cons.mp z1 with y | y
        · refine .inl (.inr ?_)
          obtain ⟨e1, e2⟩ := e
          simp only at y z2
          subst y z2; rfl
        · exact .inr ⟨y, z2⟩
section
variable {b : List Tx} {o : Nat} {w : Wi}
theorem good_nd (hc : ∀ e ∈ evB o b, e.2.length ≤ 1) : (goodW b o w).Nodup := (allM_nd hc o w.hi).filter _
theorem rank_srt (hc : ∀ e ∈ evB o b, e.2.length ≤ 1) : Srt (rankL b o w) := (rank_fold _ _ [] .nil (good_nd hc) fun _ h => nomatch h).1
theorem rank_mem (hc : ∀ e ∈ evB o b, e.2.length ≤ 1) {e : Hd} : e ∈ rankL b o w ↔ e.2 ∈ goodW b o w ∧ e.1 = shareQ (evB o b) o e.2 := by
  have := (rank_fold (shareQ (evB o b) o) (goodW b o w) [] .nil (good_nd hc) fun _ h => nomatch h).2 e
  exact this.trans ⟨fun h => h.elim (fun z => nomatch z) id, .inr⟩
theorem good_mem (hc : ∀ e ∈ evB o b, e.2.length ≤ 1) {x : Tx} : x ∈ goodW b o w ↔ (1 ≤ x.length ∧ x.length ≤ w.hi ∧ 0 < shareQ (evB o b) o x) ∧ fitP b w x = true := by
  unfold goodW
  rw [List.mem_filter, allM_mem hc]
/-! ### the invariant -/
structure SI (b : List Tx) (o : Nat) (w : Wi) (hs fs : List Hd) : Prop where
  h1 : ∀ e ∈ hs, e.2 ∈ paths (evB o b) o e.2.length ∧ e.2.length ≤ w.hi ∧ preH w.hd e.2 = true ∧ e.1 = wT (pq (evB o b)) o e.2
  h2 : hs.Pairwise fun a c => ¬ a.2 <+: c.2 ∧ ¬ c.2 <+: a.2
  f1 : Srt fs
  f2 : ∀ e ∈ fs, e.2 ∈ goodW b o w ∧ e.1 = shareQ (evB o b) o e.2
  c1 : ∀ x ∈ goodW b o w, (∃ e ∈ fs, e.2 = x) ∨ ∃ e ∈ hs, e.2 <+: x
  c2 : ∀ e ∈ fs, ∀ f ∈ hs, ¬ f.2 <+: e.2
theorem wT_nil {wt : Ev → Rat} : wT wt o [] = 1 := rfl
theorem SI.start : SI b o w [(1, [])] [] where
  h1 := fun e he => by
    rw [List.mem_singleton.mp he]
    exact ⟨by show [] ∈ [[]]; simp, by simp, by simp [preH], wT_nil.symm⟩
  h2 := List.pairwise_singleton _ _
  f1 := .nil
  f2 := fun _ h => nomatch h
  c1 := fun x _ => .inr ⟨_, List.mem_cons_self, List.nil_prefix⟩
  c2 := fun _ h => nomatch h
theorem pre_take {hd x : Tx} (h : x.take hd.length = hd) (k : Nat) : preH hd (x.take k) = true := by
  unfold preH
  rw [beq_iff_eq, List.length_take, List.take_take]
  have e : hd.take (min k x.length) = (x.take hd.length).take (min k x.length) := by rw [h]
  rw [e, List.take_take]
  have hl : hd.length ≤ x.length := by
    have := congrArg List.length h
    rw [List.length_take] at this
    omega
  congr 1; omega
theorem kid_mem {es : List Ev} {e k : Hd} : k ∈ kids es o w e ↔ ∃ l ∈ nxt es (endT o e.2), e.2.length + l.length ≤ w.hi ∧ preH w.hd (e.2 ++ l) = true ∧ k = (e.1 * pq es (endT o e.2, l), e.2 ++ l) := by
  unfold kids kidsOf
  rw [List.mem_map]
  have en : (sortT (rowl es (endT o e.2))).filter (fun l => !(l == [])) = nxt es (endT o e.2) := rfl
  rw [en]
  constructor
  · rintro ⟨l, h, rfl⟩
    obtain ⟨h1, h2⟩ := List.mem_filter.mp h
    rw [Bool.and_eq_true, decide_eq_true_eq] at h2
    exact ⟨l, h1, h2.1, h2.2, rfl⟩
  · rintro ⟨l, h1, h2, h3, rfl⟩
    exact ⟨l, List.mem_filter.mpr ⟨h1, by rw [Bool.and_eq_true, decide_eq_true_eq]; exact ⟨h2, h3⟩⟩, rfl⟩
theorem pfx_of_app {t l x : Tx} (h : t ++ l <+: x) : t <+: x := (List.prefix_append t l).trans h
theorem pfx_len {a b : Tx} (h : a <+: b) (k : b.length ≤ a.length) : a = b := h.eq_of_length (by have := h.length_le; omega)
theorem pfx_app1 {s t l : Tx} (hl : l.length = 1) (h : s <+: t ++ l) : s <+: t ∨ s = t ++ l := by
  by_cases z : s.length ≤ t.length
  · exact .inl (List.prefix_of_prefix_length_le h (List.prefix_append t l) z)
  · exact .inr (pfx_len h (by rw [List.length_append, hl]; omega))
theorem erase_perm {α : Type} : ∀ {l : List α} {i : Nat} {e : α}, l[i]? = some e → (e :: l.eraseIdx i).Perm l
  | [], _, _, h => by simp at h
  | a :: l, 0, e, h => by simp at h; subst h; exact .refl _
  | a :: l, i + 1, e, h => by
    have := erase_perm (l := l) (i := i) (e := e) (by simpa using h)
    exact (List.Perm.swap a e _).trans (this.cons a)
theorem SI.step (hb : bookOk b) (ho : 1 ≤ o ∧ o ≤ 3) {hs fs : List Hd} (I : SI b o w hs fs) {i : Nat} {e : Hd} (he : hs[i]? = some e) :
    SI b o w (hs.eraseIdx i ++ kids (evB o b) o w e) (fsOf b (evB o b) o w e fs (sortT (rowl (evB o b) (endT o e.2)))) := by
  have hbk := bk_of hb ho.2
  have hc : ∀ e ∈ evB o b, e.2.length ≤ 1 := fun e he => (hbk.c e he).2.2
  obtain ⟨il, ei⟩ := List.getElem?_eq_some_iff.mp he
  have perm : (e :: hs.eraseIdx i).Perm hs := erase_perm he
  have em := List.mem_of_getElem? he
  have pw : (e :: hs.eraseIdx i).Pairwise fun a c => ¬ a.2 <+: c.2 ∧ ¬ c.2 <+: a.2 := (perm.pairwise_iff (fun {a c} h => ⟨h.2, h.1⟩)).mpr I.h2
  rw [List.pairwise_cons] at pw
  have sub : ∀ f ∈ hs.eraseIdx i, f ∈ hs := fun f hf => (List.eraseIdx_sublist _ _).subset hf
  obtain ⟨e1, e2, e3, e4⟩ := I.h1 e em
  have kk : ∀ k ∈ kids (evB o b) o w e, ∃ l ∈ nxt (evB o b) (endT o e.2), l.length = 1 ∧ e.2.length + l.length ≤ w.hi ∧ preH w.hd (e.2 ++ l) = true ∧ k = (e.1 * pq (evB o b) (endT o e.2, l), e.2 ++ l) := fun k hk => by
    obtain ⟨l, h1, h2, h3, h4⟩ := kid_mem.mp hk
    exact ⟨l, h1, nxt_len1 hc h1, h2, h3, h4⟩
  -- the popped one as a name
  have good_t : e.2 ∈ goodW b o w ↔ ([] ∈ rowl (evB o b) (endT o e.2) ∧ e.2 ≠ [] ∧ fitP b w e.2 = true) := by
    rw [good_mem hc]
    have md : e.2 ∈ made (evB o b) o e.2.length ↔ [] ∈ rowl (evB o b) (endT o e.2) := by
      unfold made
      rw [(sortT_perm _).mem_iff, List.mem_filter]
      unfold ends
      rw [decide_eq_true_eq]
      constructor
      · rintro ⟨_, h⟩; exact row_mem2.mpr h
      · intro h; exact ⟨e1, row_mem2.mp h⟩
    rw [made_mem hc] at md
    constructor
    · rintro ⟨⟨h1, h2, h3⟩, h4⟩
      exact ⟨md.mp ⟨rfl, h3⟩, fun z => by rw [z] at h1; simp at h1, h4⟩
    · rintro ⟨h1, h2, h3⟩
      refine ⟨⟨?_, e2, (md.mpr h1).2⟩, h3⟩
      cases q : e.2 with
      | nil => exact absurd q h2
      | cons _ _ => simp
  have fsm : ∀ x, x ∈ fsOf b (evB o b) o w e fs (sortT (rowl (evB o b) (endT o e.2))) ↔ x ∈ fs ∨ (e.2 ∈ goodW b o w ∧ x = (e.1 * pq (evB o b) (endT o e.2, []), e.2)) := fun x => by
    unfold fsOf
    by_cases q : e.2 ∈ goodW b o w
    · obtain ⟨q1, q2, q3⟩ := good_t.mp q
      have c : ((sortT (rowl (evB o b) (endT o e.2))).contains [] && (!(e.2 == []) && fitP b w e.2)) = true := by
        rw [Bool.and_eq_true, Bool.and_eq_true, List.contains_iff_mem, (sortT_perm _).mem_iff]
        exact ⟨q1, by simpa using q2, q3⟩
      rw [if_pos c, insC_mem]
      exact ⟨fun z => z.imp id fun y => ⟨q, y⟩, fun z => z.imp id fun y => y.2⟩
    · have c : ¬ ((sortT (rowl (evB o b) (endT o e.2))).contains [] && (!(e.2 == []) && fitP b w e.2)) = true := fun z => by
        rw [Bool.and_eq_true, Bool.and_eq_true, List.contains_iff_mem, (sortT_perm _).mem_iff] at z
        exact q (good_t.mpr ⟨z.1, by simpa using z.2.1, z.2.2⟩)
      rw [if_neg c]
      exact ⟨.inl, fun z => z.elim id fun y => absurd y.1 q⟩
  refine ⟨fun f hf => ?_, ?_, ?_, fun f hf => ?_, fun x hx => ?_, fun f hf g hg => ?_⟩
  · rcases List.mem_append.mp hf with z | z
    · exact I.h1 f (sub f z)
    · obtain ⟨l, l1, l2, l3, l4, rfl⟩ := kk f z
      refine ⟨?_, by simp only [List.length_append]; exact l3, l4, ?_⟩
      · show e.2 ++ l ∈ paths (evB o b) o (e.2 ++ l).length
        rw [List.length_append, l2]
        exact List.mem_flatMap.mpr ⟨e.2, e1, List.mem_map.mpr ⟨l, l1, rfl⟩⟩
      · show e.1 * _ = wT _ o (e.2 ++ l)
        rw [wT_app o l2, ← e4]
  · rw [List.pairwise_append]
    refine ⟨pw.2, ?_, fun a ha k hk => ?_⟩
    · unfold kids kidsOf
      rw [List.pairwise_map]
      have nd : (nxt (evB o b) (endT o e.2)).Nodup := nxt_nodup _ _
      have nd2 := nd.filter fun l => decide (e.2.length + l.length ≤ w.hi) && preH w.hd (e.2 ++ l)
      refine List.Pairwise.imp_of_mem (fun {x y} hx hy ne => ?_) nd2
      have lx : x.length = 1 := nxt_len1 hc (List.mem_filter.mp hx).1
      have ly : y.length = 1 := nxt_len1 hc (List.mem_filter.mp hy).1
      have key : ∀ {x y : Tx}, x.length = 1 → y.length = 1 → x ≠ y → ¬ e.2 ++ x <+: e.2 ++ y := fun {x y} lx ly ne h => by
        have := pfx_len h (by rw [List.length_append, List.length_append]; omega)
        exact ne (List.append_cancel_left this)
      exact ⟨key lx ly ne, key ly lx (Ne.symm ne)⟩
    · obtain ⟨l, l1, l2, l3, l4, rfl⟩ := kk k hk
      obtain ⟨p1, p2⟩ := pw.1 a ha
      refine ⟨fun h => ?_, fun h => p1 (pfx_of_app h)⟩
      rcases pfx_app1 l2 h with z | z
      · exact p2 z
      · exact p1 (by rw [z]; exact List.prefix_append _ _)
  · have ne : ∀ x ∈ fs, x.2 ≠ (e.1 * pq (evB o b) (endT o e.2, []), e.2).2 := fun x hx z => I.c2 x hx e em (by rw [z]; exact List.prefix_rfl)
    unfold fsOf
    split
    · exact insC_srt I.f1 ne
    · exact I.f1
  · rcases (fsm f).mp hf with z | ⟨z1, z2⟩
    · exact I.f2 f z
    · subst z2
      exact ⟨z1, by show e.1 * _ = _; rw [e4, share_wT]⟩
  · rcases I.c1 x hx with ⟨f, hf, rfl⟩ | ⟨f, hf, hp⟩
    · exact .inl ⟨f, (fsm f).mpr (.inl hf), rfl⟩
    · rcases List.mem_cons.mp (perm.mem_iff.mpr hf) with z | z
      · subst z
        obtain ⟨s, rfl⟩ := hp
        cases s with
        | nil =>
          rw [List.append_nil] at hx ⊢
          exact .inl ⟨_, (fsm _).mpr (.inr ⟨hx, rfl⟩), rfl⟩
        | cons c s =>
          obtain ⟨⟨x1, x2, x3⟩, x4⟩ := (good_mem hc).mp hx
          have ev : cStep (f.2 ++ c :: s) o f.2.length ∈ evB o b := by
            have hp := (made_mem hc (o := o) (n := (f.2 ++ c :: s).length)).mpr ⟨rfl, x3⟩
            unfold made at hp
            rw [(sortT_perm _).mem_iff] at hp
            exact ((path_mem hc o _ _).mp (List.mem_filter.mp hp).1).2 _ (by simp)
          have ev2 : (endT o f.2, [c]) ∈ evB o b := by
            have e : cStep (f.2 ++ c :: s) o f.2.length = (endT o f.2, [c]) := by
              unfold cStep
              rw [List.take_left' rfl, List.drop_left' rfl]; rfl
            rw [← e]; exact ev
          have hfit := x4
          unfold fitP at hfit
          simp only [Bool.and_eq_true, decide_eq_true_eq, beq_iff_eq] at hfit
          have hpre : preH w.hd (f.2 ++ [c]) = true := by
            have e : f.2 ++ [c] = (f.2 ++ c :: s).take (f.2.length + 1) := by
              rw [show f.2 ++ c :: s = (f.2 ++ [c]) ++ s by simp, List.take_left' (by simp)]
            rw [e]
            exact pre_take hfit.1.1.1.2.2 _
          have x2' : f.2.length + (s.length + 1) ≤ w.hi := by simpa using x2
          refine .inr ⟨(f.1 * pq (evB o b) (endT o f.2, [c]), f.2 ++ [c]), List.mem_append_right _ (kid_mem.mpr ⟨[c], nxt_mem.mpr ⟨ev2, by simp⟩, by simp; omega, hpre, rfl⟩), ⟨s, by simp⟩⟩
      · exact .inr ⟨f, List.mem_append_left _ z, hp⟩
  · rcases (fsm f).mp hf with z | ⟨z1, z2⟩
    · rcases List.mem_append.mp hg with y | y
      · exact I.c2 f z g (sub g y)
      · obtain ⟨l, l1, l2, l3, l4, rfl⟩ := kk g y
        exact fun h => I.c2 f z e em (pfx_of_app h)
    · subst z2
      rcases List.mem_append.mp hg with y | y
      · exact (pw.1 g y).2
      · obtain ⟨l, l1, l2, l3, l4, rfl⟩ := kk g y
        intro h
        have := h.length_le
        simp only [List.length_append, l2] at this
        omega
end
end
end KN
set_option maxHeartbeats 400000
/-! RI: the likeliest names -/
namespace KN
open PySem PySem.Spec PyProof.Rows L2
noncomputable section
theorem Fr.sz2 {n m : Nat} {q : Rat} (hq : Fr n m q) (hn : n ≤ 9) (hm : m < 2 ^ 20) : KN.sz 3190 q := by
  obtain ⟨a, rfl, h1⟩ := hq
  have k1 : fct 72 ^ n ≤ 2 ^ 3114 := by
    have h := Nat.pow_le_pow_left (Nat.le_of_lt fct72) n
    have h2 : (2 ^ 346) ^ n ≤ 2 ^ 3114 := by
      rw [← Nat.pow_mul]
      exact Nat.pow_le_pow_right (by decide) (by omega)
    exact Nat.le_trans h h2
  have k2 : a < 2 ^ 3190 := by
    have h2 : m * fct 72 ^ n ≤ 2 ^ 20 * 2 ^ 3114 := Nat.mul_le_mul (by omega) k1
    rw [← Nat.pow_add] at h2
    have h3 : 2 ^ (20 + 3114) < 2 ^ 3190 := Nat.pow_lt_pow_right (by decide) (by decide)
    omega
  have k3 : fct 72 ^ n < 2 ^ 3190 := Nat.lt_of_le_of_lt k1 (Nat.pow_lt_pow_right (by decide) (by decide))
  exact sz_mk (Nat.pos_of_ne_zero (K_ne n)) k2 k3
theorem fold_le {es : List Ev} : ∀ (l : List Ev) {q : Rat}, 0 ≤ q → 0 ≤ l.foldl (fun q e => q * pq es e) q ∧ l.foldl (fun q e => q * pq es e) q ≤ q
  | [], q, h => ⟨h, Rat.le_refl⟩
  | e :: l, q, h => by
    have h1 : 0 ≤ q * pq es e := Rat.mul_nonneg h (pq_nonneg es e)
    have h2 : q * pq es e ≤ q := by
      have := Rat.mul_le_mul_of_nonneg_left (pq_le_one es e) h
      rw [Rat.mul_one] at this
      exact this
    obtain ⟨i1, i2⟩ := fold_le l h1
    exact ⟨i1, Rat.le_trans i2 h2⟩
theorem share_pre {es : List Ev} {o : Nat} {t x : Tx} (h : t <+: x) : shareQ es o x ≤ wT (pq es) o t := by
  obtain ⟨s, rfl⟩ := h
  unfold shareQ shq
  rw [evs_e]
  have e : (t ++ s).length + 1 = t.length + (s.length + 1) := by rw [List.length_append]; omega
  rw [e, List.range_add, List.map_append, List.foldl_append]
  have e2 : (List.range t.length).map (cStep (t ++ s) o) = (List.range t.length).map (cStep t o) := List.map_congr_left fun i hi => step_app (List.mem_range.mp hi)
  rw [e2]
  have : ((List.range t.length).map (cStep t o)).foldl (fun q e => q * pq es e) 1 = wT (pq es) o t := rfl
  rw [this]
  have nn : 0 ≤ wT (pq es) o t := (fold_le _ (by decide)).1
  exact (fold_le _ nn).2
theorem wT_fr {es : List Ev} (hes : es.length ≤ 72) (o : Nat) (t : Tx) : Fr t.length 1 (wT (pq es) o t) := by
  have h := shq_fr hes ((List.range t.length).map (cStep t o))
  rw [List.length_map, List.length_range] at h
  exact h
theorem nd_len2 {α : Type} [DecidableEq α] : ∀ {l m : List α}, l.Nodup → (∀ x ∈ l, x ∈ m) → l.length ≤ m.length
  | [], _, _, _ => Nat.zero_le _
  | a :: l, m, nd, h => by
    rw [List.nodup_cons] at nd
    have ha := h a List.mem_cons_self
    have := nd_len2 (l := l) (m := m.erase a) nd.2 fun x hx => (List.mem_erase_of_ne (fun z => nd.1 (by rw [← z]; exact hx))).mpr (h x (List.mem_cons_of_mem _ hx))
    rw [List.length_erase_of_mem ha] at this
    have : 0 < m.length := List.length_pos_of_mem ha
    rw [List.length_cons]; omega
theorem path_chs2 {ys : List Ev} (hc : ∀ e ∈ ys, chs e.2) (o : Nat) : ∀ n, ∀ t ∈ paths ys o n, chs t
  | 0, t, h => by rw [List.mem_singleton.mp h]; exact fun c hc => nomatch hc
  | n + 1, t, h => by
    obtain ⟨u, hu, h⟩ := List.mem_flatMap.mp h
    obtain ⟨l, hl, rfl⟩ := List.mem_map.mp h
    intro c hcc
    rcases List.mem_append.mp hcc with z | z
    · exact path_chs2 hc o n u hu c z
    · exact hc _ (nxt_mem.mp hl).1 c z
def Mid (es : List Ev) (o n : Nat) : Prop := ∀ k, k ≤ n → (paths es o k).length ≤ 100000
theorem flat_len {α : Type} (f : Nat → List α) (c : Nat) : ∀ n, (∀ k, k < n → (f k).length ≤ c) → ((List.range n).flatMap f).length ≤ n * c
  | 0, _ => by simp
  | n + 1, h => by
    rw [List.range_succ, List.flatMap_append, List.length_append, Nat.add_mul]
    have h1 := flat_len f c n fun k hk => h k (by omega)
    have h2 := h n (by omega)
    simp only [List.flatMap_cons, List.flatMap_nil, List.append_nil]
    omega
section
variable {b : List Tx} {o : Nat} {w : Wi} {hs fs : List Hd}
theorem SI.hlen (I : SI b o w hs fs) (hm : Mid (evB o b) o w.hi) (h8 : w.hi ≤ 8) : hs.length ≤ 900000 := by
  have nd : (hs.map (·.2)).Nodup := by
    unfold List.Nodup
    rw [List.pairwise_map]
    exact List.Pairwise.imp (fun {a c} h z => h.1 (by rw [z]; exact List.prefix_rfl)) I.h2
  have := nd_len2 nd (m := (List.range (w.hi + 1)).flatMap fun k => paths (evB o b) o k) fun x hx => by
    obtain ⟨e, he, rfl⟩ := List.mem_map.mp hx
    obtain ⟨h1, h2, _⟩ := I.h1 e he
    exact List.mem_flatMap.mpr ⟨e.2.length, List.mem_range.mpr (by omega), h1⟩
  have l := flat_len (fun k => paths (evB o b) o k) 100000 (w.hi + 1) fun k hk => hm k (by omega)
  rw [List.length_map] at this
  omega
theorem good_len (hm : Mid (evB o b) o w.hi) (h8 : w.hi ≤ 8) : (goodW b o w).length ≤ 800000 := by
  have h1 := List.length_filter_le (fitP b w) (allM (evB o b) o w.hi)
  have h2 := flat_len (fun k => made (evB o b) o (k + 1)) 100000 w.hi fun k hk => by
    unfold made
    rw [(sortT_perm _).length_eq]
    exact Nat.le_trans (List.length_filter_le _ _) (hm (k + 1) (by omega))
  unfold goodW
  have h3 : (allM (evB o b) o w.hi).length ≤ w.hi * 100000 := h2
  omega
theorem SI.flen (I : SI b o w hs fs) (hm : Mid (evB o b) o w.hi) (h8 : w.hi ≤ 8) : fs.length ≤ 800000 := by
  have nd : (fs.map (·.2)).Nodup := by
    unfold List.Nodup
    rw [List.pairwise_map]
    refine List.Pairwise.imp_of_mem (fun {a c} ha hc h z => ?_) I.f1
    have e : a = c := by
      obtain ⟨_, x1⟩ := I.f2 a ha
      obtain ⟨_, x2⟩ := I.f2 c hc
      obtain ⟨a1, a2⟩ := a
      obtain ⟨c1, c2⟩ := c
      simp only at z x1 x2
      subst z
      rw [x1, x2]
    subst e
    rw [cf_irr] at h; cases h
  have := nd_len2 nd (m := goodW b o w) fun x hx => by
    obtain ⟨e, he, rfl⟩ := List.mem_map.mp hx
    exact (I.f2 e he).1
  have l := good_len hm h8
  rw [List.length_map] at this
  omega
theorem SI.szs (hb : bookOk b) (ho : 1 ≤ o ∧ o ≤ 3) (I : SI b o w hs fs) (h8 : w.hi ≤ 8) : (∀ e ∈ hs, sz 3190 e.1 ∧ e.2.length ≤ 100 ∧ chs e.2) ∧ szH fs := by
  have hbk := bk_of hb ho.2
  refine ⟨fun e he => ?_, fun e he => ?_⟩
  · obtain ⟨h1, h2, _, h4⟩ := I.h1 e he
    refine ⟨?_, by omega, path_chs2 (fun e he => (hbk.c e he).2.1) o _ _ h1⟩
    rw [h4]
    exact (wT_fr hbk.n o e.2).sz2 (by omega) (by omega)
  · obtain ⟨h1, h2⟩ := I.f2 e he
    have hc : ∀ e ∈ evB o b, e.2.length ≤ 1 := fun e he => (hbk.c e he).2.2
    obtain ⟨⟨g1, g2, g3⟩, _⟩ := (good_mem hc).mp h1
    have nm := made_name hb ho.2 (n := e.2.length) (by omega) ((made_mem hc).mpr ⟨rfl, g3⟩)
    rw [h2]
    exact ⟨sz_mono (shareQ_sz hb o nm) (by omega), nm.chs⟩
/-! ### it ends -/
def mu (w : Wi) (hs : List Hd) : Nat := (hs.map fun e => 74 ^ (w.hi + 1 - e.2.length)).sum
theorem mu_perm {l m : List Hd} (h : l.Perm m) : mu w l = mu w m := (h.map _).sum_nat
theorem mu_app (l m : List Hd) : mu w (l ++ m) = mu w l + mu w m := by unfold mu; rw [List.map_append, List.sum_append]
theorem mu_step (hb : bookOk b) (ho : 1 ≤ o ∧ o ≤ 3) (I : SI b o w hs fs) {i : Nat} {e : Hd} (he : hs[i]? = some e) : mu w (hs.eraseIdx i ++ kids (evB o b) o w e) < mu w hs := by
  have hbk := bk_of hb ho.2
  have hc : ∀ e ∈ evB o b, e.2.length ≤ 1 := fun e he => (hbk.c e he).2.2
  rw [mu_app, ← mu_perm (erase_perm he)]
  have e1 : mu w (e :: hs.eraseIdx i) = 74 ^ (w.hi + 1 - e.2.length) + mu w (hs.eraseIdx i) := by unfold mu; rw [List.map_cons, List.sum_cons]
  rw [e1]
  have el := (I.h1 e (List.mem_of_getElem? he)).2.1
  have kl : (kids (evB o b) o w e).length ≤ 72 := by
    have h1 := kidsOf_len (es := evB o b) (o := o) (w := w) (e := e) (sortT (rowl (evB o b) (endT o e.2)))
    have h2 := rowl_len (evB o b) (endT o e.2)
    rw [(sortT_perm _).length_eq] at h1
    have := hbk.n
    unfold kids
    omega
  have ks : ∀ l : List Hd, (∀ k ∈ l, k.2.length = e.2.length + 1) → mu w l = l.length * 74 ^ (w.hi - e.2.length) := by
    intro l
    induction l with
    | nil => intro _; simp [mu]
    | cons k l ih =>
      intro h
      have h1 := ih fun x hx => h x (List.mem_cons_of_mem _ hx)
      have h2 := h k List.mem_cons_self
      unfold mu at h1 ⊢
      rw [List.map_cons, List.sum_cons, h1, h2, List.length_cons, Nat.add_mul]
      have : w.hi + 1 - (e.2.length + 1) = w.hi - e.2.length := by omega
      rw [this]; omega
  rw [ks (kids (evB o b) o w e) fun k hk => by
    obtain ⟨l, l1, _, _, rfl⟩ := kid_mem.mp hk
    simp only [List.length_append, nxt_len1 hc l1]]
  have e2 : w.hi + 1 - e.2.length = (w.hi - e.2.length) + 1 := by omega
  rw [e2, Nat.pow_succ]
  have pp : 0 < 74 ^ (w.hi - e.2.length) := Nat.pow_pos (by decide)
  have := Nat.mul_le_mul_right (74 ^ (w.hi - e.2.length)) kl
  omega
def lkP : Ga → R Bool := tNot (tVal (bCallR g_Search_is_done (aO 0 4 (aD (bVar 3) (aNil)))))
def lkB' : Ga → R Fl := fExprE (nx (eCall g_Search_step 0 4 0 bNil))
theorem m_likeliest_of_e : m_likeliest_of = fSeq (fNew 4 (mkG g_Search___init__ 0 (bCons (bVar 0) (bCons (bVar 1) (bCons (bVar 2) (bNil)))))) (fSeq (fWh lkP lkB') (fRet (bSl (bFldR 0 4 5) (pNo) (pSo (bVar 3))))) := rfl
abbrev lkG (b : List Tx) (o : Nat) (w : Wi) (many : Nat) (hs fs : List Hd) : Ga := [.va (bkD b), .va (.int (o : Nat)), .va (wiD w), .va (.int (many : Nat)), .ob false 0 (sF (bkD b) o (wiD w) (tblD (tabOf (evB o b))) hs fs)]
theorem lk_loop (hb : bookOk b) (ho : 1 ≤ o ∧ o ≤ 3) (h64 : (evB o b).length < 64) (hw : WiG w) (hm : Mid (evB o b) o w.hi) {many : Nat} (h1 : 1 ≤ many) : ∀ (n : Nat) (hs fs : List Hd), mu w hs ≤ n → SI b o w hs fs →
    ∃ N hs' fs', whN lkP lkB' N (lkG b o w many hs fs) = some (.ok (.nx (lkG b o w many hs' fs'))) ∧ SI b o w hs' fs' ∧ (hs' = [] ∨ ∃ x, fs'[many - 1]? = some x ∧ ∀ f ∈ hs', f.1 < x.1)
  | n, hs, fs, hn, I => by
    obtain ⟨z1, z2⟩ := I.szs hb ho hw.hi8
    have z1' : szH hs := fun e he => ⟨sz_mono (z1 e he).1 (by omega), (z1 e he).2.2⟩
    obtain ⟨d, d1, d2, d3⟩ := done_ok (B := bkD b) (W := wiD w) (T := tblD (tabOf (evB o b))) (o := o) h1 z1' z2
    have cond : lkP (lkG b o w many hs fs) = .ok (!d) := by
      unfold lkP lkG
      generalize (sF (bkD b) o (wiD w) (tblD (tabOf (evB o b))) hs fs) = F at *
      generalize bkD b = B
      generalize wiD w = WD
      simp [bCallR, aO, aD, aNil, obAt, frz, d1, scal, R.bind]
    cases d with
    | true =>
      refine ⟨1, hs, fs, ?_, I, d3 rfl⟩
      rw [whN, cond]; rfl
    | false =>
      have hne : hs ≠ [] := fun z => by have := d2 z; cases this
      have hl := I.hlen hm hw.hi8
      have fl := I.flen hm hw.hi8
      obtain ⟨i, e, he, _, st⟩ := step_ok (bk_of hb ho.2) h64 (fun y hy => (hb.2.2 y hy).chs) hw (o := o) (hs := hs) (fs := fs) hne z1 z2 (by rw [lim_val]; omega) (by rw [lim_val]; omega)
      have I2 := I.step hb ho he
      have dec := mu_step hb ho I he
      cases n with
      | zero => omega
      | succ n =>
        obtain ⟨N, hs', fs', w1, w2, w3⟩ := lk_loop hb ho h64 hw hm h1 n _ _ (by omega) I2
        refine ⟨N + 1, hs', fs', ?_, w2, w3⟩
        have body : lkB' (lkG b o w many hs fs) = .ok (.nx (lkG b o w many (hs.eraseIdx i ++ kids (evB o b) o w e) (fsOf b (evB o b) o w e fs (sortT (rowl (evB o b) (endT o e.2)))))) := by
          unfold lkB' lkG
          generalize (sF (bkD b) o (wiD w) (tblD (tabOf (evB o b))) hs fs) = F at *
          generalize (sF (bkD b) o (wiD w) (tblD (tabOf (evB o b))) (hs.eraseIdx i ++ kids (evB o b) o w e) (fsOf b (evB o b) o w e fs (sortT (rowl (evB o b) (endT o e.2))))) = F2 at *
          generalize bkD b = B
          generalize wiD w = WD
          simp [fExprE, nx, eCall, insS, st, setOb, R.noex, R.bind]
        rw [whN, cond]
        simp only [Bool.not_false]
        rw [body]
        exact w1
theorem take_rank (hc : ∀ e ∈ evB o b, e.2.length ≤ 1) (I : SI b o w hs fs) {many : Nat} (h1 : 1 ≤ many) (hd : hs = [] ∨ ∃ x, fs[many - 1]? = some x ∧ ∀ f ∈ hs, f.1 < x.1) : fs.take many = (rankL b o w).take many := by
  rcases hd with hd | ⟨x, hx, hd⟩
  · subst hd
    have : fs = rankL b o w := by
      refine srt_uniq I.f1 (rank_srt hc) fun e => ⟨fun h => (rank_mem hc).mpr (I.f2 e h), fun h => ?_⟩
      obtain ⟨g1, g2⟩ := (rank_mem hc).mp h
      rcases I.c1 e.2 g1 with ⟨f, hf, q⟩ | ⟨f, hf, _⟩
      · have := (I.f2 f hf).2
        have e0 : f = e := by
          obtain ⟨f1, f2⟩ := f
          obtain ⟨e1, e2⟩ := e
          simp only at q this g2
          subst q
          rw [this, g2]
        exact e0 ▸ hf
      · cases hf
    rw [this]
  · obtain ⟨xl, xe⟩ := List.getElem?_eq_some_iff.mp hx
    have A1l : (fs.take many).length = many := by rw [List.length_take]; omega
    have sub : ∀ e ∈ fs.take many, e ∈ rankL b o w := fun e he => (rank_mem hc).mpr (I.f2 e (List.mem_of_mem_take he))
    have ge : ∀ a ∈ fs.take many, x.1 ≤ a.1 := fun a ha => by
      obtain ⟨j, hj, rfl⟩ := List.mem_iff_getElem.mp ha
      rw [List.length_take] at hj
      rw [List.getElem_take]
      by_cases z : j = many - 1
      · subst z; rw [xe]; exact Rat.le_refl
      · have := List.pairwise_iff_getElem.mp I.f1 j (many - 1) (by omega) xl (by omega)
        rw [xe] at this
        rcases cf_iff.mp this with y | ⟨y, _⟩
        · exact Rat.le_of_lt y
        · rw [y]; exact Rat.le_refl
    have split : rankL b o w = fs.take many ++ (rankL b o w).filter fun e => !decide (e ∈ fs.take many) := by
      refine srt_uniq (rank_srt hc) ?_ fun e => ?_
      · refine List.pairwise_append.mpr ⟨I.f1.sublist (List.take_sublist _ _), (rank_srt hc).filter _, fun a ha c hc2 => ?_⟩
        obtain ⟨c1, c2⟩ := List.mem_filter.mp hc2
        have c2 : c ∉ fs.take many := by simpa using c2
        obtain ⟨g1, g2⟩ := (rank_mem hc).mp c1
        rcases I.c1 c.2 g1 with ⟨f, hf, q⟩ | ⟨f, hf, hp⟩
        · have fc : f = c := by
            have := (I.f2 f hf).2
            obtain ⟨f1, f2⟩ := f
            obtain ⟨e1, e2⟩ := c
            simp only at q this g2
            subst q
            rw [this, g2]
          subst fc
          rw [← List.take_append_drop many fs] at hf
          rcases List.mem_append.mp hf with y | y
          · exact absurd y c2
          · have pw := I.f1
            rw [← List.take_append_drop many fs] at pw
            exact (List.pairwise_append.mp pw).2.2 a ha f y
        · rw [cf_iff]
          left
          have s1 := share_pre (es := evB o b) (o := o) hp
          rw [← (I.h1 f hf).2.2.2, ← g2] at s1
          have := le_lt_tr s1 (hd f hf)
          exact Decidable.byContradiction fun z => absurd (le_lt_tr (Rat.not_lt.mp z) this) fun y => Rat.not_le.mpr y (ge a ha)
      · rw [List.mem_append, List.mem_filter]
        constructor
        · intro h
          by_cases z : e ∈ fs.take many
          · exact .inl z
          · exact .inr ⟨h, by simpa using z⟩
        · rintro (h | h)
          · exact sub e h
          · exact h.1
    rw [split, List.take_left' A1l]
theorem sinit_ok (hb : bookOk b) {W : D} : g_Search___init__ [.ob true 0 [], .va (bkD b), .va (.int (o : Nat)), .va W] = .ok (.non, .ob true 0 (sF (bkD b) o W (tblD (tabOf (evB o b))) [(1, [])] [])) := by
  have cn := counted_ok hb.small o
  have l2 : 2 ≤ lim := by decide
  have l1 : 1 ≤ lim := by decide
  have l0 : 0 ≤ lim := by decide
  have e : sF (bkD b) o W (tblD (tabOf (evB o b))) [(1, [])] [] = [(false, bkD b), (false, .int (o : Nat)), (false, W), (false, tblD (tabOf (evB o b))), (true, .lst [.tup [.tup [.int 1, .int 1], .str []]]), (true, .lst [])] := rfl
  rw [e]
  unfold g_Search___init__ fnM
  generalize bkD b = B at *
  generalize tblD (tabOf (evB o b)) = T at *
  simp [m_Search___init__, pureFs, fOpen, onlyRf, isRf, fFld, fFldO, fldOk, fNm, putFd, cn, l2, l1, l0, stOf]
theorem likeliest_of_ok (hb : bookOk b) (ho : 1 ≤ o ∧ o ≤ 3) (h64 : (evB o b).length < 64) (hw : WiG w) (hm : Mid (evB o b) o w.hi) {many : Nat} (h1 : 1 ≤ many) :
    g_likeliest_of [bkD b, .int (o : Nat), wiD w, .int (many : Nat)] = .ok (.lst (((rankL b o w).take many).map hdD)) := by
  have hc : ∀ e ∈ evB o b, e.2.length ≤ 1 := fun e he => ((bk_of hb ho.2).c e he).2.2
  obtain ⟨N, hs', fs', w1, w2, w3⟩ := lk_loop hb ho h64 hw hm h1 (mu w [(1, [])]) [(1, [])] [] (Nat.le_refl _) SI.start
  have wh := fWh_eq w1
  have si := sinit_ok (b := b) (o := o) hb (W := wiD w)
  unfold g_likeliest_of
  refine fn_rt ?_
  rw [m_likeliest_of_e]
  show fSeq _ _ [.va (bkD b), .va (.int (o : Nat)), .va (wiD w), .va (.int (many : Nat)), .un] = _
  have s1 : fNew 4 (mkG g_Search___init__ 0 (bCons (bVar 0) (bCons (bVar 1) (bCons (bVar 2) (bNil))))) [.va (bkD b), .va (.int (o : Nat)), .va (wiD w), .va (.int (many : Nat)), .un] = .ok (.nx (lkG b o w many [(1, [])] [])) := by
    unfold lkG fNew mkG
    generalize (sF (bkD b) o (wiD w) (tblD (tabOf (evB o b))) [(1, [])] []) = F at *
    generalize bkD b = B at *
    generalize wiD w = WD at *
    simp [insS, si, R.bind]
  rw [seq_nx s1, seq_nx wh]
  refine ret_e ?_
  rw [← take_rank hc w2 h1 w3]
  have fl := w2.flen hm hw.hi8
  have cut : dSl (.lst (fs'.map hdD)) none (some (many : Int)) = .ok (.lst ((fs'.take many).map hdD)) := by
    show R.ok (D.lst (cutL (fs'.map hdD) none (some (many : Int)))) = _
    rw [cut_to, List.map_take]
  unfold bSl
  show R.bind (R.ok (D.lst (fs'.map hdD))) _ = _
  simp only [R.bind, pNo, pSo, bVar_e, toI]
  exact cut
theorem likeliest_ok (hb : bookOk b) (ho : 1 ≤ o ∧ o ≤ 3) (h64 : (evB o b).length < 64) (hw : WiOk w) (hm : Mid (evB o b) o w.hi) {many : Nat} (h1 : 1 ≤ many ∧ many ≤ 20) :
    g_likeliest [bkD b, .int (o : Nat), wiD w, .int (many : Nat)] = .ok (.lst (((rankL b o w).take many).map hdD)) := by
  have lo := likeliest_of_ok hb ho h64 hw.g hm h1.1
  have n1 := needBook_ok hb
  have n2 := needOrder_ok ho
  have n3 := needWish_ok hw
  have n4 := needNumber_ok (i := (many : Nat)) (lo := 1) (hi := 20) (by omega)
  unfold g_likeliest
  rw [fnD_e]
  generalize bkD b = B at *
  generalize wiD w = WD at *
  generalize ((many : Nat) : Int) = mm at *
  simp [m_likeliest, n1, n2, n3, n4, lo]
end
end
end KN
set_option maxHeartbeats 400000
/-! RJ: sums over what is wanted; the laws' small books -/
namespace KN
open PySem PySem.Spec PyProof.Rows L2
noncomputable section
theorem rS_ind {α : Type} (p : α → Bool) (f : α → Rat) : ∀ l : List α, rS ((l.filter p).map f) = rS (l.map fun x => if p x = true then f x else 0)
  | [] => rfl
  | a :: l => by
    rw [List.map_cons, rS_cons, ← rS_ind p f l]
    cases h : p a with
    | true => rw [List.filter_cons_of_pos h, List.map_cons, rS_cons, if_pos rfl]
    | false => rw [List.filter_cons_of_neg (by simp [h]), if_neg (by simp), Rat.zero_add]
theorem rS_zero {α : Type} : ∀ l : List α, rS (l.map fun _ => (0 : Rat)) = 0
  | [] => rfl
  | a :: l => by rw [List.map_cons, rS_cons, rS_zero l, Rat.zero_add]
theorem rS_add {α : Type} (f g : α → Rat) : ∀ l : List α, rS (l.map f) + rS (l.map g) = rS (l.map fun x => f x + g x)
  | [] => by rw [List.map_nil, List.map_nil, List.map_nil, rS_nil, Rat.zero_add]
  | a :: l => by
    rw [List.map_cons, List.map_cons, List.map_cons, rS_cons, rS_cons, rS_cons, ← rS_add f g l]
    grind
theorem rS_swap {α β : Type} (F : β → α → Rat) (L : List α) : ∀ ns : List β, rS (ns.map fun n => rS (L.map (F n))) = rS (L.map fun x => rS (ns.map fun n => F n x))
  | [] => by
    rw [List.map_nil, rS_nil]
    have : (L.map fun x => rS (([] : List β).map fun n => F n x)) = L.map fun _ => (0 : Rat) := rfl
    rw [this, rS_zero]
  | n :: ns => by
    rw [List.map_cons, rS_cons, rS_swap F L ns, rS_add]
    congr 1
    exact List.map_congr_left fun x _ => by rw [List.map_cons, rS_cons]
theorem rS_one {β : Type} [DecidableEq β] (a : β) (c : Rat) : ∀ {ns : List β}, ns.Nodup → rS (ns.map fun n => if n = a then c else 0) = if a ∈ ns then c else 0
  | [], _ => by rw [List.map_nil, rS_nil, if_neg (by simp)]
  | n :: ns, nd => by
    rw [List.nodup_cons] at nd
    rw [List.map_cons, rS_cons, rS_one a c nd.2]
    by_cases h : n = a
    · subst h
      rw [if_pos rfl, if_neg nd.1, if_pos List.mem_cons_self, Rat.add_zero]
    · rw [if_neg h, Rat.zero_add]
      by_cases z : a ∈ ns
      · rw [if_pos z, if_pos (List.mem_cons_of_mem _ z)]
      · rw [if_neg z, if_neg (by simp only [List.mem_cons, not_or]; exact ⟨fun y => h y.symm, z⟩)]
theorem rS_congr {α : Type} {f g : α → Rat} {l : List α} (h : ∀ x ∈ l, f x = g x) : rS (l.map f) = rS (l.map g) := by
  congr 1; exact List.map_congr_left h
section
variable {b : List Tx} {o : Nat} {w : Wi}
/-- all made names of up to eight letters -/
def M8 (b : List Tx) (o : Nat) : List Tx := allM (evB o b) o 8
theorem good_M8 (hc : ∀ e ∈ evB o b, e.2.length ≤ 1) (h8 : w.hi ≤ 8) : goodW b o w = (M8 b o).filter (fitP b w) := by
  unfold goodW M8
  obtain ⟨k, hk⟩ : ∃ k, 8 = w.hi + k := ⟨8 - w.hi, by omega⟩
  rw [hk]
  have app : ∀ k, (allM (evB o b) o (w.hi + k)).filter (fitP b w) = (allM (evB o b) o w.hi).filter (fitP b w) := by
    intro k
    induction k with
    | zero => rfl
    | succ k ih =>
      have e : allM (evB o b) o (w.hi + (k + 1)) = allM (evB o b) o (w.hi + k) ++ made (evB o b) o (w.hi + k + 1) := by
        unfold allM; rw [← Nat.add_assoc, List.range_succ, List.flatMap_append]; simp
      rw [e, List.filter_append, ih]
      have : (made (evB o b) o (w.hi + k + 1)).filter (fitP b w) = [] := by
        rw [List.filter_eq_nil_iff]
        intro t ht hf
        have := ((made_mem hc).mp ht).1
        unfold fitP at hf
        simp only [Bool.and_eq_true, decide_eq_true_eq] at hf
        omega
      rw [this, List.append_nil]
  exact (app k).symm
def indQ (b : List Tx) (o : Nat) (w : Wi) (x : Tx) : Rat := if fitP b w x = true then shareQ (evB o b) o x else 0
theorem fit_M8 (hc : ∀ e ∈ evB o b, e.2.length ≤ 1) (h8 : w.hi ≤ 8) : fitQ b o w = rS ((M8 b o).map (indQ b o w)) := by
  unfold fitQ
  rw [good_M8 hc h8, rS_ind]
  rfl
theorem M8_mem (hc : ∀ e ∈ evB o b, e.2.length ≤ 1) {x : Tx} : x ∈ M8 b o ↔ 1 ≤ x.length ∧ x.length ≤ 8 ∧ 0 < shareQ (evB o b) o x := allM_mem hc
theorem M8_nd (hc : ∀ e ∈ evB o b, e.2.length ≤ 1) : (M8 b o).Nodup := allM_nd hc o 8
/-- one name -/
theorem one_M8 (hc : ∀ e ∈ evB o b, e.2.length ≤ 1) {x : Tx} (hx : 1 ≤ x.length ∧ x.length ≤ 8) : rS ((M8 b o).map fun t => if t = x then shareQ (evB o b) o x else 0) = shareQ (evB o b) o x := by
  have h := rS_one x (shareQ (evB o b) o x) (M8_nd hc)
  rw [h]
  by_cases z : x ∈ M8 b o
  · rw [if_pos z]
  · rw [if_neg z]
    have : ¬ 0 < shareQ (evB o b) o x := fun p => z ((M8_mem hc).mpr ⟨hx.1, hx.2, p⟩)
    exact (Rat.le_antisymm (Rat.not_lt.mp this) (share_ge _ _ _)).symm
theorem fit_pos (hc : ∀ e ∈ evB o b, e.2.length ≤ 1) : 0 < fitQ b o w ↔ goodW b o w ≠ [] := by
  unfold fitQ
  have pos : ∀ x ∈ goodW b o w, 0 < shareQ (evB o b) o x := fun x hx => ((good_mem hc).mp hx).1.2.2
  generalize goodW b o w = L at pos
  cases L with
  | nil => simp [rS_nil, rlt_irr]
  | cons a L =>
    refine ⟨fun _ => by simp, fun _ => ?_⟩
    rw [List.map_cons, rS_cons]
    have h1 := pos a List.mem_cons_self
    have h2 := rS_nonneg (shareQ (evB o b) o) L fun t _ => share_ge _ _ t
    have := Rat.add_le_add_left (c := shareQ (evB o b) o a) |>.mpr h2
    rw [Rat.add_zero] at this
    exact lt_le_tr' h1 this
where lt_le_tr' {a b c : Rat} (h : a < b) (k : b ≤ c) : a < c := Rat.not_le.mp fun z => Rat.not_le.mpr h (Rat.le_trans k z)
theorem rank_nil (hc : ∀ e ∈ evB o b, e.2.length ≤ 1) : rankL b o w = [] ↔ goodW b o w = [] := by
  constructor
  · intro h
    cases q : goodW b o w with
    | nil => rfl
    | cons a L =>
      have := (rank_mem hc (w := w) (e := (shareQ (evB o b) o a, a))).mpr ⟨by rw [q]; exact List.mem_cons_self, rfl⟩
      rw [h] at this; cases this
  · intro h
    cases q : rankL b o w with
    | nil => rfl
    | cons a L =>
      have := ((rank_mem hc (w := w) (e := a)).mp (by rw [q]; exact List.mem_cons_self)).1
      rw [h] at this; cases this
/-! ### books of few letters -/
structure Gs (b : List Tx) : Prop where
  bk : bookOk b
  l : ∀ x ∈ b, ∀ c ∈ x, ltr c
  n : b.length ≤ 4
  m : ∀ x ∈ b, x.length ≤ 5
theorem Gs.c (h : Gs b) (ho : o ≤ 3) : ∀ e ∈ evB o b, e.2.length ≤ 1 := fun e he => ((bk_of h.bk ho).c e he).2.2
theorem Gs.e64 (h : Gs b) (o : Nat) : (evB o b).length < 64 := by
  have := evLe (o := o) (m := 5) h.m
  have := h.n
  omega
theorem Gs.pow (h : Gs b) (o n : Nat) : (paths (evB o b) o n).length ≤ 3 ^ n := path_pow (abz_nxt h.l) o n
theorem Gs.mid (h : Gs b) {n : Nat} (hn : n ≤ 8) : Mid (evB o b) o n := fun k hk => by
  have h1 := h.pow o k
  have h2 : 3 ^ k ≤ 3 ^ 8 := Nat.pow_le_pow_right (by decide) (by omega)
  have : 3 ^ 8 = 6561 := by decide
  omega
/-- a book as the laws draw it -/
theorem law_book3 {ns : List Int} (hns : ns.length ≤ 63) : ∃ b, Gs b ∧ b.length ≤ 3 ∧ (∀ x ∈ b, x.length ≤ 3) ∧ g__law_book [Lk ns, .int 0, .int 3, .int 3] = .ok (bkD b) := by
  obtain ⟨h1, h2, h3, h4⟩ := book_ok hns (k := 0) (many := 3) (m := 3) (by decide) (by decide) (by decide) (by decide) (by decide) (by decide)
  have g3 : ∀ x ∈ bookF ns 0 3 3, x.length ≤ 3 := fun x hx => by have := (h4 x hx).2.1; omega
  refine ⟨bookF ns 0 3 3, ⟨⟨by omega, by omega, fun x hx => (h4 x hx).nm (by decide)⟩, fun x hx => (h4 x hx).2.2, by omega, fun x hx => by have := g3 x hx; omega⟩, by omega, g3, h1⟩
end
end
end KN
set_option maxHeartbeats 400000
/-! RK: the share of what is wanted, put together -/
namespace KN
open PySem PySem.Spec PyProof.Rows L2
noncomputable section
section
variable {b : List Tx} {o : Nat} {w : Wi}
def fitR (b : List Tx) (w : Wi) (x : Tx) : Bool := (decide (w.hd.length ≤ x.length) && (x.take w.hd.length == w.hd)) && sfx w.tl x && !(w.bar.contains x) && (w.told || !(b.contains x))
theorem fit_R {x : Tx} : fitP b w x = (decide (w.lo ≤ x.length ∧ x.length ≤ w.hi) && fitR b w x) := by
  unfold fitP fitR sfx
  simp only [Bool.and_assoc]
def wHd (w : Wi) (h : Tx) : Wi := { w with hd := h }
def abz : List Nat := [97, 98, 122]
theorem abz_nd : abz.Nodup := by decide
theorem made_ltr (h : ∀ x ∈ b, ∀ c ∈ x, ltr c) {x : Tx} (hx : 0 < shareQ (evB o b) o x) : ∀ c ∈ x, c ∈ abz := fun c hc => by
  obtain ⟨y, hy, hcy⟩ := made_letter hx hc
  rcases h y hy c hcy with z | z | z <;> subst z <;> decide
theorem sum_head (hl : ∀ x ∈ b, ∀ c ∈ x, ltr c) (hc : ∀ e ∈ evB o b, e.2.length ≤ 1) (h8 : w.hi ≤ 8) : rS (abz.map fun c => fitQ b o (wHd w (w.hd ++ [c]))) + (if w.hd ≠ [] ∧ fitP b w w.hd = true then shareQ (evB o b) o w.hd else 0) = fitQ b o w := by
  rw [fit_M8 hc h8]
  have e1 : abz.map (fun c => fitQ b o (wHd w (w.hd ++ [c]))) = abz.map fun c => rS ((M8 b o).map (indQ b o (wHd w (w.hd ++ [c])))) := List.map_congr_left fun c _ => fit_M8 hc h8
  have e3 : (if w.hd ≠ [] ∧ fitP b w w.hd = true then shareQ (evB o b) o w.hd else 0) = rS ((M8 b o).map fun x => if x = w.hd then (if w.hd ≠ [] ∧ fitP b w w.hd = true then shareQ (evB o b) o w.hd else 0) else 0) := by
    by_cases z : w.hd ≠ [] ∧ fitP b w w.hd = true
    · rw [if_pos z]
      have h1 := z.2
      rw [fit_R, Bool.and_eq_true, decide_eq_true_eq] at h1
      rw [one_M8 hc]
      exact ⟨by cases q : w.hd with | nil => exact absurd q z.1 | cons _ _ => simp, by omega⟩
    · rw [if_neg z]
      have : (M8 b o).map (fun x => if x = w.hd then (0 : Rat) else 0) = (M8 b o).map fun _ => (0 : Rat) := List.map_congr_left fun x _ => by split <;> rfl
      rw [this, rS_zero]
  rw [e1, rS_swap, e3, rS_add]
  refine rS_congr fun x hx => ?_
  obtain ⟨m1, m2, m3⟩ := (M8_mem hc).mp hx
  have e2 : abz.map (fun c => indQ b o (wHd w (w.hd ++ [c])) x) = abz.map fun c => if c = (x[w.hd.length]?).getD 0 then (if w.hd.length < x.length ∧ fitP b w x = true then shareQ (evB o b) o x else 0) else 0 := by
    refine List.map_congr_left fun c _ => ?_
    have key : fitP b (wHd w (w.hd ++ [c])) x = (decide (c = (x[w.hd.length]?).getD 0) && (decide (w.hd.length < x.length) && fitP b w x)) := by
      rw [Bool.eq_iff_iff]
      unfold fitP wHd
      simp only [Bool.and_eq_true, decide_eq_true_eq, beq_iff_eq, List.length_append, List.length_singleton]
      constructor
      · rintro ⟨⟨⟨⟨h1, h2, h3⟩, h4⟩, h5⟩, h6⟩
        have lt : w.hd.length < x.length := by omega
        have e : x.take (w.hd.length + 1) = x.take w.hd.length ++ [x[w.hd.length]] := by rw [List.take_add_one, List.getElem?_eq_getElem lt]; rfl
        rw [e] at h3
        obtain ⟨g1, g2⟩ := List.append_inj h3 (by rw [List.length_take]; omega)
        have g2 : x[w.hd.length] = c := by simpa using g2
        rw [List.getElem?_eq_getElem lt]
        exact ⟨g2.symm, lt, ⟨⟨⟨h1, by omega, g1⟩, h4⟩, h5⟩, h6⟩
      · rintro ⟨h0, lt, ⟨⟨⟨h1, _, h3⟩, h4⟩, h5⟩, h6⟩
        rw [List.getElem?_eq_getElem lt] at h0
        have e : x.take (w.hd.length + 1) = x.take w.hd.length ++ [x[w.hd.length]] := by rw [List.take_add_one, List.getElem?_eq_getElem lt]; rfl
        refine ⟨⟨⟨⟨h1, by omega, ?_⟩, h4⟩, h5⟩, h6⟩
        rw [e, h3, h0]; rfl
    unfold indQ
    rw [key]
    by_cases z : c = (x[w.hd.length]?).getD 0
    · rw [decide_eq_true z, if_pos z, Bool.true_and]
      by_cases y : w.hd.length < x.length
      · rw [decide_eq_true y, Bool.true_and]; simp [y]
      · rw [decide_eq_false y]; simp [y]
    · rw [decide_eq_false z, if_neg z]; rfl
  rw [e2, rS_one _ _ abz_nd]
  unfold indQ
  by_cases lt : w.hd.length < x.length
  · have ne : x ≠ w.hd := fun z => by rw [z] at lt; omega
    have inn : (x[w.hd.length]?).getD 0 ∈ abz := by
      rw [List.getElem?_eq_getElem lt]
      exact made_ltr hl m3 _ (List.getElem_mem lt)
    rw [if_pos inn, if_neg ne, Rat.add_zero]
    simp [lt]
  · have z1 : (if (x[w.hd.length]?).getD 0 ∈ abz then (if w.hd.length < x.length ∧ fitP b w x = true then shareQ (evB o b) o x else 0) else 0) = (0 : Rat) := by
      split
      · rw [if_neg fun z => lt z.1]
      · rfl
    rw [z1, Rat.zero_add]
    by_cases q : x = w.hd
    · have qn : w.hd ≠ [] := fun z => by rw [q, z] at m1; simp at m1
      rw [if_pos q, q]
      simp [qn]
    · rw [if_neg q]
      have : fitP b w x = false := by
        cases y : fitP b w x with
        | false => rfl
        | true =>
          unfold fitP at y
          simp only [Bool.and_eq_true, decide_eq_true_eq, beq_iff_eq] at y
          have h3 := y.1.1.1.2.2
          rw [List.take_of_length_le (by omega)] at h3
          exact absurd h3 q
      rw [this]; rfl
end
end
end KN
set_option maxHeartbeats 400000
/-! RL: the likeliest of one wish and of another; places -/
namespace KN
open PySem PySem.Spec PyProof.Rows L2
noncomputable section
section
variable {b : List Tx} {o : Nat} {w w' : Wi}
theorem rank_len (hc : ∀ e ∈ evB o b, e.2.length ≤ 1) {e : Hd} (he : e ∈ rankL b o w) : 1 ≤ e.2.length ∧ e.2.length ≤ w.hi := ⟨((good_mem hc).mp ((rank_mem hc).mp he).1).1.1, ((good_mem hc).mp ((rank_mem hc).mp he).1).1.2.1⟩
theorem rank_abz (g : Gs b) (ho : o ≤ 3) {e : Hd} (he : e ∈ rankL b o w) : ∀ c ∈ e.2, c ∈ abz := made_ltr g.l ((good_mem (g.c ho)).mp ((rank_mem (g.c ho)).mp he).1).1.2.2
theorem abz_name {x : Tx} (h : ∀ c ∈ x, c ∈ abz) (h1 : 1 ≤ x.length) (h8 : x.length ≤ 8) : nameOk x := ⟨h1, h8, fun c hc => by
  have al : ∀ c ∈ abz, 97 ≤ c ∧ c ≤ 122 := by decide
  exact al c (h c hc)⟩
theorem rank_name (g : Gs b) (ho : o ≤ 3) (h8 : w.hi ≤ 8) {e : Hd} (he : e ∈ rankL b o w) : nameOk e.2 := abz_name (rank_abz g ho he) (rank_len (g.c ho) he).1 (by have := (rank_len (g.c ho) he).2; omega)
theorem rank_plL (g : Gs b) (ho : 1 ≤ o ∧ o ≤ 3) (h8 : w.hi ≤ 8) {l : List Hd} (hl : ∀ e ∈ l, e ∈ rankL b o w) : pl 20 (.lst (l.map hdD)) = true := by
  rw [pl_lst, List.all_map, List.all_eq_true]
  intro e he
  have cs := (rank_name g ho.2 h8 (hl e he)).chs
  show pl 19 (.tup [frD e.1, .str e.2]) = true
  rw [pl_tup]
  have h1 : pl 18 (frD e.1) = true := pl_fr 17 _
  have h2 : pl 18 (.str e.2) = true := cs.all
  simp [h1, h2]
/-! ### one more barred -/
/-! ### a longer head -/
/-! ### place_of -/
end
end
end KN
set_option maxHeartbeats 400000
/-! RM: wishes narrower and wider, their shares -/
namespace KN
open PySem PySem.Spec PyProof.Rows L2
noncomputable section
section
variable {b : List Tx} {o : Nat} {w w' : Wi}
/-- all names of up to n letters, with a head -/
def evW (n : Nat) (h : Tx) : Wi := ⟨1, n, h, [], [], true⟩
theorem fit_ev {n : Nat} {h x : Tx} : fitP b (evW n h) x = (decide (1 ≤ x.length ∧ x.length ≤ n) && (decide (h.length ≤ x.length) && (x.take h.length == h))) := by
  unfold fitP evW
  simp [sfx]
theorem ev_ok {n : Nat} (h1 : 1 ≤ n) (h8 : n ≤ 8) {h : Tx} (hh : endOk h) : WiOk (evW n h) := ⟨Nat.le_refl _, h1, h8, hh, ⟨by show 0 ≤ 3; omega, fun c hc => nomatch hc⟩, by show 0 ≤ 6; omega, fun x hx => (nomatch hx), .nil⟩
theorem ev_up (hc : ∀ e ∈ evB o b, e.2.length ≤ 1) (n : Nat) : fitQ b o (evW n []) = upQ (evB o b) o n := by
  unfold fitQ goodW allM upQ lenQ
  have e : ((List.range (evW n []).hi).flatMap fun i => made (evB o b) o (i + 1)).filter (fitP b (evW n [])) = (List.range n).flatMap fun i => made (evB o b) o (i + 1) := by
    refine List.filter_eq_self.mpr ?_
    intro x hx
    obtain ⟨i, hi, hm⟩ := List.mem_flatMap.mp hx
    have hi : i < n := List.mem_range.mp hi
    have := (made_mem hc).mp hm
    rw [fit_ev]
    simp
    omega
  rw [e]
  generalize List.range n = l
  induction l with
  | nil => rfl
  | cons i l ih => rw [List.flatMap_cons, List.map_append, rS_app, ih, List.map_cons, rS_cons]
end
end
end KN
set_option maxHeartbeats 400000
/-! RN: names begun with a text, counted by ends -/
namespace KN
open PySem PySem.Spec PyProof.Rows L2
noncomputable section
section
variable {es : List Ev} {o : Nat}
def waysC (es : List Ev) (o : Nat) (c : Tx) : Nat → Wt
  | 0 => [(c, (1, 1))]
  | n + 1 => (stepW es o (waysC es o c n)).foldl wadd []
def pathF (es : List Ev) (o : Nat) (t : Tx) : Nat → List Tx
  | 0 => [t]
  | n + 1 => grow es o (pathF es o t n)
section
variable {π : Int × Rat → Rat} {w : Ev → Rat} (L : Lin es π w)
include L
omit L in
theorem pF_succ (hc : ∀ e ∈ es, e.2.length ≤ 1) (F : Tx → Rat) (ts : List Tx) : rS ((grow es o ts).map fun t => wT w o t * F (endT o t)) = rS (ts.map fun t => wT w o t * nxF es o w F (endT o t)) := by
  unfold grow
  rw [rS_flat]
  congr 1
  refine List.map_congr_left fun t _ => ?_
  unfold nxF
  rw [← rS_mul, List.map_map]
  have p : (nxt es (endT o t)).Perm ((rowl es (endT o t)).filter fun l => !(l == [])) := (sortT_perm _).filter _
  refine (rS_perm (p.map _)).trans ?_
  congr 1
  refine List.map_congr_left fun l hl => ?_
  have h1 := nxt_mem.mp (p.mem_iff.mpr hl)
  have h2 : l.length = 1 := by
    have := hc _ h1.1
    have h3 : l.length ≠ 0 := fun z => h1.2 (List.length_eq_zero_iff.mp z)
    simp only at this; omega
  simp only [Function.comp]
  rw [wT_app o h2, end_app]; grind
theorem waysC_sum (hc : ∀ e ∈ es, e.2.length ≤ 1) (t : Tx) : ∀ (n : Nat) (F : Tx → Rat), wT w o t * gI π F (waysC es o (endT o t) n) = rS ((pathF es o t n).map fun x => wT w o x * F (endT o x))
  | 0, F => by
    show wT w o t * rS ([(endT o t, ((1 : Int), (1 : Rat)))].map _) = rS ([t].map _)
    rw [List.map_cons, List.map_cons, rS_cons, rS_cons]
    simp only [L.one]
    rw [List.map_nil, List.map_nil, rS_nil, Rat.add_zero, Rat.add_zero, Rat.one_mul]
  | n + 1, F => by
    show wT w o t * gI π F ((stepW es o (waysC es o (endT o t) n)).foldl wadd []) = rS ((grow es o (pathF es o t n)).map _)
    rw [gI_fold L, gI_step L, pF_succ hc, ← waysC_sum hc t n]
    show _ * (rS [] + _) = _
    rw [rS_nil, Rat.zero_add]
end
theorem pathF_mem (hc : ∀ e ∈ es, e.2.length ≤ 1) {t : Tx} : ∀ {n : Nat} {x : Tx}, x ∈ pathF es o t n ↔ x.length = t.length + n ∧ x.take t.length = t ∧ ∀ i, t.length ≤ i → i < x.length → cStep x o i ∈ es
  | 0, x => by
    constructor
    · intro h
      rw [List.mem_singleton.mp h]
      exact ⟨rfl, List.take_length, fun i h1 h2 => by omega⟩
    · rintro ⟨h1, h2, _⟩
      rw [List.take_of_length_le (by omega)] at h2
      exact List.mem_singleton.mpr h2
  | n + 1, x => by
    constructor
    · intro h
      obtain ⟨u, hu, h⟩ := List.mem_flatMap.mp h
      obtain ⟨l, hl, rfl⟩ := List.mem_map.mp h
      obtain ⟨h1, h2, h3⟩ := (pathF_mem hc).mp hu
      obtain ⟨h4, h5⟩ := nxt_mem.mp hl
      have h6 : l.length ≤ 1 := hc _ h4
      have h7 : l.length ≠ 0 := fun z => h5 (List.length_eq_zero_iff.mp z)
      refine ⟨by rw [List.length_append]; omega, ?_, fun i hi1 hi2 => ?_⟩
      · rw [List.take_append_of_le_length (by omega)]; exact h2
      · rw [List.length_append] at hi2
        by_cases z : i < u.length
        · rw [step_app z]; exact h3 i hi1 z
        · have : i = u.length := by omega
          rw [this, step_last h6]; exact h4
    · rintro ⟨h1, h2, h3⟩
      have e : x = x.take (t.length + n) ++ x.drop (t.length + n) := (List.take_append_drop _ x).symm
      have hl : (x.drop (t.length + n)).length = 1 := by simp; omega
      have hu : (x.take (t.length + n)).length = t.length + n := by simp; omega
      refine List.mem_flatMap.mpr ⟨x.take (t.length + n), (pathF_mem hc).mpr ⟨hu, ?_, fun i hi1 hi2 => ?_⟩, List.mem_map.mpr ⟨x.drop (t.length + n), nxt_mem.mpr ⟨?_, ?_⟩, e.symm⟩⟩
      · rw [List.take_take, Nat.min_eq_left (by omega)]; exact h2
      · have := h3 i hi1 (by omega)
        rw [e, step_app (by omega)] at this
        exact this
      · have := h3 (t.length + n) (by omega) (by omega)
        rw [e] at this
        have q := step_last (o := o) (u := x.take (t.length + n)) (l := x.drop (t.length + n)) (by omega)
        rw [hu] at q
        rw [q] at this
        exact this
      · intro z; rw [z] at hl; simp at hl
theorem pathF_nd (hc : ∀ e ∈ es, e.2.length ≤ 1) (t : Tx) : ∀ n, (pathF es o t n).Nodup
  | 0 => by show [t].Nodup; simp
  | n + 1 => by
    have ih := pathF_nd hc t n
    have len : ∀ x ∈ pathF es o t n, x.length = t.length + n := fun x hx => ((pathF_mem hc).mp hx).1
    show (grow es o (pathF es o t n)).Nodup
    unfold grow
    refine nd_flat ?_ fun t _ => ?_
    rotate_left
    · exact (List.pairwise_map.mpr ((nxt_nodup es _).imp fun h e => h (List.append_cancel_left e)))
    · refine List.Pairwise.imp_of_mem (fun {a b} ha hb hab => ?_) ih
      intro x hx hy
      obtain ⟨l, _, e1⟩ := List.mem_map.mp hx
      obtain ⟨k, _, e2⟩ := List.mem_map.mp hy
      have la := len a ha
      have lb := len b hb
      have := congrArg (List.take (t.length + n)) (e1.trans e2.symm)
      rw [List.take_left' la, List.take_left' lb] at this
      exact hab this
theorem pathF_pow {a : Nat} (h : ∀ c, (nxt es c).length ≤ a) (t : Tx) : ∀ n, (pathF es o t n).length ≤ a ^ n
  | 0 => by show 1 ≤ 1; omega
  | n + 1 => by
    have ih := pathF_pow h t n
    have : ∀ ts : List Tx, (grow es o ts).length ≤ ts.length * a := by
      intro ts
      induction ts with
      | nil => simp [grow]
      | cons x ts ih =>
        unfold grow at ih ⊢
        rw [List.flatMap_cons, List.length_append, List.length_map, List.length_cons, Nat.add_mul]
        have := h (endT o x)
        omega
    show (grow es o (pathF es o t n)).length ≤ _
    rw [Nat.pow_succ]
    exact Nat.le_trans (this _) (Nat.mul_le_mul_right _ ih)
theorem cI_waysC (hc : ∀ e ∈ es, e.2.length ≤ 1) (t : Tx) (n : Nat) : cI (waysC es o (endT o t) n) = ((pathF es o t n).length : Nat) := by
  have h := waysC_sum (o := o) (lin_m es) hc t n fun _ => 1
  rw [← cI_gI, wT_one, Rat.one_mul] at h
  have e : rS ((pathF es o t n).map fun x => wT (fun _ => 1) o x * 1) = (((pathF es o t n).length : Nat) : Rat) := by
    rw [← rS_len]
    congr 1
    refine List.map_congr_left fun t _ => ?_
    rw [wT_one, Rat.mul_one]
  rw [e] at h
  exact_mod_cast h
theorem waysC_fr (hes : es.length ≤ 72) (c : Tx) : ∀ n, ∀ e ∈ waysC es o c n, FrZ n e.2
  | 0, e, he => by rw [List.mem_singleton.mp he]; exact ⟨by show (0 : Int) ≤ 1; decide, Fr.one⟩
  | n + 1, e, he => fold_fr _ (W := []) (fun _ h => nomatch h) (items_fr hes (waysC_fr hes c n)) e he
theorem waysC_nd (c : Tx) : ∀ n, (ks (waysC es o c n)).Nodup
  | 0 => by show [c].Nodup; simp
  | n + 1 => wfold_nd _ (by show ([] : List Tx).Nodup; simp)
theorem waysC_keys {c : Tx} {n : Nat} {k : Tx} (h : k ∈ ks (waysC es o c n)) : k = c ∨ ∃ e ∈ es, k = endT o (e.1 ++ e.2) := by
  cases n with
  | zero => exact .inl (List.mem_singleton.mp h)
  | succ n =>
    rcases fold_keys _ _ k h with h | h
    · exact nomatch h
    · obtain ⟨e, he, rfl⟩ := List.mem_map.mp h
      obtain ⟨f, hf, he⟩ := List.mem_flatMap.mp he
      obtain ⟨l, hl, rfl⟩ := List.mem_map.mp he
      exact .inr ⟨(f.1, l), row_mem2.mp (List.mem_filter.mp hl).1, rfl⟩
theorem waysC_len (c : Tx) (n : Nat) : (waysC es o c n).length ≤ es.length + 1 := by
  have h := List.Nodup.length_le_of_subset (l₂ := c :: es.map fun e => endT o (e.1 ++ e.2)) (waysC_nd c n) fun k hk => by
    rcases waysC_keys hk with h | ⟨e, he, h⟩
    · rw [h]; exact List.mem_cons_self
    · rw [h]; exact List.mem_cons_of_mem _ (List.mem_map.mpr ⟨e, he, rfl⟩)
  unfold ks at h
  simpa using h
theorem waysC_ctx {c : Tx} {n : Nat} (ho : o ≤ 3) (h3 : c.length ≤ 3) {k : Tx} (h : k ∈ ks (waysC es o c n)) : k.length ≤ 3 := by
  rcases waysC_keys h with rfl | ⟨e, _, rfl⟩
  · exact h3
  · unfold endT; simp; omega
/-- any prefix of what a turn adds is small -/
theorem preC_sz (hb : Bk es) {t : Tx} {n : Nat} (hn : n + 1 ≤ 9) (hp : (pathF es o t (n + 1)).length ≤ lim) {dn rest : List It3} (h : stepW es o (waysC es o (endT o t) n) = dn ++ rest) (k : Tx) : sz 3200 (wv (dn.foldl wadd []) k).2 := by
  have all := items_fr hb.n (o := o) (waysC_fr (o := o) hb.n (endT o t) n)
  rw [h] at all
  have a1 := fold_fr dn (W := []) (fun _ h => nomatch h) fun e he => all e (List.mem_append_left _ he)
  have tot : cI (stepW es o (waysC es o (endT o t) n)) = ((pathF es o t (n + 1)).length : Nat) := by
    have := cI_waysC (o := o) (fun e he => (hb.c e he).2.2) t (n + 1)
    show cI _ = _
    rw [← this]
    show _ = cI ((stepW es o (waysC es o (endT o t) n)).foldl wadd [])
    rw [cI_fold]
    show _ = ([] : List Int).sum + _
    simp
  rw [h, cI_app] at tot
  have r0 := cI_ge (its := rest) fun e he => (all e (List.mem_append_right _ he)).1
  rcases wv_or (dn.foldl wadd []) k with z | z
  · rw [z]; exact sz_mono sz0 (by decide)
  · have f := a1 _ z
    have le := cI_mem (fun e he => (a1 e he).1) z
    rw [cI_fold] at le
    have e0 : cI [] = 0 := rfl
    have hl := lim_val
    refine f.2.sz hn ?_
    have := f.1
    simp only at le this ⊢
    omega
theorem waysC_sz (hb : Bk es) {t : Tx} {n : Nat} (hn : n ≤ 9) (hp : (pathF es o t n).length ≤ lim) {e : It3} (he : e ∈ waysC es o (endT o t) n) : sz 3200 e.2.2 := by
  have f := waysC_fr (o := o) hb.n (endT o t) n e he
  have le := cI_mem (fun e he => (waysC_fr (o := o) hb.n (endT o t) n e he).1) he
  rw [cI_waysC (fun e he => (hb.c e he).2.2)] at le
  have hl := lim_val
  refine f.2.sz hn ?_
  have := f.1
  omega
/-! ### those that end -/
def mEnd (es : List Ev) (W : Wt) : Int := ((W.filter fun e => decide ((e.1, ([] : Tx)) ∈ es)).map fun e => e.2.1).sum
def qEnd (es : List Ev) (W : Wt) : Rat := gI (fun v => v.2) (fun c => pq es (c, [])) W
/-- whether the turn is looked at -/
def tn (t : Tx) (n : Nat) : Bool := !(t == []) || decide (0 < n)
def endM (es : List Ev) (o : Nat) (t : Tx) (n : Nat) : Int := ((List.range n).map fun i => if tn t i = true then mEnd es (waysC es o (endT o t) i) else 0).sum
def endQ (es : List Ev) (o : Nat) (t : Tx) (n : Nat) : Rat := rS ((List.range n).map fun i => if tn t i = true then qEnd es (waysC es o (endT o t) i) else 0)
theorem qEnd_sum (hc : ∀ e ∈ es, e.2.length ≤ 1) (t : Tx) (n : Nat) : wT (pq es) o t * qEnd es (waysC es o (endT o t) n) = rS ((pathF es o t n).map (shareQ es o)) := by
  unfold qEnd
  rw [waysC_sum (lin_q es) hc t n]
  congr 1
  refine List.map_congr_left fun x _ => ?_
  rw [share_wT]
theorem mEnd_sum (hc : ∀ e ∈ es, e.2.length ≤ 1) (t : Tx) (n : Nat) : mEnd es (waysC es o (endT o t) n) = (((pathF es o t n).filter fun x => decide ((endT o x, ([] : Tx)) ∈ es)).length : Nat) := by
  have h1 := sum_ind es (fun c => decide ((c, ([] : Tx)) ∈ es)) (waysC es o (endT o t) n)
  have h2 := waysC_sum (o := o) (lin_m es) hc t n fun c => if decide ((c, ([] : Tx)) ∈ es) = true then 1 else 0
  rw [wT_one, Rat.one_mul, h1] at h2
  have h3 := sum_ind2 (fun x => decide ((endT o x, ([] : Tx)) ∈ es)) (pathF es o t n)
  have e : (pathF es o t n).map (fun x => wT (fun _ => 1) o x * (if decide ((endT o x, ([] : Tx)) ∈ es) = true then (1 : Rat) else 0)) = (pathF es o t n).map fun x => if decide ((endT o x, ([] : Tx)) ∈ es) = true then (1 : Rat) else 0 := by
    refine List.map_congr_left fun x _ => ?_
    rw [wT_one, Rat.one_mul]
  rw [e, h3] at h2
  unfold mEnd
  exact_mod_cast h2
/-! ### all of them -/
def begL (es : List Ev) (o : Nat) (t : Tx) : List Tx := (List.range (9 - t.length)).flatMap fun i => if tn t i = true then (pathF es o t i).filter fun x => decide (0 < shareQ es o x) else []
theorem begL_mem (hc : ∀ e ∈ es, e.2.length ≤ 1) {t x : Tx} : x ∈ begL es o t ↔ (1 ≤ x.length ∧ x.length ≤ 8 ∧ 0 < shareQ es o x) ∧ t.length ≤ x.length ∧ x.take t.length = t := by
  unfold begL
  rw [List.mem_flatMap]
  constructor
  · rintro ⟨i, hi, hx⟩
    have hi := List.mem_range.mp hi
    by_cases z : tn t i = true
    · rw [if_pos z, List.mem_filter, decide_eq_true_eq, pathF_mem hc] at hx
      obtain ⟨⟨h1, h2, _⟩, h3⟩ := hx
      refine ⟨⟨?_, by omega, h3⟩, by omega, h2⟩
      unfold tn at z
      rw [Bool.or_eq_true, decide_eq_true_eq] at z
      rcases z with z | z
      · have : t ≠ [] := by simpa using z
        have : t.length ≠ 0 := fun q => this (List.length_eq_zero_iff.mp q)
        omega
      · omega
    · rw [if_neg z] at hx; exact nomatch hx
  · rintro ⟨⟨h1, h2, h3⟩, h4, h5⟩
    refine ⟨x.length - t.length, List.mem_range.mpr (by omega), ?_⟩
    have z : tn t (x.length - t.length) = true := by
      unfold tn
      rw [Bool.or_eq_true, decide_eq_true_eq]
      by_cases q : t = []
      · right; rw [q]; show 0 < x.length - 0; omega
      · left; simpa using q
    rw [if_pos z, List.mem_filter, decide_eq_true_eq, pathF_mem hc]
    refine ⟨⟨by omega, h5, fun i _ hi => ?_⟩, h3⟩
    exact share_iff.mp h3 _ (by rw [evs_e]; exact List.mem_map.mpr ⟨i, List.mem_range.mpr (by omega), rfl⟩)
theorem begL_nd (hc : ∀ e ∈ es, e.2.length ≤ 1) (t : Tx) : (begL es o t).Nodup := by
  unfold begL
  refine nd_flat ?_ fun i _ => ?_
  · refine List.pairwise_lt_range.imp fun {i j} hij x hx hy => ?_
    have len : ∀ k, x ∈ (if tn t k = true then (pathF es o t k).filter fun x => decide (0 < shareQ es o x) else []) → x.length = t.length + k := fun k h => by
      split at h
      · exact ((pathF_mem hc).mp (List.mem_filter.mp h).1).1
      · exact nomatch h
    have := len i hx
    have := len j hy
    omega
  · split
    · exact (pathF_nd hc t i).filter _
    · exact List.nodup_nil
end
section
variable {b : List Tx} {o : Nat}
theorem begL_good (hc : ∀ e ∈ evB o b, e.2.length ≤ 1) (t : Tx) : (begL (evB o b) o t).Perm (goodW b o (evW 8 t)) := by
  refine (List.perm_ext_iff_of_nodup (begL_nd hc t) (good_nd hc)).mpr fun x => ?_
  rw [begL_mem hc, good_mem hc, fit_ev]
  simp only [Bool.and_eq_true, decide_eq_true_eq, beq_iff_eq]
  constructor
  · rintro ⟨⟨h1, h2, h3⟩, h4, h5⟩; exact ⟨⟨h1, h2, h3⟩, ⟨h1, h2⟩, h4, h5⟩
  · rintro ⟨⟨h1, h2, h3⟩, _, h4, h5⟩; exact ⟨⟨h1, h2, h3⟩, h4, h5⟩
theorem endQ_fit (hc : ∀ e ∈ evB o b, e.2.length ≤ 1) {t : Tx} : wT (pq (evB o b)) o t * endQ (evB o b) o t (9 - t.length) = fitQ b o (evW 8 t) := by
  unfold endQ fitQ
  rw [← rS_mul, ← rS_perm ((begL_good hc t).map _)]
  unfold begL
  rw [rS_flat]
  congr 1
  refine List.map_congr_left fun i _ => ?_
  by_cases z : tn t i = true
  · rw [if_pos z, if_pos z, qEnd_sum hc, rS_filter0]
    intro x _ h
    have h := of_decide_eq_false h
    exact Rat.le_antisymm (Rat.not_lt.mp h) (share_ge _ _ _)
  · rw [if_neg z, if_neg z, Rat.mul_zero]; rfl
theorem len_flat {α β : Type} (f : α → List β) : ∀ l : List α, ((l.flatMap f).length : Int) = (l.map fun a => ((f a).length : Int)).sum
  | [] => rfl
  | a :: l => by rw [List.flatMap_cons, List.length_append, Int.natCast_add, len_flat f l, List.map_cons, List.sum_cons]
theorem endM_good (hc : ∀ e ∈ evB o b, e.2.length ≤ 1) {t : Tx} (ht : ∀ i, i < t.length → cStep t o i ∈ evB o b) : endM (evB o b) o t (9 - t.length) = ((goodW b o (evW 8 t)).length : Nat) := by
  rw [← (begL_good hc t).length_eq]
  unfold endM begL
  rw [len_flat]
  congr 1
  refine List.map_congr_left fun i _ => ?_
  by_cases z : tn t i = true
  · rw [if_pos z, if_pos z, mEnd_sum hc]
    congr 2
    refine List.filter_congr fun x hx => ?_
    rw [decide_eq_decide]
    obtain ⟨h1, h2, h3⟩ := (pathF_mem hc).mp hx
    rw [share_iff]
    constructor
    · intro he e hev
      rw [evs_e] at hev
      obtain ⟨j, hj, rfl⟩ := List.mem_map.mp hev
      have hj := List.mem_range.mp hj
      by_cases q1 : j < t.length
      · have ex : x = t ++ x.drop t.length := by
          conv => lhs; rw [← List.take_append_drop t.length x, h2]
        rw [ex, step_app q1]
        exact ht j q1
      · by_cases q2 : j < x.length
        · exact h3 j (by omega) q2
        · have : j = x.length := by omega
          subst this
          have : cStep x o x.length = (endT o x, []) := by unfold cStep; rw [List.take_length, List.drop_length]; rfl
          rw [this]; exact he
    · intro h
      have := h (cStep x o x.length) (by rw [evs_e]; exact List.mem_map.mpr ⟨x.length, List.mem_range.mpr (by omega), rfl⟩)
      have e : cStep x o x.length = (endT o x, []) := by unfold cStep; rw [List.take_length, List.drop_length]; rfl
      rw [e] at this; exact this
  · rw [if_neg z, if_neg z]; rfl
end
end
end KN
set_option maxHeartbeats 400000
/-! RO: ended, evaluated -/
namespace KN
open PySem PySem.Spec PyProof.Rows L2
noncomputable section
def eI : Ga → R Fl := fSeq (fSet 14 (bCall g_end_of (bCons (bVar 1) (bCons (b2 dAdd (bVar 10) (bVar 11)) bNil)))) (fSeq (fSet 15 (bGet (bRd 9) (bVar 14) (bTup (bCons (bC (.int 0)) (bCons (bTup (bCons (bC (.int 0)) (bCons (bC (.int 1)) bNil))) bNil))))) (fSeq (fSet 16 (bCall g_times (bCons (bVar 13) (bCons (bCall g_part_of (bCons (bVar 0) (bCons (bVar 10) (bCons (bVar 11) bNil)))) bNil)))) (fPut 9 (bVar 14) (bTup (bCons (b2 dAdd (b2 dIx (bVar 15) (bC (.int 0))) (bVar 12)) (bCons (bCall g_added (bCons (b2 dIx (bVar 15) (bC (.int 1))) (bCons (bVar 16) bNil))) bNil))))))
def eL : Ga → R Fl := fIf (tVal (b2 dNe (bVar 11) (bC (.str [])))) eI fNil
def eEnd : Ga → R Fl := fIf (tAnd (tVal (b2 dIn (bC (.str [])) (bGet (bVar 0) (bVar 10) (bC (.dic []))))) (tOr (tVal (b2 dNe (bVar 2) (bC (.str [])))) (tVal (b2 dGt (bVar 8) (bC (.int 0)))))) (fSeq (fSet 6 (b2 dAdd (bVar 6) (bVar 12))) (fSet 7 (bCall g_added (bCons (bVar 7) (bCons (bCall g_times (bCons (bVar 13) (bCons (bCall g_part_of (bCons (bVar 0) (bCons (bVar 10) (bCons (bC (.str [])) bNil)))) bNil))) bNil))))) fNil
def eC : Ga → R Fl := fSeq (fBd (bdT [12, 13]) (b2 dIx (bVar 5) (bVar 10))) (fSeq eEnd (fForE (bGet (bVar 0) (bVar 10) (bC (.dic []))) (bdN 11) eL))
def eT : Ga → R Fl := fSeq (fOwn 9 (bC (.dic []))) (fSeq (fForE (bVar 5) (bdN 10) eC) (fFz 9 (fSet 5 (bVar 9))))
theorem m_ended_e : m_ended = fSeq (fSet 4 (bCall g_end_of (bCons (bVar 1) (bCons (bVar 2) bNil)))) (fSeq (fSet 5 (bDic1 (bVar 4) (bTup (bCons (bC (.int 1)) (bCons (bTup (bCons (bC (.int 1)) (bCons (bC (.int 1)) bNil))) bNil))))) (fSeq (fSet 6 (bC (.int 0))) (fSeq (fSet 7 (bTup (bCons (bC (.int 0)) (bCons (bC (.int 1)) bNil)))) (fSeq (fForI (iR1 (b2 dAdd (bVar 3) (bC (.int 1)))) (bdN 8) eT) (fRet (bTup (bCons (bVar 6) (bCons (bVar 7) bNil)))))))) := rfl
structure En (es : List Ev) (o : Nat) (t : Tx) (X : D) (M : Int) (Q : Rat) (k : Nat) (γ : Ga) : Prop where
  len : γ.length = 17
  tb : At γ 0 (tblD (tabOf es))
  oo : At γ 1 (.int o)
  x : At γ 2 (.str t)
  s : At γ 5 X
  m : At γ 6 (.int M)
  q : At γ 7 (frD Q)
  kk : At γ 8 (.int (0 + (k : Nat)))
section
variable {es : List Ev} {o : Nat} {t : Tx} {X : D} {M : Int} {Q : Rat} {k : Nat} {γ : Ga}
theorem En.set {s : Sl} {j : Nat} (F : En es o t X M Q k γ) (h1 : 9 ≤ j) : En es o t X M Q k (γ.set j s) :=
  ⟨by simp [F.len], F.tb.set (by omega), F.oo.set (by omega), F.x.set (by omega), F.s.set (by omega), F.m.set (by omega), F.q.set (by omega), F.kk.set (by omega)⟩
theorem eI_ok (hes : es.length ≤ 72) (F : En es o t X M Q k γ) {c l : Tx} {m : Int} {q : Rat} {W : Wt} (h10 : At γ 10 (.str c)) (h11 : At γ 11 (.str l)) (h12 : At γ 12 (.int m)) (h13 : At γ 13 (frD q)) (h9 : Ao' γ 9 (.dic (wD W)))
    (hcl : c.length + l.length ≤ 500) (nd : (ks W).Nodup) (hW : W.length < 900000) {a b : Nat} (ha : sz a q) (hb : sz b (wv W (endT o (c ++ l))).2) (hab : a + 8 + b ≤ 8000) :
    ∃ γ', eI γ = .ok (.nx γ') ∧ En es o t X M Q k γ' ∧ At γ' 10 (.str c) ∧ At γ' 12 (.int m) ∧ At γ' 13 (frD q) ∧ Ao' γ' 9 (.dic (wD (wadd W (endT o (c ++ l), (m, q * pq es (c, l)))))) := by
  have en := end_ok o (t := c ++ l) (by simp; omega)
  have pt := part_ok (es := es) (by omega) c l
  have tm := times_ok ha (pq_sz (es := es) (by omega) (c, l)) (by omega)
  have ad := added_ok hb (sz_mul ha (pq_sz (es := es) (by omega) (c, l))) (by omega)
  have cc : dAdd (.str c) (.str l) = .ok (.str (c ++ l)) := by
    show (if c.length + l.length ≤ lim then R.ok (D.str (c ++ l)) else .no) = _
    rw [if_pos (by rw [lim_val]; omega)]
  have gw := get_wD W (endT o (c ++ l))
  have pw := put_wD nd (endT o (c ++ l)) ((wv W (endT o (c ++ l))).1 + m, (wv W (endT o (c ++ l))).2 + q * pq es (c, l))
  have ew : wadd W (endT o (c ++ l), (m, q * pq es (c, l))) = pt' W (endT o (c ++ l)) ((wv W (endT o (c ++ l))).1 + m, (wv W (endT o (c ++ l))).2 + q * pq es (c, l)) := rfl
  rw [ew]
  have lw : (wD W).length < lim := by unfold wD; rw [List.length_map, lim_val]; omega
  have l2 : 2 ≤ lim := by decide
  generalize endT o (c ++ l) = kk at *
  generalize wv W kk = v at *
  generalize pq es (c, l) = p at *
  have t0 := F.tb
  have t1 := F.oo
  have hl := F.len
  unfold eI
  have e10 : fSet 14 (bCall g_end_of (bCons (bVar 1) (bCons (b2 dAdd (bVar 10) (bVar 11)) (bNil)))) γ = .ok (.nx (γ.set 14 (.va (.str kk)))) := set_e (by
    simp [t1, h10, h11, cc, en])
  rw [seq_nx e10]
  have a14 : At (γ.set 14 (.va (.str kk))) 14 (.str kk) := At.new (by omega)
  have e11 : fSet 15 (bGet (bRd 9) (bVar 14) (bTup (bCons (bC (.int 0)) (bCons (bTup (bCons (bC (.int 0)) (bCons (bC (.int 1)) (bNil)))) (bNil))))) (γ.set 14 (.va (.str kk))) = .ok (.nx ((γ.set 14 (.va (.str kk))).set 15 (.va (wE v)))) := set_e (by
    have h9' := Ao'.set (s := .va (.str kk)) h9 (j := 14) (by omega)
    unfold bGet
    generalize wD W = WD at *
    simp only [bRd_e, h9', bVar_e, a14, bTup_e, bCons_e, bNil_e, bC_e, R.bind, List.length_cons, List.length_nil, l2, if_true, gw])
  rw [seq_nx e11]
  have F1 : En es o t X M Q k ((γ.set 14 (.va (.str kk))).set 15 (.va (wE v))) := (F.set (by omega)).set (by omega)
  have g9 : Ao' ((γ.set 14 (.va (.str kk))).set 15 (.va (wE v))) 9 (.dic (wD W)) := (h9.set (by omega)).set (by omega)
  have g10 : At ((γ.set 14 (.va (.str kk))).set 15 (.va (wE v))) 10 (.str c) := (h10.set (by omega)).set (by omega)
  have g11 : At ((γ.set 14 (.va (.str kk))).set 15 (.va (wE v))) 11 (.str l) := (h11.set (by omega)).set (by omega)
  have g12 : At ((γ.set 14 (.va (.str kk))).set 15 (.va (wE v))) 12 (.int m) := (h12.set (by omega)).set (by omega)
  have g13 : At ((γ.set 14 (.va (.str kk))).set 15 (.va (wE v))) 13 (frD q) := (h13.set (by omega)).set (by omega)
  have g14 : At ((γ.set 14 (.va (.str kk))).set 15 (.va (wE v))) 14 (.str kk) := a14.set (by omega)
  have g15 : At ((γ.set 14 (.va (.str kk))).set 15 (.va (wE v))) 15 (wE v) := At.new (by simp; omega)
  generalize (γ.set 14 (.va (.str kk))).set 15 (.va (wE v)) = γ1 at *
  have t0 := F1.tb
  have hl1 := F1.len
  have e12 : fSet 16 (bCall g_times (bCons (bVar 13) (bCons (bCall g_part_of (bCons (bVar 0) (bCons (bVar 10) (bCons (bVar 11) (bNil))))) (bNil)))) γ1 = .ok (.nx (γ1.set 16 (.va (frD (q * p))))) := set_e (by
    generalize tblD (tabOf es) = T at *
    simp [t0, g10, g11, g13, pt, tm])
  rw [seq_nx e12]
  have k9 : Ao' (γ1.set 16 (.va (frD (q * p)))) 9 (.dic (wD W)) := g9.set (by omega)
  have k12 : At (γ1.set 16 (.va (frD (q * p)))) 12 (.int m) := g12.set (by omega)
  have k14 : At (γ1.set 16 (.va (frD (q * p)))) 14 (.str kk) := g14.set (by omega)
  have k15 : At (γ1.set 16 (.va (frD (q * p)))) 15 (wE v) := g15.set (by omega)
  have k16 : At (γ1.set 16 (.va (frD (q * p)))) 16 (frD (q * p)) := At.new (by omega)
  refine ⟨(γ1.set 16 (.va (frD (q * p)))).set 9 (.ow (.dic (wD (pt' W kk (v.1 + m, v.2 + q * p))))), ?_, (F1.set (by omega)).set (by omega), (g10.set (by omega)).set (by omega), k12.set (by omega), (g13.set (by omega)).set (by omega), List.getElem?_set_self (by simp; omega)⟩
  have ok : owK (γ1.set 16 (.va (frD (q * p)))) 9 = some (wD W) := by unfold owK; rw [k9]
  unfold fPut
  rw [ok]
  simp only
  have val : bTup (bCons (b2 dAdd (b2 dIx (bVar 15) (bC (.int 0))) (bVar 12)) (bCons (bCall g_added (bCons (b2 dIx (bVar 15) (bC (.int 1))) (bCons (bVar 16) (bNil)))) (bNil))) (γ1.set 16 (.va (frD (q * p)))) = .ok (wE (v.1 + m, v.2 + q * p)) := by
    unfold wE at k15 ⊢
    generalize γ1.set 16 (.va (frD (q * p))) = γ2 at *
    simp [k12, k15, k16, at0, at1, ad, l2]
  rw [val, k14.v]
  show (if (wD W).length < lim then R.ok (Fl.nx (List.set (γ1.set 16 (.va (frD (q * p)))) 9 (.ow (.dic (putD (wD W) kk (wE (v.1 + m, v.2 + q * p))))))) else R.no) = _
  rw [if_pos lw, pw]
theorem eL_loop (hes : es.length ≤ 72) (F : En es o t X M Q k γ) {c : Tx} {m : Int} {q : Rat} {W : Wt} (h10 : At γ 10 (.str c)) (h12 : At γ 12 (.int m)) (h13 : At γ 13 (frD q)) (h9 : Ao' γ 9 (.dic (wD W)))
    {ls : List Tx} (hc : c.length ≤ 400) (hls : ∀ l ∈ ls, l.length ≤ 8 ∧ chs l) (nd : (ks W).Nodup) (hW : W.length + ls.length < 900000) {a b : Nat} (ha : sz a q) (hab : a + 8 + b ≤ 8000)
    (hb : ∀ (dn : List Tx) (k : Tx), (∃ rest, ls = dn ++ rest) → sz b (wv ((items3 es o c m q dn).foldl wadd W) k).2) :
    ∃ γ', forGo (bdN 11) eL (ls.map .str) γ = .ok (.nx γ') ∧ En es o t X M Q k γ' ∧ At γ' 10 (.str c) ∧ At γ' 12 (.int m) ∧ At γ' 13 (frD q) ∧ Ao' γ' 9 (.dic (wD ((items3 es o c m q ls).foldl wadd W))) := by
  have len := fold_len
  obtain ⟨γ', l1, r⟩ := forGo_inv (bd := bdN 11) (inj := D.str) (l0 := ls) (body := eL) (I := fun dn γ => En es o t X M Q k γ ∧ At γ 10 (.str c) ∧ At γ 12 (.int m) ∧ At γ 13 (frD q) ∧ Ao' γ 9 (.dic (wD ((items3 es o c m q dn).foldl wadd W)))) (γ := γ) (fun dn l rest γ hr hI => by
    obtain ⟨F, h10, h12, h13, h9⟩ := hI
    obtain ⟨hl8, hlc⟩ := hls l (by rw [hr]; simp)
    have hlen := F.len
    have F1 : En es o t X M Q k (γ.set 11 (.va (.str l))) := F.set (by omega)
    have g11 : At (γ.set 11 (.va (.str l))) 11 (.str l) := At.new (by omega)
    have g10 : At (γ.set 11 (.va (.str l))) 10 (.str c) := h10.set (by omega)
    have g12 : At (γ.set 11 (.va (.str l))) 12 (.int m) := h12.set (by omega)
    have g13 : At (γ.set 11 (.va (.str l))) 13 (frD q) := h13.set (by omega)
    have g9 := Ao'.set (s := .va (.str l)) h9 (j := 11) (by omega)
    have ne : dNe (.str l) (.str []) = .ok (.bl (!(l == []))) := by
      rw [dNe_p (by rw [pl_str]; exact hlc.all) (by simp), eqv_str]
    by_cases z : l = []
    · subst z
      have ne : dNe (.str []) (.str []) = .ok (.bl false) := ne
      have e : items3 es o c m q (dn ++ [[]]) = items3 es o c m q dn := by unfold items3; simp
      refine ⟨_, rfl, γ.set 11 (.va (.str [])), .inl ?_, F1, g10, g12, g13, by rw [e]; exact g9⟩
      exact if_f (by simp [g11, ne])
    · have zb : (l == []) = false := by simpa using z
      rw [zb] at ne
      have e : items3 es o c m q (dn ++ [l]) = items3 es o c m q dn ++ [(endT o (c ++ l), (m, q * pq es (c, l)))] := by unfold items3; simp [z]
      have li := items_len es o c m q dn
      have hdl : dn.length < ls.length := by rw [hr]; simp
      obtain ⟨γ', r1, r2, r4, r5, r6, r7⟩ := eI_ok hes F1 (l := l) g10 g11 g12 g13 g9 (by omega) (wfold_nd _ nd) (by have := len (items3 es o c m q dn) W; omega) ha (hb dn _ ⟨l :: rest, hr⟩) hab
      refine ⟨_, rfl, γ', .inl ?_, r2, r4, r5, r6, by rw [e, List.foldl_append]; exact r7⟩
      unfold eL
      rw [fIf_e]
      have tv : tVal (b2 dNe (bVar 11) (bC (.str []))) (γ.set 11 (.va (.str l))) = .ok true := by
        rw [tVal_e, b2_e, g11.v]
        simp only [bC_e, R.bind, ne]
        rfl
      rw [tv]
      exact r1) ⟨F, h10, h12, h13, h9⟩
  exact ⟨γ', l1, r⟩
/-- what one end adds -/
def mOne (es : List Ev) (t : Tx) (k : Nat) (e : It3) : Int := if (decide ((e.1, ([] : Tx)) ∈ es) && tn t k) = true then e.2.1 else 0
def qOne (es : List Ev) (t : Tx) (k : Nat) (e : It3) : Rat := if (decide ((e.1, ([] : Tx)) ∈ es) && tn t k) = true then e.2.2 * pq es (e.1, []) else 0
theorem eEnd_ok (hes : es.length ≤ 72) (F : En es o t X M Q k γ) (ht : chs t) {e : It3} (h10 : At γ 10 (.str e.1)) (h12 : At γ 12 (.int e.2.1)) (h13 : At γ 13 (frD e.2.2)) {W : Wt} (h9 : Ao' γ 9 (.dic (wD W)))
    {a b : Nat} (ha : sz a e.2.2) (hb : sz b Q) (hab : a + 8 + b ≤ 8000) :
    ∃ γ', eEnd γ = .ok (.nx γ') ∧ En es o t X (M + mOne es t k e) (Q + qOne es t k e) k γ' ∧ At γ' 10 (.str e.1) ∧ At γ' 12 (.int e.2.1) ∧ At γ' 13 (frD e.2.2) ∧ Ao' γ' 9 (.dic (wD W)) := by
  have pt := part_ok (es := es) (by omega) e.1 []
  have tm := times_ok ha (pq_sz (es := es) (by omega) (e.1, [])) (by omega)
  have ad := added_ok hb (sz_mul ha (pq_sz (es := es) (by omega) (e.1, []))) (by omega)
  have gt := get_tbl (tabOf es) e.1
  have ir := in_row (es := es) e.1 []
  have t0 := F.tb
  have t2 := F.x
  have t6 := F.m
  have t7 := F.q
  have t8 := F.kk
  have hl := F.len
  have ne := neNilT ht
  have cnd : tAnd (tVal (b2 dIn (bC (.str [])) (bGet (bVar 0) (bVar 10) (bC (.dic []))))) (tOr (tVal (b2 dNe (bVar 2) (bC (.str [])))) (tVal (b2 dGt (bVar 8) (bC (.int 0))))) γ = .ok (decide ((e.1, ([] : Tx)) ∈ es) && tn t k) := by
    have c1 : tVal (b2 dIn (bC (.str [])) (bGet (bVar 0) (bVar 10) (bC (.dic [])))) γ = .ok (decide ((e.1, ([] : Tx)) ∈ es)) := by
      have bg : bGet (bVar 0) (bVar 10) (bC (.dic [])) γ = .ok (.dic (rowD (rowOf (tabOf es) e.1))) := by
        unfold bGet
        rw [t0.v, h10.v]
        simp only [R.bind, bC_e]
        unfold tblD
        simp only
        rw [gt]
      rw [tVal_e, b2_e, bC_e, bg]
      show ((dIn (.str []) (.dic (rowD (rowOf (tabOf es) e.1)))).bind tB) = _
      rw [ir]; rfl
    have c2 : tOr (tVal (b2 dNe (bVar 2) (bC (.str [])))) (tVal (b2 dGt (bVar 8) (bC (.int 0)))) γ = .ok (tn t k) := by
      have d1 : tVal (b2 dNe (bVar 2) (bC (.str []))) γ = .ok (!(t == [])) := by
        rw [tVal_e, b2_e, t2.v]
        show ((dNe (.str t) (.str [])).bind tB) = _
        rw [ne]; rfl
      have d2 : tVal (b2 dGt (bVar 8) (bC (.int 0))) γ = .ok (decide (0 < k)) := by
        rw [tVal_e, b2_e, t8.v]
        show R.ok (decide ((0 : Int) < 0 + (k : Nat))) = _
        congr 1
        rw [decide_eq_decide]; omega
      unfold tn
      rw [tOr_e, d1]
      cases (!(t == [])) with
      | true => rfl
      | false => exact d2
    rw [tAnd_e, c1]
    cases decide ((e.1, ([] : Tx)) ∈ es) with
    | false => rfl
    | true => exact c2
  unfold eEnd mOne qOne
  cases z : (decide ((e.1, ([] : Tx)) ∈ es) && tn t k) with
  | false =>
    rw [z] at cnd
    refine ⟨γ, if_f cnd, ?_, h10, h12, h13, h9⟩
    rw [if_neg (by decide), if_neg (by decide), Int.add_zero, Rat.add_zero]
    exact F
  | true =>
    rw [z] at cnd
    rw [if_pos rfl, if_pos rfl, fIf_e, cnd]
    have e6 : fSet 6 (b2 dAdd (bVar 6) (bVar 12)) γ = .ok (.nx (γ.set 6 (.va (.int (M + e.2.1))))) := set_e (by simp [t6, h12])
    refine ⟨(γ.set 6 (.va (.int (M + e.2.1)))).set 7 (.va (frD (Q + e.2.2 * pq es (e.1, [])))), ?_, ?_, ?_, ?_, ?_, ?_⟩
    · show fSeq _ _ γ = _
      rw [seq_nx e6]
      have a0 := At.set (s := .va (.int (M + e.2.1))) t0 (j := 6) (by omega)
      have a7 := At.set (s := .va (.int (M + e.2.1))) t7 (j := 6) (by omega)
      have a10 := At.set (s := .va (.int (M + e.2.1))) h10 (j := 6) (by omega)
      have a13 := At.set (s := .va (.int (M + e.2.1))) h13 (j := 6) (by omega)
      refine set_e ?_
      generalize tblD (tabOf es) = T at *
      generalize γ.set 6 (.va (.int (M + e.2.1))) = γ1 at *
      generalize e.2.2 * pq es (e.1, []) = QP at *
      generalize pq es (e.1, []) = P1 at *
      simp [a0, a7, a10, a13, pt, tm, ad]
    · exact ⟨by simp [hl], (t0.set (by omega)).set (by omega), (F.oo.set (by omega)).set (by omega), (t2.set (by omega)).set (by omega), (F.s.set (by omega)).set (by omega), (At.new (by omega)).set (by omega), At.new (by simp; omega), (t8.set (by omega)).set (by omega)⟩
    · exact (h10.set (by omega)).set (by omega)
    · exact (h12.set (by omega)).set (by omega)
    · exact (h13.set (by omega)).set (by omega)
    · exact (h9.set (by omega)).set (by omega)
end
end
end KN
set_option maxHeartbeats 400000
/-! RP: ended, its turns; part_begun, how_many_begun, share_begun, likeliest_begun -/
namespace KN
open PySem PySem.Spec PyProof.Rows L2
noncomputable section
section
variable {es : List Ev} {o : Nat} {t : Tx}
theorem mOne_sum (t : Tx) (k : Nat) : ∀ W : Wt, (W.map (mOne es t k)).sum = if tn t k = true then mEnd es W else 0
  | [] => by unfold mEnd; split <;> rfl
  | e :: W => by
    have ih := mOne_sum t k W
    rw [List.map_cons, List.sum_cons, ih]
    unfold mOne mEnd
    by_cases z : tn t k = true
    · rw [if_pos z, if_pos z, z, Bool.and_true, List.filter_cons]
      by_cases y : decide ((e.1, ([] : Tx)) ∈ es) = true
      · rw [if_pos y, if_pos y, List.map_cons, List.sum_cons]
      · rw [if_neg y, if_neg y, Int.zero_add]
    · rw [if_neg z, if_neg z]
      have z : tn t k = false := by simpa using z
      rw [z, Bool.and_false, if_neg (by decide), Int.add_zero]
theorem qOne_sum (t : Tx) (k : Nat) : ∀ W : Wt, rS (W.map (qOne es t k)) = if tn t k = true then qEnd es W else 0
  | [] => by unfold qEnd gI; split <;> rfl
  | e :: W => by
    have ih := qOne_sum t k W
    rw [List.map_cons, rS_cons, ih]
    unfold qOne
    by_cases z : tn t k = true
    · rw [if_pos z, if_pos z, z, Bool.and_true]
      unfold qEnd gI
      rw [List.map_cons, rS_cons]
      by_cases y : decide ((e.1, ([] : Tx)) ∈ es) = true
      · rw [if_pos y]
      · rw [if_neg y]
        have : pq es (e.1, []) = 0 := Decidable.byContradiction fun h => y (decide_eq_true (pq_iff.mp h))
        show 0 + _ = e.2.2 * pq es (e.1, []) + _
        rw [this, Rat.mul_zero]
    · rw [if_neg z, if_neg z]
      have z : tn t k = false := by simpa using z
      rw [z, Bool.and_false, if_neg (by decide), Rat.add_zero]
theorem p3_9 {j : Nat} (h : j ≤ 9) : 3 ^ j ≤ 20000 := Nat.le_trans (Nat.pow_le_pow_right (by decide) h) (by decide)
theorem endQ_succ (n : Nat) : endQ es o t (n + 1) = endQ es o t n + if tn t n = true then qEnd es (waysC es o (endT o t) n) else 0 := by
  unfold endQ
  rw [List.range_succ, List.map_append, List.map_cons, List.map_nil, rS_snoc]
theorem endM_succ (n : Nat) : endM es o t (n + 1) = endM es o t n + if tn t n = true then mEnd es (waysC es o (endT o t) n) else 0 := by
  unfold endM
  rw [List.range_succ, List.map_append, List.map_cons, List.map_nil, List.sum_append]
  simp
theorem part_fr (hb : Bk es) (h3 : ∀ c, (nxt es c).length ≤ 3) {k : Nat} (hk : k ≤ 8) {dn rest : List It3} (e : waysC es o (endT o t) k = dn ++ rest) : Fr 9 20000 (rS (dn.map (qOne es t k))) := by
  rw [qOne_sum]
  split
  · have all := waysC_fr (o := o) hb.n (endT o t) k
    rw [e] at all
    have f := gI_fr hb.n [] (W := dn) fun x hx => all x (List.mem_append_left _ hx)
    have f := f.le (k := 9) (by omega)
    have tot := cI_waysC (o := o) (fun e he => (hb.c e he).2.2) t k
    rw [e, cI_app] at tot
    have r0 := cI_ge (its := rest) fun x hx => (all x (List.mem_append_right _ hx)).1
    have pw := pathF_pow (o := o) h3 t k
    have p9 := p3_9 (j := k) (by omega)
    obtain ⟨a, ha, hl⟩ := f
    exact ⟨a, ha, Nat.le_trans hl (Nat.mul_le_mul_right _ (by omega))⟩
  · exact Fr.zero' _ _
theorem endQ_fr (hb : Bk es) (h3 : ∀ c, (nxt es c).length ≤ 3) : ∀ n, n ≤ 9 → Fr 9 (20000 * n) (endQ es o t n)
  | 0, _ => Fr.zero' _ _
  | n + 1, h => by
    have ih := endQ_fr hb h3 n (by omega)
    have p := part_fr (o := o) (t := t) hb h3 (k := n) (by omega) (dn := waysC es o (endT o t) n) (rest := []) (by simp)
    rw [qOne_sum] at p
    rw [endQ_succ, Nat.mul_succ]
    exact ih.add p
theorem eC_loop (hb : Bk es) (h3 : ∀ c, (nxt es c).length ≤ 3) (ho : o ≤ 3) (ht : chs t) {k : Nat} (hk : k ≤ 8) {γ : Ga} (F : En es o t (.dic (wD (waysC es o (endT o t) k))) (endM es o t k) (endQ es o t k) k γ) (h9 : Ao' γ 9 (.dic (wD []))) :
    ∃ γ', forGo (bdN 10) eC ((waysC es o (endT o t) k).map fun e => .str e.1) γ = .ok (.nx γ') ∧ En es o t (.dic (wD (waysC es o (endT o t) k))) (endM es o t (k + 1)) (endQ es o t (k + 1)) k γ' ∧ Ao' γ' 9 (.dic (wD (waysC es o (endT o t) (k + 1)))) := by
  have len := waysC_len (es := es) (o := o) (endT o t) k
  have slen := step_len es o (waysC es o (endT o t) k)
  have sl2 : (stepW es o (waysC es o (endT o t) k)).length ≤ 73 * 72 := Nat.le_trans slen (Nat.mul_le_mul (by have := hb.n; omega) hb.n)
  have hp : (pathF es o t k).length ≤ lim := by have := pathF_pow (o := o) h3 t k; have := p3_9 (j := k) (by omega); rw [lim_val]; omega
  have hp' : (pathF es o t (k + 1)).length ≤ lim := by have := pathF_pow (o := o) h3 t (k + 1); have := p3_9 (j := k + 1) (by omega); rw [lim_val]; omega
  have e3 : (endT o t).length ≤ 3 := by unfold endT; simp; omega
  obtain ⟨γ', l1, F', h9'⟩ := forGo_inv (bd := bdN 10) (inj := fun e : It3 => D.str e.1) (l0 := waysC es o (endT o t) k) (body := eC) (I := fun dn γ => En es o t (.dic (wD (waysC es o (endT o t) k))) (endM es o t k + (dn.map (mOne es t k)).sum) (endQ es o t k + rS (dn.map (qOne es t k))) k γ ∧ Ao' γ 9 (.dic (wD ((stepW es o dn).foldl wadd [])))) (γ := γ) (fun dn e rest γ hr hI => by
    obtain ⟨F, h9⟩ := hI
    have he : e ∈ waysC es o (endT o t) k := by rw [hr]; simp
    have hl := F.len
    have hk' : e.1 ∈ ks (waysC es o (endT o t) k) := List.mem_map.mpr ⟨e, he, rfl⟩
    have ctx := waysC_ctx ho e3 hk'
    have look := look_wD (waysC_nd _ k) he
    have szq := (endQ_fr (o := o) (t := t) hb h3 k (by omega)).add (part_fr (o := o) (t := t) hb h3 hk hr)
    have szq := szq.sz (by omega) (by omega)
    generalize hM : endM es o t k + (dn.map (mOne es t k)).sum = MM at *
    generalize hQ : endQ es o t k + rS (dn.map (qOne es t k)) = QQ at *
    have F1 := F.set (s := .va (.str e.1)) (j := 10) (by omega)
    have a10 : At (γ.set 10 (.va (.str e.1))) 10 (.str e.1) := At.new (by omega)
    have a9 := Ao'.set (s := .va (.str e.1)) h9 (j := 10) (by omega)
    have hs : stepW es o (waysC es o (endT o t) k) = stepW es o dn ++ (items3 es o e.1 e.2.1 e.2.2 (rowl es e.1) ++ stepW es o rest) := by
      rw [hr]; unfold stepW; rw [List.flatMap_append, List.flatMap_cons]
    have hs2 : stepW es o (dn ++ [e]) = stepW es o dn ++ items3 es o e.1 e.2.1 e.2.2 (rowl es e.1) := by
      unfold stepW; rw [List.flatMap_append]; simp
    have a5 := F1.s
    have eb : fBd (bdT [12, 13]) (b2 dIx (bVar 5) (bVar 10)) (γ.set 10 (.va (.str e.1))) = .ok (.nx (((γ.set 10 (.va (.str e.1))).set 12 (.va (.int e.2.1))).set 13 (.va (frD e.2.2)))) := by
      unfold fBd
      rw [b2_e, a5.v, a10.v]
      have : dIx (.dic (wD (waysC es o (endT o t) k))) (.str e.1) = .ok (wE e.2) := by
        show o2r _ = _
        rw [look]; rfl
      simp only [R.bind, this]
      rfl
    generalize hγ : γ.set 10 (.va (.str e.1)) = γ1 at *
    have hl1 := F1.len
    have F2 := (F1.set (s := .va (.int e.2.1)) (j := 12) (by omega)).set (s := .va (frD e.2.2)) (j := 13) (by omega)
    have b10 : At ((γ1.set 12 (.va (.int e.2.1))).set 13 (.va (frD e.2.2))) 10 (.str e.1) := (a10.set (by omega)).set (by omega)
    have b9 : Ao' ((γ1.set 12 (.va (.int e.2.1))).set 13 (.va (frD e.2.2))) 9 (.dic (wD ((stepW es o dn).foldl wadd []))) := (a9.set (by omega)).set (by omega)
    have b12 : At ((γ1.set 12 (.va (.int e.2.1))).set 13 (.va (frD e.2.2))) 12 (.int e.2.1) := (At.new (by omega)).set (by omega)
    have b13 : At ((γ1.set 12 (.va (.int e.2.1))).set 13 (.va (frD e.2.2))) 13 (frD e.2.2) := At.new (by simp; omega)
    have rl := rowl_len es e.1
    have dlen : (stepW es o dn).length ≤ 73 * 72 := by
      have := congrArg List.length hs
      simp only [List.length_append] at this
      omega
    generalize hγ2 : (γ1.set 12 (.va (.int e.2.1))).set 13 (.va (frD e.2.2)) = γ2 at *
    have sze := waysC_sz hb (by omega) hp he
    obtain ⟨γ3, x1, F3, c10, c12, c13, c9⟩ := eEnd_ok hb.n F2 ht b10 b12 b13 b9 sze szq (by decide)
    obtain ⟨γ4, r1, r2, r4, r5, r6, r7⟩ := eL_loop hb.n F3 (c := e.1) (m := e.2.1) (q := e.2.2) (W := (stepW es o dn).foldl wadd []) (ls := rowl es e.1) c10 c12 c13 c9 (by omega) (fun l hl => by
        have := hb.c _ (row_mem2.mp hl)
        exact ⟨by have := this.2.2; simp only at this; omega, this.2.1⟩) (wfold_nd _ (by show ([] : List Tx).Nodup; simp)) (by
        have h1 := fold_len (stepW es o dn) []
        have h2 := hb.n
        have h3 := lim_val
        simp only [List.length_nil] at h1
        omega) (a := 3200) (b := 3200) sze (by decide) (fun ds k' ⟨rs, hrs⟩ => by
        rw [← List.foldl_append]
        refine preC_sz hb (by omega) hp' (rest := items3 es o e.1 e.2.1 e.2.2 rs ++ stepW es o rest) ?_ k'
        rw [hs, hrs]
        unfold items3
        rw [List.filter_append, List.map_append]
        simp only [List.append_assoc])
    refine ⟨_, rfl, γ4, .inl ?_, ?_, by rw [hs2, List.foldl_append]; exact r7⟩
    · show eC (γ.set 10 (.va (.str e.1))) = _
      rw [hγ]
      unfold eC
      rw [seq_nx eb, seq_nx x1]
      have t0 := F3.tb
      have gt := get_tbl (tabOf es) e.1
      refine forE_d (es := rowD (rowOf (tabOf es) e.1)) ?_ (by rw [keys_row]; exact r1)
      unfold bGet
      rw [t0.v, c10.v]
      simp only [R.bind, bC_e]
      unfold tblD
      simp only
      rw [gt]
    · rw [List.map_append, List.map_singleton, List.sum_append, List.map_append, List.map_singleton, rS_snoc, ← Int.add_assoc, hM, ← Rat.add_assoc, hQ]
      simpa using r2) ⟨by rw [List.map_nil, List.map_nil, rS_nil, Rat.add_zero]; simpa using F, h9⟩
  rw [mOne_sum, qOne_sum, ← endM_succ, ← endQ_succ] at F'
  exact ⟨γ', l1, F', h9'⟩
theorem ended_ok (hb : Bk es) (h3 : ∀ c, (nxt es c).length ≤ 3) (ho : o ≤ 3) (ht : chs t) (hl : t.length ≤ 500) {n : Nat} (hn : n ≤ 8) : g_ended [tblD (tabOf es), .int o, .str t, .int n] = .ok (.tup [.int (endM es o t (n + 1)), frD (endQ es o t (n + 1))]) := by
  have eo := end_ok o (t := t) (by omega)
  unfold g_ended
  refine fn_rt ?_
  rw [m_ended_e]
  show fSeq _ _ [.va (tblD (tabOf es)), .va (.int o), .va (.str t), .va (.int n), .un, .un, .un, .un, .un, .un, .un, .un, .un, .un, .un, .un, .un] = _
  obtain ⟨γ', l1, F', _⟩ := forGo_inv (bd := bdN 8) (inj := fun i : Nat => D.int (0 + (i : Nat))) (l0 := List.range (n + 1)) (body := eT)
    (I := fun dn γ => (∃ j, En es o t (.dic (wD (waysC es o (endT o t) dn.length))) (endM es o t dn.length) (endQ es o t dn.length) j γ) ∧ True)
    (γ := [.va (tblD (tabOf es)), .va (.int o), .va (.str t), .va (.int n), .va (.str (endT o t)), .va (.dic (wD (waysC es o (endT o t) 0))), .va (.int 0), .va (frD 0), .va (.int (0 + (0 : Nat))), .un, .un, .un, .un, .un, .un, .un, .un]) (fun dn i rest γ hr hI => by
      obtain ⟨⟨j, F⟩, _⟩ := hI
      obtain ⟨hi1, hi2⟩ := range_split hr
      have hlen := F.len
      have F0 : En es o t (.dic (wD (waysC es o (endT o t) dn.length))) (endM es o t dn.length) (endQ es o t dn.length) dn.length (γ.set 8 (.va (.int (0 + (i : Nat))))) :=
        ⟨by simp [hlen], F.tb.set (by omega), F.oo.set (by omega), F.x.set (by omega), F.s.set (by omega), F.m.set (by omega), F.q.set (by omega), by rw [hi1]; exact At.new (by omega)⟩
      have F1 := F0.set (s := .ow (.dic [])) (j := 9) (by omega)
      have a9 : Ao' ((γ.set 8 (.va (.int (0 + (i : Nat))))).set 9 (.ow (.dic []))) 9 (.dic (wD [])) := List.getElem?_set_self (by simp; omega)
      obtain ⟨γ2, r1, F2, r9⟩ := eC_loop hb h3 ho ht (k := dn.length) (by omega) F1 a9
      have l2 := F2.len
      refine ⟨_, rfl, (γ2.set 9 (.va (.dic (wD (waysC es o (endT o t) (dn.length + 1)))))).set 5 (.va (.dic (wD (waysC es o (endT o t) (dn.length + 1))))), .inl ?_, ⟨dn.length, ?_⟩, trivial⟩
      · show eT (γ.set 8 (.va (.int (0 + (i : Nat))))) = _
        unfold eT
        rw [seq_nx (γ' := (γ.set 8 (.va (.int (0 + (i : Nat))))).set 9 (.ow (.dic []))) rfl]
        rw [seq_nx (γ' := γ2) (forE_d (es := wD (waysC es o (endT o t) dn.length)) F1.s.v (by rw [keys_wD]; exact r1))]
        rw [fFz_e, r9]
        simp only
        refine set_e (At.v (At.new (by omega)))
      · rw [List.length_append]
        have F3 := F2.set (s := .va (.dic (wD (waysC es o (endT o t) (dn.length + 1))))) (j := 9) (by omega)
        exact ⟨by simp [l2], F3.tb.set (by omega), F3.oo.set (by omega), F3.x.set (by omega), At.new (by simp; omega), F3.m.set (by omega), F3.q.set (by omega), F3.kk.set (by omega)⟩) ⟨⟨0, ⟨rfl, rfl, rfl, rfl, rfl, rfl, rfl, rfl⟩⟩, trivial⟩
  obtain ⟨j, F'⟩ := F'
  rw [List.length_range] at F'
  have l2 : 2 ≤ lim := by decide
  rw [seq_nx (γ' := [.va (tblD (tabOf es)), .va (.int o), .va (.str t), .va (.int n), .va (.str (endT o t)), .un, .un, .un, .un, .un, .un, .un, .un, .un, .un, .un, .un]) (set_e (by
    generalize tblD (tabOf es) = T
    generalize endT o t = c at *
    simp [eo]))]
  rw [seq_nx (γ' := [.va (tblD (tabOf es)), .va (.int o), .va (.str t), .va (.int n), .va (.str (endT o t)), .va (.dic (wD (waysC es o (endT o t) 0))), .un, .un, .un, .un, .un, .un, .un, .un, .un, .un, .un]) (set_e (by
    show bDic1 _ _ _ = R.ok (D.dic [(endT o t, .tup [.int 1, .tup [.int 1, .int 1]])])
    generalize tblD (tabOf es) = T
    generalize endT o t = c at *
    simp [bDic1, l2]))]
  rw [seq_nx (γ' := [.va (tblD (tabOf es)), .va (.int o), .va (.str t), .va (.int n), .va (.str (endT o t)), .va (.dic (wD (waysC es o (endT o t) 0))), .va (.int 0), .un, .un, .un, .un, .un, .un, .un, .un, .un, .un]) rfl]
  rw [seq_nx (γ' := [.va (tblD (tabOf es)), .va (.int o), .va (.str t), .va (.int n), .va (.str (endT o t)), .va (.dic (wD (waysC es o (endT o t) 0))), .va (.int 0), .va (frD 0), .un, .un, .un, .un, .un, .un, .un, .un, .un]) rfl]
  have ef : fForI (iR1 (b2 dAdd (bVar 3) (bC (.int 1)))) (bdN 8) eT [.va (tblD (tabOf es)), .va (.int o), .va (.str t), .va (.int n), .va (.str (endT o t)), .va (.dic (wD (waysC es o (endT o t) 0))), .va (.int 0), .va (frD 0), .un, .un, .un, .un, .un, .un, .un, .un, .un] = .ok (.nx γ') := by
    unfold fForI
    rw [iR1_s (n := n + 1) (by rw [Int.natCast_add]; rfl) (by omega)]
    have first : forGo (bdN 8) eT ((List.range (n + 1)).map fun i : Nat => D.int (0 + (i : Nat))) [.va (tblD (tabOf es)), .va (.int o), .va (.str t), .va (.int n), .va (.str (endT o t)), .va (.dic (wD (waysC es o (endT o t) 0))), .va (.int 0), .va (frD 0), .un, .un, .un, .un, .un, .un, .un, .un, .un] = forGo (bdN 8) eT ((List.range (n + 1)).map fun i : Nat => D.int (0 + (i : Nat))) [.va (tblD (tabOf es)), .va (.int o), .va (.str t), .va (.int n), .va (.str (endT o t)), .va (.dic (wD (waysC es o (endT o t) 0))), .va (.int 0), .va (frD 0), .va (.int (0 + (0 : Nat))), .un, .un, .un, .un, .un, .un, .un, .un] := by
      rw [List.range_succ_eq_map]
      rfl
    show forGo _ _ _ _ = _
    rw [first]
    exact l1
  rw [seq_nx ef]
  refine ret_e ?_
  have m6 := F'.m
  have m7 := F'.q
  generalize frD (endQ es o t (n + 1)) = QF at *
  simp [m6, m7, l2]
end
end
end KN
set_option maxHeartbeats 400000
/-! RQ: names begun: how many, their share, the likeliest -/
namespace KN
open PySem PySem.Spec PyProof.Rows L2
noncomputable section
section
variable {es : List Ev} {b : List Tx} {o : Nat} {t : Tx}
abbrev begT (t : Tx) : Prop := t = [] ∨ nameOk t
theorem begT.chs (h : begT t) : chs t := by
  rcases h with rfl | h
  · exact fun c hc => nomatch hc
  · exact h.chs
theorem begT.len (h : begT t) : t.length ≤ 8 := by
  rcases h with rfl | h
  · show 0 ≤ 8; omega
  · exact h.2.1
theorem need_begun_ok (hb : bookOk b) (ho : 1 ≤ o ∧ o ≤ 3) (ht : begT t) : g_need_begun [bkD b, .int (o : Nat), .str t] = .ok .non := by
  have n1 := needBook_ok hb
  have n2 := needOrder_ok ho
  have ne := neNilT ht.chs
  unfold g_need_begun
  rw [fnD_e]
  show (match m_need_begun [.va (bkD b), .va (.int (o : Nat)), .va (.str t)] with | _ => _) = _
  unfold m_need_begun
  rcases ht with rfl | h
  · have ne : dNe (.str []) (.str []) = .ok (.bl false) := ne
    generalize bkD b = B at *
    simp [n1, n2, ne]
  · have n3 := needName_ok h
    have : (t == []) = false := by
      cases t with
      | nil => have := h.1; simp at this
      | cons _ _ => rfl
    rw [this] at ne
    generalize bkD b = B at *
    simp [n1, n2, n3, ne]
/-! ### part_begun -/
def pbB : Ga → R Fl := fSet 3 (bCall g_times (bCons (bVar 3) (bCons (bCall g_part_of (bCons (bVar 0) (bCons (bCall g_end_of (bCons (bVar 1) (bCons (bSl (bVar 2) pNo (pSo (bVar 4))) bNil))) (bCons (b2 dIx (bVar 2) (bVar 4)) bNil)))) bNil)))
theorem m_part_begun_e : m_part_begun = fSeq (fSet 3 (bTup (bCons (bC (.int 1)) (bCons (bC (.int 1)) bNil)))) (fSeq (fForI (iR1 (bN dLen (bCons (bVar 2) bNil))) (bdN 4) pbB) (fRet (bVar 3))) := rfl
def wTn (es : List Ev) (o : Nat) (t : Tx) (n : Nat) : Rat := ((List.range n).map (cStep t o)).foldl (fun q e => q * pq es e) 1
theorem wTn_succ (n : Nat) : wTn es o t (n + 1) = wTn es o t n * pq es (cStep t o n) := by
  unfold wTn
  rw [List.range_succ, List.map_append, List.foldl_append]; rfl
theorem wTn_all : wTn es o t t.length = wT (pq es) o t := rfl
theorem wTn_sz (hes : es.length ≤ 72) : ∀ n, sz (1 + 8 * n) (wTn es o t n)
  | 0 => show sz 1 1 from ⟨by decide, by decide, by decide⟩
  | n + 1 => by
    rw [wTn_succ, Nat.mul_succ, ← Nat.add_assoc]
    exact sz_mul (wTn_sz hes n) (pq_sz (by omega) _)
theorem wTn_ne : ∀ n, wTn es o t n ≠ 0 ↔ ∀ i, i < n → cStep t o i ∈ es
  | 0 => ⟨fun _ i h => by omega, fun _ => by show (1 : Rat) ≠ 0; decide⟩
  | n + 1 => by
    rw [wTn_succ]
    constructor
    · intro h i hi
      have h1 : wTn es o t n ≠ 0 := fun z => h (by rw [z, Rat.zero_mul])
      have h2 : pq es (cStep t o n) ≠ 0 := fun z => h (by rw [z, Rat.mul_zero])
      by_cases q : i < n
      · exact (wTn_ne n).mp h1 i q
      · have : i = n := by omega
        rw [this]; exact pq_iff.mp h2
    · intro h z
      rcases Rat.mul_eq_zero.mp z with z | z
      · exact (wTn_ne n).mpr (fun i hi => h i (by omega)) z
      · exact pq_iff.mpr (h n (by omega)) z
theorem part_begun_ok (hes : es.length ≤ 72) (ht : t.length ≤ 8) : g_part_begun [tblD (tabOf es), .int (o : Nat), .str t] = .ok (frD (wT (pq es) o t)) := by
  obtain ⟨γ', l1, t4, rfl⟩ := forGo_inv (bd := bdN 4) (inj := fun i : Nat => D.int (0 + (i : Nat))) (l0 := List.range t.length) (body := pbB)
    (I := fun dn γ => ∃ t4, γ = [.va (tblD (tabOf es)), .va (.int (o : Nat)), .va (.str t), .va (frD (wTn es o t dn.length)), t4]) (γ := [.va (tblD (tabOf es)), .va (.int (o : Nat)), .va (.str t), .va (frD (wTn es o t 0)), .un]) (fun dn i rest γ hr hI => by
      obtain ⟨t4, rfl⟩ := hI
      obtain ⟨rfl, hi2⟩ := range_split hr
      have lt : dn.length < t.length := by omega
      refine ⟨_, rfl, _, .inl (set_e (d := frD (wTn es o t (dn.length + 1))) ?_), .va (.int (0 + (dn.length : Nat))), by rw [List.length_append]; rfl⟩
      generalize dn.length = i at *
      have c1 := cut1 (x := t) (by rw [lim_val]; omega) i
      have eo := end_ok o (t := t.take i) (by simp; omega)
      have ix : dIx (.str t) (.int (i : Nat)) = .ok (.str ((t.drop i).take 1)) := by
        rw [ixStr (by rw [lim_val]; omega) (List.getElem?_eq_getElem lt), List.drop_eq_getElem_cons lt]
        rfl
      have po := part_ok (es := es) (by omega) (endT o (t.take i)) ((t.drop i).take 1)
      have tm := times_ok (wTn_sz (o := o) (t := t) hes i) (pq_sz (es := es) (by omega) (cStep t o i)) (by omega)
      rw [← wTn_succ] at tm
      have po : g_part_of [tblD (tabOf es), .str (endT o (t.take i)), .str ((t.drop i).take 1)] = .ok (frD (pq es (cStep t o i))) := po
      generalize tblD (tabOf es) = T at *
      generalize frD (wTn es o t (i + 1)) = Q2 at *
      generalize frD (wTn es o t i) = Q1 at *
      generalize frD (pq es (cStep t o i)) = Q0 at *
      generalize endT o (t.take i) = c at *
      simp [pbB, bSl, pNo, pSo, toI, c1, eo, ix, po, tm]) ⟨.un, rfl⟩
  rw [List.length_range, wTn_all] at l1
  unfold g_part_begun
  refine fn_rt ?_
  rw [m_part_begun_e]
  show fSeq _ _ [.va (tblD (tabOf es)), .va (.int (o : Nat)), .va (.str t), .un, .un] = _
  rw [seq_nx (γ' := [.va (tblD (tabOf es)), .va (.int (o : Nat)), .va (.str t), .va (frD (wTn es o t 0)), .un]) rfl]
  have ef : fForI (iR1 (bN dLen (bCons (bVar 2) bNil))) (bdN 4) pbB [.va (tblD (tabOf es)), .va (.int (o : Nat)), .va (.str t), .va (frD (wTn es o t 0)), .un] = .ok (.nx [.va (tblD (tabOf es)), .va (.int (o : Nat)), .va (.str t), .va (frD (wT (pq es) o t)), t4]) := by
    unfold fForI
    rw [iR1_s (n := t.length) (by
      show (if t.length ≤ lim then R.ok (D.int (t.length : Nat)) else .no) = _
      rw [if_pos (by rw [lim_val]; omega)]) (by omega)]
    exact l1
  rw [seq_nx ef]
  rfl
/-! ### the three -/
theorem len_t (ht : t.length ≤ 8) : dLen [.str t] = .ok (.int (t.length : Nat)) := by
  show (if t.length ≤ lim then R.ok (D.int (t.length : Nat)) else .no) = _
  rw [if_pos (by rw [lim_val]; omega)]
theorem zero_goods (hc : ∀ e ∈ evB o b, e.2.length ≤ 1) (h : wT (pq (evB o b)) o t = 0) : goodW b o (evW 8 t) = [] := by
  have q := endQ_fit (b := b) hc (t := t)
  rw [h, Rat.zero_mul] at q
  cases z : goodW b o (evW 8 t) with
  | nil => rfl
  | cons x l =>
    have := (fit_pos (w := evW 8 t) hc).mpr (by rw [z]; simp)
    rw [← q] at this
    exact absurd this (rlt_irr _)
theorem how_many_begun_ok (g : Gs b) (ho : 1 ≤ o ∧ o ≤ 3) (ht : begT t) : g_how_many_begun [bkD b, .int (o : Nat), .str t] = .ok (.int ((goodW b o (evW 8 t)).length : Nat)) := by
  have hc := g.c ho.2
  have nb := need_begun_ok g.bk ho ht
  have ct := counted_ok g.bk.small o
  have pb := part_begun_ok (t := t) (o := o) (bk_of g.bk ho.2).n ht.len
  have en := ended_ok (bk_of g.bk ho.2) (abz_nxt g.l) ho.2 ht.chs (by have := ht.len; omega) (n := 8 - t.length) (by omega)
  have ll := len_t ht.len
  have n8 : ((8 - t.length : Nat) : Int) = 8 - (t.length : Nat) := by have := ht.len; omega
  rw [n8, show 8 - t.length + 1 = 9 - t.length by have := ht.len; omega] at en
  unfold g_how_many_begun
  refine fn_rt ?_
  show m_how_many_begun [.va (bkD b), .va (.int (o : Nat)), .va (.str t), .un] = _
  unfold m_how_many_begun
  by_cases z : wT (pq (evB o b)) o t = 0
  · rw [zero_goods hc z]
    rw [z] at pb
    have i0 : dIx (frD 0) (.int 0) = .ok (.int 0) := rfl
    have e0 : dEq (.int 0) (.int 0) = .ok (.bl true) := rfl
    generalize tblD (tabOf (evB o b)) = T at *
    generalize bkD b = B at *
    generalize frD 0 = Q at *
    simp [nb, ct, pb, i0, e0]
  · have ms := endM_good (b := b) hc fun i hi => (wTn_ne t.length).mp (by rw [wTn_all]; exact z) i hi
    rw [ms] at en
    have i0 : dIx (frD (wT (pq (evB o b)) o t)) (.int 0) = .ok (.int (wT (pq (evB o b)) o t).num) := rfl
    have e0 : dEq (.int (wT (pq (evB o b)) o t).num) (.int 0) = .ok (.bl false) := by
      rw [dEq_p (by simp) (by simp), eqv_int]
      have : (wT (pq (evB o b)) o t).num ≠ 0 := fun y => z (Rat.num_eq_zero.mp y)
      simp [this]
    generalize frD (endQ (evB o b) o t (9 - t.length)) = Q2 at *
    generalize (wT (pq (evB o b)) o t).num = N at *
    generalize frD (wT (pq (evB o b)) o t) = Q at *
    generalize tblD (tabOf (evB o b)) = T at *
    generalize bkD b = B at *
    simp [nb, ct, pb, i0, e0, ll, en, at0]
theorem share_begun_ok (g : Gs b) (ho : 1 ≤ o ∧ o ≤ 3) (ht : begT t) : g_share_begun [bkD b, .int (o : Nat), .str t] = .ok (frD (fitQ b o (evW 8 t))) := by
  have hc := g.c ho.2
  have hes := (bk_of g.bk ho.2).n
  have nb := need_begun_ok g.bk ho ht
  have ct := counted_ok g.bk.small o
  have pb := part_begun_ok (t := t) (o := o) hes ht.len
  have en := ended_ok (bk_of g.bk ho.2) (abz_nxt g.l) ho.2 ht.chs (by have := ht.len; omega) (n := 8 - t.length) (by omega)
  have ll := len_t ht.len
  have n8 : ((8 - t.length : Nat) : Int) = 8 - (t.length : Nat) := by have := ht.len; omega
  rw [n8, show 8 - t.length + 1 = 9 - t.length by have := ht.len; omega] at en
  have s1 := wTn_sz (o := o) (t := t) hes t.length
  rw [wTn_all] at s1
  have tm := times_ok s1 ((endQ_fr (o := o) (t := t) (bk_of g.bk ho.2) (abz_nxt g.l) (9 - t.length) (by omega)).sz (by omega) (by omega)) (by have := ht.len; omega)
  rw [endQ_fit hc] at tm
  unfold g_share_begun
  refine fn_rt ?_
  show m_share_begun [.va (bkD b), .va (.int (o : Nat)), .va (.str t), .un] = _
  unfold m_share_begun
  generalize frD (fitQ b o (evW 8 t)) = Q3 at *
  generalize frD (endQ (evB o b) o t (9 - t.length)) = Q2 at *
  generalize frD (wT (pq (evB o b)) o t) = Q at *
  generalize tblD (tabOf (evB o b)) = T at *
  generalize bkD b = B at *
  simp [nb, ct, pb, ll, en, at1, tm]
def bestD (b : List Tx) (o : Nat) (t : Tx) : D := match rankL b o (evW 8 t) with
  | [] => .non
  | e :: _ => .str e.2
theorem likeliest_begun_ok (g : Gs b) (ho : 1 ≤ o ∧ o ≤ 3) (ht : begT t) : g_likeliest_begun [bkD b, .int (o : Nat), .str t] = .ok (bestD b o t) := by
  have hc := g.c ho.2
  have nb := need_begun_ok g.bk ho ht
  have hm := how_many_begun_ok g ho ht
  have wg : WiG (evW 8 t) := ⟨by show 8 ≤ 8; omega, ⟨by show t.length ≤ _; have := ht.len; omega, ht.chs⟩, ⟨by show 0 ≤ _; omega, fun c hc => nomatch hc⟩, fun y hy => nomatch hy⟩
  have lk : g_likeliest_of [bkD b, .int (o : Nat), wiD (evW 8 t), .int 1] = _ := likeliest_of_ok g.bk ho (g.e64 o) wg (g.mid (by show 8 ≤ 8; omega)) (many := 1) (by decide)
  have rn := rank_nil (b := b) (o := o) (w := evW 8 t) hc
  unfold g_likeliest_begun bestD
  refine fn_rt ?_
  show m_likeliest_begun [.va (bkD b), .va (.int (o : Nat)), .va (.str t)] = _
  unfold m_likeliest_begun
  cases z : rankL b o (evW 8 t) with
  | nil =>
    rw [rn.mp z] at hm
    have e0 : dEq (.int 0) (.int 0) = .ok (.bl true) := rfl
    have hm : g_how_many_begun [bkD b, .int (o : Nat), .str t] = .ok (.int 0) := hm
    generalize bkD b = B at *
    simp [nb, hm, e0]
  | cons e l =>
    rw [z] at lk
    have pos : (goodW b o (evW 8 t)).length ≠ 0 := fun y => by
      rw [rn.mpr (List.length_eq_zero_iff.mp y)] at z; cases z
    have e0 : dEq (.int ((goodW b o (evW 8 t)).length : Nat)) (.int 0) = .ok (.bl false) := by
      rw [dEq_p (by simp) (by simp), eqv_int]
      simp
      exact fun y => pos (by rw [y]; rfl)
    have lit : D.tup [.int 1, .int 8, .str t, .str [], .tup [], .bl true] = wiD (evW 8 t) := rfl
    have i0 : dIx (.lst (((e :: l).take 1).map hdD)) (.int 0) = .ok (hdD e) := rfl
    have i1 : dIx (hdD e) (.int 1) = .ok (.str e.2) := rfl
    have l6 : 6 ≤ lim := by decide
    have l0 : 0 ≤ lim := by decide
    generalize ((goodW b o (evW 8 t)).length : Int) = N at *
    generalize D.lst (((e :: l).take 1).map hdD) = RK at *
    generalize hdD e = H at *
    generalize wiD (evW 8 t) = W at *
    generalize bkD b = B at *
    simp [nb, hm, e0, lit, lk, i0, i1, l6, l0]
end
end
end KN
set_option maxHeartbeats 400000
/-! RS: the letters behind a text, with their parts -/
namespace KN
open PySem PySem.Spec PyProof.Rows L2
noncomputable section
section
variable {es : List Ev} {b : List Tx} {o : Nat} {t : Tx}
/-- a letter with its part -/
def nlD (e : Hd) : D := .tup [.str e.2, frD e.1]
def nlF (es : List Ev) (c : Tx) (ls : List Tx) : List Hd := ls.foldl (fun acc l => insC acc (pq es (c, l), l)) []
def nlR (es : List Ev) (c : Tx) : List Hd := nlF es c (nxt es c)
theorem nlF_spec (c : Tx) {ls : List Tx} (nd : ls.Nodup) : Srt (nlF es c ls) ∧ ∀ e, e ∈ nlF es c ls ↔ e.2 ∈ ls ∧ e.1 = pq es (c, e.2) := by
  have := rank_fold (fun l => pq es (c, l)) ls [] .nil nd fun e h => nomatch h
  refine ⟨this.1, fun e => ?_⟩
  have h := this.2 e
  unfold nlF; simpa using h
theorem nlF_len (c : Tx) : ∀ (ls : List Tx) (acc : List Hd), (ls.foldl (fun acc l => insC acc (pq es (c, l), l)) acc).length = acc.length + ls.length
  | [], acc => by simp
  | l :: ls, acc => by
    rw [List.foldl_cons, nlF_len c ls]
    have : (insC acc (pq es (c, l), l)).length = acc.length + 1 := by
      unfold insC
      simp only [List.length_append, List.length_take, List.length_drop, List.length_singleton]
      have := (List.takeWhile_sublist (p := fun x => cfB x (pq es (c, l), l)) (l := acc)).length_le
      omega
    rw [this, List.length_cons]; omega
/-- of a list in order those ahead are its beginning -/
theorem srt_count {f : List Hd} (h : Srt f) (e : Hd) : (f.filter fun x => cfB x e).length = (f.takeWhile fun x => cfB x e).length := by
  induction f with
  | nil => rfl
  | cons x f ih =>
    obtain ⟨h1, h2⟩ := List.pairwise_cons.mp h
    rw [List.filter_cons, List.takeWhile_cons]
    by_cases z : cfB x e = true
    · rw [if_pos z, if_pos z, List.length_cons, List.length_cons, ih h2]
    · rw [if_neg z, if_neg z]
      have : f.filter (fun x => cfB x e) = [] := by
        refine List.filter_eq_nil_iff.mpr fun y hy q => z (cf_tr (h1 y hy) q)
      rw [this]
def nlB : Ga → R Fl := fIf (tVal (b2 dNe (bVar 6) (bC (.str [])))) (fSeq (fSet 7 (bCall g_part_of (bCons (bVar 4) (bCons (bVar 3) (bCons (bVar 6) bNil))))) (fSeq (fSet 8 (bN dLen (bCons (bLcO 5 [9] (bdN 9) (tNot (tVal (bCall g_is_less (bCons (b2 dIx (bVar 9) (bC (.int 1))) (bCons (bVar 7) bNil))))) (bVar 9)) bNil))) (fIns 5 (bVar 8) (bTup (bCons (bVar 6) (bCons (bVar 7) bNil)))))) fNil
theorem m_next_letters_e : m_next_letters = fSeq (fExpr (bCall g_need_begun (bCons (bVar 0) (bCons (bVar 1) (bCons (bVar 2) bNil))))) (fSeq (fSet 3 (bCall g_end_of (bCons (bVar 1) (bCons (bVar 2) bNil)))) (fSeq (fSet 4 (bCall g_counted (bCons (bVar 0) (bCons (bVar 1) bNil)))) (fSeq (fOwn 5 (bLst bNil)) (fSeq (fForE (bN dSort (bCons (bGet (bVar 4) (bVar 3) (bC (.dic []))) bNil)) (bdN 6) nlB) (fFz 5 (fRet (bVar 5))))))) := rfl
abbrev Fnl (b : List Tx) (o : Nat) (t c : Tx) (rows : List Hd) (s6 s7 s8 s9 : Sl) : Ga := [.va (bkD b), .va (.int (o : Nat)), .va (.str t), .va (.str c), .va (tblD (tabOf (evB o b))), .ow (.lst (rows.map nlD)), s6, s7, s8, s9]
theorem next_letters_ok (hb : bookOk b) (ho : 1 ≤ o ∧ o ≤ 3) (h64 : (evB o b).length < 64) (ht : begT t) : g_next_letters [bkD b, .int (o : Nat), .str t] = .ok (.lst ((nlR (evB o b) (endT o t)).map nlD)) := by
  have hes := (bk_of hb ho.2).n
  have nb := need_begun_ok hb ho ht
  have ct := counted_ok hb.small o
  have eo := end_ok o (t := t) (by have := ht.len; omega)
  generalize hc : endT o t = c at *
  have srow : dSort [.dic (rowD (rowOf (tabOf (evB o b)) c))] = .ok (.lst ((sortT (ks (rowOf (tabOf (evB o b)) c))).map .str)) := dSort_row (Nat.lt_of_le_of_lt ((tabOk _).rlen _) h64)
  have chl : ∀ l ∈ sortT (ks (rowOf (tabOf (evB o b)) c)), chs l := fun l hl => row_chs (fun e he => ((bk_of hb ho.2).c e he).2.1) ((sortT_perm _).mem_iff.mp hl)
  have asc : (sortT (ks (rowOf (tabOf (evB o b)) c))).Pairwise (· < ·) := by
    have nd : (sortT (ks (rowOf (tabOf (evB o b)) c))).Nodup := (sortT_perm _).nodup_iff.mpr ((tabOk _).rnd c)
    have pw := sortT_pw (ks (rowOf (tabOf (evB o b)) c))
    generalize sortT (ks (rowOf (tabOf (evB o b)) c)) = l at *
    refine (pw.and nd).imp fun {a c} h => ?_
    have h1 := h.1
    unfold leT at h1
    rcases tlt_tot h.2 with z | z
    · exact z
    · simp [z] at h1
  have lenr : (sortT (ks (rowOf (tabOf (evB o b)) c))).length ≤ 64 := by
    rw [(sortT_perm _).length_eq]
    unfold ks
    rw [List.length_map]
    have := (tabOk (evB o b)).rlen c
    omega
  have gt := get_tbl (tabOf (evB o b)) c
  have res : nlR (evB o b) c = nlF (evB o b) c ((sortT (ks (rowOf (tabOf (evB o b)) c))).filter fun l => !(l == [])) := rfl
  rw [res]
  generalize hL : sortT (ks (rowOf (tabOf (evB o b)) c)) = LS at *
  obtain ⟨γ', l1, s6, s7, s8, s9, rfl⟩ := forGo_inv (bd := bdN 6) (inj := D.str) (l0 := LS) (body := nlB)
    (I := fun dn γ => ∃ s6 s7 s8 s9, γ = Fnl b o t c (nlF (evB o b) c (dn.filter fun l => !(l == []))) s6 s7 s8 s9) (γ := Fnl b o t c [] .un .un .un .un) (fun dn l rest γ hr hI => by
      obtain ⟨s6, s7, s8, s9, rfl⟩ := hI
      have hlc := chl l (by rw [hr]; simp)
      have ne := neNilT hlc
      by_cases z : l = []
      · subst z
        have ne : dNe (.str []) (.str []) = .ok (.bl false) := ne
        have e : (dn ++ [([] : Tx)]).filter (fun l => !(l == [])) = dn.filter fun l => !(l == []) := by simp
        refine ⟨_, rfl, Fnl b o t c (nlF (evB o b) c (dn.filter fun l => !(l == []))) (.va (.str [])) s7 s8 s9, .inl (if_f ?_), .va (.str []), s7, s8, s9, by rw [e]⟩
        unfold Fnl
        show (R.bind (dNe (.str []) (.str [])) tB) = _
        rw [ne]; rfl
      · have zb : (l == []) = false := by simpa using z
        rw [zb] at ne
        have e : (dn ++ [l]).filter (fun l => !(l == [])) = (dn.filter fun l => !(l == [])) ++ [l] := by simp [z]
        have dl : dn.length ≤ 64 := by have := congrArg List.length hr; simp at this; omega
        have ndd : (dn.filter fun l => !(l == [])).Nodup := by
          have nd : LS.Nodup := by unfold List.Nodup; exact asc.imp fun {x y} h q => by subst q; exact tlt_irr _ h
          rw [hr] at nd
          exact (List.nodup_append.mp nd).1.filter _
        have sp := nlF_spec (es := evB o b) c ndd
        have fl : (nlF (evB o b) c (dn.filter fun l => !(l == []))).length ≤ 64 := by
          unfold nlF
          rw [nlF_len]
          have := List.length_filter_le (fun l : Tx => !(l == [])) dn
          show 0 + _ ≤ 64
          omega
        have before : ∀ e ∈ nlF (evB o b) c (dn.filter fun l => !(l == [])), e.2 < l := fun e he => by
          have hm := (List.mem_filter.mp ((sp.2 e).mp he).1).1
          rw [hr] at asc
          exact (List.pairwise_append.mp asc).2.2 e.2 hm l (by simp)
        have pz : ∀ e ∈ nlF (evB o b) c (dn.filter fun l => !(l == [])), sz 8 e.1 := fun e he => by
          rw [((sp.2 e).mp he).2]; exact pq_sz (by omega) _
        have po := part_ok (es := evB o b) (by omega) c l
        have pl := pq_sz (es := evB o b) (by omega) (c, l)
        have res2 : nlF (evB o b) c (dn.filter (fun l => !(l == [])) ++ [l]) = insC (nlF (evB o b) c (dn.filter fun l => !(l == []))) (pq (evB o b) (c, l), l) := by
          unfold nlF; rw [List.foldl_append]; rfl
        generalize nlF (evB o b) c (dn.filter fun l => !(l == [])) = FS at *
        generalize pq (evB o b) (c, l) = p at *
        have cnt := srt_count sp.1 (p, l)
        refine ⟨Fnl b o t c FS (.va (.str l)) s7 s8 s9, rfl, Fnl b o t c (insC FS (p, l)) (.va (.str l)) (.va (frD p)) (.va (.int ((FS.takeWhile fun x => cfB x (p, l)).length : Nat))) s9, .inl ?_, .va (.str l), .va (frD p), .va (.int ((FS.takeWhile fun x => cfB x (p, l)).length : Nat)), s9, by rw [e, res2]⟩
        unfold nlB
        have cnd : tVal (b2 dNe (bVar 6) (bC (.str []))) (Fnl b o t c FS (.va (.str l)) s7 s8 s9) = .ok true := by
          show (R.bind (dNe (.str l) (.str [])) tB) = _
          rw [ne]; rfl
        rw [fIf_e, cnd]
        show fSeq _ _ _ = _
        rw [seq_nx (γ' := Fnl b o t c FS (.va (.str l)) (.va (frD p)) s8 s9) (set_e (by
          unfold Fnl
          generalize tblD (tabOf (evB o b)) = T at *
          generalize bkD b = B at *
          generalize frD p = P at *
          generalize FS.map nlD = FD at *
          simp [po]))]
        have lc : bLcO 5 [9] (bdN 9) (tNot (tVal (bCall g_is_less (bCons (b2 dIx (bVar 9) (bC (.int 1))) (bCons (bVar 7) bNil))))) (bVar 9) (Fnl b o t c FS (.va (.str l)) (.va (frD p)) s8 s9) = .ok (.lst ((FS.filter fun x => cfB x (p, l)).map nlD)) := by
          have go := lcGo_fil (bd := bdN 9) (ifs := tNot (tVal (bCall g_is_less (bCons (b2 dIx (bVar 9) (bC (.int 1))) (bCons (bVar 7) bNil))))) (elt := bVar 9) (γ := wipeG (Fnl b o t c FS (.va (.str l)) (.va (frD p)) s8 s9) [9]) (inj := nlD) (p := fun x => cfB x (p, l)) (f := nlD) (l := FS) fun x hx => ⟨Fnl b o t c FS (.va (.str l)) (.va (frD p)) s8 (.va (nlD x)), rfl, by
            have il := isLess_ok (pz x hx) pl (by omega)
            have key : (!decide (x.1 < p)) = cfB x (p, l) := by
              rw [Bool.eq_iff_iff, Bool.not_eq_true', cf_iff, decide_eq_false_iff_not]
              constructor
              · intro h
                have h := Rat.not_lt.mp h
                by_cases q : p = x.1
                · exact .inr ⟨q.symm, before x hx⟩
                · exact .inl (Rat.not_le.mp fun y => q (Rat.le_antisymm h y))
              · rintro (h | ⟨h, _⟩)
                · exact fun y => Rat.not_le.mpr h (Rat.le_of_lt y)
                · rw [h]; exact rlt_irr _
            show ((g_is_less [frD x.1, frD p]).bind tB).bind (fun b => R.ok (!b)) = _
            rw [il]
            show R.ok (!decide (x.1 < p)) = _
            rw [key], fun _ => rfl⟩
          show lcOut _ _ _ _ _ (FS.map nlD) = _
          exact lcOut_e go (by rw [List.length_map, lim_val]; have := List.length_filter_le (fun x => cfB x (p, l)) FS; omega)
        rw [seq_nx (γ' := Fnl b o t c FS (.va (.str l)) (.va (frD p)) (.va (.int ((FS.takeWhile fun x => cfB x (p, l)).length : Nat))) s9) (set_e (by
          rw [bN_e, bCons_e, lc]
          show R.ok (D.int (((FS.filter fun x => cfB x (p, l)).map nlD).length : Nat)) = _
          rw [List.length_map, cnt]))]
        have tk : (FS.takeWhile fun x => cfB x (p, l)).length ≤ 64 := Nat.le_trans (List.takeWhile_sublist _).length_le fl
        show fIns 5 (bVar 8) (bTup (bCons (bVar 6) (bCons (bVar 7) bNil))) _ = _
        have two : 2 ≤ lim := by decide
        have vt : bTup (bCons (bVar 6) (bCons (bVar 7) bNil)) (Fnl b o t c FS (.va (.str l)) (.va (frD p)) (.va (.int ((FS.takeWhile fun x => cfB x (p, l)).length : Nat))) s9) = .ok (nlD (p, l)) := by
          show (if 2 ≤ lim then R.ok (D.tup [.str l, frD p]) else .no) = _
          rw [if_pos two]; rfl
        unfold fIns
        rw [vt]
        show (if (FS.map nlD).length < lim ∧ 0 ≤ (((FS.takeWhile fun x => cfB x (p, l)).length : Nat) : Int) ∧ (((FS.takeWhile fun x => cfB x (p, l)).length : Nat) : Int) < 2 ^ 63 then R.ok (Fl.nx ((Fnl b o t c FS (.va (.str l)) (.va (frD p)) (.va (.int ((FS.takeWhile fun x => cfB x (p, l)).length : Nat))) s9).set 5 (.ow (.lst ((FS.map nlD).take (FS.takeWhile fun x => cfB x (p, l)).length ++ [nlD (p, l)] ++ (FS.map nlD).drop (FS.takeWhile fun x => cfB x (p, l)).length))))) else .no) = _
        rw [if_pos ⟨by rw [List.length_map, lim_val]; omega, by omega, by omega⟩]
        have fin : (FS.map nlD).take (FS.takeWhile fun x => cfB x (p, l)).length ++ [nlD (p, l)] ++ (FS.map nlD).drop (FS.takeWhile fun x => cfB x (p, l)).length = (insC FS (p, l)).map nlD := by
          unfold insC
          rw [List.map_append, List.map_append, List.map_take, List.map_drop]; rfl
        rw [fin]; rfl) ⟨.un, .un, .un, .un, rfl⟩
  unfold g_next_letters
  refine fn_rt ?_
  rw [m_next_letters_e]
  show fSeq _ _ [.va (bkD b), .va (.int (o : Nat)), .va (.str t), .un, .un, .un, .un, .un, .un, .un] = _
  rw [seq_nx (γ' := [.va (bkD b), .va (.int (o : Nat)), .va (.str t), .un, .un, .un, .un, .un, .un, .un]) (by
    generalize bkD b = B at *
    simp [nb])]
  rw [seq_nx (γ' := [.va (bkD b), .va (.int (o : Nat)), .va (.str t), .va (.str c), .un, .un, .un, .un, .un, .un]) (set_e (by
    generalize bkD b = B at *
    simp [eo]))]
  rw [seq_nx (γ' := [.va (bkD b), .va (.int (o : Nat)), .va (.str t), .va (.str c), .va (tblD (tabOf (evB o b))), .un, .un, .un, .un, .un]) (set_e (by
    generalize tblD (tabOf (evB o b)) = T at *
    generalize bkD b = B at *
    simp [ct]))]
  rw [seq_nx (γ' := Fnl b o t c [] .un .un .un .un) rfl]
  rw [seq_nx (forE_e (d := .lst (LS.map .str)) (ds := LS.map .str) (by
    have bg : bGet (bVar 4) (bVar 3) (bC (.dic [])) (Fnl b o t c [] .un .un .un .un) = .ok (.dic (rowD (rowOf (tabOf (evB o b)) c))) := by
      show R.ok ((lookK ((tabOf (evB o b)).map fun e => (e.1, D.dic (rowD e.2))) c).getD (.dic [])) = _
      rw [gt]
    rw [bN_e, bCons_e, bg]
    exact srow) rfl (fun es h => nomatch h) l1)]
  rfl
end
end
end KN
set_option maxHeartbeats 400000
/-! RT: names begun, over the whole -/
namespace KN
open PySem PySem.Spec PyProof.Rows L2
noncomputable section
section
variable {b : List Tx} {o : Nat} {t : Tx}
theorem good_ev (hc : ∀ e ∈ evB o b, e.2.length ≤ 1) {x : Tx} : x ∈ goodW b o (evW 8 t) ↔ (1 ≤ x.length ∧ x.length ≤ 8 ∧ 0 < shareQ (evB o b) o x) ∧ t.length ≤ x.length ∧ x.take t.length = t := by
  rw [good_mem hc, fit_ev]
  simp only [Bool.and_eq_true, decide_eq_true_eq, beq_iff_eq]
  constructor
  · rintro ⟨h, _, h4, h5⟩; exact ⟨h, h4, h5⟩
  · rintro ⟨h, h4, h5⟩; exact ⟨h, ⟨h.1, h.2.1⟩, h4, h5⟩
def selfL (b : List Tx) (o : Nat) (t : Tx) : List Tx := if t ≠ [] ∧ 0 < shareQ (evB o b) o t then [t] else []
theorem good_split (hl : ∀ x ∈ b, ∀ c ∈ x, ltr c) (hc : ∀ e ∈ evB o b, e.2.length ≤ 1) (ht : t.length ≤ 8) : (selfL b o t ++ abz.flatMap fun c => goodW b o (evW 8 (t ++ [c]))).Perm (goodW b o (evW 8 t)) := by
  refine (List.perm_ext_iff_of_nodup ?_ (good_nd hc)).mpr fun x => ?_
  · rw [List.nodup_append]
    refine ⟨by unfold selfL; split <;> simp, nd_flat ?_ fun c _ => good_nd hc, ?_⟩
    · refine List.Pairwise.imp (fun {a c} hac x hx hy => ?_) abz_nd
      have h1 := ((good_ev hc).mp hx).2
      have h2 := ((good_ev hc).mp hy).2
      have e := h1.2.symm.trans ((by rw [List.length_append, List.length_append]; rfl : x.take (t ++ [a]).length = x.take (t ++ [c]).length).trans h2.2)
      have := List.append_cancel_left e
      injection this with q
      exact hac q
    · intro x hx y hy e
      subst e
      unfold selfL at hx
      split at hx
      · rw [List.mem_singleton.mp hx] at hy
        obtain ⟨c, _, hy⟩ := List.mem_flatMap.mp hy
        have := ((good_ev hc).mp hy).2.1
        rw [List.length_append] at this
        simp at this
        omega
      · exact nomatch hx
  · rw [List.mem_append, List.mem_flatMap, good_ev hc]
    constructor
    · rintro (h | ⟨c, _, h⟩)
      · unfold selfL at h
        split at h
        · rename_i q
          rw [List.mem_singleton.mp h]
          have : t.length ≠ 0 := fun z => q.1 (List.length_eq_zero_iff.mp z)
          exact ⟨⟨by omega, ht, q.2⟩, Nat.le_refl _, List.take_length⟩
        · exact nomatch h
      · obtain ⟨h1, h2, h3⟩ := (good_ev hc).mp h
        rw [List.length_append, List.length_singleton] at h2
        refine ⟨h1, by omega, ?_⟩
        have := congrArg (List.take t.length) h3
        rw [List.take_take, List.length_append, Nat.min_eq_left (by omega), List.take_left'] at this
        · exact this
        · rfl
    · rintro ⟨h1, h2, h3⟩
      by_cases q : x.length = t.length
      · left
        have e : x = t := by rw [← h3, List.take_of_length_le (by omega)]
        subst e
        unfold selfL
        rw [if_pos ⟨fun z => by rw [z] at h1; exact absurd h1.1 (by decide), h1.2.2⟩]
        exact List.mem_singleton.mpr rfl
      · right
        have lt : t.length < x.length := by omega
        refine ⟨x[t.length], made_ltr hl h1.2.2 _ (List.getElem_mem lt), (good_ev hc).mpr ⟨h1, by rw [List.length_append]; exact lt, ?_⟩⟩
        rw [List.length_append]
        show x.take (t.length + 1) = _
        rw [List.take_add_one, List.getElem?_eq_getElem lt, h3]; rfl
theorem good_cnt (hl : ∀ x ∈ b, ∀ c ∈ x, ltr c) (hc : ∀ e ∈ evB o b, e.2.length ≤ 1) (ht : t.length ≤ 8) : (goodW b o (evW 8 t)).length = (selfL b o t).length + (abz.map fun c => (goodW b o (evW 8 (t ++ [c]))).length).sum := by
  rw [← (good_split hl hc ht).length_eq, List.length_append, List.length_flatMap]
theorem fit_self (hl : ∀ x ∈ b, ∀ c ∈ x, ltr c) (hc : ∀ e ∈ evB o b, e.2.length ≤ 1) (ht : t.length ≤ 8) : rS (abz.map fun c => fitQ b o (evW 8 (t ++ [c]))) + (if t ≠ [] then shareQ (evB o b) o t else 0) = fitQ b o (evW 8 t) := by
  rw [← sum_head (w := evW 8 t) hl hc (by show 8 ≤ 8; omega)]
  congr 1
  by_cases q : t = []
  · have : ¬ (t ≠ []) := fun z => z q
    rw [if_neg this, if_neg fun z => this z.1]
  · have n0 : t.length ≠ 0 := fun z => q (List.length_eq_zero_iff.mp z)
    rw [if_pos q, if_pos ⟨q, by
      show fitP b (evW 8 t) t = true
      rw [fit_ev, List.take_length]
      simp
      omega⟩]
    rfl
theorem good_allL (hc : ∀ e ∈ evB o b, e.2.length ≤ 1) : (goodW b o (evW 8 [])).length = ((List.range 8).map fun i => (made (evB o b) o (i + 1)).length).sum := by
  unfold goodW allM
  have e : ((List.range (evW 8 []).hi).flatMap fun i => made (evB o b) o (i + 1)).filter (fitP b (evW 8 [])) = (List.range 8).flatMap fun i => made (evB o b) o (i + 1) := by
    refine List.filter_eq_self.mpr ?_
    intro x hx
    obtain ⟨i, hi, hm⟩ := List.mem_flatMap.mp hx
    have hi : i < 8 := List.mem_range.mp hi
    have := (made_mem hc).mp hm
    rw [fit_ev]
    simp
    omega
  rw [e, List.length_flatMap]
theorem best_non (hc : ∀ e ∈ evB o b, e.2.length ≤ 1) : bestD b o t = .non ↔ (goodW b o (evW 8 t)).length = 0 := by
  unfold bestD
  rw [List.length_eq_zero_iff, ← rank_nil hc]
  cases rankL b o (evW 8 t) with
  | nil => exact ⟨fun _ => rfl, fun _ => rfl⟩
  | cons e l => exact ⟨fun h => (by cases h), fun h => (by cases h)⟩
/-! ### letters -/
theorem nlR_spec (es : List Ev) (c : Tx) : Srt (nlR es c) ∧ ∀ e, e ∈ nlR es c ↔ e.2 ∈ nxt es c ∧ e.1 = pq es (c, e.2) := nlF_spec c (nxt_nodup es c)
theorem nlR_perm (es : List Ev) (c : Tx) : ((nlR es c).map (·.2)).Perm (nxt es c) := by
  obtain ⟨s, m⟩ := nlR_spec es c
  refine (List.perm_ext_iff_of_nodup ?_ (nxt_nodup es c)).mpr fun l => ?_
  · unfold List.Nodup
    rw [List.pairwise_map]
    have m2 : ∀ e ∈ nlR es c, e.1 = pq es (c, e.2) := fun e he => ((m e).mp he).2
    generalize nlR es c = R at *
    clear m
    induction R with
    | nil => exact .nil
    | cons e R ih =>
      obtain ⟨s1, s2⟩ := List.pairwise_cons.mp s
      refine .cons (fun f hf q => ?_) (ih s2 fun f hf => m2 f (List.mem_cons_of_mem _ hf))
      have a1 := m2 e List.mem_cons_self
      have a2 := m2 f (List.mem_cons_of_mem _ hf)
      have : e = f := Prod.ext (by rw [a1, a2, q]) q
      have z := s1 f hf
      rw [this, cf_irr] at z
      cases z
  · rw [List.mem_map]
    constructor
    · rintro ⟨e, he, rfl⟩; exact ((m e).mp he).1
    · intro h; exact ⟨(pq es (c, l), l), (m _).mpr ⟨h, rfl⟩, rfl⟩
theorem nlR_sum (es : List Ev) (c : Tx) : rS ((nlR es c).map (·.1)) = rS ((nxt es c).map fun l => pq es (c, l)) := by
  rw [← rS_perm ((nlR_perm es c).map fun l => pq es (c, l)), List.map_map]
  congr 1
  refine List.map_congr_left fun e he => ?_
  exact ((nlR_spec es c).2 e |>.mp he).2
theorem tot_ne {es : List Ev} {c l : Tx} (h : (c, l) ∈ es) : tot es c ≠ 0 := by
  have := count_le_tot es (c, l)
  have := List.count_pos_iff.mpr h
  simp only at *
  omega
theorem nxt_sum {es : List Ev} {c : Tx} (h : tot es c ≠ 0) : rS ((nxt es c).map fun l => pq es (c, l)) + pq es (c, []) = 1 := by
  rw [← row_all h, ← end_row]
  have p : (nxt es c).Perm ((rowl es c).filter fun l => !(l == [])) := (sortT_perm _).filter _
  rw [rS_perm (p.map _), rS_ind, rS_ind, rS_add]
  refine rS_congr fun l _ => ?_
  cases l == [] <;> simp [Rat.add_zero, Rat.zero_add]
theorem pq_ge (es : List Ev) (e : Ev) (h : es.length ≤ 72) : 0 ≤ pq es e := Rat.num_nonneg.mp (pq_sz (by omega) e).1
end
end
end KN
namespace KN
open PySem PySem.Spec PyProof.Rows L2
noncomputable section
abbrev erH : List Nat := [0, 1, 2, 3, 4]
structure ErrSub (K : PySem.W.Frag) (e0 e1 e2 e3 e4 : Addr) : Prop where
  s00 : PySem.W.subIn K (.ref e0) (.ref e0) = some true
  s01 : PySem.W.subIn K (.ref e0) (.ref e1) = some false
  s02 : PySem.W.subIn K (.ref e0) (.ref e2) = some false
  s03 : PySem.W.subIn K (.ref e0) (.ref e3) = some false
  s04 : PySem.W.subIn K (.ref e0) (.ref e4) = some false
  s10 : PySem.W.subIn K (.ref e1) (.ref e0) = some false
  s11 : PySem.W.subIn K (.ref e1) (.ref e1) = some true
  s12 : PySem.W.subIn K (.ref e1) (.ref e2) = some false
  s13 : PySem.W.subIn K (.ref e1) (.ref e3) = some false
  s14 : PySem.W.subIn K (.ref e1) (.ref e4) = some false
  s20 : PySem.W.subIn K (.ref e2) (.ref e0) = some false
  s21 : PySem.W.subIn K (.ref e2) (.ref e1) = some false
  s22 : PySem.W.subIn K (.ref e2) (.ref e2) = some true
  s23 : PySem.W.subIn K (.ref e2) (.ref e3) = some false
  s24 : PySem.W.subIn K (.ref e2) (.ref e4) = some false
  s30 : PySem.W.subIn K (.ref e3) (.ref e0) = some false
  s31 : PySem.W.subIn K (.ref e3) (.ref e1) = some false
  s32 : PySem.W.subIn K (.ref e3) (.ref e2) = some false
  s33 : PySem.W.subIn K (.ref e3) (.ref e3) = some true
  s34 : PySem.W.subIn K (.ref e3) (.ref e4) = some false
  s40 : PySem.W.subIn K (.ref e4) (.ref e0) = some false
  s41 : PySem.W.subIn K (.ref e4) (.ref e1) = some false
  s42 : PySem.W.subIn K (.ref e4) (.ref e2) = some false
  s43 : PySem.W.subIn K (.ref e4) (.ref e3) = some false
  s44 : PySem.W.subIn K (.ref e4) (.ref e4) = some true
def errs_mk {K : PySem.W.Frag} {h : Heap} {mg : Str → Option Value} {e0 e1 e2 e3 e4 L : Addr} (X : K.In h) (G : h.Ns mainGlobals mg) (EL : ErrL K L) (E0 : ErrOne K "NoBook" e0 L) (E1 : ErrOne K "NoOrder" e1 L) (E2 : ErrOne K "NoName" e2 L) (E3 : ErrOne K "NoWish" e3 L) (E4 : ErrOne K "NoNumber" e4 L) (S : ErrSub K e0 e1 e2 e3 e4) : Errs erH K mg where
  e := fun c => match c with
    | 0 => e0
    | 1 => e1
    | 2 => e2
    | 3 => e3
    | 4 => e4
    | _ => e0
  L := L
  g := PySem.W.mg_of X G EL.n
  x := fun c h => by
    simp only [erH, List.mem_cons, List.not_mem_nil, or_false] at h
    rcases h with rfl | rfl | rfl | rfl | rfl
    · exact E0.x X G
    · exact E1.x X G
    · exact E2.x X G
    · exact E3.x X G
    · exact E4.x X G
  c := fun c h => by
    simp only [erH, List.mem_cons, List.not_mem_nil, or_false] at h
    rcases h with rfl | rfl | rfl | rfl | rfl
    · exact E0.c
    · exact E1.c
    · exact E2.c
    · exact E3.c
    · exact E4.c
  val := fun c h => by
    simp only [erH, List.mem_cons, List.not_mem_nil, or_false] at h
    rcases h with rfl | rfl | rfl | rfl | rfl
    · exact kit_val E0.v
    · exact kit_val E1.v
    · exact kit_val E2.v
    · exact kit_val E3.v
    · exact kit_val E4.v
  exm := fun c h => by
    simp only [erH, List.mem_cons, List.not_mem_nil, or_false] at h
    rcases h with rfl | rfl | rfl | rfl | rfl
    · exact PySem.W.exm_ref EL.b EL.hd EL.t E0.l
    · exact PySem.W.exm_ref EL.b EL.hd EL.t E1.l
    · exact PySem.W.exm_ref EL.b EL.hd EL.t E2.l
    · exact PySem.W.exm_ref EL.b EL.hd EL.t E3.l
    · exact PySem.W.exm_ref EL.b EL.hd EL.t E4.l
  kit := fun c i h1 h2 => by
    simp only [erH, List.mem_cons, List.not_mem_nil, or_false] at h1 h2
    rcases h1 with rfl | rfl | rfl | rfl | rfl <;> rcases h2 with rfl | rfl | rfl | rfl | rfl
    · exact kit_cls E0.hd E0.t S.s00 S.s00
    · exact kit_cls E1.hd E1.t S.s01 S.s11
    · exact kit_cls E2.hd E2.t S.s02 S.s22
    · exact kit_cls E3.hd E3.t S.s03 S.s33
    · exact kit_cls E4.hd E4.t S.s04 S.s44
    · exact kit_cls E0.hd E0.t S.s10 S.s00
    · exact kit_cls E1.hd E1.t S.s11 S.s11
    · exact kit_cls E2.hd E2.t S.s12 S.s22
    · exact kit_cls E3.hd E3.t S.s13 S.s33
    · exact kit_cls E4.hd E4.t S.s14 S.s44
    · exact kit_cls E0.hd E0.t S.s20 S.s00
    · exact kit_cls E1.hd E1.t S.s21 S.s11
    · exact kit_cls E2.hd E2.t S.s22 S.s22
    · exact kit_cls E3.hd E3.t S.s23 S.s33
    · exact kit_cls E4.hd E4.t S.s24 S.s44
    · exact kit_cls E0.hd E0.t S.s30 S.s00
    · exact kit_cls E1.hd E1.t S.s31 S.s11
    · exact kit_cls E2.hd E2.t S.s32 S.s22
    · exact kit_cls E3.hd E3.t S.s33 S.s33
    · exact kit_cls E4.hd E4.t S.s34 S.s44
    · exact kit_cls E0.hd E0.t S.s40 S.s00
    · exact kit_cls E1.hd E1.t S.s41 S.s11
    · exact kit_cls E2.hd E2.t S.s42 S.s22
    · exact kit_cls E3.hd E3.t S.s43 S.s33
    · exact kit_cls E4.hd E4.t S.s44 S.s44
  exo := fun c i h1 h2 => by
    simp only [erH, List.mem_cons, List.not_mem_nil, or_false] at h1 h2
    rcases h1 with rfl | rfl | rfl | rfl | rfl <;> rcases h2 with rfl | rfl | rfl | rfl | rfl
    · exact PySem.W.exm_ref E0.b E0.hd E0.t S.s00
    · exact PySem.W.exm_ref E1.b E1.hd E1.t S.s01
    · exact PySem.W.exm_ref E2.b E2.hd E2.t S.s02
    · exact PySem.W.exm_ref E3.b E3.hd E3.t S.s03
    · exact PySem.W.exm_ref E4.b E4.hd E4.t S.s04
    · exact PySem.W.exm_ref E0.b E0.hd E0.t S.s10
    · exact PySem.W.exm_ref E1.b E1.hd E1.t S.s11
    · exact PySem.W.exm_ref E2.b E2.hd E2.t S.s12
    · exact PySem.W.exm_ref E3.b E3.hd E3.t S.s13
    · exact PySem.W.exm_ref E4.b E4.hd E4.t S.s14
    · exact PySem.W.exm_ref E0.b E0.hd E0.t S.s20
    · exact PySem.W.exm_ref E1.b E1.hd E1.t S.s21
    · exact PySem.W.exm_ref E2.b E2.hd E2.t S.s22
    · exact PySem.W.exm_ref E3.b E3.hd E3.t S.s23
    · exact PySem.W.exm_ref E4.b E4.hd E4.t S.s24
    · exact PySem.W.exm_ref E0.b E0.hd E0.t S.s30
    · exact PySem.W.exm_ref E1.b E1.hd E1.t S.s31
    · exact PySem.W.exm_ref E2.b E2.hd E2.t S.s32
    · exact PySem.W.exm_ref E3.b E3.hd E3.t S.s33
    · exact PySem.W.exm_ref E4.b E4.hd E4.t S.s34
    · exact PySem.W.exm_ref E0.b E0.hd E0.t S.s40
    · exact PySem.W.exm_ref E1.b E1.hd E1.t S.s41
    · exact PySem.W.exm_ref E2.b E2.hd E2.t S.s42
    · exact PySem.W.exm_ref E3.b E3.hd E3.t S.s43
    · exact PySem.W.exm_ref E4.b E4.hd E4.t S.s44
def topS (i : Nat) : Stmt := PySem.Challenge.pw_kinnames_k85_whole_begun.main.body.getD i (.Pass ⟨0, 0, 0, 0⟩)
structure Top (K : PySem.W.Frag) (mg : Str → Option Value) where
  er : Errs erH K mg
  a_Search : Addr
  O_Search : ObC K 0 a_Search
  c_Search : Cls K a_Search
  C_Search : mg "Search" = some (.ref a_Search)
  n_Search_found : NoAttr K a_Search "found"
  n_Search_heads : NoAttr K a_Search "heads"
  n_Search_names : NoAttr K a_Search "names"
  n_Search_order : NoAttr K a_Search "order"
  n_Search_rows : NoAttr K a_Search "rows"
  n_Search_wish : NoAttr K a_Search "wish"
  f__law_cell : Addr
  fd__law_cell : FuncData
  F__law_cell : Fun K "_law_cell" "_law_cell" (topS 60) f__law_cell fd__law_cell
  b__law_cell : Binds K fd__law_cell ["_law_script", "_law_k"] []
  m__law_cell : mg "_law_cell" = some (.ref f__law_cell)
  f__law_drawn : Addr
  fd__law_drawn : FuncData
  F__law_drawn : Fun K "_law_drawn" "_law_drawn" (topS 61) f__law_drawn fd__law_drawn
  b__law_drawn : Binds K fd__law_drawn ["_law_script", "_law_k", "_law_many"] []
  m__law_drawn : mg "_law_drawn" = some (.ref f__law_drawn)
  f__law_name : Addr
  fd__law_name : FuncData
  F__law_name : Fun K "_law_name" "_law_name" (topS 62) f__law_name fd__law_name
  b__law_name : Binds K fd__law_name ["_law_script", "_law_at", "_law_most"] []
  m__law_name : mg "_law_name" = some (.ref f__law_name)
  f__law_book : Addr
  fd__law_book : FuncData
  F__law_book : Fun K "_law_book" "_law_book" (topS 63) f__law_book fd__law_book
  b__law_book : Binds K fd__law_book ["_law_script", "_law_at", "_law_many", "_law_most"] []
  m__law_book : mg "_law_book" = some (.ref f__law_book)
  f_lowest : Addr
  fd_lowest : FuncData
  F_lowest : Fun K "lowest" "lowest" (topS 24) f_lowest fd_lowest
  b_lowest : Binds K fd_lowest ["up", "down"] []
  m_lowest : mg "lowest" = some (.ref f_lowest)
  f_added : Addr
  fd_added : FuncData
  F_added : Fun K "added" "added" (topS 25) f_added fd_added
  b_added : Binds K fd_added ["one", "other"] []
  m_added : mg "added" = some (.ref f_added)
  f_end_of : Addr
  fd_end_of : FuncData
  F_end_of : Fun K "end_of" "end_of" (topS 19) f_end_of fd_end_of
  b_end_of : Binds K fd_end_of ["order", "text"] []
  m_end_of : mg "end_of" = some (.ref f_end_of)
  f_counted : Addr
  fd_counted : FuncData
  F_counted : Fun K "counted" "counted" (topS 20) f_counted fd_counted
  b_counted : Binds K fd_counted ["book", "order"] []
  m_counted : mg "counted" = some (.ref f_counted)
  f_listed : Addr
  fd_listed : FuncData
  F_listed : Fun K "listed" "listed" (topS 21) f_listed fd_listed
  b_listed : Binds K fd_listed ["row"] []
  m_listed : mg "listed" = some (.ref f_listed)
  f_is_name : Addr
  fd_is_name : FuncData
  F_is_name : Fun K "is_name" "is_name" (topS 13) f_is_name fd_is_name
  b_is_name : Binds K fd_is_name ["thing"] []
  m_is_name : mg "is_name" = some (.ref f_is_name)
  f_is_book : Addr
  fd_is_book : FuncData
  F_is_book : Fun K "is_book" "is_book" (topS 14) f_is_book fd_is_book
  b_is_book : Binds K fd_is_book ["thing"] []
  m_is_book : mg "is_book" = some (.ref f_is_book)
  f_need_book : Addr
  fd_need_book : FuncData
  F_need_book : Fun K "need_book" "need_book" (topS 15) f_need_book fd_need_book
  b_need_book : Binds K fd_need_book ["book"] []
  m_need_book : mg "need_book" = some (.ref f_need_book)
  f_need_name : Addr
  fd_need_name : FuncData
  F_need_name : Fun K "need_name" "need_name" (topS 17) f_need_name fd_need_name
  b_need_name : Binds K fd_need_name ["name"] []
  m_need_name : mg "need_name" = some (.ref f_need_name)
  f_is_number : Addr
  fd_is_number : FuncData
  F_is_number : Fun K "is_number" "is_number" (topS 12) f_is_number fd_is_number
  b_is_number : Binds K fd_is_number ["thing", "low", "high"] []
  m_is_number : mg "is_number" = some (.ref f_is_number)
  f_need_order : Addr
  fd_need_order : FuncData
  F_need_order : Fun K "need_order" "need_order" (topS 16) f_need_order fd_need_order
  b_need_order : Binds K fd_need_order ["order"] []
  m_need_order : mg "need_order" = some (.ref f_need_order)
  f_behind : Addr
  fd_behind : FuncData
  F_behind : Fun K "behind" "behind" (topS 22) f_behind fd_behind
  b_behind : Binds K fd_behind ["book", "order", "text"] []
  m_behind : mg "behind" = some (.ref f_behind)
  f_need_number : Addr
  fd_need_number : FuncData
  F_need_number : Fun K "need_number" "need_number" (topS 18) f_need_number fd_need_number
  b_need_number : Binds K fd_need_number ["number", "low", "high"] []
  m_need_number : mg "need_number" = some (.ref f_need_number)
  f_need_all : Addr
  fd_need_all : FuncData
  F_need_all : Fun K "need_all" "need_all" (topS 34) f_need_all fd_need_all
  b_need_all : Binds K fd_need_all ["book", "order", "length"] []
  m_need_all : mg "need_all" = some (.ref f_need_all)
  f_part_of : Addr
  fd_part_of : FuncData
  F_part_of : Fun K "part_of" "part_of" (topS 28) f_part_of fd_part_of
  b_part_of : Binds K fd_part_of ["rows", "context", "letter"] []
  m_part_of : mg "part_of" = some (.ref f_part_of)
  f_times : Addr
  fd_times : FuncData
  F_times : Fun K "times" "times" (topS 26) f_times fd_times
  b_times : Binds K fd_times ["one", "other"] []
  m_times : mg "times" = some (.ref f_times)
  f_ways : Addr
  fd_ways : FuncData
  F_ways : Fun K "ways" "ways" (topS 35) f_ways fd_ways
  b_ways : Binds K fd_ways ["rows", "order", "length"] []
  m_ways : mg "ways" = some (.ref f_ways)
  f_how_many : Addr
  fd_how_many : FuncData
  F_how_many : Fun K "how_many" "how_many" (topS 36) f_how_many fd_how_many
  b_how_many : Binds K fd_how_many ["book", "order", "length"] []
  m_how_many : mg "how_many" = some (.ref f_how_many)
  f_ended : Addr
  fd_ended : FuncData
  F_ended : Fun K "ended" "ended" (topS 55) f_ended fd_ended
  b_ended : Binds K fd_ended ["rows", "order", "text", "left"] []
  m_ended : mg "ended" = some (.ref f_ended)
  f_need_begun : Addr
  fd_need_begun : FuncData
  F_need_begun : Fun K "need_begun" "need_begun" (topS 52) f_need_begun fd_need_begun
  b_need_begun : Binds K fd_need_begun ["book", "order", "text"] []
  m_need_begun : mg "need_begun" = some (.ref f_need_begun)
  f_part_begun : Addr
  fd_part_begun : FuncData
  F_part_begun : Fun K "part_begun" "part_begun" (topS 54) f_part_begun fd_part_begun
  b_part_begun : Binds K fd_part_begun ["rows", "order", "text"] []
  m_part_begun : mg "part_begun" = some (.ref f_part_begun)
  f_how_many_begun : Addr
  fd_how_many_begun : FuncData
  F_how_many_begun : Fun K "how_many_begun" "how_many_begun" (topS 56) f_how_many_begun fd_how_many_begun
  b_how_many_begun : Binds K fd_how_many_begun ["book", "order", "text"] []
  m_how_many_begun : mg "how_many_begun" = some (.ref f_how_many_begun)
  f_is_less : Addr
  fd_is_less : FuncData
  F_is_less : Fun K "is_less" "is_less" (topS 27) f_is_less fd_is_less
  b_is_less : Binds K fd_is_less ["one", "other"] []
  m_is_less : mg "is_less" = some (.ref f_is_less)
  f_Search___init__ : Addr
  fd_Search___init__ : FuncData
  F_Search___init__ : Fun K "__init__" "Search.__init__" (inClass (topS 47) 0) f_Search___init__ fd_Search___init__
  b_Search___init__ : Binds K fd_Search___init__ ["self", "book", "order", "wish"] []
  k_Search : Mk K a_Search f_Search___init__
  f_Search_best : Addr
  fd_Search_best : FuncData
  F_Search_best : Fun K "best" "Search.best" (inClass (topS 47) 1) f_Search_best fd_Search_best
  b_Search_best : Binds K fd_Search_best ["self"] []
  M_Search_best : Meth K a_Search "best" f_Search_best
  f_Search_is_done : Addr
  fd_Search_is_done : FuncData
  F_Search_is_done : Fun K "is_done" "Search.is_done" (inClass (topS 47) 5) f_Search_is_done fd_Search_is_done
  b_Search_is_done : Binds K fd_Search_is_done ["self", "many"] []
  M_Search_is_done : Meth K a_Search "is_done" f_Search_is_done
  f_Search_go_on : Addr
  fd_Search_go_on : FuncData
  F_Search_go_on : Fun K "go_on" "Search.go_on" (inClass (topS 47) 3) f_Search_go_on fd_Search_go_on
  b_Search_go_on : Binds K fd_Search_go_on ["self", "part", "text"] []
  M_Search_go_on : Meth K a_Search "go_on" f_Search_go_on
  f_comes_first : Addr
  fd_comes_first : FuncData
  F_comes_first : Fun K "comes_first" "comes_first" (topS 48) f_comes_first fd_comes_first
  b_comes_first : Binds K fd_comes_first ["one", "other"] []
  m_comes_first : mg "comes_first" = some (.ref f_comes_first)
  f_Search_put : Addr
  fd_Search_put : FuncData
  F_Search_put : Fun K "put" "Search.put" (inClass (topS 47) 4) f_Search_put fd_Search_put
  b_Search_put : Binds K fd_Search_put ["self", "one"] []
  M_Search_put : Meth K a_Search "put" f_Search_put
  f_is_fit : Addr
  fd_is_fit : FuncData
  F_is_fit : Fun K "is_fit" "is_fit" (topS 45) f_is_fit fd_is_fit
  b_is_fit : Binds K fd_is_fit ["book", "wish", "name"] []
  m_is_fit : mg "is_fit" = some (.ref f_is_fit)
  f_Search_step : Addr
  fd_Search_step : FuncData
  F_Search_step : Fun K "step" "Search.step" (inClass (topS 47) 2) f_Search_step fd_Search_step
  b_Search_step : Binds K fd_Search_step ["self"] []
  M_Search_step : Meth K a_Search "step" f_Search_step
  f_likeliest_of : Addr
  fd_likeliest_of : FuncData
  F_likeliest_of : Fun K "likeliest_of" "likeliest_of" (topS 50) f_likeliest_of fd_likeliest_of
  b_likeliest_of : Binds K fd_likeliest_of ["book", "order", "wish", "many"] []
  m_likeliest_of : mg "likeliest_of" = some (.ref f_likeliest_of)
  f_is_end : Addr
  fd_is_end : FuncData
  F_is_end : Fun K "is_end" "is_end" (topS 42) f_is_end fd_is_end
  b_is_end : Binds K fd_is_end ["thing"] []
  m_is_end : mg "is_end" = some (.ref f_is_end)
  f_is_wish : Addr
  fd_is_wish : FuncData
  F_is_wish : Fun K "is_wish" "is_wish" (topS 43) f_is_wish fd_is_wish
  b_is_wish : Binds K fd_is_wish ["thing"] []
  m_is_wish : mg "is_wish" = some (.ref f_is_wish)
  f_need_wish : Addr
  fd_need_wish : FuncData
  F_need_wish : Fun K "need_wish" "need_wish" (topS 44) f_need_wish fd_need_wish
  b_need_wish : Binds K fd_need_wish ["wish"] []
  m_need_wish : mg "need_wish" = some (.ref f_need_wish)
  f_likeliest : Addr
  fd_likeliest : FuncData
  F_likeliest : Fun K "likeliest" "likeliest" (topS 49) f_likeliest fd_likeliest
  b_likeliest : Binds K fd_likeliest ["book", "order", "wish", "many"] []
  m_likeliest : mg "likeliest" = some (.ref f_likeliest)
  f_likeliest_begun : Addr
  fd_likeliest_begun : FuncData
  F_likeliest_begun : Fun K "likeliest_begun" "likeliest_begun" (topS 58) f_likeliest_begun fd_likeliest_begun
  b_likeliest_begun : Binds K fd_likeliest_begun ["book", "order", "text"] []
  m_likeliest_begun : mg "likeliest_begun" = some (.ref f_likeliest_begun)
  f_steps : Addr
  fd_steps : FuncData
  F_steps : Fun K "steps" "steps" (topS 29) f_steps fd_steps
  b_steps : Binds K fd_steps ["book", "order", "name"] []
  m_steps : mg "steps" = some (.ref f_steps)
  f_share : Addr
  fd_share : FuncData
  F_share : Fun K "share" "share" (topS 30) f_share fd_share
  b_share : Binds K fd_share ["book", "order", "name"] []
  m_share : mg "share" = some (.ref f_share)
  f_makes : Addr
  fd_makes : FuncData
  F_makes : Fun K "makes" "makes" (topS 31) f_makes fd_makes
  b_makes : Binds K fd_makes ["book", "order", "name"] []
  m_makes : mg "makes" = some (.ref f_makes)
  f_next_letters : Addr
  fd_next_letters : FuncData
  F_next_letters : Fun K "next_letters" "next_letters" (topS 53) f_next_letters fd_next_letters
  b_next_letters : Binds K fd_next_letters ["book", "order", "text"] []
  m_next_letters : mg "next_letters" = some (.ref f_next_letters)
  f_share_begun : Addr
  fd_share_begun : FuncData
  F_share_begun : Fun K "share_begun" "share_begun" (topS 57) f_share_begun fd_share_begun
  b_share_begun : Binds K fd_share_begun ["book", "order", "text"] []
  m_share_begun : mg "share_begun" = some (.ref f_share_begun)
  f_share_of_length : Addr
  fd_share_of_length : FuncData
  F_share_of_length : Fun K "share_of_length" "share_of_length" (topS 37) f_share_of_length fd_share_of_length
  b_share_of_length : Binds K fd_share_of_length ["book", "order", "length"] []
  m_share_of_length : mg "share_of_length" = some (.ref f_share_of_length)
  f_share_up_to : Addr
  fd_share_up_to : FuncData
  F_share_up_to : Fun K "share_up_to" "share_up_to" (topS 38) f_share_up_to fd_share_up_to
  b_share_up_to : Binds K fd_share_up_to ["book", "order", "length"] []
  m_share_up_to : mg "share_up_to" = some (.ref f_share_up_to)
  f_law : Addr
  fd_law : FuncData
  F_law : Fun K "law" "law" (topS 64) f_law fd_law
  b_law : Binds K fd_law ["_law_script"] []
  m_law : mg "law" = some (.ref f_law)
  z_all : mg "all" = none
  z_bool : mg "bool" = none
  z_enumerate : mg "enumerate" = none
  z_int : mg "int" = none
  z_isinstance : mg "isinstance" = none
  z_len : mg "len" = none
  z_list : mg "list" = none
  z_max : mg "max" = none
  z_range : mg "range" = none
  z_sorted : mg "sorted" = none
  z_str : mg "str" = none
  z_sum : mg "sum" = none
  z_tuple : mg "tuple" = none
  z_zip : mg "zip" = none
  g_LETTERS : ∃ t, mg "LETTERS" = some (.str (toS [97, 98, 99, 100, 101, 102, 103, 104, 105, 106, 107, 108, 109, 110, 111, 112, 113, 114, 115, 116, 117, 118, 119, 120, 121, 122]) t)
  g_MOST_LETTERS : ∃ t, mg "MOST_LETTERS" = some (.int 8 t)
  g_MOST_NAMES : ∃ t, mg "MOST_NAMES" = some (.int 8 t)
  g_MOST_ORDER : ∃ t, mg "MOST_ORDER" = some (.int 3 t)
  g_MOST : ∃ t, mg "MOST" = some (.int 8 t)
  g_MOST_BARRED : ∃ t, mg "MOST_BARRED" = some (.int 6 t)
  g_MOST_ENDS : ∃ t, mg "MOST_ENDS" = some (.int 3 t)
def m_law_k85 : Ga → R Fl := fSeq (fSet 1 (bCall g__law_book (bCons (bVar 0) (bCons (bC (.int 0)) (bCons (bC (.int 3)) (bCons (bC (.int 3)) (bNil))))))) (fSeq (fSet 2 (b2 dAdd (bC (.int 1)) (bCall g__law_drawn (bCons (bVar 0) (bCons (bC (.int 50)) (bCons (bC (.int 3)) (bNil))))))) (fSeq (fIf (tVal (b2 dNe (bCall g_how_many_begun (bCons (bVar 1) (bCons (bVar 2) (bCons (bC (.str [])) (bNil))))) (bN dSum (bCons (bLcI (iR2 (bC (.int 1)) (bC (.int 9))) [14] (bdN 14) yes (bCall g_how_many (bCons (bVar 1) (bCons (bVar 2) (bCons (bVar 14) (bNil)))))) (bNil))))) (fRet (bC (.bl false))) (fNil)) (fSeq (fIf (tVal (b2 dNe (bCall g_share_begun (bCons (bVar 1) (bCons (bVar 2) (bCons (bC (.str [])) (bNil))))) (bCall g_share_up_to (bCons (bVar 1) (bCons (bVar 2) (bCons (bC (.int 8)) (bNil))))))) (fRet (bC (.bl false))) (fNil)) (fSeq (fForE (bTup (bCons (bC (.str [])) (bCons (bSl (b2 dIx (bVar 1) (bC (.int 0))) (pNo) (pSo (bC (.int 1)))) (bCons (b2 dIx (bVar 1) (bC (.int 0))) (bCons (bCall g__law_name (bCons (bVar 0) (bCons (bC (.int 60)) (bCons (bC (.int 3)) (bNil))))) (bCons (b2 dAdd (bSl (b2 dIx (bVar 1) (bC (.int 0))) (pNo) (pSo (bC (.int 2)))) (bC (.str [97]))) (bNil))))))) (bdN 3) (fSeq (fSet 4 (bN dIntB (bCons (bAnd (b2 dNe (bVar 3) (bC (.str []))) (bCall g_makes (bCons (bVar 1) (bCons (bVar 2) (bCons (bVar 3) (bNil)))))) (bNil)))) (fSeq (fSet 5 (bIf (tVal (b2 dNe (bVar 3) (bC (.str [])))) (bCall g_share (bCons (bVar 1) (bCons (bVar 2) (bCons (bVar 3) (bNil))))) (bTup (bCons (bC (.int 0)) (bCons (bC (.int 1)) (bNil)))))) (fSeq (fForE (bC (.str [97, 98, 122])) (bdN 6) (fSeq (fSet 4 (b2 dAdd (bVar 4) (bCall g_how_many_begun (bCons (bVar 1) (bCons (bVar 2) (bCons (b2 dAdd (bVar 3) (bVar 6)) (bNil))))))) (fSet 5 (bCall g_added (bCons (bVar 5) (bCons (bCall g_share_begun (bCons (bVar 1) (bCons (bVar 2) (bCons (b2 dAdd (bVar 3) (bVar 6)) (bNil))))) (bNil))))))) (fSeq (fIf (tOr (tVal (b2 dNe (bCall g_how_many_begun (bCons (bVar 1) (bCons (bVar 2) (bCons (bVar 3) (bNil))))) (bVar 4))) (tVal (b2 dNe (bCall g_share_begun (bCons (bVar 1) (bCons (bVar 2) (bCons (bVar 3) (bNil))))) (bVar 5)))) (fRet (bC (.bl false))) (fNil)) (fSeq (fSet 7 (bCall g_likeliest_begun (bCons (bVar 1) (bCons (bVar 2) (bCons (bVar 3) (bNil)))))) (fSeq (fSet 8 (bIf (tVal (b2 dLt (bN dLen (bCons (bVar 3) (bNil))) (bC (.int 4)))) (bCall g_likeliest (bCons (bVar 1) (bCons (bVar 2) (bCons (bTup (bCons (bC (.int 1)) (bCons (bC (.int 8)) (bCons (bSl (bVar 3) (pNo) (pSo (bC (.int 3)))) (bCons (bC (.str [])) (bCons (bTup (bNil)) (bCons (bC (.bl true)) (bNil)))))))) (bCons (bC (.int 1)) (bNil)))))) (bLst (bNil)))) (fSeq (fIf (tOr (tVal (b2 dNe (b2 dIsN (bVar 7) (bC .non)) (b2 dEq (bVar 4) (bC (.int 0))))) (tAnd (tVal (b2 dNe (bVar 8) (bLst (bNil)))) (tVal (b2 dNe (b2 dIx (b2 dIx (bVar 8) (bC (.int 0))) (bC (.int 1))) (bVar 7))))) (fRet (bC (.bl false))) (fNil)) (fSeq (fIf (tAnd (tVal (b2 dNotN (bVar 7) (bC .non))) (tVal (b2 dNe (bSl (bVar 7) (pNo) (pSo (bN dLen (bCons (bVar 3) (bNil))))) (bVar 3)))) (fRet (bC (.bl false))) (fNil)) (fSeq (fSet 9 (bCall g_next_letters (bCons (bVar 1) (bCons (bVar 2) (bCons (bVar 3) (bNil)))))) (fSeq (fSet 10 (bTup (bCons (bC (.int 0)) (bCons (bC (.int 1)) (bNil))))) (fSeq (fForE (bVar 9) (bdT [6, 13]) (fSet 10 (bCall g_added (bCons (bVar 10) (bCons (bVar 13) (bNil)))))) (fSeq (fSet 11 (bCall g_behind (bCons (bVar 1) (bCons (bVar 2) (bCons (bVar 3) (bNil)))))) (fSeq (fOwn 12 (bLcE (bVar 11) [6, 15] (bdT [6, 15]) (tVal (b2 dEq (bVar 6) (bC (.str [])))) (bVar 15))) (fSeq (fIf (tVal (b2 dNe (bN dSort (bCons (bLcE (bVar 9) [16, 13] (bdT [16, 13]) yes (bVar 16)) (bNil))) (bLcE (bVar 11) [16, 15] (bdT [16, 15]) (tVal (b2 dNe (bVar 16) (bC (.str [])))) (bVar 16)))) (fRet (bC (.bl false))) (fNil)) (fSeq (fIf (tOr (tAnd (tVal (b2 dNe (bVar 9) (bLst (bNil)))) (tVal (b2 dNe (b2 dEq (bVar 10) (bTup (bCons (bC (.int 1)) (bCons (bC (.int 1)) (bNil))))) (b2 dEq (bRd 12) (bLst (bNil)))))) (tVal (bCall g_is_less (bCons (bTup (bCons (bC (.int 1)) (bCons (bC (.int 1)) (bNil)))) (bCons (bVar 10) (bNil)))))) (fRet (bC (.bl false))) (fNil)) (fIf (tVal (b2 dNe (bLcI (iZpA (bVar 9) (bSl (bVar 9) (pSo (bC (.int 1))) (pNo))) [16, 17] (bdT [16, 17]) (tVal (bCall g_is_less (bCons (b2 dIx (bVar 16) (bC (.int 1))) (bCons (b2 dIx (bVar 17) (bC (.int 1))) (bNil))))) (bC (.int 1))) (bLst (bNil)))) (fRet (bC (.bl false))) (fNil)))))))))))))))))) (fRet (bC (.bl true)))))))
def g_law_k85 : List D → R D := fnD 18 m_law_k85
variable {P : Program} {w : World} {K : PySem.W.Frag} {mg : Str → Option Value} {base : Heap}
theorem sc__law_cell : FnScope ["_law_script", "_law_k"] ["_law_script", "_law_k"] (defScope (topS 60)) := ⟨rfl, rfl, rfl, by decide +kernel, rfl, by decide +kernel, by decide +kernel⟩
theorem ok__law_cell (T : Top K mg) : FnOk P w K mg base (L2.CX P w) 1 T.f__law_cell T.fd__law_cell ["_law_script", "_law_k"] (spD K (clE T.er) 2 g__law_cell) := by
  refine fok T.F__law_cell sc__law_cell rfl rfl fun cdv A outer s H E hr => ?_
  have nd := sc__law_cell.nd
  have hu64 := hr.units
  have hu65 := hu65_of hr
  have hu1 := hu_of hr
  exact js_cons (js_if (jt_cmp (o_eq hu64) (J.r (j_var 0)) (JF.r (jf_lst (ja_nil)))) (js_one (js_ret (j_op o_mul (J.r (j_int)) (J.r (j_var 1))))) (js_nil)) (js_one (js_ret (j_op o_add (J.r (j_ix hu1 (J.r (j_var 0)) (J.r (j_op o_mod (J.r (j_var 1)) (J.r (j_b c_len T.z_len PySem.boot_len (ja1_cons (J.r (j_var 0)) (ja1_nil)))))))) (J.r (j_op o_mul (J.r (j_int)) (J.r (j_op o_div (J.r (j_var 1)) (J.r (j_b c_len T.z_len PySem.boot_len (ja1_cons (J.r (j_var 0)) (ja1_nil)))))))))))
theorem sc__law_drawn : FnScope ["_law_script", "_law_k", "_law_many", "_law_cell_here"] ["_law_script", "_law_k", "_law_many"] (defScope (topS 61)) := ⟨rfl, rfl, rfl, by decide +kernel, rfl, by decide +kernel, by decide +kernel⟩
theorem ok__law_drawn (T : Top K mg) : FnOk P w K mg base (L2.CX P w) 2 T.f__law_drawn T.fd__law_drawn ["_law_script", "_law_k", "_law_many"] (spD K (clE T.er) 3 g__law_drawn) := by
  refine fok T.F__law_drawn sc__law_drawn rfl rfl fun cdv A outer s H E hr => ?_
  have nd := sc__law_drawn.nd
  have hu64 := hr.units
  have hu65 := hu65_of hr
  have hu1 := hu_of hr
  exact js_cons (js_set nd (j_op o_mod (J.r (j_op o_add (J.r (j_op o_mul (J.r (j_op o_mod (J.r (j_call (ok__law_cell T) (hr.mono (by decide)) T.m__law_cell T.F__law_cell.kp T.b__law_cell takes_D (ja_cons (j_var 0) (ja_cons (j_var 1) (ja_nil))) (bCons_len (bCons_len bNil_len)))) (J.r (j_int)))) (J.r (j_int)))) (J.r (j_op o_mul (J.r (j_int)) (J.r (j_op o_add (J.r (j_var 1)) (J.r (j_int)))))))) (J.r (j_int)))) (js_cons (js_set nd (j_op o_mod (J.r (j_op o_add (J.r (j_op o_mul (J.r (j_var 3)) (J.r (j_var 3)))) (J.r (j_op o_div (J.r (j_var 3)) (J.r (j_int)))))) (J.r (j_int)))) (js_one (js_ret (j_op o_mod (J.r (j_op o_div (J.r (j_op o_mod (J.r (j_op o_add (J.r (j_op o_mul (J.r (j_var 3)) (J.r (j_var 3)))) (J.r (j_op o_div (J.r (j_var 3)) (J.r (j_int)))))) (J.r (j_int)))) (J.r (j_int)))) (J.r (j_var 2))))))
theorem sc__law_name : FnScope ["_law_script", "_law_at", "_law_most", "_law_size", "_law_letters", "_law_k"] ["_law_script", "_law_at", "_law_most"] (defScope (topS 62)) := ⟨rfl, rfl, rfl, by decide +kernel, rfl, by decide +kernel, by decide +kernel⟩
theorem ok__law_name (T : Top K mg) : FnOk P w K mg base (L2.CX P w) 3 T.f__law_name T.fd__law_name ["_law_script", "_law_at", "_law_most"] (spD K (clE T.er) 3 g__law_name) := by
  refine fok T.F__law_name sc__law_name rfl rfl fun cdv A outer s H E hr => ?_
  have nd := sc__law_name.nd
  have hu64 := hr.units
  have hu65 := hu65_of hr
  have hu1 := hu_of hr
  exact js_cons (js_set nd (j_op o_add (J.r (j_int)) (J.r (j_call (ok__law_drawn T) (hr.mono (by decide)) T.m__law_drawn T.F__law_drawn.kp T.b__law_drawn takes_D (ja_cons (j_var 0) (ja_cons (j_var 1) (ja_cons (j_var 2) (ja_nil)))) (bCons_len (bCons_len (bCons_len bNil_len))))))) (js_cons (js_set nd (j_ix hu1 (JF.r (jf_lst (ja_cons (j_str) (ja_cons (j_str) (ja_cons (j_str) (ja_nil)))))) (J.r (j_call (ok__law_drawn T) (hr.mono (by decide)) T.m__law_drawn T.F__law_drawn.kp T.b__law_drawn takes_D (ja_cons (j_var 0) (ja_cons (j_op o_add (J.r (j_var 1)) (J.r (j_int))) (ja_cons (j_int) (ja_nil)))) (bCons_len (bCons_len (bCons_len bNil_len))))))) (js_one (js_ret (j_join (J.r (j_str)) (JF.r (jf_lcI (own := [("_law_k", 5)]) rfl nd (ji_r1 T.z_range (j_var 3)) ⟨blkOk_by (own := [("_law_k", 5)]) (by first | (show blkC ["_law_script", "_law_at", "_law_most", "_law_size", "_law_letters", "_law_k"] (defScope (topS 62)) _ _ = true; decide +kernel) | rfl), fun _ _ _ _ _ => jg_n nd, fun _ _ _ _ _ => jifs_nil, fun _ _ _ _ _ => j_ix hu1 (J.r (j_var 4)) (J.r (j_call (ok__law_drawn T) (hr.mono (by decide)) T.m__law_drawn T.F__law_drawn.kp T.b__law_drawn takes_W0 (ja_cons (j_var 0) (ja_cons (j_op o_add (J.r (j_op o_add (J.r (j_var 1)) (J.r (j_int)))) (J.r (j_var 5))) (ja_cons (j_b c_len T.z_len PySem.boot_len (ja1_cons (J.r (j_var 4)) (ja1_nil))) (ja_nil)))) (bCons_len (bCons_len (bCons_len bNil_len)))))⟩))))))
theorem sc__law_book : FnScope ["_law_script", "_law_at", "_law_many", "_law_most", "_law_found", "_law_k"] ["_law_script", "_law_at", "_law_many", "_law_most"] (defScope (topS 63)) := ⟨rfl, rfl, rfl, by decide +kernel, rfl, by decide +kernel, by decide +kernel⟩
theorem ok__law_book (T : Top K mg) : FnOk P w K mg base (L2.CX P w) 4 T.f__law_book T.fd__law_book ["_law_script", "_law_at", "_law_many", "_law_most"] (spD K (clE T.er) 4 g__law_book) := by
  refine fok T.F__law_book sc__law_book rfl rfl fun cdv A outer s H E hr => ?_
  have nd := sc__law_book.nd
  have hu64 := hr.units
  have hu65 := hu65_of hr
  have hu1 := hu_of hr
  exact js_cons (js_set nd (j_tup (ja_nil))) (js_cons (js_forI passes_D rfl bdN_ok (ji_r1 T.z_range (j_op o_add (J.r (j_int)) (J.r (j_call (ok__law_drawn T) (hr.mono (by decide)) T.m__law_drawn T.F__law_drawn.kp T.b__law_drawn takes_D (ja_cons (j_var 0) (ja_cons (j_var 1) (ja_cons (j_var 2) (ja_nil)))) (bCons_len (bCons_len (bCons_len bNil_len))))))) (jg_n nd) (js_one (js_set nd (j_op o_add (J.r (j_var 4)) (J.r (j_tup (ja_cons (j_call (ok__law_name T) (hr.mono (by decide)) T.m__law_name T.F__law_name.kp T.b__law_name takes_D (ja_cons (j_var 0) (ja_cons (j_op o_add (J.r (j_op o_add (J.r (j_var 1)) (J.r (j_int)))) (J.r (j_op o_mul (J.r (j_int)) (J.r (j_var 5))))) (ja_cons (j_var 3) (ja_nil)))) (bCons_len (bCons_len (bCons_len bNil_len)))) (ja_nil)))))))) (js_one (js_ret (j_var 4))))
theorem sc_lowest : FnScope ["up", "down", "one", "other"] ["up", "down"] (defScope (topS 24)) := ⟨rfl, rfl, rfl, by decide +kernel, rfl, by decide +kernel, by decide +kernel⟩
theorem ok_lowest (T : Top K mg) : FnOk P w K mg base (L2.CX P w) 1 T.f_lowest T.fd_lowest ["up", "down"] (spD K (clE T.er) 2 g_lowest) := by
  refine fok T.F_lowest sc_lowest rfl rfl fun cdv A outer s H E hr => ?_
  have nd := sc_lowest.nd
  have hu64 := hr.units
  have hu65 := hu65_of hr
  have hu1 := hu_of hr
  exact js_cons (js_set nd (j_var 0)) (js_cons (js_set nd (j_var 1)) (js_cons (js_while passes_D (jt_cmp o_gt (J.r (j_var 2)) (J.r (j_int))) (js_one (js_par rfl nd (by decide) (j_op o_mod (J.r (j_var 3)) (J.r (j_var 2))) (j_var 2)))) (js_one (js_ret (j_tup (ja_cons (j_op o_div (J.r (j_var 0)) (J.r (j_var 3))) (ja_cons (j_op o_div (J.r (j_var 1)) (J.r (j_var 3))) (ja_nil))))))))
theorem sc_added : FnScope ["one", "other"] ["one", "other"] (defScope (topS 25)) := ⟨rfl, rfl, rfl, by decide +kernel, rfl, by decide +kernel, by decide +kernel⟩
theorem ok_added (T : Top K mg) : FnOk P w K mg base (L2.CX P w) 2 T.f_added T.fd_added ["one", "other"] (spD K (clE T.er) 2 g_added) := by
  refine fok T.F_added sc_added rfl rfl fun cdv A outer s H E hr => ?_
  have nd := sc_added.nd
  have hu64 := hr.units
  have hu65 := hu65_of hr
  have hu1 := hu_of hr
  exact js_one (js_ret (j_call (ok_lowest T) (hr.mono (by decide)) T.m_lowest T.F_lowest.kp T.b_lowest takes_D (ja_cons (j_op o_add (J.r (j_op o_mul (J.r (j_ix hu1 (J.r (j_var 0)) (J.r (j_int)))) (J.r (j_ix hu1 (J.r (j_var 1)) (J.r (j_int)))))) (J.r (j_op o_mul (J.r (j_ix hu1 (J.r (j_var 1)) (J.r (j_int)))) (J.r (j_ix hu1 (J.r (j_var 0)) (J.r (j_int))))))) (ja_cons (j_op o_mul (J.r (j_ix hu1 (J.r (j_var 0)) (J.r (j_int)))) (J.r (j_ix hu1 (J.r (j_var 1)) (J.r (j_int))))) (ja_nil))) (bCons_len (bCons_len bNil_len))))
theorem sc_end_of : FnScope ["order", "text"] ["order", "text"] (defScope (topS 19)) := ⟨rfl, rfl, rfl, by decide +kernel, rfl, by decide +kernel, by decide +kernel⟩
theorem ok_end_of (T : Top K mg) : FnOk P w K mg base (L2.CX P w) 1 T.f_end_of T.fd_end_of ["order", "text"] (spD K (clE T.er) 2 g_end_of) := by
  refine fok T.F_end_of sc_end_of rfl rfl fun cdv A outer s H E hr => ?_
  have nd := sc_end_of.nd
  have hu64 := hr.units
  have hu65 := hu65_of hr
  have hu1 := hu_of hr
  exact js_one (js_ret (j_slice (J.r (j_var 1)) (jo_some (J.r (j_b (c_max rfl) T.z_max PyProof.Rows.boot_max (ja1_cons (J.r (j_int)) (ja1_cons (J.r (j_op o_sub (J.r (j_b c_len T.z_len PySem.boot_len (ja1_cons (J.r (j_var 1)) (ja1_nil)))) (J.r (j_var 0)))) (ja1_nil)))))) (jo_none)))
theorem sc_counted : FnScope ["book", "order", "found", "name", "size", "context", "letter", "row"] ["book", "order"] (defScope (topS 20)) := ⟨rfl, rfl, rfl, by decide +kernel, rfl, by decide +kernel, by decide +kernel⟩
theorem ok_counted (T : Top K mg) : FnOk P w K mg base (L2.CX P w) 2 T.f_counted T.fd_counted ["book", "order"] (spD K (clE T.er) 2 g_counted) := by
  refine fok T.F_counted sc_counted rfl rfl fun cdv A outer s H E hr => ?_
  have nd := sc_counted.nd
  have hu64 := hr.units
  have hu65 := hu65_of hr
  have hu1 := hu_of hr
  exact js_cons (js_nd0 2 nd) (js_cons (js_forE passes_D rfl bdN_ok (j_var 0) (jg_n nd) (js_one (js_forI passes_D rfl bdN_ok (ji_r1 T.z_range (j_op o_add (J.r (j_b c_len T.z_len PySem.boot_len (ja1_cons (J.r (j_var 3)) (ja1_nil)))) (J.r (j_int)))) (jg_n nd) (js_cons (js_set nd (j_call (ok_end_of T) (hr.mono (by decide)) T.m_end_of T.F_end_of.kp T.b_end_of takes_D (ja_cons (j_var 1) (ja_cons (j_slice (J.r (j_var 3)) (jo_none) (jo_some (J.r (j_var 4)))) (ja_nil))) (bCons_len (bCons_len bNil_len)))) (js_cons (js_set nd (j_slice (J.r (j_var 3)) (jo_some (J.r (j_var 4))) (jo_some (J.r (j_op o_add (J.r (j_var 4)) (J.r (j_int))))))) (jss_bump 2 7 5 6 nd hu1)))))) (jss_fz 2 (js_one (js_ret (j_var 2)))))
theorem sc_listed : FnScope ["row", "letter"] ["row"] (defScope (topS 21)) := ⟨rfl, rfl, rfl, by decide +kernel, rfl, by decide +kernel, by decide +kernel⟩
theorem ok_listed (T : Top K mg) : FnOk P w K mg base (L2.CX P w) 1 T.f_listed T.fd_listed ["row"] (spD K (clE T.er) 1 g_listed) := by
  refine fok T.F_listed sc_listed rfl rfl fun cdv A outer s H E hr => ?_
  have nd := sc_listed.nd
  have hu64 := hr.units
  have hu65 := hu65_of hr
  have hu1 := hu_of hr
  exact js_one (js_ret (j_ty c_tuple T.z_tuple PyProof.Rows.boot_tuple (ja1_cons (JF.r (jf_lcE (own := [("letter", 1)]) rfl nd (JF.v (jf_b (c_sort rfl) T.z_sorted PyProof.Rows.boot_sorted (ja1_cons (J.r (j_var 0)) (ja1_nil)))) ⟨blkOk_by (own := [("letter", 1)]) (by first | (show blkC ["row", "letter"] (defScope (topS 21)) _ _ = true; decide +kernel) | rfl), fun _ _ _ _ _ => jg_n nd, fun _ _ _ _ _ => jifs_nil, fun _ _ _ _ _ => j_tup (ja_cons (j_var 1) (ja_cons (j_ix hu1 (J.r (j_var 0)) (J.r (j_var 1))) (ja_nil)))⟩)) (ja1_nil))))
theorem sc_is_name : FnScope ["thing", "sign"] ["thing"] (defScope (topS 13)) := ⟨rfl, rfl, rfl, by decide +kernel, rfl, by decide +kernel, by decide +kernel⟩
theorem ok_is_name (T : Top K mg) : FnOk P w K mg base (L2.CX P w) 1 T.f_is_name T.fd_is_name ["thing"] (spD K (clE T.er) 1 g_is_name) := by
  refine fok T.F_is_name sc_is_name rfl rfl fun cdv A outer s H E hr => ?_
  have nd := sc_is_name.nd
  have hu64 := hr.units
  have hu65 := hu65_of hr
  have hu1 := hu_of hr
  exact js_one (js_ret (j_and (j_isi .str (J.r (j_var 0)) PyProof.Rows.boot_str T.z_isinstance T.z_str) (j_and (j_chain o_le o_le (J.r (j_int)) (J.r (j_b c_len T.z_len PySem.boot_len (ja1_cons (J.r (j_var 0)) (ja1_nil)))) (J.r (j_globI T.g_MOST_LETTERS))) (j_one (j_b (c_all rfl) T.z_all PyProof.Rows.boot_all (ja1_cons (JF.r (jf_lcE (own := [("sign", 1)]) rfl nd (j_var 0) ⟨blkOk_by (own := [("sign", 1)]) (by first | (show blkC ["thing", "sign"] (defScope (topS 13)) _ _ = true; decide +kernel) | rfl), fun _ _ _ _ _ => jg_n nd, fun _ _ _ _ _ => jifs_nil, fun _ _ _ _ _ => j_cmp (o_in hu65) (J.r (j_var 1)) (J.r (j_globS T.g_LETTERS))⟩)) (ja1_nil)))))))
theorem sc_is_book : FnScope ["thing", "one"] ["thing"] (defScope (topS 14)) := ⟨rfl, rfl, rfl, by decide +kernel, rfl, by decide +kernel, by decide +kernel⟩
theorem ok_is_book (T : Top K mg) : FnOk P w K mg base (L2.CX P w) 2 T.f_is_book T.fd_is_book ["thing"] (spD K (clE T.er) 1 g_is_book) := by
  refine fok T.F_is_book sc_is_book rfl rfl fun cdv A outer s H E hr => ?_
  have nd := sc_is_book.nd
  have hu64 := hr.units
  have hu65 := hu65_of hr
  have hu1 := hu_of hr
  exact js_one (js_ret (j_and (j_isi .tup (J.r (j_var 0)) PyProof.Rows.boot_tuple T.z_isinstance T.z_tuple) (j_and (j_chain o_le o_le (J.r (j_int)) (J.r (j_b c_len T.z_len PySem.boot_len (ja1_cons (J.r (j_var 0)) (ja1_nil)))) (J.r (j_globI T.g_MOST_NAMES))) (j_one (j_b (c_all rfl) T.z_all PyProof.Rows.boot_all (ja1_cons (JF.r (jf_lcE (own := [("one", 1)]) rfl nd (j_var 0) ⟨blkOk_by (own := [("one", 1)]) (by first | (show blkC ["thing", "one"] (defScope (topS 14)) _ _ = true; decide +kernel) | rfl), fun _ _ _ _ _ => jg_n nd, fun _ _ _ _ _ => jifs_nil, fun _ _ _ _ _ => j_call (ok_is_name T) (hr.mono (by decide)) T.m_is_name T.F_is_name.kp T.b_is_name takes_W0 (ja_cons (j_var 1) (ja_nil)) (bCons_len bNil_len)⟩)) (ja1_nil)))))))
theorem sc_need_book : FnScope ["book"] ["book"] (defScope (topS 15)) := ⟨rfl, rfl, rfl, by decide +kernel, rfl, by decide +kernel, by decide +kernel⟩
theorem ok_need_book (T : Top K mg) : FnOk P w K mg base (L2.CX P w) 3 T.f_need_book T.fd_need_book ["book"] (spD K (clE T.er) 1 g_need_book) := by
  refine fok T.F_need_book sc_need_book rfl rfl fun cdv A outer s H E hr => ?_
  have nd := sc_need_book.nd
  have hu64 := hr.units
  have hu65 := hu65_of hr
  have hu1 := hu_of hr
  exact js_one (js_if (jt_not (jt_val (j_call (ok_is_book T) (hr.mono (by decide)) T.m_is_book T.F_is_book.kp T.b_is_book takes_D (ja_cons (j_var 0) (ja_nil)) (bCons_len bNil_len)))) (js_one (js_raise (cl := clE T.er) (c := 0) (C := T.er.e 0) rfl (T.er.x 0 (by decide)) rfl takes_D)) (js_nil))
theorem sc_need_name : FnScope ["name"] ["name"] (defScope (topS 17)) := ⟨rfl, rfl, rfl, by decide +kernel, rfl, by decide +kernel, by decide +kernel⟩
theorem ok_need_name (T : Top K mg) : FnOk P w K mg base (L2.CX P w) 2 T.f_need_name T.fd_need_name ["name"] (spD K (clE T.er) 1 g_need_name) := by
  refine fok T.F_need_name sc_need_name rfl rfl fun cdv A outer s H E hr => ?_
  have nd := sc_need_name.nd
  have hu64 := hr.units
  have hu65 := hu65_of hr
  have hu1 := hu_of hr
  exact js_one (js_if (jt_not (jt_val (j_call (ok_is_name T) (hr.mono (by decide)) T.m_is_name T.F_is_name.kp T.b_is_name takes_D (ja_cons (j_var 0) (ja_nil)) (bCons_len bNil_len)))) (js_one (js_raise (cl := clE T.er) (c := 2) (C := T.er.e 2) rfl (T.er.x 2 (by decide)) rfl takes_D)) (js_nil))
theorem sc_is_number : FnScope ["thing", "low", "high"] ["thing", "low", "high"] (defScope (topS 12)) := ⟨rfl, rfl, rfl, by decide +kernel, rfl, by decide +kernel, by decide +kernel⟩
theorem ok_is_number (T : Top K mg) : FnOk P w K mg base (L2.CX P w) 1 T.f_is_number T.fd_is_number ["thing", "low", "high"] (spD K (clE T.er) 3 g_is_number) := by
  refine fok T.F_is_number sc_is_number rfl rfl fun cdv A outer s H E hr => ?_
  have nd := sc_is_number.nd
  have hu64 := hr.units
  have hu65 := hu65_of hr
  have hu1 := hu_of hr
  exact js_one (js_ret (j_and (j_isi .int (J.r (j_var 0)) PyProof.Rows.boot_int T.z_isinstance T.z_int) (j_and (j_not (J.r (j_isi .bool (J.r (j_var 0)) PyProof.Rows.boot_bool T.z_isinstance T.z_bool))) (j_one (j_chain o_le o_le (J.r (j_var 1)) (J.r (j_var 0)) (J.r (j_var 2)))))))
theorem sc_need_order : FnScope ["order"] ["order"] (defScope (topS 16)) := ⟨rfl, rfl, rfl, by decide +kernel, rfl, by decide +kernel, by decide +kernel⟩
theorem ok_need_order (T : Top K mg) : FnOk P w K mg base (L2.CX P w) 2 T.f_need_order T.fd_need_order ["order"] (spD K (clE T.er) 1 g_need_order) := by
  refine fok T.F_need_order sc_need_order rfl rfl fun cdv A outer s H E hr => ?_
  have nd := sc_need_order.nd
  have hu64 := hr.units
  have hu65 := hu65_of hr
  have hu1 := hu_of hr
  exact js_one (js_if (jt_not (jt_val (j_call (ok_is_number T) (hr.mono (by decide)) T.m_is_number T.F_is_number.kp T.b_is_number takes_D (ja_cons (j_var 0) (ja_cons (j_int) (ja_cons (j_globI T.g_MOST_ORDER) (ja_nil)))) (bCons_len (bCons_len (bCons_len bNil_len)))))) (js_one (js_raise (cl := clE T.er) (c := 1) (C := T.er.e 1) rfl (T.er.x 1 (by decide)) rfl takes_D)) (js_nil))
theorem sc_behind : FnScope ["book", "order", "text"] ["book", "order", "text"] (defScope (topS 22)) := ⟨rfl, rfl, rfl, by decide +kernel, rfl, by decide +kernel, by decide +kernel⟩
theorem ok_behind (T : Top K mg) : FnOk P w K mg base (L2.CX P w) 4 T.f_behind T.fd_behind ["book", "order", "text"] (spD K (clE T.er) 3 g_behind) := by
  refine fok T.F_behind sc_behind rfl rfl fun cdv A outer s H E hr => ?_
  have nd := sc_behind.nd
  have hu64 := hr.units
  have hu65 := hu65_of hr
  have hu1 := hu_of hr
  exact js_cons (js_expr (j_call (ok_need_book T) (hr.mono (by decide)) T.m_need_book T.F_need_book.kp T.b_need_book takes_D (ja_cons (j_var 0) (ja_nil)) (bCons_len bNil_len))) (js_cons (js_expr (j_call (ok_need_order T) (hr.mono (by decide)) T.m_need_order T.F_need_order.kp T.b_need_order takes_D (ja_cons (j_var 1) (ja_nil)) (bCons_len bNil_len))) (js_cons (js_if (jt_cmp (o_ne hu64) (J.r (j_var 2)) (J.r (j_str))) (js_one (js_expr (j_call (ok_need_name T) (hr.mono (by decide)) T.m_need_name T.F_need_name.kp T.b_need_name takes_D (ja_cons (j_var 2) (ja_nil)) (bCons_len bNil_len)))) (js_nil)) (js_one (js_ret (JF.v (jf_ty c_list T.z_list PyProof.Rows.boot_list (ja1_cons (J.r (j_call (ok_listed T) (hr.mono (by decide)) T.m_listed T.F_listed.kp T.b_listed takes_D (ja_cons (j_get hu1 (J.r (j_call (ok_counted T) (hr.mono (by decide)) T.m_counted T.F_counted.kp T.b_counted takes_D (ja_cons (j_var 0) (ja_cons (j_var 1) (ja_nil))) (bCons_len (bCons_len bNil_len)))) (j_call (ok_end_of T) (hr.mono (by decide)) T.m_end_of T.F_end_of.kp T.b_end_of takes_D (ja_cons (j_var 1) (ja_cons (j_var 2) (ja_nil))) (bCons_len (bCons_len bNil_len))) (JF.v (jf_dic0))) (ja_nil)) (bCons_len bNil_len))) (ja1_nil))))))))
theorem sc_need_number : FnScope ["number", "low", "high"] ["number", "low", "high"] (defScope (topS 18)) := ⟨rfl, rfl, rfl, by decide +kernel, rfl, by decide +kernel, by decide +kernel⟩
theorem ok_need_number (T : Top K mg) : FnOk P w K mg base (L2.CX P w) 2 T.f_need_number T.fd_need_number ["number", "low", "high"] (spD K (clE T.er) 3 g_need_number) := by
  refine fok T.F_need_number sc_need_number rfl rfl fun cdv A outer s H E hr => ?_
  have nd := sc_need_number.nd
  have hu64 := hr.units
  have hu65 := hu65_of hr
  have hu1 := hu_of hr
  exact js_one (js_if (jt_not (jt_val (j_call (ok_is_number T) (hr.mono (by decide)) T.m_is_number T.F_is_number.kp T.b_is_number takes_D (ja_cons (j_var 0) (ja_cons (j_var 1) (ja_cons (j_var 2) (ja_nil)))) (bCons_len (bCons_len (bCons_len bNil_len)))))) (js_one (js_raise (cl := clE T.er) (c := 4) (C := T.er.e 4) rfl (T.er.x 4 (by decide)) rfl takes_D)) (js_nil))
theorem sc_need_all : FnScope ["book", "order", "length"] ["book", "order", "length"] (defScope (topS 34)) := ⟨rfl, rfl, rfl, by decide +kernel, rfl, by decide +kernel, by decide +kernel⟩
theorem ok_need_all (T : Top K mg) : FnOk P w K mg base (L2.CX P w) 4 T.f_need_all T.fd_need_all ["book", "order", "length"] (spD K (clE T.er) 3 g_need_all) := by
  refine fok T.F_need_all sc_need_all rfl rfl fun cdv A outer s H E hr => ?_
  have nd := sc_need_all.nd
  have hu64 := hr.units
  have hu65 := hu65_of hr
  have hu1 := hu_of hr
  exact js_cons (js_expr (j_call (ok_need_book T) (hr.mono (by decide)) T.m_need_book T.F_need_book.kp T.b_need_book takes_D (ja_cons (j_var 0) (ja_nil)) (bCons_len bNil_len))) (js_cons (js_expr (j_call (ok_need_order T) (hr.mono (by decide)) T.m_need_order T.F_need_order.kp T.b_need_order takes_D (ja_cons (j_var 1) (ja_nil)) (bCons_len bNil_len))) (js_one (js_expr (j_call (ok_need_number T) (hr.mono (by decide)) T.m_need_number T.F_need_number.kp T.b_need_number takes_D (ja_cons (j_var 2) (ja_cons (j_int) (ja_cons (j_globI T.g_MOST) (ja_nil)))) (bCons_len (bCons_len (bCons_len bNil_len)))))))
theorem sc_part_of : FnScope ["rows", "context", "letter", "row", "one"] ["rows", "context", "letter"] (defScope (topS 28)) := ⟨rfl, rfl, rfl, by decide +kernel, rfl, by decide +kernel, by decide +kernel⟩
theorem ok_part_of (T : Top K mg) : FnOk P w K mg base (L2.CX P w) 2 T.f_part_of T.fd_part_of ["rows", "context", "letter"] (spD K (clE T.er) 3 g_part_of) := by
  refine fok T.F_part_of sc_part_of rfl rfl fun cdv A outer s H E hr => ?_
  have nd := sc_part_of.nd
  have hu64 := hr.units
  have hu65 := hu65_of hr
  have hu1 := hu_of hr
  exact js_cons (js_set nd (j_get hu1 (J.r (j_var 0)) (j_var 1) (JF.v (jf_dic0)))) (js_cons (js_if (jt_cmp (o_notin hu65) (J.r (j_var 2)) (J.r (j_var 3))) (js_one (js_ret (j_tup (ja_cons (j_int) (ja_cons (j_int) (ja_nil)))))) (js_nil)) (js_one (js_ret (j_call (ok_lowest T) (hr.mono (by decide)) T.m_lowest T.F_lowest.kp T.b_lowest takes_D (ja_cons (j_ix hu1 (J.r (j_var 3)) (J.r (j_var 2))) (ja_cons (j_b (c_sum rfl) T.z_sum PyProof.Rows.boot_sum (ja1_cons (JF.r (jf_lcE (own := [("one", 4)]) rfl nd (j_var 3) ⟨blkOk_by (own := [("one", 4)]) (by first | (show blkC ["rows", "context", "letter", "row", "one"] (defScope (topS 28)) _ _ = true; decide +kernel) | rfl), fun _ _ _ _ _ => jg_n nd, fun _ _ _ _ _ => jifs_nil, fun _ _ _ _ _ => j_ix hu1 (J.r (j_var 3)) (J.r (j_var 4))⟩)) (ja1_nil))) (ja_nil))) (bCons_len (bCons_len bNil_len))))))
theorem sc_times : FnScope ["one", "other"] ["one", "other"] (defScope (topS 26)) := ⟨rfl, rfl, rfl, by decide +kernel, rfl, by decide +kernel, by decide +kernel⟩
theorem ok_times (T : Top K mg) : FnOk P w K mg base (L2.CX P w) 2 T.f_times T.fd_times ["one", "other"] (spD K (clE T.er) 2 g_times) := by
  refine fok T.F_times sc_times rfl rfl fun cdv A outer s H E hr => ?_
  have nd := sc_times.nd
  have hu64 := hr.units
  have hu65 := hu65_of hr
  have hu1 := hu_of hr
  exact js_one (js_ret (j_call (ok_lowest T) (hr.mono (by decide)) T.m_lowest T.F_lowest.kp T.b_lowest takes_D (ja_cons (j_op o_mul (J.r (j_ix hu1 (J.r (j_var 0)) (J.r (j_int)))) (J.r (j_ix hu1 (J.r (j_var 1)) (J.r (j_int))))) (ja_cons (j_op o_mul (J.r (j_ix hu1 (J.r (j_var 0)) (J.r (j_int)))) (J.r (j_ix hu1 (J.r (j_var 1)) (J.r (j_int))))) (ja_nil))) (bCons_len (bCons_len bNil_len))))
theorem sc_ways : FnScope ["rows", "order", "length", "found", "turn", "more", "context", "letter", "many", "whole", "there", "old", "part"] ["rows", "order", "length"] (defScope (topS 35)) := ⟨rfl, rfl, rfl, by decide +kernel, rfl, by decide +kernel, by decide +kernel⟩
theorem ok_ways (T : Top K mg) : FnOk P w K mg base (L2.CX P w) 3 T.f_ways T.fd_ways ["rows", "order", "length"] (spD K (clE T.er) 3 g_ways) := by
  refine fok T.F_ways sc_ways rfl rfl fun cdv A outer s H E hr => ?_
  have nd := sc_ways.nd
  have hu64 := hr.units
  have hu65 := hu65_of hr
  have hu1 := hu_of hr
  exact js_cons (js_set nd (JF.v (jf_dic1 (j_str) (j_tup (ja_cons (j_int) (ja_cons (j_tup (ja_cons (j_int) (ja_cons (j_int) (ja_nil)))) (ja_nil))))))) (js_cons (js_forI passes_D rfl bdN_ok (ji_r1 T.z_range (j_var 2)) (jg_n nd) (js_cons (js_own nd (jf_dic0)) (js_cons (js_forE passes_D rfl bdN_ok (j_var 3) (jg_n nd) (js_cons (js_unp (j_ix hu1 (J.r (j_var 3)) (J.r (j_var 6))) (jg_tK (K := K) rfl rfl (jgs_cons nd (jgs_cons nd (jgs_nil))))) (js_one (js_forE passes_D rfl bdN_ok (j_get hu1 (J.r (j_var 0)) (j_var 6) (JF.v (jf_dic0))) (jg_n nd) (js_one (js_if (jt_cmp (o_ne hu64) (J.r (j_var 7)) (J.r (j_str))) (js_cons (js_set nd (j_call (ok_end_of T) (hr.mono (by decide)) T.m_end_of T.F_end_of.kp T.b_end_of takes_D (ja_cons (j_var 1) (ja_cons (j_op o_add (J.r (j_var 6)) (J.r (j_var 7))) (ja_nil))) (bCons_len (bCons_len bNil_len)))) (js_cons (js_set nd (j_get hu1 (jr_rd 5) (j_var 10) (j_tup (ja_cons (j_int) (ja_cons (j_tup (ja_cons (j_int) (ja_cons (j_int) (ja_nil)))) (ja_nil)))))) (js_cons (js_set nd (j_call (ok_times T) (hr.mono (by decide)) T.m_times T.F_times.kp T.b_times takes_D (ja_cons (j_var 9) (ja_cons (j_call (ok_part_of T) (hr.mono (by decide)) T.m_part_of T.F_part_of.kp T.b_part_of takes_D (ja_cons (j_var 0) (ja_cons (j_var 6) (ja_cons (j_var 7) (ja_nil)))) (bCons_len (bCons_len (bCons_len bNil_len)))) (ja_nil))) (bCons_len (bCons_len bNil_len)))) (js_one (js_put 5 hu1 (j_var 10) (j_tup (ja_cons (j_op o_add (J.r (j_ix hu1 (J.r (j_var 11)) (J.r (j_int)))) (J.r (j_var 8))) (ja_cons (j_call (ok_added T) (hr.mono (by decide)) T.m_added T.F_added.kp T.b_added takes_D (ja_cons (j_ix hu1 (J.r (j_var 11)) (J.r (j_int))) (ja_cons (j_var 12) (ja_nil))) (bCons_len (bCons_len bNil_len))) (ja_nil))))))))) (js_nil))))))) (jss_fz 5 (js_one (js_set nd (j_var 5))))))) (js_one (js_ret (j_var 3))))
theorem sc_how_many : FnScope ["book", "order", "length", "rows", "found", "context"] ["book", "order", "length"] (defScope (topS 36)) := ⟨rfl, rfl, rfl, by decide +kernel, rfl, by decide +kernel, by decide +kernel⟩
theorem ok_how_many (T : Top K mg) : FnOk P w K mg base (L2.CX P w) 5 T.f_how_many T.fd_how_many ["book", "order", "length"] (spD K (clE T.er) 3 g_how_many) := by
  refine fok T.F_how_many sc_how_many rfl rfl fun cdv A outer s H E hr => ?_
  have nd := sc_how_many.nd
  have hu64 := hr.units
  have hu65 := hu65_of hr
  have hu1 := hu_of hr
  exact js_cons (js_expr (j_call (ok_need_all T) (hr.mono (by decide)) T.m_need_all T.F_need_all.kp T.b_need_all takes_D (ja_cons (j_var 0) (ja_cons (j_var 1) (ja_cons (j_var 2) (ja_nil)))) (bCons_len (bCons_len (bCons_len bNil_len))))) (js_cons (js_set nd (j_call (ok_counted T) (hr.mono (by decide)) T.m_counted T.F_counted.kp T.b_counted takes_D (ja_cons (j_var 0) (ja_cons (j_var 1) (ja_nil))) (bCons_len (bCons_len bNil_len)))) (js_cons (js_set nd (j_call (ok_ways T) (hr.mono (by decide)) T.m_ways T.F_ways.kp T.b_ways takes_D (ja_cons (j_var 3) (ja_cons (j_var 1) (ja_cons (j_var 2) (ja_nil)))) (bCons_len (bCons_len (bCons_len bNil_len))))) (js_one (js_ret (j_b (c_sum rfl) T.z_sum PyProof.Rows.boot_sum (ja1_cons (JF.r (jf_lcE (own := [("context", 5)]) rfl nd (j_var 4) ⟨blkOk_by (own := [("context", 5)]) (by first | (show blkC ["book", "order", "length", "rows", "found", "context"] (defScope (topS 36)) _ _ = true; decide +kernel) | rfl), fun _ _ _ _ _ => jg_n nd, fun _ _ _ _ _ => jifs_oneK (K := K) rfl (jt_cmp (o_in hu65) (J.r (j_str)) (J.r (j_get hu1 (J.r (j_var 3)) (j_var 5) (JF.v (jf_dic0))))), fun _ _ _ _ _ => j_ix hu1 (J.r (j_ix hu1 (J.r (j_var 4)) (J.r (j_var 5)))) (J.r (j_int))⟩)) (ja1_nil)))))))
theorem sc_ended : FnScope ["rows", "order", "text", "left", "context", "some", "many", "whole", "turn", "more", "here", "letter", "ways", "part", "there", "old", "step"] ["rows", "order", "text", "left"] (defScope (topS 55)) := ⟨rfl, rfl, rfl, by decide +kernel, rfl, by decide +kernel, by decide +kernel⟩
theorem ok_ended (T : Top K mg) : FnOk P w K mg base (L2.CX P w) 4 T.f_ended T.fd_ended ["rows", "order", "text", "left"] (spD K (clE T.er) 4 g_ended) := by
  refine fok T.F_ended sc_ended rfl rfl fun cdv A outer s H E hr => ?_
  have nd := sc_ended.nd
  have hu64 := hr.units
  have hu65 := hu65_of hr
  have hu1 := hu_of hr
  exact js_cons (js_set nd (j_call (ok_end_of T) (hr.mono (by decide)) T.m_end_of T.F_end_of.kp T.b_end_of takes_D (ja_cons (j_var 1) (ja_cons (j_var 2) (ja_nil))) (bCons_len (bCons_len bNil_len)))) (js_cons (js_set nd (JF.v (jf_dic1 (j_var 4) (j_tup (ja_cons (j_int) (ja_cons (j_tup (ja_cons (j_int) (ja_cons (j_int) (ja_nil)))) (ja_nil))))))) (js_cons (js_set nd (j_int)) (js_cons (js_set nd (j_tup (ja_cons (j_int) (ja_cons (j_int) (ja_nil))))) (js_cons (js_forI passes_D rfl bdN_ok (ji_r1 T.z_range (j_op o_add (J.r (j_var 3)) (J.r (j_int)))) (jg_n nd) (js_cons (js_own nd (jf_dic0)) (js_cons (js_forE passes_D rfl bdN_ok (j_var 5) (jg_n nd) (js_cons (js_unp (j_ix hu1 (J.r (j_var 5)) (J.r (j_var 10))) (jg_tK (K := K) rfl rfl (jgs_cons nd (jgs_cons nd (jgs_nil))))) (js_cons (js_if (JW.t (jw_and (jt_cmp (o_in hu65) (J.r (j_str)) (J.r (j_get hu1 (J.r (j_var 0)) (j_var 10) (JF.v (jf_dic0))))) (jw_and1 (JW.t (jw_or (jt_cmp (o_ne hu64) (J.r (j_var 2)) (J.r (j_str))) (jw_or1 (jt_cmp o_gt (J.r (j_var 8)) (J.r (j_int))))))))) (js_cons (js_set nd (j_op o_add (J.r (j_var 6)) (J.r (j_var 12)))) (js_one (js_set nd (j_call (ok_added T) (hr.mono (by decide)) T.m_added T.F_added.kp T.b_added takes_D (ja_cons (j_var 7) (ja_cons (j_call (ok_times T) (hr.mono (by decide)) T.m_times T.F_times.kp T.b_times takes_D (ja_cons (j_var 13) (ja_cons (j_call (ok_part_of T) (hr.mono (by decide)) T.m_part_of T.F_part_of.kp T.b_part_of takes_D (ja_cons (j_var 0) (ja_cons (j_var 10) (ja_cons (j_str) (ja_nil)))) (bCons_len (bCons_len (bCons_len bNil_len)))) (ja_nil))) (bCons_len (bCons_len bNil_len))) (ja_nil))) (bCons_len (bCons_len bNil_len)))))) (js_nil)) (js_one (js_forE passes_D rfl bdN_ok (j_get hu1 (J.r (j_var 0)) (j_var 10) (JF.v (jf_dic0))) (jg_n nd) (js_one (js_if (jt_cmp (o_ne hu64) (J.r (j_var 11)) (J.r (j_str))) (js_cons (js_set nd (j_call (ok_end_of T) (hr.mono (by decide)) T.m_end_of T.F_end_of.kp T.b_end_of takes_D (ja_cons (j_var 1) (ja_cons (j_op o_add (J.r (j_var 10)) (J.r (j_var 11))) (ja_nil))) (bCons_len (bCons_len bNil_len)))) (js_cons (js_set nd (j_get hu1 (jr_rd 9) (j_var 14) (j_tup (ja_cons (j_int) (ja_cons (j_tup (ja_cons (j_int) (ja_cons (j_int) (ja_nil)))) (ja_nil)))))) (js_cons (js_set nd (j_call (ok_times T) (hr.mono (by decide)) T.m_times T.F_times.kp T.b_times takes_D (ja_cons (j_var 13) (ja_cons (j_call (ok_part_of T) (hr.mono (by decide)) T.m_part_of T.F_part_of.kp T.b_part_of takes_D (ja_cons (j_var 0) (ja_cons (j_var 10) (ja_cons (j_var 11) (ja_nil)))) (bCons_len (bCons_len (bCons_len bNil_len)))) (ja_nil))) (bCons_len (bCons_len bNil_len)))) (js_one (js_put 9 hu1 (j_var 14) (j_tup (ja_cons (j_op o_add (J.r (j_ix hu1 (J.r (j_var 15)) (J.r (j_int)))) (J.r (j_var 12))) (ja_cons (j_call (ok_added T) (hr.mono (by decide)) T.m_added T.F_added.kp T.b_added takes_D (ja_cons (j_ix hu1 (J.r (j_var 15)) (J.r (j_int))) (ja_cons (j_var 16) (ja_nil))) (bCons_len (bCons_len bNil_len))) (ja_nil))))))))) (js_nil)))))))) (jss_fz 9 (js_one (js_set nd (j_var 9))))))) (js_one (js_ret (j_tup (ja_cons (j_var 6) (ja_cons (j_var 7) (ja_nil))))))))))
theorem sc_need_begun : FnScope ["book", "order", "text"] ["book", "order", "text"] (defScope (topS 52)) := ⟨rfl, rfl, rfl, by decide +kernel, rfl, by decide +kernel, by decide +kernel⟩
theorem ok_need_begun (T : Top K mg) : FnOk P w K mg base (L2.CX P w) 4 T.f_need_begun T.fd_need_begun ["book", "order", "text"] (spD K (clE T.er) 3 g_need_begun) := by
  refine fok T.F_need_begun sc_need_begun rfl rfl fun cdv A outer s H E hr => ?_
  have nd := sc_need_begun.nd
  have hu64 := hr.units
  have hu65 := hu65_of hr
  have hu1 := hu_of hr
  exact js_cons (js_expr (j_call (ok_need_book T) (hr.mono (by decide)) T.m_need_book T.F_need_book.kp T.b_need_book takes_D (ja_cons (j_var 0) (ja_nil)) (bCons_len bNil_len))) (js_cons (js_expr (j_call (ok_need_order T) (hr.mono (by decide)) T.m_need_order T.F_need_order.kp T.b_need_order takes_D (ja_cons (j_var 1) (ja_nil)) (bCons_len bNil_len))) (js_one (js_if (jt_cmp (o_ne hu64) (J.r (j_var 2)) (J.r (j_str))) (js_one (js_expr (j_call (ok_need_name T) (hr.mono (by decide)) T.m_need_name T.F_need_name.kp T.b_need_name takes_D (ja_cons (j_var 2) (ja_nil)) (bCons_len bNil_len)))) (js_nil))))
theorem sc_part_begun : FnScope ["rows", "order", "text", "found", "size"] ["rows", "order", "text"] (defScope (topS 54)) := ⟨rfl, rfl, rfl, by decide +kernel, rfl, by decide +kernel, by decide +kernel⟩
theorem ok_part_begun (T : Top K mg) : FnOk P w K mg base (L2.CX P w) 3 T.f_part_begun T.fd_part_begun ["rows", "order", "text"] (spD K (clE T.er) 3 g_part_begun) := by
  refine fok T.F_part_begun sc_part_begun rfl rfl fun cdv A outer s H E hr => ?_
  have nd := sc_part_begun.nd
  have hu64 := hr.units
  have hu65 := hu65_of hr
  have hu1 := hu_of hr
  exact js_cons (js_set nd (j_tup (ja_cons (j_int) (ja_cons (j_int) (ja_nil))))) (js_cons (js_forI passes_D rfl bdN_ok (ji_r1 T.z_range (j_b c_len T.z_len PySem.boot_len (ja1_cons (J.r (j_var 2)) (ja1_nil)))) (jg_n nd) (js_one (js_set nd (j_call (ok_times T) (hr.mono (by decide)) T.m_times T.F_times.kp T.b_times takes_D (ja_cons (j_var 3) (ja_cons (j_call (ok_part_of T) (hr.mono (by decide)) T.m_part_of T.F_part_of.kp T.b_part_of takes_D (ja_cons (j_var 0) (ja_cons (j_call (ok_end_of T) (hr.mono (by decide)) T.m_end_of T.F_end_of.kp T.b_end_of takes_D (ja_cons (j_var 1) (ja_cons (j_slice (J.r (j_var 2)) (jo_none) (jo_some (J.r (j_var 4)))) (ja_nil))) (bCons_len (bCons_len bNil_len))) (ja_cons (j_ix hu1 (J.r (j_var 2)) (J.r (j_var 4))) (ja_nil)))) (bCons_len (bCons_len (bCons_len bNil_len)))) (ja_nil))) (bCons_len (bCons_len bNil_len)))))) (js_one (js_ret (j_var 3))))
theorem sc_how_many_begun : FnScope ["book", "order", "text", "rows"] ["book", "order", "text"] (defScope (topS 56)) := ⟨rfl, rfl, rfl, by decide +kernel, rfl, by decide +kernel, by decide +kernel⟩
theorem ok_how_many_begun (T : Top K mg) : FnOk P w K mg base (L2.CX P w) 5 T.f_how_many_begun T.fd_how_many_begun ["book", "order", "text"] (spD K (clE T.er) 3 g_how_many_begun) := by
  refine fok T.F_how_many_begun sc_how_many_begun rfl rfl fun cdv A outer s H E hr => ?_
  have nd := sc_how_many_begun.nd
  have hu64 := hr.units
  have hu65 := hu65_of hr
  have hu1 := hu_of hr
  exact js_cons (js_expr (j_call (ok_need_begun T) (hr.mono (by decide)) T.m_need_begun T.F_need_begun.kp T.b_need_begun takes_D (ja_cons (j_var 0) (ja_cons (j_var 1) (ja_cons (j_var 2) (ja_nil)))) (bCons_len (bCons_len (bCons_len bNil_len))))) (js_cons (js_set nd (j_call (ok_counted T) (hr.mono (by decide)) T.m_counted T.F_counted.kp T.b_counted takes_D (ja_cons (j_var 0) (ja_cons (j_var 1) (ja_nil))) (bCons_len (bCons_len bNil_len)))) (js_cons (js_if (jt_cmp (o_eq hu64) (J.r (j_ix hu1 (J.r (j_call (ok_part_begun T) (hr.mono (by decide)) T.m_part_begun T.F_part_begun.kp T.b_part_begun takes_D (ja_cons (j_var 3) (ja_cons (j_var 1) (ja_cons (j_var 2) (ja_nil)))) (bCons_len (bCons_len (bCons_len bNil_len))))) (J.r (j_int)))) (J.r (j_int))) (js_one (js_ret (j_int))) (js_nil)) (js_one (js_ret (j_ix hu1 (J.r (j_call (ok_ended T) (hr.mono (by decide)) T.m_ended T.F_ended.kp T.b_ended takes_D (ja_cons (j_var 3) (ja_cons (j_var 1) (ja_cons (j_var 2) (ja_cons (j_op o_sub (J.r (j_globI T.g_MOST)) (J.r (j_b c_len T.z_len PySem.boot_len (ja1_cons (J.r (j_var 2)) (ja1_nil))))) (ja_nil))))) (bCons_len (bCons_len (bCons_len (bCons_len bNil_len)))))) (J.r (j_int)))))))
theorem sc_is_less : FnScope ["one", "other"] ["one", "other"] (defScope (topS 27)) := ⟨rfl, rfl, rfl, by decide +kernel, rfl, by decide +kernel, by decide +kernel⟩
theorem ok_is_less (T : Top K mg) : FnOk P w K mg base (L2.CX P w) 1 T.f_is_less T.fd_is_less ["one", "other"] (spD K (clE T.er) 2 g_is_less) := by
  refine fok T.F_is_less sc_is_less rfl rfl fun cdv A outer s H E hr => ?_
  have nd := sc_is_less.nd
  have hu64 := hr.units
  have hu65 := hu65_of hr
  have hu1 := hu_of hr
  exact js_one (js_ret (j_cmp o_lt (J.r (j_op o_mul (J.r (j_ix hu1 (J.r (j_var 0)) (J.r (j_int)))) (J.r (j_ix hu1 (J.r (j_var 1)) (J.r (j_int)))))) (J.r (j_op o_mul (J.r (j_ix hu1 (J.r (j_var 1)) (J.r (j_int)))) (J.r (j_ix hu1 (J.r (j_var 0)) (J.r (j_int))))))))
theorem sc_Search___init__ : FnScope ["self", "book", "order", "wish"] ["self", "book", "order", "wish"] (defScope (inClass (topS 47) 0)) := ⟨rfl, rfl, rfl, by decide +kernel, rfl, by decide +kernel, by decide +kernel⟩
theorem ok_Search___init__ (T : Top K mg) : FnOk P w K mg base (L2.CX P w) 3 T.f_Search___init__ T.fd_Search___init__ ["self", "book", "order", "wish"] (spM K (clE T.er) 4 0 g_Search___init__) := by
  refine fokM T.F_Search___init__ sc_Search___init__ rfl rfl fun cdv A outer s H E hr => ?_
  have nd := sc_Search___init__.nd
  have hu64 := hr.units
  have hu65 := hu65_of hr
  have hu1 := hu_of hr
  exact jss_open 0 (js_cons (js_fld 0 0 0 T.O_Search T.c_Search T.n_Search_names (j_var 1)) (js_cons (js_fld 0 0 1 T.O_Search T.c_Search T.n_Search_order (j_var 2)) (js_cons (js_fld 0 0 2 T.O_Search T.c_Search T.n_Search_wish (j_var 3)) (js_cons (js_fld 0 0 3 T.O_Search T.c_Search T.n_Search_rows (j_call (ok_counted T) (hr.mono (by decide)) T.m_counted T.F_counted.kp T.b_counted takes_D (ja_cons (j_var 1) (ja_cons (j_var 2) (ja_nil))) (bCons_len (bCons_len bNil_len)))) (js_cons (js_fldO 0 0 4 T.O_Search T.c_Search T.n_Search_heads (jf_lst (ja_cons (j_tup (ja_cons (j_tup (ja_cons (j_int) (ja_cons (j_int) (ja_nil)))) (ja_cons (j_str) (ja_nil)))) (ja_nil)))) (js_one (js_fldO 0 0 5 T.O_Search T.c_Search T.n_Search_found (jf_lst (ja_nil)))))))))
theorem sc_Search_best : FnScope ["self", "place", "at", "one"] ["self"] (defScope (inClass (topS 47) 1)) := ⟨rfl, rfl, rfl, by decide +kernel, rfl, by decide +kernel, by decide +kernel⟩
theorem ok_Search_best (T : Top K mg) : FnOk P w K mg base (L2.CX P w) 2 T.f_Search_best T.fd_Search_best ["self"] (spR K (clE T.er) 1 g_Search_best) := by
  refine fokR T.F_Search_best sc_Search_best rfl rfl fun cdv A outer s H E hr => ?_
  have nd := sc_Search_best.nd
  have hu64 := hr.units
  have hu65 := hu65_of hr
  have hu1 := hu_of hr
  exact js_cons (js_set nd (j_int)) (js_cons (js_forI passes_D rfl bdT_ok (ji_en T.z_enumerate (j_fld 0 0 4 T.O_Search T.c_Search T.n_Search_heads)) (jg_tK (K := K) rfl rfl (jgs_cons nd (jgs_cons nd (jgs_nil)))) (js_one (js_if (jt_val (j_call (ok_is_less T) (hr.mono (by decide)) T.m_is_less T.F_is_less.kp T.b_is_less takes_D (ja_cons (j_ix hu1 (J.r (j_ix hu1 (J.r (j_fld 0 0 4 T.O_Search T.c_Search T.n_Search_heads)) (J.r (j_var 1)))) (J.r (j_int))) (ja_cons (j_ix hu1 (J.r (j_var 3)) (J.r (j_int))) (ja_nil))) (bCons_len (bCons_len bNil_len)))) (js_one (js_set nd (j_var 2))) (js_nil)))) (js_one (js_ret (j_var 1))))
theorem sc_Search_is_done : FnScope ["self", "many"] ["self", "many"] (defScope (inClass (topS 47) 5)) := ⟨rfl, rfl, rfl, by decide +kernel, rfl, by decide +kernel, by decide +kernel⟩
theorem ok_Search_is_done (T : Top K mg) : FnOk P w K mg base (L2.CX P w) 3 T.f_Search_is_done T.fd_Search_is_done ["self", "many"] (spR K (clE T.er) 2 g_Search_is_done) := by
  refine fokR T.F_Search_is_done sc_Search_is_done rfl rfl fun cdv A outer s H E hr => ?_
  have nd := sc_Search_is_done.nd
  have hu64 := hr.units
  have hu65 := hu65_of hr
  have hu1 := hu_of hr
  exact js_cons (js_if (jt_cmp (o_eq hu64) (J.r (j_fld 0 0 4 T.O_Search T.c_Search T.n_Search_heads)) (JF.r (jf_lst (ja_nil)))) (js_one (js_ret (j_bl))) (js_nil)) (js_one (js_ret (j_and (j_cmp o_ge (J.r (j_b c_len T.z_len PySem.boot_len (ja1_cons (J.r (j_fld 0 0 5 T.O_Search T.c_Search T.n_Search_found)) (ja1_nil)))) (J.r (j_var 1))) (j_one (j_call (ok_is_less T) (hr.mono (by decide)) T.m_is_less T.F_is_less.kp T.b_is_less takes_D (ja_cons (j_ix hu1 (J.r (j_ix hu1 (J.r (j_fld 0 0 4 T.O_Search T.c_Search T.n_Search_heads)) (J.r (j_methR0 0 0 T.O_Search T.c_Search T.M_Search_best (ok_Search_best T) (hr.mono (by decide)) T.b_Search_best takes_D)))) (J.r (j_int))) (ja_cons (j_ix hu1 (J.r (j_ix hu1 (J.r (j_fld 0 0 5 T.O_Search T.c_Search T.n_Search_found)) (J.r (j_op o_sub (J.r (j_var 1)) (J.r (j_int)))))) (J.r (j_int))) (ja_nil))) (bCons_len (bCons_len bNil_len)))))))
theorem sc_Search_go_on : FnScope ["self", "part", "text", "head"] ["self", "part", "text"] (defScope (inClass (topS 47) 3)) := ⟨rfl, rfl, rfl, by decide +kernel, rfl, by decide +kernel, by decide +kernel⟩
theorem ok_Search_go_on (T : Top K mg) : FnOk P w K mg base (L2.CX P w) 1 T.f_Search_go_on T.fd_Search_go_on ["self", "part", "text"] (spM K (clE T.er) 3 0 g_Search_go_on) := by
  refine fokO T.F_Search_go_on sc_Search_go_on rfl rfl fun cdv A outer s H E hr => ?_
  have nd := sc_Search_go_on.nd
  have hu64 := hr.units
  have hu65 := hu65_of hr
  have hu1 := hu_of hr
  exact js_cons (js_set nd (j_ix hu1 (J.r (j_fld 0 0 2 T.O_Search T.c_Search T.n_Search_wish)) (J.r (j_int)))) (js_one (js_if (JW.t (jw_and (jt_cmp o_le (J.r (j_b c_len T.z_len PySem.boot_len (ja1_cons (J.r (j_var 2)) (ja1_nil)))) (J.r (j_ix hu1 (J.r (j_fld 0 0 2 T.O_Search T.c_Search T.n_Search_wish)) (J.r (j_int))))) (jw_and1 (jt_cmp (o_eq hu64) (J.r (j_slice (J.r (j_var 2)) (jo_none) (jo_some (J.r (j_b c_len T.z_len PySem.boot_len (ja1_cons (J.r (j_var 3)) (ja1_nil))))))) (J.r (j_slice (J.r (j_var 3)) (jo_none) (jo_some (J.r (j_b c_len T.z_len PySem.boot_len (ja1_cons (J.r (j_var 2)) (ja1_nil))))))))))) (js_one (js_fapp 0 0 4 T.O_Search T.c_Search T.n_Search_heads (j_tup (ja_cons (j_var 1) (ja_cons (j_var 2) (ja_nil)))))) (js_nil)))
theorem sc_comes_first : FnScope ["one", "other"] ["one", "other"] (defScope (topS 48)) := ⟨rfl, rfl, rfl, by decide +kernel, rfl, by decide +kernel, by decide +kernel⟩
theorem ok_comes_first (T : Top K mg) : FnOk P w K mg base (L2.CX P w) 2 T.f_comes_first T.fd_comes_first ["one", "other"] (spD K (clE T.er) 2 g_comes_first) := by
  refine fok T.F_comes_first sc_comes_first rfl rfl fun cdv A outer s H E hr => ?_
  have nd := sc_comes_first.nd
  have hu64 := hr.units
  have hu65 := hu65_of hr
  have hu1 := hu_of hr
  exact js_one (js_ret (j_or (j_call (ok_is_less T) (hr.mono (by decide)) T.m_is_less T.F_is_less.kp T.b_is_less takes_D (ja_cons (j_ix hu1 (J.r (j_var 1)) (J.r (j_int))) (ja_cons (j_ix hu1 (J.r (j_var 0)) (J.r (j_int))) (ja_nil))) (bCons_len (bCons_len bNil_len))) (j_one (j_and (j_cmp (o_eq hu64) (J.r (j_ix hu1 (J.r (j_var 0)) (J.r (j_int)))) (J.r (j_ix hu1 (J.r (j_var 1)) (J.r (j_int))))) (j_one (j_cmp o_lt (J.r (j_ix hu1 (J.r (j_var 0)) (J.r (j_int)))) (J.r (j_ix hu1 (J.r (j_var 1)) (J.r (j_int))))))))))
theorem sc_Search_put : FnScope ["self", "one", "place"] ["self", "one"] (defScope (inClass (topS 47) 4)) := ⟨rfl, rfl, rfl, by decide +kernel, rfl, by decide +kernel, by decide +kernel⟩
theorem ok_Search_put (T : Top K mg) : FnOk P w K mg base (L2.CX P w) 3 T.f_Search_put T.fd_Search_put ["self", "one"] (spM K (clE T.er) 2 0 g_Search_put) := by
  refine fokO T.F_Search_put sc_Search_put rfl rfl fun cdv A outer s H E hr => ?_
  have nd := sc_Search_put.nd
  have hu64 := hr.units
  have hu65 := hu65_of hr
  have hu1 := hu_of hr
  exact js_cons (js_set nd (j_int)) (js_cons (js_while passes_D (JW.t (jw_and (jt_cmp o_lt (J.r (j_var 2)) (J.r (j_b c_len T.z_len PySem.boot_len (ja1_cons (jr_fld 0 0 5 T.O_Search T.c_Search T.n_Search_found) (ja1_nil))))) (jw_and1 (jt_val (j_call (ok_comes_first T) (hr.mono (by decide)) T.m_comes_first T.F_comes_first.kp T.b_comes_first takes_D (ja_cons (j_ix hu1 (jr_fld 0 0 5 T.O_Search T.c_Search T.n_Search_found) (J.r (j_var 2))) (ja_cons (j_var 1) (ja_nil))) (bCons_len (bCons_len bNil_len))))))) (js_one (js_set nd (j_op o_add (J.r (j_var 2)) (J.r (j_int)))))) (js_one (js_fins 0 0 5 T.O_Search T.c_Search T.n_Search_found (j_var 2) (j_var 1))))
theorem sc_is_fit : FnScope ["book", "wish", "name", "least", "most", "head", "tail", "barred", "told"] ["book", "wish", "name"] (defScope (topS 45)) := ⟨rfl, rfl, rfl, by decide +kernel, rfl, by decide +kernel, by decide +kernel⟩
theorem ok_is_fit (T : Top K mg) : FnOk P w K mg base (L2.CX P w) 1 T.f_is_fit T.fd_is_fit ["book", "wish", "name"] (spD K (clE T.er) 3 g_is_fit) := by
  refine fok T.F_is_fit sc_is_fit rfl rfl fun cdv A outer s H E hr => ?_
  have nd := sc_is_fit.nd
  have hu64 := hr.units
  have hu65 := hu65_of hr
  have hu1 := hu_of hr
  exact js_cons (js_unp (j_var 1) (jg_tK (K := K) rfl rfl (jgs_cons nd (jgs_cons nd (jgs_cons nd (jgs_cons nd (jgs_cons nd (jgs_cons nd (jgs_nil))))))))) (js_cons (js_if (JW.t (jw_or (jt_not (jt_chain o_le o_le (J.r (j_var 3)) (J.r (j_b c_len T.z_len PySem.boot_len (ja1_cons (J.r (j_var 2)) (ja1_nil)))) (J.r (j_var 4)))) (jw_or (jt_not (jt_val (j_sw (J.r (j_var 2)) (J.r (j_var 5))))) (jw_or1 (jt_not (jt_val (j_ew (J.r (j_var 2)) (J.r (j_var 6))))))))) (js_one (js_ret (j_bl))) (js_nil)) (js_one (js_ret (j_and (j_cmp (o_notin hu65) (J.r (j_var 2)) (J.r (j_var 7))) (j_one (j_or (j_var 8) (j_one (j_cmp (o_notin hu65) (J.r (j_var 2)) (J.r (j_var 0))))))))))
theorem sc_Search_step : FnScope ["self", "context", "letter", "part", "text", "whole"] ["self"] (defScope (inClass (topS 47) 2)) := ⟨rfl, rfl, rfl, by decide +kernel, rfl, by decide +kernel, by decide +kernel⟩
theorem ok_Search_step (T : Top K mg) : FnOk P w K mg base (L2.CX P w) 4 T.f_Search_step T.fd_Search_step ["self"] (spM K (clE T.er) 1 0 g_Search_step) := by
  refine fokO T.F_Search_step sc_Search_step rfl rfl fun cdv A outer s H E hr => ?_
  have nd := sc_Search_step.nd
  have hu64 := hr.units
  have hu65 := hu65_of hr
  have hu1 := hu_of hr
  exact js_cons (js_unpE (je_pop 0 0 4 T.O_Search T.c_Search T.n_Search_heads (j_methR0 0 0 T.O_Search T.c_Search T.M_Search_best (ok_Search_best T) (hr.mono (by decide)) T.b_Search_best takes_D)) (jg_tK (K := K) rfl rfl (jgs_cons nd (jgs_cons nd (jgs_nil))))) (js_cons (js_set nd (j_call (ok_end_of T) (hr.mono (by decide)) T.m_end_of T.F_end_of.kp T.b_end_of takes_D (ja_cons (j_fld 0 0 1 T.O_Search T.c_Search T.n_Search_order) (ja_cons (j_var 4) (ja_nil))) (bCons_len (bCons_len bNil_len)))) (js_one (js_forE passes_D rfl bdN_ok (JF.v (jf_b (c_sort rfl) T.z_sorted PyProof.Rows.boot_sorted (ja1_cons (J.r (j_get hu1 (J.r (j_fld 0 0 3 T.O_Search T.c_Search T.n_Search_rows)) (j_var 1) (JF.v (jf_dic0)))) (ja1_nil)))) (jg_n nd) (js_cons (js_set nd (j_call (ok_times T) (hr.mono (by decide)) T.m_times T.F_times.kp T.b_times takes_D (ja_cons (j_var 3) (ja_cons (j_call (ok_part_of T) (hr.mono (by decide)) T.m_part_of T.F_part_of.kp T.b_part_of takes_D (ja_cons (j_fld 0 0 3 T.O_Search T.c_Search T.n_Search_rows) (ja_cons (j_var 1) (ja_cons (j_var 2) (ja_nil)))) (bCons_len (bCons_len (bCons_len bNil_len)))) (ja_nil))) (bCons_len (bCons_len bNil_len)))) (js_one (js_if (jt_cmp (o_ne hu64) (J.r (j_var 2)) (J.r (j_str))) (js_one (js_exprE (je_meth 0 0 T.O_Search T.c_Search T.M_Search_go_on (ok_Search_go_on T) (hr.mono (by decide)) T.b_Search_go_on takes_D (ja_cons (j_var 5) (ja_cons (j_op o_add (J.r (j_var 4)) (J.r (j_var 2))) (ja_nil))) (len1 (bCons_len (bCons_len bNil_len)))))) (js_one (js_if (JW.t (jw_and (jt_cmp (o_ne hu64) (J.r (j_var 4)) (J.r (j_str))) (jw_and1 (jt_val (j_call (ok_is_fit T) (hr.mono (by decide)) T.m_is_fit T.F_is_fit.kp T.b_is_fit takes_D (ja_cons (j_fld 0 0 0 T.O_Search T.c_Search T.n_Search_names) (ja_cons (j_fld 0 0 2 T.O_Search T.c_Search T.n_Search_wish) (ja_cons (j_var 4) (ja_nil)))) (bCons_len (bCons_len (bCons_len bNil_len)))))))) (js_one (js_exprE (je_meth 0 0 T.O_Search T.c_Search T.M_Search_put (ok_Search_put T) (hr.mono (by decide)) T.b_Search_put takes_D (ja_cons (j_tup (ja_cons (j_var 5) (ja_cons (j_var 4) (ja_nil)))) (ja_nil)) (len1 (bCons_len bNil_len))))) (js_nil)))))))))
theorem sc_likeliest_of : FnScope ["book", "order", "wish", "many", "search"] ["book", "order", "wish", "many"] (defScope (topS 50)) := ⟨rfl, rfl, rfl, by decide +kernel, rfl, by decide +kernel, by decide +kernel⟩
theorem ok_likeliest_of (T : Top K mg) : FnOk P w K mg base (L2.CX P w) 5 T.f_likeliest_of T.fd_likeliest_of ["book", "order", "wish", "many"] (spD K (clE T.er) 4 g_likeliest_of) := by
  refine fok T.F_likeliest_of sc_likeliest_of rfl rfl fun cdv A outer s H E hr => ?_
  have nd := sc_likeliest_of.nd
  have hu64 := hr.units
  have hu65 := hu65_of hr
  have hu1 := hu_of hr
  exact js_cons (js_new 0 4 T.O_Search T.k_Search (ok_Search___init__ T) (hr.mono (by decide)) T.C_Search T.b_Search___init__ takes_D nd (ja_cons (j_var 0) (ja_cons (j_var 1) (ja_cons (j_var 2) (ja_nil)))) (len1 (bCons_len (bCons_len (bCons_len bNil_len))))) (js_cons (js_while passes_D (jt_not (jt_val (j_methR 0 4 T.O_Search T.c_Search T.M_Search_is_done (ok_Search_is_done T) (hr.mono (by decide)) T.b_Search_is_done takes_D (jao_d (j_var 3) (jao_nil)) (lenS (aD_len aNil_len))))) (js_one (js_exprE (je_meth0 0 4 T.O_Search T.c_Search T.M_Search_step (ok_Search_step T) (hr.mono (by decide)) T.b_Search_step takes_D)))) (js_one (js_ret (j_slice (jr_fld 0 4 5 T.O_Search T.c_Search T.n_Search_found) (jo_none) (jo_some (J.r (j_var 3)))))))
theorem sc_is_end : FnScope ["thing", "sign"] ["thing"] (defScope (topS 42)) := ⟨rfl, rfl, rfl, by decide +kernel, rfl, by decide +kernel, by decide +kernel⟩
theorem ok_is_end (T : Top K mg) : FnOk P w K mg base (L2.CX P w) 1 T.f_is_end T.fd_is_end ["thing"] (spD K (clE T.er) 1 g_is_end) := by
  refine fok T.F_is_end sc_is_end rfl rfl fun cdv A outer s H E hr => ?_
  have nd := sc_is_end.nd
  have hu64 := hr.units
  have hu65 := hu65_of hr
  have hu1 := hu_of hr
  exact js_one (js_ret (j_and (j_isi .str (J.r (j_var 0)) PyProof.Rows.boot_str T.z_isinstance T.z_str) (j_and (j_cmp o_le (J.r (j_b c_len T.z_len PySem.boot_len (ja1_cons (J.r (j_var 0)) (ja1_nil)))) (J.r (j_globI T.g_MOST_ENDS))) (j_one (j_b (c_all rfl) T.z_all PyProof.Rows.boot_all (ja1_cons (JF.r (jf_lcE (own := [("sign", 1)]) rfl nd (j_var 0) ⟨blkOk_by (own := [("sign", 1)]) (by first | (show blkC ["thing", "sign"] (defScope (topS 42)) _ _ = true; decide +kernel) | rfl), fun _ _ _ _ _ => jg_n nd, fun _ _ _ _ _ => jifs_nil, fun _ _ _ _ _ => j_cmp (o_in hu65) (J.r (j_var 1)) (J.r (j_globS T.g_LETTERS))⟩)) (ja1_nil)))))))
theorem sc_is_wish : FnScope ["thing", "one", "other"] ["thing"] (defScope (topS 43)) := ⟨rfl, rfl, rfl, by decide +kernel, rfl, by decide +kernel, by decide +kernel⟩
theorem ok_is_wish (T : Top K mg) : FnOk P w K mg base (L2.CX P w) 2 T.f_is_wish T.fd_is_wish ["thing"] (spD K (clE T.er) 1 g_is_wish) := by
  refine fok T.F_is_wish sc_is_wish rfl rfl fun cdv A outer s H E hr => ?_
  have nd := sc_is_wish.nd
  have hu64 := hr.units
  have hu65 := hu65_of hr
  have hu1 := hu_of hr
  exact js_cons (js_if (JW.t (jw_or (jt_not (jt_val (j_isi .tup (J.r (j_var 0)) PyProof.Rows.boot_tuple T.z_isinstance T.z_tuple))) (jw_or (jt_cmp (o_ne hu64) (J.r (j_b c_len T.z_len PySem.boot_len (ja1_cons (J.r (j_var 0)) (ja1_nil)))) (J.r (j_int))) (jw_or1 (jt_not (jt_val (j_call (ok_is_number T) (hr.mono (by decide)) T.m_is_number T.F_is_number.kp T.b_is_number takes_D (ja_cons (j_ix hu1 (J.r (j_var 0)) (J.r (j_int))) (ja_cons (j_int) (ja_cons (j_int) (ja_nil)))) (bCons_len (bCons_len (bCons_len bNil_len)))))))))) (js_one (js_ret (j_bl))) (js_nil)) (js_cons (js_if (JW.t (jw_or (jt_not (jt_val (j_call (ok_is_number T) (hr.mono (by decide)) T.m_is_number T.F_is_number.kp T.b_is_number takes_D (ja_cons (j_ix hu1 (J.r (j_var 0)) (J.r (j_int))) (ja_cons (j_ix hu1 (J.r (j_var 0)) (J.r (j_int))) (ja_cons (j_int) (ja_nil)))) (bCons_len (bCons_len (bCons_len bNil_len)))))) (jw_or (jt_not (jt_val (j_call (ok_is_end T) (hr.mono (by decide)) T.m_is_end T.F_is_end.kp T.b_is_end takes_D (ja_cons (j_ix hu1 (J.r (j_var 0)) (J.r (j_int))) (ja_nil)) (bCons_len bNil_len)))) (jw_or1 (jt_not (jt_val (j_call (ok_is_end T) (hr.mono (by decide)) T.m_is_end T.F_is_end.kp T.b_is_end takes_D (ja_cons (j_ix hu1 (J.r (j_var 0)) (J.r (j_int))) (ja_nil)) (bCons_len bNil_len)))))))) (js_one (js_ret (j_bl))) (js_nil)) (js_cons (js_if (JW.t (jw_or (jt_not (jt_val (j_isi .tup (J.r (j_ix hu1 (J.r (j_var 0)) (J.r (j_int)))) PyProof.Rows.boot_tuple T.z_isinstance T.z_tuple))) (jw_or (jt_cmp o_gt (J.r (j_b c_len T.z_len PySem.boot_len (ja1_cons (J.r (j_ix hu1 (J.r (j_var 0)) (J.r (j_int)))) (ja1_nil)))) (J.r (j_globI T.g_MOST_BARRED))) (jw_or1 (jt_not (jt_val (j_b (c_all rfl) T.z_all PyProof.Rows.boot_all (ja1_cons (JF.r (jf_lcE (own := [("one", 1)]) rfl nd (j_ix hu1 (J.r (j_var 0)) (J.r (j_int))) ⟨blkOk_by (own := [("one", 1)]) (by first | (show blkC ["thing", "one", "other"] (defScope (topS 43)) _ _ = true; decide +kernel) | rfl), fun _ _ _ _ _ => jg_n nd, fun _ _ _ _ _ => jifs_nil, fun _ _ _ _ _ => j_call (ok_is_name T) (hr.mono (by decide)) T.m_is_name T.F_is_name.kp T.b_is_name takes_W0 (ja_cons (j_var 1) (ja_nil)) (bCons_len bNil_len)⟩)) (ja1_nil))))))))) (js_one (js_ret (j_bl))) (js_nil)) (js_one (js_ret (j_and (j_b (c_all rfl) T.z_all PyProof.Rows.boot_all (ja1_cons (JF.r (jf_lcI (own := [("one", 1), ("other", 2)]) rfl nd (ji_zpA T.z_zip (j_ix hu1 (J.r (j_var 0)) (J.r (j_int))) (j_slice (J.r (j_ix hu1 (J.r (j_var 0)) (J.r (j_int)))) (jo_some (J.r (j_int))) (jo_none))) ⟨blkOk_by (own := [("one", 1), ("other", 2)]) (by first | (show blkC ["thing", "one", "other"] (defScope (topS 43)) _ _ = true; decide +kernel) | rfl), fun _ _ _ _ _ => jg_tK (K := K) rfl rfl (jgs_cons nd (jgs_cons nd (jgs_nil))), fun _ _ _ _ _ => jifs_nil, fun _ _ _ _ _ => j_cmp o_lt (J.r (j_var 1)) (J.r (j_var 2))⟩)) (ja1_nil))) (j_one (j_isi .bool (J.r (j_ix hu1 (J.r (j_var 0)) (J.r (j_int)))) PyProof.Rows.boot_bool T.z_isinstance T.z_bool)))))))
theorem sc_need_wish : FnScope ["wish"] ["wish"] (defScope (topS 44)) := ⟨rfl, rfl, rfl, by decide +kernel, rfl, by decide +kernel, by decide +kernel⟩
theorem ok_need_wish (T : Top K mg) : FnOk P w K mg base (L2.CX P w) 3 T.f_need_wish T.fd_need_wish ["wish"] (spD K (clE T.er) 1 g_need_wish) := by
  refine fok T.F_need_wish sc_need_wish rfl rfl fun cdv A outer s H E hr => ?_
  have nd := sc_need_wish.nd
  have hu64 := hr.units
  have hu65 := hu65_of hr
  have hu1 := hu_of hr
  exact js_one (js_if (jt_not (jt_val (j_call (ok_is_wish T) (hr.mono (by decide)) T.m_is_wish T.F_is_wish.kp T.b_is_wish takes_D (ja_cons (j_var 0) (ja_nil)) (bCons_len bNil_len)))) (js_one (js_raise (cl := clE T.er) (c := 3) (C := T.er.e 3) rfl (T.er.x 3 (by decide)) rfl takes_D)) (js_nil))
theorem sc_likeliest : FnScope ["book", "order", "wish", "many"] ["book", "order", "wish", "many"] (defScope (topS 49)) := ⟨rfl, rfl, rfl, by decide +kernel, rfl, by decide +kernel, by decide +kernel⟩
theorem ok_likeliest (T : Top K mg) : FnOk P w K mg base (L2.CX P w) 6 T.f_likeliest T.fd_likeliest ["book", "order", "wish", "many"] (spD K (clE T.er) 4 g_likeliest) := by
  refine fok T.F_likeliest sc_likeliest rfl rfl fun cdv A outer s H E hr => ?_
  have nd := sc_likeliest.nd
  have hu64 := hr.units
  have hu65 := hu65_of hr
  have hu1 := hu_of hr
  exact js_cons (js_expr (j_call (ok_need_book T) (hr.mono (by decide)) T.m_need_book T.F_need_book.kp T.b_need_book takes_D (ja_cons (j_var 0) (ja_nil)) (bCons_len bNil_len))) (js_cons (js_expr (j_call (ok_need_order T) (hr.mono (by decide)) T.m_need_order T.F_need_order.kp T.b_need_order takes_D (ja_cons (j_var 1) (ja_nil)) (bCons_len bNil_len))) (js_cons (js_expr (j_call (ok_need_wish T) (hr.mono (by decide)) T.m_need_wish T.F_need_wish.kp T.b_need_wish takes_D (ja_cons (j_var 2) (ja_nil)) (bCons_len bNil_len))) (js_cons (js_expr (j_call (ok_need_number T) (hr.mono (by decide)) T.m_need_number T.F_need_number.kp T.b_need_number takes_D (ja_cons (j_var 3) (ja_cons (j_int) (ja_cons (j_int) (ja_nil)))) (bCons_len (bCons_len (bCons_len bNil_len))))) (js_one (js_ret (j_call (ok_likeliest_of T) (hr.mono (by decide)) T.m_likeliest_of T.F_likeliest_of.kp T.b_likeliest_of takes_D (ja_cons (j_var 0) (ja_cons (j_var 1) (ja_cons (j_var 2) (ja_cons (j_var 3) (ja_nil))))) (bCons_len (bCons_len (bCons_len (bCons_len bNil_len))))))))))
theorem sc_likeliest_begun : FnScope ["book", "order", "text"] ["book", "order", "text"] (defScope (topS 58)) := ⟨rfl, rfl, rfl, by decide +kernel, rfl, by decide +kernel, by decide +kernel⟩
theorem ok_likeliest_begun (T : Top K mg) : FnOk P w K mg base (L2.CX P w) 6 T.f_likeliest_begun T.fd_likeliest_begun ["book", "order", "text"] (spD K (clE T.er) 3 g_likeliest_begun) := by
  refine fok T.F_likeliest_begun sc_likeliest_begun rfl rfl fun cdv A outer s H E hr => ?_
  have nd := sc_likeliest_begun.nd
  have hu64 := hr.units
  have hu65 := hu65_of hr
  have hu1 := hu_of hr
  exact js_cons (js_expr (j_call (ok_need_begun T) (hr.mono (by decide)) T.m_need_begun T.F_need_begun.kp T.b_need_begun takes_D (ja_cons (j_var 0) (ja_cons (j_var 1) (ja_cons (j_var 2) (ja_nil)))) (bCons_len (bCons_len (bCons_len bNil_len))))) (js_cons (js_if (jt_cmp (o_eq hu64) (J.r (j_call (ok_how_many_begun T) (hr.mono (by decide)) T.m_how_many_begun T.F_how_many_begun.kp T.b_how_many_begun takes_D (ja_cons (j_var 0) (ja_cons (j_var 1) (ja_cons (j_var 2) (ja_nil)))) (bCons_len (bCons_len (bCons_len bNil_len))))) (J.r (j_int))) (js_one (js_ret (j_non))) (js_nil)) (js_one (js_ret (j_ix hu1 (J.r (j_ix hu1 (J.r (j_call (ok_likeliest_of T) (hr.mono (by decide)) T.m_likeliest_of T.F_likeliest_of.kp T.b_likeliest_of takes_D (ja_cons (j_var 0) (ja_cons (j_var 1) (ja_cons (j_tup (ja_cons (j_int) (ja_cons (j_globI T.g_MOST) (ja_cons (j_var 2) (ja_cons (j_str) (ja_cons (j_tup (ja_nil)) (ja_cons (j_bl) (ja_nil)))))))) (ja_cons (j_int) (ja_nil))))) (bCons_len (bCons_len (bCons_len (bCons_len bNil_len)))))) (J.r (j_int)))) (J.r (j_int))))))
theorem sc_steps : FnScope ["book", "order", "name", "rows", "found", "size", "context", "letter"] ["book", "order", "name"] (defScope (topS 29)) := ⟨rfl, rfl, rfl, by decide +kernel, rfl, by decide +kernel, by decide +kernel⟩
theorem ok_steps (T : Top K mg) : FnOk P w K mg base (L2.CX P w) 4 T.f_steps T.fd_steps ["book", "order", "name"] (spD K (clE T.er) 3 g_steps) := by
  refine fok T.F_steps sc_steps rfl rfl fun cdv A outer s H E hr => ?_
  have nd := sc_steps.nd
  have hu64 := hr.units
  have hu65 := hu65_of hr
  have hu1 := hu_of hr
  exact js_cons (js_expr (j_call (ok_need_book T) (hr.mono (by decide)) T.m_need_book T.F_need_book.kp T.b_need_book takes_D (ja_cons (j_var 0) (ja_nil)) (bCons_len bNil_len))) (js_cons (js_expr (j_call (ok_need_order T) (hr.mono (by decide)) T.m_need_order T.F_need_order.kp T.b_need_order takes_D (ja_cons (j_var 1) (ja_nil)) (bCons_len bNil_len))) (js_cons (js_expr (j_call (ok_need_name T) (hr.mono (by decide)) T.m_need_name T.F_need_name.kp T.b_need_name takes_D (ja_cons (j_var 2) (ja_nil)) (bCons_len bNil_len))) (js_cons (js_set nd (j_call (ok_counted T) (hr.mono (by decide)) T.m_counted T.F_counted.kp T.b_counted takes_D (ja_cons (j_var 0) (ja_cons (j_var 1) (ja_nil))) (bCons_len (bCons_len bNil_len)))) (js_cons (js_own nd (jf_lst (ja_nil))) (js_cons (js_forI passes_D rfl bdN_ok (ji_r1 T.z_range (j_op o_add (J.r (j_b c_len T.z_len PySem.boot_len (ja1_cons (J.r (j_var 2)) (ja1_nil)))) (J.r (j_int)))) (jg_n nd) (js_cons (js_set nd (j_call (ok_end_of T) (hr.mono (by decide)) T.m_end_of T.F_end_of.kp T.b_end_of takes_D (ja_cons (j_var 1) (ja_cons (j_slice (J.r (j_var 2)) (jo_none) (jo_some (J.r (j_var 5)))) (ja_nil))) (bCons_len (bCons_len bNil_len)))) (js_cons (js_set nd (j_slice (J.r (j_var 2)) (jo_some (J.r (j_var 5))) (jo_some (J.r (j_op o_add (J.r (j_var 5)) (J.r (j_int))))))) (js_one (js_app 4 (j_tup (ja_cons (j_var 6) (ja_cons (j_var 7) (ja_cons (j_call (ok_part_of T) (hr.mono (by decide)) T.m_part_of T.F_part_of.kp T.b_part_of takes_D (ja_cons (j_var 3) (ja_cons (j_var 6) (ja_cons (j_var 7) (ja_nil)))) (bCons_len (bCons_len (bCons_len bNil_len)))) (ja_nil)))))))))) (jss_fz 4 (js_one (js_ret (j_var 4)))))))))
theorem sc_share : FnScope ["book", "order", "name", "found", "context", "letter", "part"] ["book", "order", "name"] (defScope (topS 30)) := ⟨rfl, rfl, rfl, by decide +kernel, rfl, by decide +kernel, by decide +kernel⟩
theorem ok_share (T : Top K mg) : FnOk P w K mg base (L2.CX P w) 5 T.f_share T.fd_share ["book", "order", "name"] (spD K (clE T.er) 3 g_share) := by
  refine fok T.F_share sc_share rfl rfl fun cdv A outer s H E hr => ?_
  have nd := sc_share.nd
  have hu64 := hr.units
  have hu65 := hu65_of hr
  have hu1 := hu_of hr
  exact js_cons (js_set nd (j_tup (ja_cons (j_int) (ja_cons (j_int) (ja_nil))))) (js_cons (js_forE passes_D rfl bdT_ok (j_call (ok_steps T) (hr.mono (by decide)) T.m_steps T.F_steps.kp T.b_steps takes_D (ja_cons (j_var 0) (ja_cons (j_var 1) (ja_cons (j_var 2) (ja_nil)))) (bCons_len (bCons_len (bCons_len bNil_len)))) (jg_tK (K := K) rfl rfl (jgs_cons nd (jgs_cons nd (jgs_cons nd (jgs_nil))))) (js_one (js_set nd (j_call (ok_times T) (hr.mono (by decide)) T.m_times T.F_times.kp T.b_times takes_D (ja_cons (j_var 3) (ja_cons (j_var 6) (ja_nil))) (bCons_len (bCons_len bNil_len)))))) (js_one (js_ret (j_var 3))))
theorem sc_makes : FnScope ["book", "order", "name"] ["book", "order", "name"] (defScope (topS 31)) := ⟨rfl, rfl, rfl, by decide +kernel, rfl, by decide +kernel, by decide +kernel⟩
theorem ok_makes (T : Top K mg) : FnOk P w K mg base (L2.CX P w) 6 T.f_makes T.fd_makes ["book", "order", "name"] (spD K (clE T.er) 3 g_makes) := by
  refine fok T.F_makes sc_makes rfl rfl fun cdv A outer s H E hr => ?_
  have nd := sc_makes.nd
  have hu64 := hr.units
  have hu65 := hu65_of hr
  have hu1 := hu_of hr
  exact js_one (js_ret (j_cmp o_gt (J.r (j_ix hu1 (J.r (j_call (ok_share T) (hr.mono (by decide)) T.m_share T.F_share.kp T.b_share takes_D (ja_cons (j_var 0) (ja_cons (j_var 1) (ja_cons (j_var 2) (ja_nil)))) (bCons_len (bCons_len (bCons_len bNil_len))))) (J.r (j_int)))) (J.r (j_int))))
theorem sc_next_letters : FnScope ["book", "order", "text", "context", "rows", "found", "letter", "part", "place", "one"] ["book", "order", "text"] (defScope (topS 53)) := ⟨rfl, rfl, rfl, by decide +kernel, rfl, by decide +kernel, by decide +kernel⟩
theorem ok_next_letters (T : Top K mg) : FnOk P w K mg base (L2.CX P w) 5 T.f_next_letters T.fd_next_letters ["book", "order", "text"] (spD K (clE T.er) 3 g_next_letters) := by
  refine fok T.F_next_letters sc_next_letters rfl rfl fun cdv A outer s H E hr => ?_
  have nd := sc_next_letters.nd
  have hu64 := hr.units
  have hu65 := hu65_of hr
  have hu1 := hu_of hr
  exact js_cons (js_expr (j_call (ok_need_begun T) (hr.mono (by decide)) T.m_need_begun T.F_need_begun.kp T.b_need_begun takes_D (ja_cons (j_var 0) (ja_cons (j_var 1) (ja_cons (j_var 2) (ja_nil)))) (bCons_len (bCons_len (bCons_len bNil_len))))) (js_cons (js_set nd (j_call (ok_end_of T) (hr.mono (by decide)) T.m_end_of T.F_end_of.kp T.b_end_of takes_D (ja_cons (j_var 1) (ja_cons (j_var 2) (ja_nil))) (bCons_len (bCons_len bNil_len)))) (js_cons (js_set nd (j_call (ok_counted T) (hr.mono (by decide)) T.m_counted T.F_counted.kp T.b_counted takes_D (ja_cons (j_var 0) (ja_cons (j_var 1) (ja_nil))) (bCons_len (bCons_len bNil_len)))) (js_cons (js_own nd (jf_lst (ja_nil))) (js_cons (js_forE passes_D rfl bdN_ok (JF.v (jf_b (c_sort rfl) T.z_sorted PyProof.Rows.boot_sorted (ja1_cons (J.r (j_get hu1 (J.r (j_var 4)) (j_var 3) (JF.v (jf_dic0)))) (ja1_nil)))) (jg_n nd) (js_one (js_if (jt_cmp (o_ne hu64) (J.r (j_var 6)) (J.r (j_str))) (js_cons (js_set nd (j_call (ok_part_of T) (hr.mono (by decide)) T.m_part_of T.F_part_of.kp T.b_part_of takes_D (ja_cons (j_var 4) (ja_cons (j_var 3) (ja_cons (j_var 6) (ja_nil)))) (bCons_len (bCons_len (bCons_len bNil_len))))) (js_cons (js_set nd (j_b c_len T.z_len PySem.boot_len (ja1_cons (JF.r (jf_lcO (own := [("one", 9)]) 5 rfl nd ⟨blkOk_by (own := [("one", 9)]) (by first | (show blkC ["book", "order", "text", "context", "rows", "found", "letter", "part", "place", "one"] (defScope (topS 53)) _ _ = true; decide +kernel) | rfl), fun _ _ _ _ _ => jg_n nd, fun _ _ _ _ _ => jifs_oneK (K := K) rfl (jt_not (jt_val (j_call (ok_is_less T) (hr.mono (by decide)) T.m_is_less T.F_is_less.kp T.b_is_less takes_W0 (ja_cons (j_ix hu1 (J.r (j_var 9)) (J.r (j_int))) (ja_cons (j_var 7) (ja_nil))) (bCons_len (bCons_len bNil_len))))), fun _ _ _ _ _ => j_var 9⟩)) (ja1_nil)))) (js_one (js_ins 5 (j_var 8) (j_tup (ja_cons (j_var 6) (ja_cons (j_var 7) (ja_nil)))))))) (js_nil)))) (jss_fz 5 (js_one (js_ret (j_var 5))))))))
theorem sc_share_begun : FnScope ["book", "order", "text", "rows"] ["book", "order", "text"] (defScope (topS 57)) := ⟨rfl, rfl, rfl, by decide +kernel, rfl, by decide +kernel, by decide +kernel⟩
theorem ok_share_begun (T : Top K mg) : FnOk P w K mg base (L2.CX P w) 5 T.f_share_begun T.fd_share_begun ["book", "order", "text"] (spD K (clE T.er) 3 g_share_begun) := by
  refine fok T.F_share_begun sc_share_begun rfl rfl fun cdv A outer s H E hr => ?_
  have nd := sc_share_begun.nd
  have hu64 := hr.units
  have hu65 := hu65_of hr
  have hu1 := hu_of hr
  exact js_cons (js_expr (j_call (ok_need_begun T) (hr.mono (by decide)) T.m_need_begun T.F_need_begun.kp T.b_need_begun takes_D (ja_cons (j_var 0) (ja_cons (j_var 1) (ja_cons (j_var 2) (ja_nil)))) (bCons_len (bCons_len (bCons_len bNil_len))))) (js_cons (js_set nd (j_call (ok_counted T) (hr.mono (by decide)) T.m_counted T.F_counted.kp T.b_counted takes_D (ja_cons (j_var 0) (ja_cons (j_var 1) (ja_nil))) (bCons_len (bCons_len bNil_len)))) (js_one (js_ret (j_call (ok_times T) (hr.mono (by decide)) T.m_times T.F_times.kp T.b_times takes_D (ja_cons (j_call (ok_part_begun T) (hr.mono (by decide)) T.m_part_begun T.F_part_begun.kp T.b_part_begun takes_D (ja_cons (j_var 3) (ja_cons (j_var 1) (ja_cons (j_var 2) (ja_nil)))) (bCons_len (bCons_len (bCons_len bNil_len)))) (ja_cons (j_ix hu1 (J.r (j_call (ok_ended T) (hr.mono (by decide)) T.m_ended T.F_ended.kp T.b_ended takes_D (ja_cons (j_var 3) (ja_cons (j_var 1) (ja_cons (j_var 2) (ja_cons (j_op o_sub (J.r (j_globI T.g_MOST)) (J.r (j_b c_len T.z_len PySem.boot_len (ja1_cons (J.r (j_var 2)) (ja1_nil))))) (ja_nil))))) (bCons_len (bCons_len (bCons_len (bCons_len bNil_len)))))) (J.r (j_int))) (ja_nil))) (bCons_len (bCons_len bNil_len))))))
theorem sc_share_of_length : FnScope ["book", "order", "length", "rows", "found", "some", "context"] ["book", "order", "length"] (defScope (topS 37)) := ⟨rfl, rfl, rfl, by decide +kernel, rfl, by decide +kernel, by decide +kernel⟩
theorem ok_share_of_length (T : Top K mg) : FnOk P w K mg base (L2.CX P w) 5 T.f_share_of_length T.fd_share_of_length ["book", "order", "length"] (spD K (clE T.er) 3 g_share_of_length) := by
  refine fok T.F_share_of_length sc_share_of_length rfl rfl fun cdv A outer s H E hr => ?_
  have nd := sc_share_of_length.nd
  have hu64 := hr.units
  have hu65 := hu65_of hr
  have hu1 := hu_of hr
  exact js_cons (js_expr (j_call (ok_need_all T) (hr.mono (by decide)) T.m_need_all T.F_need_all.kp T.b_need_all takes_D (ja_cons (j_var 0) (ja_cons (j_var 1) (ja_cons (j_var 2) (ja_nil)))) (bCons_len (bCons_len (bCons_len bNil_len))))) (js_cons (js_set nd (j_call (ok_counted T) (hr.mono (by decide)) T.m_counted T.F_counted.kp T.b_counted takes_D (ja_cons (j_var 0) (ja_cons (j_var 1) (ja_nil))) (bCons_len (bCons_len bNil_len)))) (js_cons (js_set nd (j_tup (ja_cons (j_int) (ja_cons (j_int) (ja_nil))))) (js_cons (js_set nd (j_call (ok_ways T) (hr.mono (by decide)) T.m_ways T.F_ways.kp T.b_ways takes_D (ja_cons (j_var 3) (ja_cons (j_var 1) (ja_cons (j_var 2) (ja_nil)))) (bCons_len (bCons_len (bCons_len bNil_len))))) (js_cons (js_forE passes_D rfl bdN_ok (j_var 5) (jg_n nd) (js_one (js_set nd (j_call (ok_added T) (hr.mono (by decide)) T.m_added T.F_added.kp T.b_added takes_D (ja_cons (j_var 4) (ja_cons (j_call (ok_times T) (hr.mono (by decide)) T.m_times T.F_times.kp T.b_times takes_D (ja_cons (j_ix hu1 (J.r (j_ix hu1 (J.r (j_var 5)) (J.r (j_var 6)))) (J.r (j_int))) (ja_cons (j_call (ok_part_of T) (hr.mono (by decide)) T.m_part_of T.F_part_of.kp T.b_part_of takes_D (ja_cons (j_var 3) (ja_cons (j_var 6) (ja_cons (j_str) (ja_nil)))) (bCons_len (bCons_len (bCons_len bNil_len)))) (ja_nil))) (bCons_len (bCons_len bNil_len))) (ja_nil))) (bCons_len (bCons_len bNil_len)))))) (js_one (js_ret (j_var 4)))))))
theorem sc_share_up_to : FnScope ["book", "order", "length", "found", "size"] ["book", "order", "length"] (defScope (topS 38)) := ⟨rfl, rfl, rfl, by decide +kernel, rfl, by decide +kernel, by decide +kernel⟩
theorem ok_share_up_to (T : Top K mg) : FnOk P w K mg base (L2.CX P w) 6 T.f_share_up_to T.fd_share_up_to ["book", "order", "length"] (spD K (clE T.er) 3 g_share_up_to) := by
  refine fok T.F_share_up_to sc_share_up_to rfl rfl fun cdv A outer s H E hr => ?_
  have nd := sc_share_up_to.nd
  have hu64 := hr.units
  have hu65 := hu65_of hr
  have hu1 := hu_of hr
  exact js_cons (js_expr (j_call (ok_need_all T) (hr.mono (by decide)) T.m_need_all T.F_need_all.kp T.b_need_all takes_D (ja_cons (j_var 0) (ja_cons (j_var 1) (ja_cons (j_var 2) (ja_nil)))) (bCons_len (bCons_len (bCons_len bNil_len))))) (js_cons (js_set nd (j_tup (ja_cons (j_int) (ja_cons (j_int) (ja_nil))))) (js_cons (js_forI passes_D rfl bdN_ok (ji_r2 T.z_range (j_int) (j_op o_add (J.r (j_var 2)) (J.r (j_int)))) (jg_n nd) (js_one (js_set nd (j_call (ok_added T) (hr.mono (by decide)) T.m_added T.F_added.kp T.b_added takes_D (ja_cons (j_var 3) (ja_cons (j_call (ok_share_of_length T) (hr.mono (by decide)) T.m_share_of_length T.F_share_of_length.kp T.b_share_of_length takes_D (ja_cons (j_var 0) (ja_cons (j_var 1) (ja_cons (j_var 4) (ja_nil)))) (bCons_len (bCons_len (bCons_len bNil_len)))) (ja_nil))) (bCons_len (bCons_len bNil_len)))))) (js_one (js_ret (j_var 3)))))
theorem sc_law : FnScope ["_law_script", "_law_book_here", "_law_order", "_law_text", "_law_many", "_law_whole", "_law_letter", "_law_best", "_law_rows", "_law_letters", "_law_parts", "_law_some", "_law_last", "_law_part", "_law_long", "_law_often", "_law_one", "_law_other"] ["_law_script"] (defScope (topS 64)) := ⟨rfl, rfl, rfl, by decide +kernel, rfl, by decide +kernel, by decide +kernel⟩
theorem ok_law (T : Top K mg) : FnOk P w K mg base (L2.CX P w) 7 T.f_law T.fd_law ["_law_script"] (spD K (clE T.er) 1 g_law_k85) := by
  refine fok T.F_law sc_law rfl rfl fun cdv A outer s H E hr => ?_
  have nd := sc_law.nd
  have hu64 := hr.units
  have hu65 := hu65_of hr
  have hu1 := hu_of hr
  exact js_cons (js_set nd (j_call (ok__law_book T) (hr.mono (by decide)) T.m__law_book T.F__law_book.kp T.b__law_book takes_D (ja_cons (j_var 0) (ja_cons (j_int) (ja_cons (j_int) (ja_cons (j_int) (ja_nil))))) (bCons_len (bCons_len (bCons_len (bCons_len bNil_len)))))) (js_cons (js_set nd (j_op o_add (J.r (j_int)) (J.r (j_call (ok__law_drawn T) (hr.mono (by decide)) T.m__law_drawn T.F__law_drawn.kp T.b__law_drawn takes_D (ja_cons (j_var 0) (ja_cons (j_int) (ja_cons (j_int) (ja_nil)))) (bCons_len (bCons_len (bCons_len bNil_len))))))) (js_cons (js_if (jt_cmp (o_ne hu64) (J.r (j_call (ok_how_many_begun T) (hr.mono (by decide)) T.m_how_many_begun T.F_how_many_begun.kp T.b_how_many_begun takes_D (ja_cons (j_var 1) (ja_cons (j_var 2) (ja_cons (j_str) (ja_nil)))) (bCons_len (bCons_len (bCons_len bNil_len))))) (J.r (j_b (c_sum rfl) T.z_sum PyProof.Rows.boot_sum (ja1_cons (JF.r (jf_lcI (own := [("_law_long", 14)]) rfl nd (ji_r2 T.z_range (j_int) (j_int)) ⟨blkOk_by (own := [("_law_long", 14)]) (by first | (show blkC ["_law_script", "_law_book_here", "_law_order", "_law_text", "_law_many", "_law_whole", "_law_letter", "_law_best", "_law_rows", "_law_letters", "_law_parts", "_law_some", "_law_last", "_law_part", "_law_long", "_law_often", "_law_one", "_law_other"] (defScope (topS 64)) _ _ = true; decide +kernel) | rfl), fun _ _ _ _ _ => jg_n nd, fun _ _ _ _ _ => jifs_nil, fun _ _ _ _ _ => j_call (ok_how_many T) (hr.mono (by decide)) T.m_how_many T.F_how_many.kp T.b_how_many takes_W0 (ja_cons (j_var 1) (ja_cons (j_var 2) (ja_cons (j_var 14) (ja_nil)))) (bCons_len (bCons_len (bCons_len bNil_len)))⟩)) (ja1_nil))))) (js_one (js_ret (j_bl))) (js_nil)) (js_cons (js_if (jt_cmp (o_ne hu64) (J.r (j_call (ok_share_begun T) (hr.mono (by decide)) T.m_share_begun T.F_share_begun.kp T.b_share_begun takes_D (ja_cons (j_var 1) (ja_cons (j_var 2) (ja_cons (j_str) (ja_nil)))) (bCons_len (bCons_len (bCons_len bNil_len))))) (J.r (j_call (ok_share_up_to T) (hr.mono (by decide)) T.m_share_up_to T.F_share_up_to.kp T.b_share_up_to takes_D (ja_cons (j_var 1) (ja_cons (j_var 2) (ja_cons (j_int) (ja_nil)))) (bCons_len (bCons_len (bCons_len bNil_len)))))) (js_one (js_ret (j_bl))) (js_nil)) (js_cons (js_forE passes_D rfl bdN_ok (j_tup (ja_cons (j_str) (ja_cons (j_slice (J.r (j_ix hu1 (J.r (j_var 1)) (J.r (j_int)))) (jo_none) (jo_some (J.r (j_int)))) (ja_cons (j_ix hu1 (J.r (j_var 1)) (J.r (j_int))) (ja_cons (j_call (ok__law_name T) (hr.mono (by decide)) T.m__law_name T.F__law_name.kp T.b__law_name takes_D (ja_cons (j_var 0) (ja_cons (j_int) (ja_cons (j_int) (ja_nil)))) (bCons_len (bCons_len (bCons_len bNil_len)))) (ja_cons (j_op o_add (J.r (j_slice (J.r (j_ix hu1 (J.r (j_var 1)) (J.r (j_int)))) (jo_none) (jo_some (J.r (j_int))))) (J.r (j_str))) (ja_nil))))))) (jg_n nd) (js_cons (js_set nd (j_ty c_intB T.z_int PyProof.Rows.boot_int (ja1_cons (J.r (j_and (j_cmp (o_ne hu64) (J.r (j_var 3)) (J.r (j_str))) (j_one (j_call (ok_makes T) (hr.mono (by decide)) T.m_makes T.F_makes.kp T.b_makes takes_D (ja_cons (j_var 1) (ja_cons (j_var 2) (ja_cons (j_var 3) (ja_nil)))) (bCons_len (bCons_len (bCons_len bNil_len))))))) (ja1_nil)))) (js_cons (js_set nd (j_if (jt_cmp (o_ne hu64) (J.r (j_var 3)) (J.r (j_str))) (j_call (ok_share T) (hr.mono (by decide)) T.m_share T.F_share.kp T.b_share takes_D (ja_cons (j_var 1) (ja_cons (j_var 2) (ja_cons (j_var 3) (ja_nil)))) (bCons_len (bCons_len (bCons_len bNil_len)))) (j_tup (ja_cons (j_int) (ja_cons (j_int) (ja_nil)))))) (js_cons (js_forE passes_D rfl bdN_ok (j_str) (jg_n nd) (js_cons (js_set nd (j_op o_add (J.r (j_var 4)) (J.r (j_call (ok_how_many_begun T) (hr.mono (by decide)) T.m_how_many_begun T.F_how_many_begun.kp T.b_how_many_begun takes_D (ja_cons (j_var 1) (ja_cons (j_var 2) (ja_cons (j_op o_add (J.r (j_var 3)) (J.r (j_var 6))) (ja_nil)))) (bCons_len (bCons_len (bCons_len bNil_len))))))) (js_one (js_set nd (j_call (ok_added T) (hr.mono (by decide)) T.m_added T.F_added.kp T.b_added takes_D (ja_cons (j_var 5) (ja_cons (j_call (ok_share_begun T) (hr.mono (by decide)) T.m_share_begun T.F_share_begun.kp T.b_share_begun takes_D (ja_cons (j_var 1) (ja_cons (j_var 2) (ja_cons (j_op o_add (J.r (j_var 3)) (J.r (j_var 6))) (ja_nil)))) (bCons_len (bCons_len (bCons_len bNil_len)))) (ja_nil))) (bCons_len (bCons_len bNil_len))))))) (js_cons (js_if (JW.t (jw_or (jt_cmp (o_ne hu64) (J.r (j_call (ok_how_many_begun T) (hr.mono (by decide)) T.m_how_many_begun T.F_how_many_begun.kp T.b_how_many_begun takes_D (ja_cons (j_var 1) (ja_cons (j_var 2) (ja_cons (j_var 3) (ja_nil)))) (bCons_len (bCons_len (bCons_len bNil_len))))) (J.r (j_var 4))) (jw_or1 (jt_cmp (o_ne hu64) (J.r (j_call (ok_share_begun T) (hr.mono (by decide)) T.m_share_begun T.F_share_begun.kp T.b_share_begun takes_D (ja_cons (j_var 1) (ja_cons (j_var 2) (ja_cons (j_var 3) (ja_nil)))) (bCons_len (bCons_len (bCons_len bNil_len))))) (J.r (j_var 5)))))) (js_one (js_ret (j_bl))) (js_nil)) (js_cons (js_set nd (j_call (ok_likeliest_begun T) (hr.mono (by decide)) T.m_likeliest_begun T.F_likeliest_begun.kp T.b_likeliest_begun takes_D (ja_cons (j_var 1) (ja_cons (j_var 2) (ja_cons (j_var 3) (ja_nil)))) (bCons_len (bCons_len (bCons_len bNil_len))))) (js_cons (js_set nd (j_if (jt_cmp o_lt (J.r (j_b c_len T.z_len PySem.boot_len (ja1_cons (J.r (j_var 3)) (ja1_nil)))) (J.r (j_int))) (j_call (ok_likeliest T) (hr.mono (by decide)) T.m_likeliest T.F_likeliest.kp T.b_likeliest takes_D (ja_cons (j_var 1) (ja_cons (j_var 2) (ja_cons (j_tup (ja_cons (j_int) (ja_cons (j_int) (ja_cons (j_slice (J.r (j_var 3)) (jo_none) (jo_some (J.r (j_int)))) (ja_cons (j_str) (ja_cons (j_tup (ja_nil)) (ja_cons (j_bl) (ja_nil)))))))) (ja_cons (j_int) (ja_nil))))) (bCons_len (bCons_len (bCons_len (bCons_len bNil_len))))) (JF.v (jf_lst (ja_nil))))) (js_cons (js_if (JW.t (jw_or (jt_cmp (o_ne hu64) (J.r (j_cmp o_isN (J.r (j_var 7)) (J.r (j_non)))) (J.r (j_cmp (o_eq hu64) (J.r (j_var 4)) (J.r (j_int))))) (jw_or1 (JW.t (jw_and (jt_cmp (o_ne hu64) (J.r (j_var 8)) (JF.r (jf_lst (ja_nil)))) (jw_and1 (jt_cmp (o_ne hu64) (J.r (j_ix hu1 (J.r (j_ix hu1 (J.r (j_var 8)) (J.r (j_int)))) (J.r (j_int)))) (J.r (j_var 7))))))))) (js_one (js_ret (j_bl))) (js_nil)) (js_cons (js_if (JW.t (jw_and (jt_cmp o_notN (J.r (j_var 7)) (J.r (j_non))) (jw_and1 (jt_cmp (o_ne hu64) (J.r (j_slice (J.r (j_var 7)) (jo_none) (jo_some (J.r (j_b c_len T.z_len PySem.boot_len (ja1_cons (J.r (j_var 3)) (ja1_nil))))))) (J.r (j_var 3)))))) (js_one (js_ret (j_bl))) (js_nil)) (js_cons (js_set nd (j_call (ok_next_letters T) (hr.mono (by decide)) T.m_next_letters T.F_next_letters.kp T.b_next_letters takes_D (ja_cons (j_var 1) (ja_cons (j_var 2) (ja_cons (j_var 3) (ja_nil)))) (bCons_len (bCons_len (bCons_len bNil_len))))) (js_cons (js_set nd (j_tup (ja_cons (j_int) (ja_cons (j_int) (ja_nil))))) (js_cons (js_forE passes_D rfl bdT_ok (j_var 9) (jg_tK (K := K) rfl rfl (jgs_cons nd (jgs_cons nd (jgs_nil)))) (js_one (js_set nd (j_call (ok_added T) (hr.mono (by decide)) T.m_added T.F_added.kp T.b_added takes_D (ja_cons (j_var 10) (ja_cons (j_var 13) (ja_nil))) (bCons_len (bCons_len bNil_len)))))) (js_cons (js_set nd (j_call (ok_behind T) (hr.mono (by decide)) T.m_behind T.F_behind.kp T.b_behind takes_D (ja_cons (j_var 1) (ja_cons (j_var 2) (ja_cons (j_var 3) (ja_nil)))) (bCons_len (bCons_len (bCons_len bNil_len))))) (js_cons (js_lcE 12 (own := [("_law_letter", 6), ("_law_often", 15)]) rfl nd (j_var 11) ⟨blkOk_by (own := [("_law_letter", 6), ("_law_often", 15)]) (by first | (show blkC ["_law_script", "_law_book_here", "_law_order", "_law_text", "_law_many", "_law_whole", "_law_letter", "_law_best", "_law_rows", "_law_letters", "_law_parts", "_law_some", "_law_last", "_law_part", "_law_long", "_law_often", "_law_one", "_law_other"] (defScope (topS 64)) _ _ = true; decide +kernel) | rfl), fun _ _ _ _ _ => jg_tK (K := K) rfl rfl (jgs_cons nd (jgs_cons nd (jgs_nil))), fun _ _ _ _ _ => jifs_oneK (K := K) rfl (jt_cmp (o_eq hu64) (J.r (j_var 6)) (J.r (j_str))), fun _ _ _ _ _ => j_var 15⟩) (js_cons (js_if (jt_cmp (o_ne hu64) (JF.r (jf_b (c_sort rfl) T.z_sorted PyProof.Rows.boot_sorted (ja1_cons (JF.r (jf_lcE (own := [("_law_one", 16), ("_law_part", 13)]) rfl nd (j_var 9) ⟨blkOk_by (own := [("_law_one", 16), ("_law_part", 13)]) (by first | (show blkC ["_law_script", "_law_book_here", "_law_order", "_law_text", "_law_many", "_law_whole", "_law_letter", "_law_best", "_law_rows", "_law_letters", "_law_parts", "_law_some", "_law_last", "_law_part", "_law_long", "_law_often", "_law_one", "_law_other"] (defScope (topS 64)) _ _ = true; decide +kernel) | rfl), fun _ _ _ _ _ => jg_tK (K := K) rfl rfl (jgs_cons nd (jgs_cons nd (jgs_nil))), fun _ _ _ _ _ => jifs_nil, fun _ _ _ _ _ => j_var 16⟩)) (ja1_nil)))) (JF.r (jf_lcE (own := [("_law_one", 16), ("_law_often", 15)]) rfl nd (j_var 11) ⟨blkOk_by (own := [("_law_one", 16), ("_law_often", 15)]) (by first | (show blkC ["_law_script", "_law_book_here", "_law_order", "_law_text", "_law_many", "_law_whole", "_law_letter", "_law_best", "_law_rows", "_law_letters", "_law_parts", "_law_some", "_law_last", "_law_part", "_law_long", "_law_often", "_law_one", "_law_other"] (defScope (topS 64)) _ _ = true; decide +kernel) | rfl), fun _ _ _ _ _ => jg_tK (K := K) rfl rfl (jgs_cons nd (jgs_cons nd (jgs_nil))), fun _ _ _ _ _ => jifs_oneK (K := K) rfl (jt_cmp (o_ne hu64) (J.r (j_var 16)) (J.r (j_str))), fun _ _ _ _ _ => j_var 16⟩))) (js_one (js_ret (j_bl))) (js_nil)) (js_cons (js_if (JW.t (jw_or (JW.t (jw_and (jt_cmp (o_ne hu64) (J.r (j_var 9)) (JF.r (jf_lst (ja_nil)))) (jw_and1 (jt_cmp (o_ne hu64) (J.r (j_cmp (o_eq hu64) (J.r (j_var 10)) (J.r (j_tup (ja_cons (j_int) (ja_cons (j_int) (ja_nil))))))) (J.r (j_cmp (o_eq hu64) (jr_rd 12) (JF.r (jf_lst (ja_nil))))))))) (jw_or1 (jt_val (j_call (ok_is_less T) (hr.mono (by decide)) T.m_is_less T.F_is_less.kp T.b_is_less takes_D (ja_cons (j_tup (ja_cons (j_int) (ja_cons (j_int) (ja_nil)))) (ja_cons (j_var 10) (ja_nil))) (bCons_len (bCons_len bNil_len))))))) (js_one (js_ret (j_bl))) (js_nil)) (js_one (js_if (jt_cmp (o_ne hu64) (JF.r (jf_lcI (own := [("_law_one", 16), ("_law_other", 17)]) rfl nd (ji_zpA T.z_zip (j_var 9) (j_slice (J.r (j_var 9)) (jo_some (J.r (j_int))) (jo_none))) ⟨blkOk_by (own := [("_law_one", 16), ("_law_other", 17)]) (by first | (show blkC ["_law_script", "_law_book_here", "_law_order", "_law_text", "_law_many", "_law_whole", "_law_letter", "_law_best", "_law_rows", "_law_letters", "_law_parts", "_law_some", "_law_last", "_law_part", "_law_long", "_law_often", "_law_one", "_law_other"] (defScope (topS 64)) _ _ = true; decide +kernel) | rfl), fun _ _ _ _ _ => jg_tK (K := K) rfl rfl (jgs_cons nd (jgs_cons nd (jgs_nil))), fun _ _ _ _ _ => jifs_oneK (K := K) rfl (jt_val (j_call (ok_is_less T) (hr.mono (by decide)) T.m_is_less T.F_is_less.kp T.b_is_less takes_W0 (ja_cons (j_ix hu1 (J.r (j_var 16)) (J.r (j_int))) (ja_cons (j_ix hu1 (J.r (j_var 17)) (J.r (j_int))) (ja_nil))) (bCons_len (bCons_len bNil_len)))), fun _ _ _ _ _ => j_int⟩)) (JF.r (jf_lst (ja_nil)))) (js_one (js_ret (j_bl))) (js_nil))))))))))))))))))) (js_one (js_ret (j_bl)))))))
end
theorem all_mk {l : PySem.W.OpenLaw} {w : World} {K : PySem.W.Frag} {h : Heap} {mg : Str → Option Value} {fa : Addr} (X : K.In h) (G : h.Ns mainGlobals mg) (hfa : mg "law" = some (.ref fa))
    {C0 : Addr} (u0 : PySem.W.nsIn K mainGlobals "Search" = some (some (.ref C0))) (pg0 : PySem.W.plainGet K C0 Str.empty = true) (hd0 : PySem.W.hasDictIn K C0 = true) (po0 : PySem.W.plainOver K C0 = true) (sa0 : PySem.W.findIn K (.ref C0) "__setattr__" = some (some (.builtin "object.__setattr__"))) (mk0 : PySem.W.makesIn K C0 = true) (kc0 : PySem.W.keepIn K (.ref C0) = true)
    (n0_found : PySem.W.findIn K (.ref C0) "found" = some none)
    (n0_heads : PySem.W.findIn K (.ref C0) "heads" = some none)
    (n0_names : PySem.W.findIn K (.ref C0) "names" = some none)
    (n0_order : PySem.W.findIn K (.ref C0) "order" = some none)
    (n0_rows : PySem.W.findIn K (.ref C0) "rows" = some none)
    (n0_wish : PySem.W.findIn K (.ref C0) "wish" = some none)
    {f0 : Addr} {od0 an0 : Option Addr} {sl0 : Array (Option Value)} {oc0 kV0 dc0 pm0 cd0 ct0 : Value}
    (a0 : PySem.W.nsIn K mainGlobals "_law_cell" = some (some (.ref f0))) (l0 : K.lookup f0 = some ⟨oc0, od0, .func (PySem.W.fnOf "_law_cell" "_law_cell" (defArgs (topS 60)) (defBody (topS 60)) (defScope (topS 60)) .none kV0 dc0 pm0 an0 cd0 ct0), sl0⟩) (c0 : PySem.W.codeIn K cd0 "_law_cell" = true) (k0 : PySem.W.keepIn K (.ref f0) = true)
    {f1 : Addr} {od1 an1 : Option Addr} {sl1 : Array (Option Value)} {oc1 kV1 dc1 pm1 cd1 ct1 : Value}
    (a1 : PySem.W.nsIn K mainGlobals "_law_drawn" = some (some (.ref f1))) (l1 : K.lookup f1 = some ⟨oc1, od1, .func (PySem.W.fnOf "_law_drawn" "_law_drawn" (defArgs (topS 61)) (defBody (topS 61)) (defScope (topS 61)) .none kV1 dc1 pm1 an1 cd1 ct1), sl1⟩) (c1 : PySem.W.codeIn K cd1 "_law_drawn" = true) (k1 : PySem.W.keepIn K (.ref f1) = true)
    {f2 : Addr} {od2 an2 : Option Addr} {sl2 : Array (Option Value)} {oc2 kV2 dc2 pm2 cd2 ct2 : Value}
    (a2 : PySem.W.nsIn K mainGlobals "_law_name" = some (some (.ref f2))) (l2 : K.lookup f2 = some ⟨oc2, od2, .func (PySem.W.fnOf "_law_name" "_law_name" (defArgs (topS 62)) (defBody (topS 62)) (defScope (topS 62)) .none kV2 dc2 pm2 an2 cd2 ct2), sl2⟩) (c2 : PySem.W.codeIn K cd2 "_law_name" = true) (k2 : PySem.W.keepIn K (.ref f2) = true)
    {f3 : Addr} {od3 an3 : Option Addr} {sl3 : Array (Option Value)} {oc3 kV3 dc3 pm3 cd3 ct3 : Value}
    (a3 : PySem.W.nsIn K mainGlobals "_law_book" = some (some (.ref f3))) (l3 : K.lookup f3 = some ⟨oc3, od3, .func (PySem.W.fnOf "_law_book" "_law_book" (defArgs (topS 63)) (defBody (topS 63)) (defScope (topS 63)) .none kV3 dc3 pm3 an3 cd3 ct3), sl3⟩) (c3 : PySem.W.codeIn K cd3 "_law_book" = true) (k3 : PySem.W.keepIn K (.ref f3) = true)
    {f4 : Addr} {od4 an4 : Option Addr} {sl4 : Array (Option Value)} {oc4 kV4 dc4 pm4 cd4 ct4 : Value}
    (a4 : PySem.W.nsIn K mainGlobals "lowest" = some (some (.ref f4))) (l4 : K.lookup f4 = some ⟨oc4, od4, .func (PySem.W.fnOf "lowest" "lowest" (defArgs (topS 24)) (defBody (topS 24)) (defScope (topS 24)) .none kV4 dc4 pm4 an4 cd4 ct4), sl4⟩) (c4 : PySem.W.codeIn K cd4 "lowest" = true) (k4 : PySem.W.keepIn K (.ref f4) = true)
    {f5 : Addr} {od5 an5 : Option Addr} {sl5 : Array (Option Value)} {oc5 kV5 dc5 pm5 cd5 ct5 : Value}
    (a5 : PySem.W.nsIn K mainGlobals "added" = some (some (.ref f5))) (l5 : K.lookup f5 = some ⟨oc5, od5, .func (PySem.W.fnOf "added" "added" (defArgs (topS 25)) (defBody (topS 25)) (defScope (topS 25)) .none kV5 dc5 pm5 an5 cd5 ct5), sl5⟩) (c5 : PySem.W.codeIn K cd5 "added" = true) (k5 : PySem.W.keepIn K (.ref f5) = true)
    {f6 : Addr} {od6 an6 : Option Addr} {sl6 : Array (Option Value)} {oc6 kV6 dc6 pm6 cd6 ct6 : Value}
    (a6 : PySem.W.nsIn K mainGlobals "end_of" = some (some (.ref f6))) (l6 : K.lookup f6 = some ⟨oc6, od6, .func (PySem.W.fnOf "end_of" "end_of" (defArgs (topS 19)) (defBody (topS 19)) (defScope (topS 19)) .none kV6 dc6 pm6 an6 cd6 ct6), sl6⟩) (c6 : PySem.W.codeIn K cd6 "end_of" = true) (k6 : PySem.W.keepIn K (.ref f6) = true)
    {f7 : Addr} {od7 an7 : Option Addr} {sl7 : Array (Option Value)} {oc7 kV7 dc7 pm7 cd7 ct7 : Value}
    (a7 : PySem.W.nsIn K mainGlobals "counted" = some (some (.ref f7))) (l7 : K.lookup f7 = some ⟨oc7, od7, .func (PySem.W.fnOf "counted" "counted" (defArgs (topS 20)) (defBody (topS 20)) (defScope (topS 20)) .none kV7 dc7 pm7 an7 cd7 ct7), sl7⟩) (c7 : PySem.W.codeIn K cd7 "counted" = true) (k7 : PySem.W.keepIn K (.ref f7) = true)
    {f8 : Addr} {od8 an8 : Option Addr} {sl8 : Array (Option Value)} {oc8 kV8 dc8 pm8 cd8 ct8 : Value}
    (a8 : PySem.W.nsIn K mainGlobals "listed" = some (some (.ref f8))) (l8 : K.lookup f8 = some ⟨oc8, od8, .func (PySem.W.fnOf "listed" "listed" (defArgs (topS 21)) (defBody (topS 21)) (defScope (topS 21)) .none kV8 dc8 pm8 an8 cd8 ct8), sl8⟩) (c8 : PySem.W.codeIn K cd8 "listed" = true) (k8 : PySem.W.keepIn K (.ref f8) = true)
    {f9 : Addr} {od9 an9 : Option Addr} {sl9 : Array (Option Value)} {oc9 kV9 dc9 pm9 cd9 ct9 : Value}
    (a9 : PySem.W.nsIn K mainGlobals "is_name" = some (some (.ref f9))) (l9 : K.lookup f9 = some ⟨oc9, od9, .func (PySem.W.fnOf "is_name" "is_name" (defArgs (topS 13)) (defBody (topS 13)) (defScope (topS 13)) .none kV9 dc9 pm9 an9 cd9 ct9), sl9⟩) (c9 : PySem.W.codeIn K cd9 "is_name" = true) (k9 : PySem.W.keepIn K (.ref f9) = true)
    {f10 : Addr} {od10 an10 : Option Addr} {sl10 : Array (Option Value)} {oc10 kV10 dc10 pm10 cd10 ct10 : Value}
    (a10 : PySem.W.nsIn K mainGlobals "is_book" = some (some (.ref f10))) (l10 : K.lookup f10 = some ⟨oc10, od10, .func (PySem.W.fnOf "is_book" "is_book" (defArgs (topS 14)) (defBody (topS 14)) (defScope (topS 14)) .none kV10 dc10 pm10 an10 cd10 ct10), sl10⟩) (c10 : PySem.W.codeIn K cd10 "is_book" = true) (k10 : PySem.W.keepIn K (.ref f10) = true)
    {f11 : Addr} {od11 an11 : Option Addr} {sl11 : Array (Option Value)} {oc11 kV11 dc11 pm11 cd11 ct11 : Value}
    (a11 : PySem.W.nsIn K mainGlobals "need_book" = some (some (.ref f11))) (l11 : K.lookup f11 = some ⟨oc11, od11, .func (PySem.W.fnOf "need_book" "need_book" (defArgs (topS 15)) (defBody (topS 15)) (defScope (topS 15)) .none kV11 dc11 pm11 an11 cd11 ct11), sl11⟩) (c11 : PySem.W.codeIn K cd11 "need_book" = true) (k11 : PySem.W.keepIn K (.ref f11) = true)
    {f12 : Addr} {od12 an12 : Option Addr} {sl12 : Array (Option Value)} {oc12 kV12 dc12 pm12 cd12 ct12 : Value}
    (a12 : PySem.W.nsIn K mainGlobals "need_name" = some (some (.ref f12))) (l12 : K.lookup f12 = some ⟨oc12, od12, .func (PySem.W.fnOf "need_name" "need_name" (defArgs (topS 17)) (defBody (topS 17)) (defScope (topS 17)) .none kV12 dc12 pm12 an12 cd12 ct12), sl12⟩) (c12 : PySem.W.codeIn K cd12 "need_name" = true) (k12 : PySem.W.keepIn K (.ref f12) = true)
    {f13 : Addr} {od13 an13 : Option Addr} {sl13 : Array (Option Value)} {oc13 kV13 dc13 pm13 cd13 ct13 : Value}
    (a13 : PySem.W.nsIn K mainGlobals "is_number" = some (some (.ref f13))) (l13 : K.lookup f13 = some ⟨oc13, od13, .func (PySem.W.fnOf "is_number" "is_number" (defArgs (topS 12)) (defBody (topS 12)) (defScope (topS 12)) .none kV13 dc13 pm13 an13 cd13 ct13), sl13⟩) (c13 : PySem.W.codeIn K cd13 "is_number" = true) (k13 : PySem.W.keepIn K (.ref f13) = true)
    {f14 : Addr} {od14 an14 : Option Addr} {sl14 : Array (Option Value)} {oc14 kV14 dc14 pm14 cd14 ct14 : Value}
    (a14 : PySem.W.nsIn K mainGlobals "need_order" = some (some (.ref f14))) (l14 : K.lookup f14 = some ⟨oc14, od14, .func (PySem.W.fnOf "need_order" "need_order" (defArgs (topS 16)) (defBody (topS 16)) (defScope (topS 16)) .none kV14 dc14 pm14 an14 cd14 ct14), sl14⟩) (c14 : PySem.W.codeIn K cd14 "need_order" = true) (k14 : PySem.W.keepIn K (.ref f14) = true)
    {f15 : Addr} {od15 an15 : Option Addr} {sl15 : Array (Option Value)} {oc15 kV15 dc15 pm15 cd15 ct15 : Value}
    (a15 : PySem.W.nsIn K mainGlobals "behind" = some (some (.ref f15))) (l15 : K.lookup f15 = some ⟨oc15, od15, .func (PySem.W.fnOf "behind" "behind" (defArgs (topS 22)) (defBody (topS 22)) (defScope (topS 22)) .none kV15 dc15 pm15 an15 cd15 ct15), sl15⟩) (c15 : PySem.W.codeIn K cd15 "behind" = true) (k15 : PySem.W.keepIn K (.ref f15) = true)
    {f16 : Addr} {od16 an16 : Option Addr} {sl16 : Array (Option Value)} {oc16 kV16 dc16 pm16 cd16 ct16 : Value}
    (a16 : PySem.W.nsIn K mainGlobals "need_number" = some (some (.ref f16))) (l16 : K.lookup f16 = some ⟨oc16, od16, .func (PySem.W.fnOf "need_number" "need_number" (defArgs (topS 18)) (defBody (topS 18)) (defScope (topS 18)) .none kV16 dc16 pm16 an16 cd16 ct16), sl16⟩) (c16 : PySem.W.codeIn K cd16 "need_number" = true) (k16 : PySem.W.keepIn K (.ref f16) = true)
    {f17 : Addr} {od17 an17 : Option Addr} {sl17 : Array (Option Value)} {oc17 kV17 dc17 pm17 cd17 ct17 : Value}
    (a17 : PySem.W.nsIn K mainGlobals "need_all" = some (some (.ref f17))) (l17 : K.lookup f17 = some ⟨oc17, od17, .func (PySem.W.fnOf "need_all" "need_all" (defArgs (topS 34)) (defBody (topS 34)) (defScope (topS 34)) .none kV17 dc17 pm17 an17 cd17 ct17), sl17⟩) (c17 : PySem.W.codeIn K cd17 "need_all" = true) (k17 : PySem.W.keepIn K (.ref f17) = true)
    {f18 : Addr} {od18 an18 : Option Addr} {sl18 : Array (Option Value)} {oc18 kV18 dc18 pm18 cd18 ct18 : Value}
    (a18 : PySem.W.nsIn K mainGlobals "part_of" = some (some (.ref f18))) (l18 : K.lookup f18 = some ⟨oc18, od18, .func (PySem.W.fnOf "part_of" "part_of" (defArgs (topS 28)) (defBody (topS 28)) (defScope (topS 28)) .none kV18 dc18 pm18 an18 cd18 ct18), sl18⟩) (c18 : PySem.W.codeIn K cd18 "part_of" = true) (k18 : PySem.W.keepIn K (.ref f18) = true)
    {f19 : Addr} {od19 an19 : Option Addr} {sl19 : Array (Option Value)} {oc19 kV19 dc19 pm19 cd19 ct19 : Value}
    (a19 : PySem.W.nsIn K mainGlobals "times" = some (some (.ref f19))) (l19 : K.lookup f19 = some ⟨oc19, od19, .func (PySem.W.fnOf "times" "times" (defArgs (topS 26)) (defBody (topS 26)) (defScope (topS 26)) .none kV19 dc19 pm19 an19 cd19 ct19), sl19⟩) (c19 : PySem.W.codeIn K cd19 "times" = true) (k19 : PySem.W.keepIn K (.ref f19) = true)
    {f20 : Addr} {od20 an20 : Option Addr} {sl20 : Array (Option Value)} {oc20 kV20 dc20 pm20 cd20 ct20 : Value}
    (a20 : PySem.W.nsIn K mainGlobals "ways" = some (some (.ref f20))) (l20 : K.lookup f20 = some ⟨oc20, od20, .func (PySem.W.fnOf "ways" "ways" (defArgs (topS 35)) (defBody (topS 35)) (defScope (topS 35)) .none kV20 dc20 pm20 an20 cd20 ct20), sl20⟩) (c20 : PySem.W.codeIn K cd20 "ways" = true) (k20 : PySem.W.keepIn K (.ref f20) = true)
    {f21 : Addr} {od21 an21 : Option Addr} {sl21 : Array (Option Value)} {oc21 kV21 dc21 pm21 cd21 ct21 : Value}
    (a21 : PySem.W.nsIn K mainGlobals "how_many" = some (some (.ref f21))) (l21 : K.lookup f21 = some ⟨oc21, od21, .func (PySem.W.fnOf "how_many" "how_many" (defArgs (topS 36)) (defBody (topS 36)) (defScope (topS 36)) .none kV21 dc21 pm21 an21 cd21 ct21), sl21⟩) (c21 : PySem.W.codeIn K cd21 "how_many" = true) (k21 : PySem.W.keepIn K (.ref f21) = true)
    {f22 : Addr} {od22 an22 : Option Addr} {sl22 : Array (Option Value)} {oc22 kV22 dc22 pm22 cd22 ct22 : Value}
    (a22 : PySem.W.nsIn K mainGlobals "ended" = some (some (.ref f22))) (l22 : K.lookup f22 = some ⟨oc22, od22, .func (PySem.W.fnOf "ended" "ended" (defArgs (topS 55)) (defBody (topS 55)) (defScope (topS 55)) .none kV22 dc22 pm22 an22 cd22 ct22), sl22⟩) (c22 : PySem.W.codeIn K cd22 "ended" = true) (k22 : PySem.W.keepIn K (.ref f22) = true)
    {f23 : Addr} {od23 an23 : Option Addr} {sl23 : Array (Option Value)} {oc23 kV23 dc23 pm23 cd23 ct23 : Value}
    (a23 : PySem.W.nsIn K mainGlobals "need_begun" = some (some (.ref f23))) (l23 : K.lookup f23 = some ⟨oc23, od23, .func (PySem.W.fnOf "need_begun" "need_begun" (defArgs (topS 52)) (defBody (topS 52)) (defScope (topS 52)) .none kV23 dc23 pm23 an23 cd23 ct23), sl23⟩) (c23 : PySem.W.codeIn K cd23 "need_begun" = true) (k23 : PySem.W.keepIn K (.ref f23) = true)
    {f24 : Addr} {od24 an24 : Option Addr} {sl24 : Array (Option Value)} {oc24 kV24 dc24 pm24 cd24 ct24 : Value}
    (a24 : PySem.W.nsIn K mainGlobals "part_begun" = some (some (.ref f24))) (l24 : K.lookup f24 = some ⟨oc24, od24, .func (PySem.W.fnOf "part_begun" "part_begun" (defArgs (topS 54)) (defBody (topS 54)) (defScope (topS 54)) .none kV24 dc24 pm24 an24 cd24 ct24), sl24⟩) (c24 : PySem.W.codeIn K cd24 "part_begun" = true) (k24 : PySem.W.keepIn K (.ref f24) = true)
    {f25 : Addr} {od25 an25 : Option Addr} {sl25 : Array (Option Value)} {oc25 kV25 dc25 pm25 cd25 ct25 : Value}
    (a25 : PySem.W.nsIn K mainGlobals "how_many_begun" = some (some (.ref f25))) (l25 : K.lookup f25 = some ⟨oc25, od25, .func (PySem.W.fnOf "how_many_begun" "how_many_begun" (defArgs (topS 56)) (defBody (topS 56)) (defScope (topS 56)) .none kV25 dc25 pm25 an25 cd25 ct25), sl25⟩) (c25 : PySem.W.codeIn K cd25 "how_many_begun" = true) (k25 : PySem.W.keepIn K (.ref f25) = true)
    {f26 : Addr} {od26 an26 : Option Addr} {sl26 : Array (Option Value)} {oc26 kV26 dc26 pm26 cd26 ct26 : Value}
    (a26 : PySem.W.nsIn K mainGlobals "is_less" = some (some (.ref f26))) (l26 : K.lookup f26 = some ⟨oc26, od26, .func (PySem.W.fnOf "is_less" "is_less" (defArgs (topS 27)) (defBody (topS 27)) (defScope (topS 27)) .none kV26 dc26 pm26 an26 cd26 ct26), sl26⟩) (c26 : PySem.W.codeIn K cd26 "is_less" = true) (k26 : PySem.W.keepIn K (.ref f26) = true)
    {f27 : Addr} {od27 an27 : Option Addr} {sl27 : Array (Option Value)} {oc27 kV27 dc27 pm27 cd27 ct27 : Value}
    (a27 : PySem.W.findIn K (.ref C0) "__init__" = some (some (.ref f27))) (i27 : PySem.W.isFn K (.ref f27) = true) (l27 : K.lookup f27 = some ⟨oc27, od27, .func (PySem.W.fnOf "__init__" "Search.__init__" (defArgs (inClass (topS 47) 0)) (defBody (inClass (topS 47) 0)) (defScope (inClass (topS 47) 0)) .none kV27 dc27 pm27 an27 cd27 ct27), sl27⟩) (c27 : PySem.W.codeIn K cd27 "Search.__init__" = true) (k27 : PySem.W.keepIn K (.ref f27) = true)
    {f28 : Addr} {od28 an28 : Option Addr} {sl28 : Array (Option Value)} {oc28 kV28 dc28 pm28 cd28 ct28 : Value}
    (a28 : PySem.W.findIn K (.ref C0) "best" = some (some (.ref f28))) (i28 : PySem.W.isFn K (.ref f28) = true) (l28 : K.lookup f28 = some ⟨oc28, od28, .func (PySem.W.fnOf "best" "Search.best" (defArgs (inClass (topS 47) 1)) (defBody (inClass (topS 47) 1)) (defScope (inClass (topS 47) 1)) .none kV28 dc28 pm28 an28 cd28 ct28), sl28⟩) (c28 : PySem.W.codeIn K cd28 "Search.best" = true) (k28 : PySem.W.keepIn K (.ref f28) = true)
    {f29 : Addr} {od29 an29 : Option Addr} {sl29 : Array (Option Value)} {oc29 kV29 dc29 pm29 cd29 ct29 : Value}
    (a29 : PySem.W.findIn K (.ref C0) "is_done" = some (some (.ref f29))) (i29 : PySem.W.isFn K (.ref f29) = true) (l29 : K.lookup f29 = some ⟨oc29, od29, .func (PySem.W.fnOf "is_done" "Search.is_done" (defArgs (inClass (topS 47) 5)) (defBody (inClass (topS 47) 5)) (defScope (inClass (topS 47) 5)) .none kV29 dc29 pm29 an29 cd29 ct29), sl29⟩) (c29 : PySem.W.codeIn K cd29 "Search.is_done" = true) (k29 : PySem.W.keepIn K (.ref f29) = true)
    {f30 : Addr} {od30 an30 : Option Addr} {sl30 : Array (Option Value)} {oc30 kV30 dc30 pm30 cd30 ct30 : Value}
    (a30 : PySem.W.findIn K (.ref C0) "go_on" = some (some (.ref f30))) (i30 : PySem.W.isFn K (.ref f30) = true) (l30 : K.lookup f30 = some ⟨oc30, od30, .func (PySem.W.fnOf "go_on" "Search.go_on" (defArgs (inClass (topS 47) 3)) (defBody (inClass (topS 47) 3)) (defScope (inClass (topS 47) 3)) .none kV30 dc30 pm30 an30 cd30 ct30), sl30⟩) (c30 : PySem.W.codeIn K cd30 "Search.go_on" = true) (k30 : PySem.W.keepIn K (.ref f30) = true)
    {f31 : Addr} {od31 an31 : Option Addr} {sl31 : Array (Option Value)} {oc31 kV31 dc31 pm31 cd31 ct31 : Value}
    (a31 : PySem.W.nsIn K mainGlobals "comes_first" = some (some (.ref f31))) (l31 : K.lookup f31 = some ⟨oc31, od31, .func (PySem.W.fnOf "comes_first" "comes_first" (defArgs (topS 48)) (defBody (topS 48)) (defScope (topS 48)) .none kV31 dc31 pm31 an31 cd31 ct31), sl31⟩) (c31 : PySem.W.codeIn K cd31 "comes_first" = true) (k31 : PySem.W.keepIn K (.ref f31) = true)
    {f32 : Addr} {od32 an32 : Option Addr} {sl32 : Array (Option Value)} {oc32 kV32 dc32 pm32 cd32 ct32 : Value}
    (a32 : PySem.W.findIn K (.ref C0) "put" = some (some (.ref f32))) (i32 : PySem.W.isFn K (.ref f32) = true) (l32 : K.lookup f32 = some ⟨oc32, od32, .func (PySem.W.fnOf "put" "Search.put" (defArgs (inClass (topS 47) 4)) (defBody (inClass (topS 47) 4)) (defScope (inClass (topS 47) 4)) .none kV32 dc32 pm32 an32 cd32 ct32), sl32⟩) (c32 : PySem.W.codeIn K cd32 "Search.put" = true) (k32 : PySem.W.keepIn K (.ref f32) = true)
    {f33 : Addr} {od33 an33 : Option Addr} {sl33 : Array (Option Value)} {oc33 kV33 dc33 pm33 cd33 ct33 : Value}
    (a33 : PySem.W.nsIn K mainGlobals "is_fit" = some (some (.ref f33))) (l33 : K.lookup f33 = some ⟨oc33, od33, .func (PySem.W.fnOf "is_fit" "is_fit" (defArgs (topS 45)) (defBody (topS 45)) (defScope (topS 45)) .none kV33 dc33 pm33 an33 cd33 ct33), sl33⟩) (c33 : PySem.W.codeIn K cd33 "is_fit" = true) (k33 : PySem.W.keepIn K (.ref f33) = true)
    {f34 : Addr} {od34 an34 : Option Addr} {sl34 : Array (Option Value)} {oc34 kV34 dc34 pm34 cd34 ct34 : Value}
    (a34 : PySem.W.findIn K (.ref C0) "step" = some (some (.ref f34))) (i34 : PySem.W.isFn K (.ref f34) = true) (l34 : K.lookup f34 = some ⟨oc34, od34, .func (PySem.W.fnOf "step" "Search.step" (defArgs (inClass (topS 47) 2)) (defBody (inClass (topS 47) 2)) (defScope (inClass (topS 47) 2)) .none kV34 dc34 pm34 an34 cd34 ct34), sl34⟩) (c34 : PySem.W.codeIn K cd34 "Search.step" = true) (k34 : PySem.W.keepIn K (.ref f34) = true)
    {f35 : Addr} {od35 an35 : Option Addr} {sl35 : Array (Option Value)} {oc35 kV35 dc35 pm35 cd35 ct35 : Value}
    (a35 : PySem.W.nsIn K mainGlobals "likeliest_of" = some (some (.ref f35))) (l35 : K.lookup f35 = some ⟨oc35, od35, .func (PySem.W.fnOf "likeliest_of" "likeliest_of" (defArgs (topS 50)) (defBody (topS 50)) (defScope (topS 50)) .none kV35 dc35 pm35 an35 cd35 ct35), sl35⟩) (c35 : PySem.W.codeIn K cd35 "likeliest_of" = true) (k35 : PySem.W.keepIn K (.ref f35) = true)
    {f36 : Addr} {od36 an36 : Option Addr} {sl36 : Array (Option Value)} {oc36 kV36 dc36 pm36 cd36 ct36 : Value}
    (a36 : PySem.W.nsIn K mainGlobals "is_end" = some (some (.ref f36))) (l36 : K.lookup f36 = some ⟨oc36, od36, .func (PySem.W.fnOf "is_end" "is_end" (defArgs (topS 42)) (defBody (topS 42)) (defScope (topS 42)) .none kV36 dc36 pm36 an36 cd36 ct36), sl36⟩) (c36 : PySem.W.codeIn K cd36 "is_end" = true) (k36 : PySem.W.keepIn K (.ref f36) = true)
    {f37 : Addr} {od37 an37 : Option Addr} {sl37 : Array (Option Value)} {oc37 kV37 dc37 pm37 cd37 ct37 : Value}
    (a37 : PySem.W.nsIn K mainGlobals "is_wish" = some (some (.ref f37))) (l37 : K.lookup f37 = some ⟨oc37, od37, .func (PySem.W.fnOf "is_wish" "is_wish" (defArgs (topS 43)) (defBody (topS 43)) (defScope (topS 43)) .none kV37 dc37 pm37 an37 cd37 ct37), sl37⟩) (c37 : PySem.W.codeIn K cd37 "is_wish" = true) (k37 : PySem.W.keepIn K (.ref f37) = true)
    {f38 : Addr} {od38 an38 : Option Addr} {sl38 : Array (Option Value)} {oc38 kV38 dc38 pm38 cd38 ct38 : Value}
    (a38 : PySem.W.nsIn K mainGlobals "need_wish" = some (some (.ref f38))) (l38 : K.lookup f38 = some ⟨oc38, od38, .func (PySem.W.fnOf "need_wish" "need_wish" (defArgs (topS 44)) (defBody (topS 44)) (defScope (topS 44)) .none kV38 dc38 pm38 an38 cd38 ct38), sl38⟩) (c38 : PySem.W.codeIn K cd38 "need_wish" = true) (k38 : PySem.W.keepIn K (.ref f38) = true)
    {f39 : Addr} {od39 an39 : Option Addr} {sl39 : Array (Option Value)} {oc39 kV39 dc39 pm39 cd39 ct39 : Value}
    (a39 : PySem.W.nsIn K mainGlobals "likeliest" = some (some (.ref f39))) (l39 : K.lookup f39 = some ⟨oc39, od39, .func (PySem.W.fnOf "likeliest" "likeliest" (defArgs (topS 49)) (defBody (topS 49)) (defScope (topS 49)) .none kV39 dc39 pm39 an39 cd39 ct39), sl39⟩) (c39 : PySem.W.codeIn K cd39 "likeliest" = true) (k39 : PySem.W.keepIn K (.ref f39) = true)
    {f40 : Addr} {od40 an40 : Option Addr} {sl40 : Array (Option Value)} {oc40 kV40 dc40 pm40 cd40 ct40 : Value}
    (a40 : PySem.W.nsIn K mainGlobals "likeliest_begun" = some (some (.ref f40))) (l40 : K.lookup f40 = some ⟨oc40, od40, .func (PySem.W.fnOf "likeliest_begun" "likeliest_begun" (defArgs (topS 58)) (defBody (topS 58)) (defScope (topS 58)) .none kV40 dc40 pm40 an40 cd40 ct40), sl40⟩) (c40 : PySem.W.codeIn K cd40 "likeliest_begun" = true) (k40 : PySem.W.keepIn K (.ref f40) = true)
    {f41 : Addr} {od41 an41 : Option Addr} {sl41 : Array (Option Value)} {oc41 kV41 dc41 pm41 cd41 ct41 : Value}
    (a41 : PySem.W.nsIn K mainGlobals "steps" = some (some (.ref f41))) (l41 : K.lookup f41 = some ⟨oc41, od41, .func (PySem.W.fnOf "steps" "steps" (defArgs (topS 29)) (defBody (topS 29)) (defScope (topS 29)) .none kV41 dc41 pm41 an41 cd41 ct41), sl41⟩) (c41 : PySem.W.codeIn K cd41 "steps" = true) (k41 : PySem.W.keepIn K (.ref f41) = true)
    {f42 : Addr} {od42 an42 : Option Addr} {sl42 : Array (Option Value)} {oc42 kV42 dc42 pm42 cd42 ct42 : Value}
    (a42 : PySem.W.nsIn K mainGlobals "share" = some (some (.ref f42))) (l42 : K.lookup f42 = some ⟨oc42, od42, .func (PySem.W.fnOf "share" "share" (defArgs (topS 30)) (defBody (topS 30)) (defScope (topS 30)) .none kV42 dc42 pm42 an42 cd42 ct42), sl42⟩) (c42 : PySem.W.codeIn K cd42 "share" = true) (k42 : PySem.W.keepIn K (.ref f42) = true)
    {f43 : Addr} {od43 an43 : Option Addr} {sl43 : Array (Option Value)} {oc43 kV43 dc43 pm43 cd43 ct43 : Value}
    (a43 : PySem.W.nsIn K mainGlobals "makes" = some (some (.ref f43))) (l43 : K.lookup f43 = some ⟨oc43, od43, .func (PySem.W.fnOf "makes" "makes" (defArgs (topS 31)) (defBody (topS 31)) (defScope (topS 31)) .none kV43 dc43 pm43 an43 cd43 ct43), sl43⟩) (c43 : PySem.W.codeIn K cd43 "makes" = true) (k43 : PySem.W.keepIn K (.ref f43) = true)
    {f44 : Addr} {od44 an44 : Option Addr} {sl44 : Array (Option Value)} {oc44 kV44 dc44 pm44 cd44 ct44 : Value}
    (a44 : PySem.W.nsIn K mainGlobals "next_letters" = some (some (.ref f44))) (l44 : K.lookup f44 = some ⟨oc44, od44, .func (PySem.W.fnOf "next_letters" "next_letters" (defArgs (topS 53)) (defBody (topS 53)) (defScope (topS 53)) .none kV44 dc44 pm44 an44 cd44 ct44), sl44⟩) (c44 : PySem.W.codeIn K cd44 "next_letters" = true) (k44 : PySem.W.keepIn K (.ref f44) = true)
    {f45 : Addr} {od45 an45 : Option Addr} {sl45 : Array (Option Value)} {oc45 kV45 dc45 pm45 cd45 ct45 : Value}
    (a45 : PySem.W.nsIn K mainGlobals "share_begun" = some (some (.ref f45))) (l45 : K.lookup f45 = some ⟨oc45, od45, .func (PySem.W.fnOf "share_begun" "share_begun" (defArgs (topS 57)) (defBody (topS 57)) (defScope (topS 57)) .none kV45 dc45 pm45 an45 cd45 ct45), sl45⟩) (c45 : PySem.W.codeIn K cd45 "share_begun" = true) (k45 : PySem.W.keepIn K (.ref f45) = true)
    {f46 : Addr} {od46 an46 : Option Addr} {sl46 : Array (Option Value)} {oc46 kV46 dc46 pm46 cd46 ct46 : Value}
    (a46 : PySem.W.nsIn K mainGlobals "share_of_length" = some (some (.ref f46))) (l46 : K.lookup f46 = some ⟨oc46, od46, .func (PySem.W.fnOf "share_of_length" "share_of_length" (defArgs (topS 37)) (defBody (topS 37)) (defScope (topS 37)) .none kV46 dc46 pm46 an46 cd46 ct46), sl46⟩) (c46 : PySem.W.codeIn K cd46 "share_of_length" = true) (k46 : PySem.W.keepIn K (.ref f46) = true)
    {f47 : Addr} {od47 an47 : Option Addr} {sl47 : Array (Option Value)} {oc47 kV47 dc47 pm47 cd47 ct47 : Value}
    (a47 : PySem.W.nsIn K mainGlobals "share_up_to" = some (some (.ref f47))) (l47 : K.lookup f47 = some ⟨oc47, od47, .func (PySem.W.fnOf "share_up_to" "share_up_to" (defArgs (topS 38)) (defBody (topS 38)) (defScope (topS 38)) .none kV47 dc47 pm47 an47 cd47 ct47), sl47⟩) (c47 : PySem.W.codeIn K cd47 "share_up_to" = true) (k47 : PySem.W.keepIn K (.ref f47) = true)
    {f48 : Addr} {od48 an48 : Option Addr} {sl48 : Array (Option Value)} {oc48 kV48 dc48 pm48 cd48 ct48 : Value}
    (a48 : PySem.W.nsIn K mainGlobals "law" = some (some (.ref f48))) (l48 : K.lookup f48 = some ⟨oc48, od48, .func (PySem.W.fnOf "law" "law" (defArgs (topS 64)) (defBody (topS 64)) (defScope (topS 64)) .none kV48 dc48 pm48 an48 cd48 ct48), sl48⟩) (c48 : PySem.W.codeIn K cd48 "law" = true) (k48 : PySem.W.keepIn K (.ref f48) = true)
    (z_all : PySem.W.nsIn K mainGlobals "all" = some none)
    (z_bool : PySem.W.nsIn K mainGlobals "bool" = some none)
    (z_enumerate : PySem.W.nsIn K mainGlobals "enumerate" = some none)
    (z_int : PySem.W.nsIn K mainGlobals "int" = some none)
    (z_isinstance : PySem.W.nsIn K mainGlobals "isinstance" = some none)
    (z_len : PySem.W.nsIn K mainGlobals "len" = some none)
    (z_list : PySem.W.nsIn K mainGlobals "list" = some none)
    (z_max : PySem.W.nsIn K mainGlobals "max" = some none)
    (z_range : PySem.W.nsIn K mainGlobals "range" = some none)
    (z_sorted : PySem.W.nsIn K mainGlobals "sorted" = some none)
    (z_str : PySem.W.nsIn K mainGlobals "str" = some none)
    (z_sum : PySem.W.nsIn K mainGlobals "sum" = some none)
    (z_tuple : PySem.W.nsIn K mainGlobals "tuple" = some none)
    (z_zip : PySem.W.nsIn K mainGlobals "zip" = some none)
    {t_LETTERS : Tok} (g_LETTERS : PySem.W.nsIn K mainGlobals "LETTERS" = some (some (.str (toS [97, 98, 99, 100, 101, 102, 103, 104, 105, 106, 107, 108, 109, 110, 111, 112, 113, 114, 115, 116, 117, 118, 119, 120, 121, 122]) t_LETTERS)))
    {t_MOST_LETTERS : Tok} (g_MOST_LETTERS : PySem.W.nsIn K mainGlobals "MOST_LETTERS" = some (some (.int 8 t_MOST_LETTERS)))
    {t_MOST_NAMES : Tok} (g_MOST_NAMES : PySem.W.nsIn K mainGlobals "MOST_NAMES" = some (some (.int 8 t_MOST_NAMES)))
    {t_MOST_ORDER : Tok} (g_MOST_ORDER : PySem.W.nsIn K mainGlobals "MOST_ORDER" = some (some (.int 3 t_MOST_ORDER)))
    {t_MOST : Tok} (g_MOST : PySem.W.nsIn K mainGlobals "MOST" = some (some (.int 8 t_MOST)))
    {t_MOST_BARRED : Tok} (g_MOST_BARRED : PySem.W.nsIn K mainGlobals "MOST_BARRED" = some (some (.int 6 t_MOST_BARRED)))
    {t_MOST_ENDS : Tok} (g_MOST_ENDS : PySem.W.nsIn K mainGlobals "MOST_ENDS" = some (some (.int 3 t_MOST_ENDS)))
    {e0 e1 e2 e3 e4 eL : Addr} (EL : ErrL K eL) (E0 : ErrOne K "NoBook" e0 eL) (E1 : ErrOne K "NoOrder" e1 eL) (E2 : ErrOne K "NoName" e2 eL) (E3 : ErrOne K "NoWish" e3 eL) (E4 : ErrOne K "NoNumber" e4 eL) (ES : ErrSub K e0 e1 e2 e3 e4)
    : ∃ fd : FuncData, (∀ (s : Shared) (v : Value), BindsTo s fd ⟨[v], []⟩ [("_law_script", v)]) ∧ ∀ base : Heap, K.In base → base.Ns mainGlobals mg → FnOk l.prog w K mg base (L2.CX l.prog w) 7 fa fd ["_law_script"] (spOk K 1 g_law_k85) := by
  have e := hfa.symm.trans (PySem.W.mg_of X G a48)
  cases e
  have F0 := fun_mk (st := (topS 60)) l0 c0 k0
  have F1 := fun_mk (st := (topS 61)) l1 c1 k1
  have F2 := fun_mk (st := (topS 62)) l2 c2 k2
  have F3 := fun_mk (st := (topS 63)) l3 c3 k3
  have F4 := fun_mk (st := (topS 24)) l4 c4 k4
  have F5 := fun_mk (st := (topS 25)) l5 c5 k5
  have F6 := fun_mk (st := (topS 19)) l6 c6 k6
  have F7 := fun_mk (st := (topS 20)) l7 c7 k7
  have F8 := fun_mk (st := (topS 21)) l8 c8 k8
  have F9 := fun_mk (st := (topS 13)) l9 c9 k9
  have F10 := fun_mk (st := (topS 14)) l10 c10 k10
  have F11 := fun_mk (st := (topS 15)) l11 c11 k11
  have F12 := fun_mk (st := (topS 17)) l12 c12 k12
  have F13 := fun_mk (st := (topS 12)) l13 c13 k13
  have F14 := fun_mk (st := (topS 16)) l14 c14 k14
  have F15 := fun_mk (st := (topS 22)) l15 c15 k15
  have F16 := fun_mk (st := (topS 18)) l16 c16 k16
  have F17 := fun_mk (st := (topS 34)) l17 c17 k17
  have F18 := fun_mk (st := (topS 28)) l18 c18 k18
  have F19 := fun_mk (st := (topS 26)) l19 c19 k19
  have F20 := fun_mk (st := (topS 35)) l20 c20 k20
  have F21 := fun_mk (st := (topS 36)) l21 c21 k21
  have F22 := fun_mk (st := (topS 55)) l22 c22 k22
  have F23 := fun_mk (st := (topS 52)) l23 c23 k23
  have F24 := fun_mk (st := (topS 54)) l24 c24 k24
  have F25 := fun_mk (st := (topS 56)) l25 c25 k25
  have F26 := fun_mk (st := (topS 27)) l26 c26 k26
  have F27 := fun_mk (st := (inClass (topS 47) 0)) l27 c27 k27
  have F28 := fun_mk (st := (inClass (topS 47) 1)) l28 c28 k28
  have F29 := fun_mk (st := (inClass (topS 47) 5)) l29 c29 k29
  have F30 := fun_mk (st := (inClass (topS 47) 3)) l30 c30 k30
  have F31 := fun_mk (st := (topS 48)) l31 c31 k31
  have F32 := fun_mk (st := (inClass (topS 47) 4)) l32 c32 k32
  have F33 := fun_mk (st := (topS 45)) l33 c33 k33
  have F34 := fun_mk (st := (inClass (topS 47) 2)) l34 c34 k34
  have F35 := fun_mk (st := (topS 50)) l35 c35 k35
  have F36 := fun_mk (st := (topS 42)) l36 c36 k36
  have F37 := fun_mk (st := (topS 43)) l37 c37 k37
  have F38 := fun_mk (st := (topS 44)) l38 c38 k38
  have F39 := fun_mk (st := (topS 49)) l39 c39 k39
  have F40 := fun_mk (st := (topS 58)) l40 c40 k40
  have F41 := fun_mk (st := (topS 29)) l41 c41 k41
  have F42 := fun_mk (st := (topS 30)) l42 c42 k42
  have F43 := fun_mk (st := (topS 31)) l43 c43 k43
  have F44 := fun_mk (st := (topS 53)) l44 c44 k44
  have F45 := fun_mk (st := (topS 57)) l45 c45 k45
  have F46 := fun_mk (st := (topS 37)) l46 c46 k46
  have F47 := fun_mk (st := (topS 38)) l47 c47 k47
  have F48 := fun_mk (st := (topS 64)) l48 c48 k48
  refine ⟨_, fun s v => .of_eq rfl, fun base _ _ => (ok_law {
    er := errs_mk X G EL E0 E1 E2 E3 E4 ES,
    a_Search := C0,
    O_Search := obc u0 rfl,
    c_Search := ⟨pg0, hd0, po0, sa0⟩,
    C_Search := PySem.W.mg_of X G u0,
    n_Search_found := n0_found,
    n_Search_heads := n0_heads,
    n_Search_names := n0_names,
    n_Search_order := n0_order,
    n_Search_rows := n0_rows,
    n_Search_wish := n0_wish,
    f__law_cell := f0,
    fd__law_cell := _,
    F__law_cell := F0,
    b__law_cell := (F0.binds (ps := ["_law_script", "_law_k"]) fun _ _ _ _ _ _ us hl => match us, hl with | [_, _], _ => rfl),
    m__law_cell := PySem.W.mg_of X G a0,
    f__law_drawn := f1,
    fd__law_drawn := _,
    F__law_drawn := F1,
    b__law_drawn := (F1.binds (ps := ["_law_script", "_law_k", "_law_many"]) fun _ _ _ _ _ _ us hl => match us, hl with | [_, _, _], _ => rfl),
    m__law_drawn := PySem.W.mg_of X G a1,
    f__law_name := f2,
    fd__law_name := _,
    F__law_name := F2,
    b__law_name := (F2.binds (ps := ["_law_script", "_law_at", "_law_most"]) fun _ _ _ _ _ _ us hl => match us, hl with | [_, _, _], _ => rfl),
    m__law_name := PySem.W.mg_of X G a2,
    f__law_book := f3,
    fd__law_book := _,
    F__law_book := F3,
    b__law_book := (F3.binds (ps := ["_law_script", "_law_at", "_law_many", "_law_most"]) fun _ _ _ _ _ _ us hl => match us, hl with | [_, _, _, _], _ => rfl),
    m__law_book := PySem.W.mg_of X G a3,
    f_lowest := f4,
    fd_lowest := _,
    F_lowest := F4,
    b_lowest := (F4.binds (ps := ["up", "down"]) fun _ _ _ _ _ _ us hl => match us, hl with | [_, _], _ => rfl),
    m_lowest := PySem.W.mg_of X G a4,
    f_added := f5,
    fd_added := _,
    F_added := F5,
    b_added := (F5.binds (ps := ["one", "other"]) fun _ _ _ _ _ _ us hl => match us, hl with | [_, _], _ => rfl),
    m_added := PySem.W.mg_of X G a5,
    f_end_of := f6,
    fd_end_of := _,
    F_end_of := F6,
    b_end_of := (F6.binds (ps := ["order", "text"]) fun _ _ _ _ _ _ us hl => match us, hl with | [_, _], _ => rfl),
    m_end_of := PySem.W.mg_of X G a6,
    f_counted := f7,
    fd_counted := _,
    F_counted := F7,
    b_counted := (F7.binds (ps := ["book", "order"]) fun _ _ _ _ _ _ us hl => match us, hl with | [_, _], _ => rfl),
    m_counted := PySem.W.mg_of X G a7,
    f_listed := f8,
    fd_listed := _,
    F_listed := F8,
    b_listed := (F8.binds (ps := ["row"]) fun _ _ _ _ _ _ us hl => match us, hl with | [_], _ => rfl),
    m_listed := PySem.W.mg_of X G a8,
    f_is_name := f9,
    fd_is_name := _,
    F_is_name := F9,
    b_is_name := (F9.binds (ps := ["thing"]) fun _ _ _ _ _ _ us hl => match us, hl with | [_], _ => rfl),
    m_is_name := PySem.W.mg_of X G a9,
    f_is_book := f10,
    fd_is_book := _,
    F_is_book := F10,
    b_is_book := (F10.binds (ps := ["thing"]) fun _ _ _ _ _ _ us hl => match us, hl with | [_], _ => rfl),
    m_is_book := PySem.W.mg_of X G a10,
    f_need_book := f11,
    fd_need_book := _,
    F_need_book := F11,
    b_need_book := (F11.binds (ps := ["book"]) fun _ _ _ _ _ _ us hl => match us, hl with | [_], _ => rfl),
    m_need_book := PySem.W.mg_of X G a11,
    f_need_name := f12,
    fd_need_name := _,
    F_need_name := F12,
    b_need_name := (F12.binds (ps := ["name"]) fun _ _ _ _ _ _ us hl => match us, hl with | [_], _ => rfl),
    m_need_name := PySem.W.mg_of X G a12,
    f_is_number := f13,
    fd_is_number := _,
    F_is_number := F13,
    b_is_number := (F13.binds (ps := ["thing", "low", "high"]) fun _ _ _ _ _ _ us hl => match us, hl with | [_, _, _], _ => rfl),
    m_is_number := PySem.W.mg_of X G a13,
    f_need_order := f14,
    fd_need_order := _,
    F_need_order := F14,
    b_need_order := (F14.binds (ps := ["order"]) fun _ _ _ _ _ _ us hl => match us, hl with | [_], _ => rfl),
    m_need_order := PySem.W.mg_of X G a14,
    f_behind := f15,
    fd_behind := _,
    F_behind := F15,
    b_behind := (F15.binds (ps := ["book", "order", "text"]) fun _ _ _ _ _ _ us hl => match us, hl with | [_, _, _], _ => rfl),
    m_behind := PySem.W.mg_of X G a15,
    f_need_number := f16,
    fd_need_number := _,
    F_need_number := F16,
    b_need_number := (F16.binds (ps := ["number", "low", "high"]) fun _ _ _ _ _ _ us hl => match us, hl with | [_, _, _], _ => rfl),
    m_need_number := PySem.W.mg_of X G a16,
    f_need_all := f17,
    fd_need_all := _,
    F_need_all := F17,
    b_need_all := (F17.binds (ps := ["book", "order", "length"]) fun _ _ _ _ _ _ us hl => match us, hl with | [_, _, _], _ => rfl),
    m_need_all := PySem.W.mg_of X G a17,
    f_part_of := f18,
    fd_part_of := _,
    F_part_of := F18,
    b_part_of := (F18.binds (ps := ["rows", "context", "letter"]) fun _ _ _ _ _ _ us hl => match us, hl with | [_, _, _], _ => rfl),
    m_part_of := PySem.W.mg_of X G a18,
    f_times := f19,
    fd_times := _,
    F_times := F19,
    b_times := (F19.binds (ps := ["one", "other"]) fun _ _ _ _ _ _ us hl => match us, hl with | [_, _], _ => rfl),
    m_times := PySem.W.mg_of X G a19,
    f_ways := f20,
    fd_ways := _,
    F_ways := F20,
    b_ways := (F20.binds (ps := ["rows", "order", "length"]) fun _ _ _ _ _ _ us hl => match us, hl with | [_, _, _], _ => rfl),
    m_ways := PySem.W.mg_of X G a20,
    f_how_many := f21,
    fd_how_many := _,
    F_how_many := F21,
    b_how_many := (F21.binds (ps := ["book", "order", "length"]) fun _ _ _ _ _ _ us hl => match us, hl with | [_, _, _], _ => rfl),
    m_how_many := PySem.W.mg_of X G a21,
    f_ended := f22,
    fd_ended := _,
    F_ended := F22,
    b_ended := (F22.binds (ps := ["rows", "order", "text", "left"]) fun _ _ _ _ _ _ us hl => match us, hl with | [_, _, _, _], _ => rfl),
    m_ended := PySem.W.mg_of X G a22,
    f_need_begun := f23,
    fd_need_begun := _,
    F_need_begun := F23,
    b_need_begun := (F23.binds (ps := ["book", "order", "text"]) fun _ _ _ _ _ _ us hl => match us, hl with | [_, _, _], _ => rfl),
    m_need_begun := PySem.W.mg_of X G a23,
    f_part_begun := f24,
    fd_part_begun := _,
    F_part_begun := F24,
    b_part_begun := (F24.binds (ps := ["rows", "order", "text"]) fun _ _ _ _ _ _ us hl => match us, hl with | [_, _, _], _ => rfl),
    m_part_begun := PySem.W.mg_of X G a24,
    f_how_many_begun := f25,
    fd_how_many_begun := _,
    F_how_many_begun := F25,
    b_how_many_begun := (F25.binds (ps := ["book", "order", "text"]) fun _ _ _ _ _ _ us hl => match us, hl with | [_, _, _], _ => rfl),
    m_how_many_begun := PySem.W.mg_of X G a25,
    f_is_less := f26,
    fd_is_less := _,
    F_is_less := F26,
    b_is_less := (F26.binds (ps := ["one", "other"]) fun _ _ _ _ _ _ us hl => match us, hl with | [_, _], _ => rfl),
    m_is_less := PySem.W.mg_of X G a26,
    f_Search___init__ := f27,
    fd_Search___init__ := _,
    F_Search___init__ := F27,
    b_Search___init__ := (F27.binds (ps := ["self", "book", "order", "wish"]) fun _ _ _ _ _ _ us hl => match us, hl with | [_, _, _, _], _ => rfl),
    k_Search := ⟨mk0, a27, i27, kc0⟩,
    f_Search_best := f28,
    fd_Search_best := _,
    F_Search_best := F28,
    b_Search_best := (F28.binds (ps := ["self"]) fun _ _ _ _ _ _ us hl => match us, hl with | [_], _ => rfl),
    M_Search_best := ⟨a28, i28, k28⟩,
    f_Search_is_done := f29,
    fd_Search_is_done := _,
    F_Search_is_done := F29,
    b_Search_is_done := (F29.binds (ps := ["self", "many"]) fun _ _ _ _ _ _ us hl => match us, hl with | [_, _], _ => rfl),
    M_Search_is_done := ⟨a29, i29, k29⟩,
    f_Search_go_on := f30,
    fd_Search_go_on := _,
    F_Search_go_on := F30,
    b_Search_go_on := (F30.binds (ps := ["self", "part", "text"]) fun _ _ _ _ _ _ us hl => match us, hl with | [_, _, _], _ => rfl),
    M_Search_go_on := ⟨a30, i30, k30⟩,
    f_comes_first := f31,
    fd_comes_first := _,
    F_comes_first := F31,
    b_comes_first := (F31.binds (ps := ["one", "other"]) fun _ _ _ _ _ _ us hl => match us, hl with | [_, _], _ => rfl),
    m_comes_first := PySem.W.mg_of X G a31,
    f_Search_put := f32,
    fd_Search_put := _,
    F_Search_put := F32,
    b_Search_put := (F32.binds (ps := ["self", "one"]) fun _ _ _ _ _ _ us hl => match us, hl with | [_, _], _ => rfl),
    M_Search_put := ⟨a32, i32, k32⟩,
    f_is_fit := f33,
    fd_is_fit := _,
    F_is_fit := F33,
    b_is_fit := (F33.binds (ps := ["book", "wish", "name"]) fun _ _ _ _ _ _ us hl => match us, hl with | [_, _, _], _ => rfl),
    m_is_fit := PySem.W.mg_of X G a33,
    f_Search_step := f34,
    fd_Search_step := _,
    F_Search_step := F34,
    b_Search_step := (F34.binds (ps := ["self"]) fun _ _ _ _ _ _ us hl => match us, hl with | [_], _ => rfl),
    M_Search_step := ⟨a34, i34, k34⟩,
    f_likeliest_of := f35,
    fd_likeliest_of := _,
    F_likeliest_of := F35,
    b_likeliest_of := (F35.binds (ps := ["book", "order", "wish", "many"]) fun _ _ _ _ _ _ us hl => match us, hl with | [_, _, _, _], _ => rfl),
    m_likeliest_of := PySem.W.mg_of X G a35,
    f_is_end := f36,
    fd_is_end := _,
    F_is_end := F36,
    b_is_end := (F36.binds (ps := ["thing"]) fun _ _ _ _ _ _ us hl => match us, hl with | [_], _ => rfl),
    m_is_end := PySem.W.mg_of X G a36,
    f_is_wish := f37,
    fd_is_wish := _,
    F_is_wish := F37,
    b_is_wish := (F37.binds (ps := ["thing"]) fun _ _ _ _ _ _ us hl => match us, hl with | [_], _ => rfl),
    m_is_wish := PySem.W.mg_of X G a37,
    f_need_wish := f38,
    fd_need_wish := _,
    F_need_wish := F38,
    b_need_wish := (F38.binds (ps := ["wish"]) fun _ _ _ _ _ _ us hl => match us, hl with | [_], _ => rfl),
    m_need_wish := PySem.W.mg_of X G a38,
    f_likeliest := f39,
    fd_likeliest := _,
    F_likeliest := F39,
    b_likeliest := (F39.binds (ps := ["book", "order", "wish", "many"]) fun _ _ _ _ _ _ us hl => match us, hl with | [_, _, _, _], _ => rfl),
    m_likeliest := PySem.W.mg_of X G a39,
    f_likeliest_begun := f40,
    fd_likeliest_begun := _,
    F_likeliest_begun := F40,
    b_likeliest_begun := (F40.binds (ps := ["book", "order", "text"]) fun _ _ _ _ _ _ us hl => match us, hl with | [_, _, _], _ => rfl),
    m_likeliest_begun := PySem.W.mg_of X G a40,
    f_steps := f41,
    fd_steps := _,
    F_steps := F41,
    b_steps := (F41.binds (ps := ["book", "order", "name"]) fun _ _ _ _ _ _ us hl => match us, hl with | [_, _, _], _ => rfl),
    m_steps := PySem.W.mg_of X G a41,
    f_share := f42,
    fd_share := _,
    F_share := F42,
    b_share := (F42.binds (ps := ["book", "order", "name"]) fun _ _ _ _ _ _ us hl => match us, hl with | [_, _, _], _ => rfl),
    m_share := PySem.W.mg_of X G a42,
    f_makes := f43,
    fd_makes := _,
    F_makes := F43,
    b_makes := (F43.binds (ps := ["book", "order", "name"]) fun _ _ _ _ _ _ us hl => match us, hl with | [_, _, _], _ => rfl),
    m_makes := PySem.W.mg_of X G a43,
    f_next_letters := f44,
    fd_next_letters := _,
    F_next_letters := F44,
    b_next_letters := (F44.binds (ps := ["book", "order", "text"]) fun _ _ _ _ _ _ us hl => match us, hl with | [_, _, _], _ => rfl),
    m_next_letters := PySem.W.mg_of X G a44,
    f_share_begun := f45,
    fd_share_begun := _,
    F_share_begun := F45,
    b_share_begun := (F45.binds (ps := ["book", "order", "text"]) fun _ _ _ _ _ _ us hl => match us, hl with | [_, _, _], _ => rfl),
    m_share_begun := PySem.W.mg_of X G a45,
    f_share_of_length := f46,
    fd_share_of_length := _,
    F_share_of_length := F46,
    b_share_of_length := (F46.binds (ps := ["book", "order", "length"]) fun _ _ _ _ _ _ us hl => match us, hl with | [_, _, _], _ => rfl),
    m_share_of_length := PySem.W.mg_of X G a46,
    f_share_up_to := f47,
    fd_share_up_to := _,
    F_share_up_to := F47,
    b_share_up_to := (F47.binds (ps := ["book", "order", "length"]) fun _ _ _ _ _ _ us hl => match us, hl with | [_, _, _], _ => rfl),
    m_share_up_to := PySem.W.mg_of X G a47,
    f_law := fa,
    fd_law := _,
    F_law := F48,
    b_law := (F48.binds (ps := ["_law_script"]) fun _ _ _ _ _ _ us hl => match us, hl with | [_], _ => rfl),
    m_law := PySem.W.mg_of X G a48,
    z_all := PySem.W.mg_none_of X G z_all,
    z_bool := PySem.W.mg_none_of X G z_bool,
    z_enumerate := PySem.W.mg_none_of X G z_enumerate,
    z_int := PySem.W.mg_none_of X G z_int,
    z_isinstance := PySem.W.mg_none_of X G z_isinstance,
    z_len := PySem.W.mg_none_of X G z_len,
    z_list := PySem.W.mg_none_of X G z_list,
    z_max := PySem.W.mg_none_of X G z_max,
    z_range := PySem.W.mg_none_of X G z_range,
    z_sorted := PySem.W.mg_none_of X G z_sorted,
    z_str := PySem.W.mg_none_of X G z_str,
    z_sum := PySem.W.mg_none_of X G z_sum,
    z_tuple := PySem.W.mg_none_of X G z_tuple,
    z_zip := PySem.W.mg_none_of X G z_zip,
    g_LETTERS := ⟨_, PySem.W.mg_of X G g_LETTERS⟩,
    g_MOST_LETTERS := ⟨_, PySem.W.mg_of X G g_MOST_LETTERS⟩,
    g_MOST_NAMES := ⟨_, PySem.W.mg_of X G g_MOST_NAMES⟩,
    g_MOST_ORDER := ⟨_, PySem.W.mg_of X G g_MOST_ORDER⟩,
    g_MOST := ⟨_, PySem.W.mg_of X G g_MOST⟩,
    g_MOST_BARRED := ⟨_, PySem.W.mg_of X G g_MOST_BARRED⟩,
    g_MOST_ENDS := ⟨_, PySem.W.mg_of X G g_MOST_ENDS⟩ }).imp spOk_D⟩
end KN
set_option maxHeartbeats 400000
/-! K85B: the law's answer -/
namespace KN
open PySem PySem.Spec PyProof.Rows L2
noncomputable section
def q1 : Ga → R Fl := fSet 1 (bCall g__law_book (bCons (bVar 0) (bCons (bC (.int 0)) (bCons (bC (.int 3)) (bCons (bC (.int 3)) bNil)))))
def q2 : Ga → R Fl := fSet 2 (b2 dAdd (bC (.int 1)) (bCall g__law_drawn (bCons (bVar 0) (bCons (bC (.int 50)) (bCons (bC (.int 3)) bNil)))))
def q3 : Ga → R Fl := fIf (tVal (b2 dNe (bCall g_how_many_begun (bCons (bVar 1) (bCons (bVar 2) (bCons (bC (.str [])) bNil)))) (bN dSum (bCons (bLcI (iR2 (bC (.int 1)) (bC (.int 9))) [14] (bdN 14) yes (bCall g_how_many (bCons (bVar 1) (bCons (bVar 2) (bCons (bVar 14) bNil))))) bNil)))) (fRet (bC (.bl false))) fNil
def q4 : Ga → R Fl := fIf (tVal (b2 dNe (bCall g_share_begun (bCons (bVar 1) (bCons (bVar 2) (bCons (bC (.str [])) bNil)))) (bCall g_share_up_to (bCons (bVar 1) (bCons (bVar 2) (bCons (bC (.int 8)) bNil)))))) (fRet (bC (.bl false))) fNil
def q5b1 : Ga → R Fl := fSet 4 (bN dIntB (bCons (bAnd (b2 dNe (bVar 3) (bC (.str []))) (bCall g_makes (bCons (bVar 1) (bCons (bVar 2) (bCons (bVar 3) bNil))))) bNil))
def q5b2 : Ga → R Fl := fSet 5 (bIf (tVal (b2 dNe (bVar 3) (bC (.str [])))) (bCall g_share (bCons (bVar 1) (bCons (bVar 2) (bCons (bVar 3) bNil)))) (bTup (bCons (bC (.int 0)) (bCons (bC (.int 1)) bNil))))
def q5b3b1 : Ga → R Fl := fSet 4 (b2 dAdd (bVar 4) (bCall g_how_many_begun (bCons (bVar 1) (bCons (bVar 2) (bCons (b2 dAdd (bVar 3) (bVar 6)) bNil)))))
def q5b3b2 : Ga → R Fl := fSet 5 (bCall g_added (bCons (bVar 5) (bCons (bCall g_share_begun (bCons (bVar 1) (bCons (bVar 2) (bCons (b2 dAdd (bVar 3) (bVar 6)) bNil)))) bNil)))
def q5b3b : Ga → R Fl := fSeq q5b3b1 (q5b3b2)
def q5b3 : Ga → R Fl := fForE (bC (.str [97, 98, 122])) (bdN 6) q5b3b
def q5b4 : Ga → R Fl := fIf (tOr (tVal (b2 dNe (bCall g_how_many_begun (bCons (bVar 1) (bCons (bVar 2) (bCons (bVar 3) bNil)))) (bVar 4))) (tVal (b2 dNe (bCall g_share_begun (bCons (bVar 1) (bCons (bVar 2) (bCons (bVar 3) bNil)))) (bVar 5)))) (fRet (bC (.bl false))) fNil
def q5b5 : Ga → R Fl := fSet 7 (bCall g_likeliest_begun (bCons (bVar 1) (bCons (bVar 2) (bCons (bVar 3) bNil))))
def q5b6 : Ga → R Fl := fSet 8 (bIf (tVal (b2 dLt (bN dLen (bCons (bVar 3) bNil)) (bC (.int 4)))) (bCall g_likeliest (bCons (bVar 1) (bCons (bVar 2) (bCons (bTup (bCons (bC (.int 1)) (bCons (bC (.int 8)) (bCons (bSl (bVar 3) pNo (pSo (bC (.int 3)))) (bCons (bC (.str [])) (bCons (bTup bNil) (bCons (bC (.bl true)) bNil))))))) (bCons (bC (.int 1)) bNil))))) (bLst bNil))
def q5b7 : Ga → R Fl := fIf (tOr (tVal (b2 dNe (b2 dIsN (bVar 7) (bC .non)) (b2 dEq (bVar 4) (bC (.int 0))))) (tAnd (tVal (b2 dNe (bVar 8) (bLst bNil))) (tVal (b2 dNe (b2 dIx (b2 dIx (bVar 8) (bC (.int 0))) (bC (.int 1))) (bVar 7))))) (fRet (bC (.bl false))) fNil
def q5b8 : Ga → R Fl := fIf (tAnd (tVal (b2 dNotN (bVar 7) (bC .non))) (tVal (b2 dNe (bSl (bVar 7) pNo (pSo (bN dLen (bCons (bVar 3) bNil)))) (bVar 3)))) (fRet (bC (.bl false))) fNil
def q5b9 : Ga → R Fl := fSet 9 (bCall g_next_letters (bCons (bVar 1) (bCons (bVar 2) (bCons (bVar 3) bNil))))
def q5b10 : Ga → R Fl := fSet 10 (bTup (bCons (bC (.int 0)) (bCons (bC (.int 1)) bNil)))
def q5b11b : Ga → R Fl := fSet 10 (bCall g_added (bCons (bVar 10) (bCons (bVar 13) bNil)))
def q5b11 : Ga → R Fl := fForE (bVar 9) (bdT [6, 13]) q5b11b
def q5b12 : Ga → R Fl := fSet 11 (bCall g_behind (bCons (bVar 1) (bCons (bVar 2) (bCons (bVar 3) bNil))))
def q5b13 : Ga → R Fl := fOwn 12 (bLcE (bVar 11) [6, 15] (bdT [6, 15]) (tVal (b2 dEq (bVar 6) (bC (.str [])))) (bVar 15))
def q5b14 : Ga → R Fl := fIf (tVal (b2 dNe (bN dSort (bCons (bLcE (bVar 9) [16, 13] (bdT [16, 13]) yes (bVar 16)) bNil)) (bLcE (bVar 11) [16, 15] (bdT [16, 15]) (tVal (b2 dNe (bVar 16) (bC (.str [])))) (bVar 16)))) (fRet (bC (.bl false))) fNil
def q5b15 : Ga → R Fl := fIf (tOr (tAnd (tVal (b2 dNe (bVar 9) (bLst bNil))) (tVal (b2 dNe (b2 dEq (bVar 10) (bTup (bCons (bC (.int 1)) (bCons (bC (.int 1)) bNil)))) (b2 dEq (bRd 12) (bLst bNil))))) (tVal (bCall g_is_less (bCons (bTup (bCons (bC (.int 1)) (bCons (bC (.int 1)) bNil))) (bCons (bVar 10) bNil))))) (fRet (bC (.bl false))) fNil
def q5b16 : Ga → R Fl := fIf (tVal (b2 dNe (bLcI (iZpA (bVar 9) (bSl (bVar 9) (pSo (bC (.int 1))) pNo)) [16, 17] (bdT [16, 17]) (tVal (bCall g_is_less (bCons (b2 dIx (bVar 16) (bC (.int 1))) (bCons (b2 dIx (bVar 17) (bC (.int 1))) bNil)))) (bC (.int 1))) (bLst bNil))) (fRet (bC (.bl false))) fNil
def q5b : Ga → R Fl := fSeq q5b1 (fSeq q5b2 (fSeq q5b3 (fSeq q5b4 (fSeq q5b5 (fSeq q5b6 (fSeq q5b7 (fSeq q5b8 (fSeq q5b9 (fSeq q5b10 (fSeq q5b11 (fSeq q5b12 (fSeq q5b13 (fSeq q5b14 (fSeq q5b15 (q5b16)))))))))))))))
def q5 : Ga → R Fl := fForE (bTup (bCons (bC (.str [])) (bCons (bSl (b2 dIx (bVar 1) (bC (.int 0))) pNo (pSo (bC (.int 1)))) (bCons (b2 dIx (bVar 1) (bC (.int 0))) (bCons (bCall g__law_name (bCons (bVar 0) (bCons (bC (.int 60)) (bCons (bC (.int 3)) bNil)))) (bCons (b2 dAdd (bSl (b2 dIx (bVar 1) (bC (.int 0))) pNo (pSo (bC (.int 2)))) (bC (.str [97]))) bNil)))))) (bdN 3) q5b
def q : Ga → R Fl := fSeq q1 (fSeq q2 (fSeq q3 (fSeq q4 (fSeq q5 ((fRet (bC (.bl true))))))))
theorem m_law_k85_e : m_law_k85 = q := rfl
section
theorem tand_ok {p q : Ga → R Bool} {γ : Ga} {x y : Bool} (h : p γ = .ok x) (k : x = true → q γ = .ok y) : tAnd p q γ = .ok (x && y) := by
  rw [tAnd_e, h]; cases x
  · rfl
  · exact k rfl
theorem tor_ok {p q : Ga → R Bool} {γ : Ga} {x y : Bool} (h : p γ = .ok x) (k : q γ = .ok y) : tOr p q γ = .ok (x || y) := by
  rw [tOr_e, h]; cases x
  · exact k
  · rfl
theorem frEq (p q : Rat) : dEq (frD p) (frD q) = .ok (.bl (decide (p = q))) := by rw [dEq_p (pl_fr 19 _) (pl_fr 19 _), fr_inj]
variable {b : List Tx} {o : Nat} {t : Tx}
structure Tk3 (t : Tx) : Prop where
  l : ∀ c ∈ t, c ∈ abz
  n : t.length ≤ 3
theorem Tk3.end_ (h : Tk3 t) : endOk t := ⟨h.n, fun c hc => by
  have al : ∀ c ∈ abz, 97 ≤ c ∧ c ≤ 122 := by decide
  exact al c (h.l c hc)⟩
theorem Tk3.name (h : Tk3 t) (n : t ≠ []) : nameOk t := abz_name h.l (by cases t with | nil => exact absurd rfl n | cons _ _ => simp) (by have := h.n; omega)
theorem Tk3.beg (h : Tk3 t) : begT t := by
  by_cases q : t = []
  · exact .inl q
  · exact .inr (h.name q)
theorem Tk3.next (h : Tk3 t) {c : Nat} (hc : c ∈ abz) : nameOk (t ++ [c]) := abz_name (fun x hx => by
  rcases List.mem_append.mp hx with z | z
  · exact h.l x z
  · rw [List.mem_singleton.mp z]; exact hc) (by simp) (by have := h.n; simp; omega)
theorem Gs.f8 (g : Gs b) (ho : 1 ≤ o ∧ o ≤ 3) (t : Tx) : Fr 9 53000 (fitQ b o (evW 8 t)) := by
  have hc := g.c ho.2
  have f := fr_shares (bk_of g.bk ho.2).n o (goodW b o (evW 8 t)) fun x hx => ((good_ev hc).mp hx).1.2.1
  have ln : (goodW b o (evW 8 t)).length ≤ 53000 := by
    unfold goodW
    refine Nat.le_trans (List.length_filter_le _ _) ?_
    unfold allM
    refine Nat.le_trans (flat_len (fun i => made (evB o b) o (i + 1)) 6561 8 fun k hk => ?_) (by decide)
    unfold made
    rw [(sortT_perm _).length_eq]
    refine Nat.le_trans (List.length_filter_le _ _) (Nat.le_trans (g.pow o (k + 1)) ?_)
    exact Nat.le_trans (Nat.pow_le_pow_right (by decide) (by omega : k + 1 ≤ 8)) (by decide)
  obtain ⟨a, e, l⟩ := f
  exact ⟨a, e, Nat.le_trans l (Nat.mul_le_mul_right _ ln)⟩
abbrev E85 (L : D) (b : List Tx) (o : Nat) (t : Tx) (s4 s5 s6 s7 s8 s9 s10 s11 s12 s13 s14 s15 s16 s17 : Sl) : Ga := [.va L, .va (bkD b), .va (.int (o : Nat)), .va (.str t), s4, s5, s6, s7, s8, s9, s10, s11, s12, s13, s14, s15, s16, s17]
def selfQ (b : List Tx) (o : Nat) (t : Tx) : Rat := if t ≠ [] then shareQ (evB o b) o t else 0
section
variable {L : D} {s4 s5 s6 s7 s8 s9 s10 s11 s12 s13 s14 s15 s16 s17 : Sl}
theorem b1_ok (g : Gs b) (ho : 1 ≤ o ∧ o ≤ 3) (ht : Tk3 t) : q5b1 (E85 L b o t s4 s5 s6 s7 s8 s9 s10 s11 s12 s13 s14 s15 s16 s17) = .ok (.nx (E85 L b o t (.va (.int ((selfL b o t).length : Nat))) s5 s6 s7 s8 s9 s10 s11 s12 s13 s14 s15 s16 s17)) := set_e (by
  have ne := neNilT ht.beg.chs
  unfold selfL
  by_cases q : t = []
  · subst q
    have ne : dNe (.str []) (.str []) = .ok (.bl false) := ne
    rw [if_neg fun z => z.1 rfl]
    unfold E85
    generalize bkD b = B at *
    simp [ne, bAnd, dIntB]
  · have mk := makes_ok g.bk ho (ht.name q)
    have : (t == []) = false := by simpa using q
    rw [this] at ne
    have e : (((if t ≠ [] ∧ 0 < shareQ (evB o b) o t then [t] else []).length : Nat) : Int) = if decide (0 < shareQ (evB o b) o t) = true then 1 else 0 := by
      by_cases z : 0 < shareQ (evB o b) o t
      · rw [if_pos ⟨q, z⟩, if_pos (decide_eq_true z)]; rfl
      · rw [if_neg fun y => z y.2, if_neg (by simpa using z)]; rfl
    rw [e]
    generalize decide (0 < shareQ (evB o b) o t) = dd at *
    unfold E85
    generalize bkD b = B at *
    simp [ne, bAnd, mk, dIntB])
theorem b2_ok (g : Gs b) (ho : 1 ≤ o ∧ o ≤ 3) (ht : Tk3 t) : q5b2 (E85 L b o t s4 s5 s6 s7 s8 s9 s10 s11 s12 s13 s14 s15 s16 s17) = .ok (.nx (E85 L b o t s4 (.va (frD (selfQ b o t))) s6 s7 s8 s9 s10 s11 s12 s13 s14 s15 s16 s17)) := set_e (by
  have ne := neNilT ht.beg.chs
  have l2 : 2 ≤ lim := by decide
  unfold selfQ
  by_cases q : t = []
  · subst q
    have ne : dNe (.str []) (.str []) = .ok (.bl false) := ne
    rw [if_neg fun z => z rfl]
    have o1 : frD 0 = .tup [.int 0, .int 1] := rfl
    rw [o1]
    unfold E85
    generalize bkD b = B at *
    simp [ne, l2]
  · have sh := share_ok g.bk ho (ht.name q)
    have : (t == []) = false := by simpa using q
    rw [this] at ne
    rw [if_pos q]
    unfold E85
    generalize frD (shareQ (evB o b) o t) = Q at *
    generalize bkD b = B at *
    simp [ne, sh])
theorem selfQ_fr (g : Gs b) (ho : 1 ≤ o ∧ o ≤ 3) (ht : Tk3 t) : Fr 9 1 (selfQ b o t) := by
  unfold selfQ
  split
  · have f := fr_shares (bk_of g.bk ho.2).n o [t] fun x hx => by rw [List.mem_singleton.mp hx]; have := ht.n; omega
    rw [List.map_singleton, rS_cons, rS_nil, Rat.add_zero] at f
    exact f
  · exact Fr.zero' _ _
theorem b3_ok (g : Gs b) (ho : 1 ≤ o ∧ o ≤ 3) (ht : Tk3 t) : ∃ t6, q5b3 (E85 L b o t (.va (.int ((selfL b o t).length : Nat))) (.va (frD (selfQ b o t))) s6 s7 s8 s9 s10 s11 s12 s13 s14 s15 s16 s17) = .ok (.nx (E85 L b o t (.va (.int ((goodW b o (evW 8 t)).length : Nat))) (.va (frD (fitQ b o (evW 8 t)))) t6 s7 s8 s9 s10 s11 s12 s13 s14 s15 s16 s17)) := by
  have hc := g.c ho.2
  obtain ⟨γ', l1, t6, rfl⟩ := forGo_inv (bd := bdN 6) (inj := fun c : Nat => D.str [c]) (l0 := abz) (body := q5b3b)
    (I := fun dn γ => ∃ t6, γ = E85 L b o t (.va (.int (((selfL b o t).length + (dn.map fun c => (goodW b o (evW 8 (t ++ [c]))).length).sum : Nat) : Int))) (.va (frD (selfQ b o t + rS (dn.map fun c => fitQ b o (evW 8 (t ++ [c])))))) t6 s7 s8 s9 s10 s11 s12 s13 s14 s15 s16 s17)
    (γ := E85 L b o t (.va (.int ((selfL b o t).length : Nat))) (.va (frD (selfQ b o t))) s6 s7 s8 s9 s10 s11 s12 s13 s14 s15 s16 s17) (fun dn c rest γ hr hI => by
      obtain ⟨t6, rfl⟩ := hI
      have hcm : c ∈ abz := by rw [hr]; simp
      have dl : dn.length ≤ 3 := by have := congrArg List.length hr; simp [abz] at this; omega
      have nm : begT (t ++ [c]) := .inr (ht.next hcm)
      have hm := how_many_begun_ok g ho nm
      have sb := share_begun_ok g ho nm
      have a1 : dAdd (.str t) (.str [c]) = .ok (.str (t ++ [c])) := addT (by rw [lim_val]; have := ht.n; simp; omega)
      have fr : ∀ l : List Nat, Fr 9 (53000 * l.length) (rS (l.map fun c => fitQ b o (evW 8 (t ++ [c])))) := by
        intro l
        induction l with
        | nil => exact Fr.zero' _ _
        | cons e l ih =>
          rw [List.map_cons, rS_cons, List.length_cons, Nat.mul_succ, Nat.add_comm]
          exact (g.f8 ho (t ++ [e])).add ih
      have ad := added_ok (((selfQ_fr g ho ht).add (fr dn)).sz (by omega) (by omega)) ((g.f8 ho (t ++ [c])).sz (by omega) (by omega)) (by omega)
      have n1 : (((selfL b o t).length + ((dn ++ [c]).map fun c => (goodW b o (evW 8 (t ++ [c]))).length).sum : Nat) : Int) = (((selfL b o t).length + (dn.map fun c => (goodW b o (evW 8 (t ++ [c]))).length).sum : Nat) : Int) + ((goodW b o (evW 8 (t ++ [c]))).length : Nat) := by
        rw [List.map_append, List.sum_append]; simp; omega
      have n2 : selfQ b o t + rS ((dn ++ [c]).map fun c => fitQ b o (evW 8 (t ++ [c]))) = selfQ b o t + rS (dn.map fun c => fitQ b o (evW 8 (t ++ [c]))) + fitQ b o (evW 8 (t ++ [c])) := by
        rw [List.map_append, List.map_singleton, rS_snoc, Rat.add_assoc]
      rw [n1, n2]
      generalize selfQ b o t + rS (dn.map fun c => fitQ b o (evW 8 (t ++ [c]))) = Q1 at *
      generalize fitQ b o (evW 8 (t ++ [c])) = Q2 at *
      generalize (((selfL b o t).length + (dn.map fun c => (goodW b o (evW 8 (t ++ [c]))).length).sum : Nat) : Int) = M1 at *
      generalize (((goodW b o (evW 8 (t ++ [c]))).length : Nat) : Int) = M2 at *
      have k1 : q5b3b1 (E85 L b o t (.va (.int M1)) (.va (frD Q1)) (.va (.str [c])) s7 s8 s9 s10 s11 s12 s13 s14 s15 s16 s17) = .ok (.nx (E85 L b o t (.va (.int (M1 + M2))) (.va (frD Q1)) (.va (.str [c])) s7 s8 s9 s10 s11 s12 s13 s14 s15 s16 s17)) := set_e (by
        unfold E85
        generalize frD Q1 = F1 at *
        generalize bkD b = B at *
        simp [a1, hm])
      have k2 : q5b3b2 (E85 L b o t (.va (.int (M1 + M2))) (.va (frD Q1)) (.va (.str [c])) s7 s8 s9 s10 s11 s12 s13 s14 s15 s16 s17) = .ok (.nx (E85 L b o t (.va (.int (M1 + M2))) (.va (frD (Q1 + Q2))) (.va (.str [c])) s7 s8 s9 s10 s11 s12 s13 s14 s15 s16 s17)) := set_e (by
        unfold E85
        generalize frD (Q1 + Q2) = F3 at *
        generalize frD Q1 = F1 at *
        generalize frD Q2 = F2 at *
        generalize bkD b = B at *
        simp [a1, sb, ad])
      exact ⟨_, rfl, _, .inl ((seq_nx k1).trans k2), .va (.str [c]), rfl⟩) ⟨s6, by rw [List.map_nil, List.map_nil, rS_nil, Rat.add_zero]; rfl⟩
  rw [← good_cnt g.l hc (by have := ht.n; omega)] at l1
  have fs := fit_self (o := o) g.l hc (t := t) (by have := ht.n; omega)
  rw [Rat.add_comm] at fs
  have fs : selfQ b o t + rS (abz.map fun c => fitQ b o (evW 8 (t ++ [c]))) = fitQ b o (evW 8 t) := fs
  rw [fs] at l1
  exact ⟨t6, forE_e (d := .str [97, 98, 122]) rfl rfl (fun es h => nomatch h) l1⟩
theorem b4_ok (g : Gs b) (ho : 1 ≤ o ∧ o ≤ 3) (ht : Tk3 t) : q5b4 (E85 L b o t (.va (.int ((goodW b o (evW 8 t)).length : Nat))) (.va (frD (fitQ b o (evW 8 t)))) s6 s7 s8 s9 s10 s11 s12 s13 s14 s15 s16 s17) = .ok (.nx (E85 L b o t (.va (.int ((goodW b o (evW 8 t)).length : Nat))) (.va (frD (fitQ b o (evW 8 t)))) s6 s7 s8 s9 s10 s11 s12 s13 s14 s15 s16 s17)) := if_f (by
  have hm := how_many_begun_ok g ho ht.beg
  have sb := share_begun_ok g ho ht.beg
  have n1 := intNe ((goodW b o (evW 8 t)).length : Nat)
  have n2 := frNe (fitQ b o (evW 8 t))
  generalize (((goodW b o (evW 8 t)).length : Nat) : Int) = M at *
  generalize frD (fitQ b o (evW 8 t)) = Q at *
  refine tor_ok (x := false) (y := false) ?_ ?_
  · unfold E85
    generalize bkD b = B at *
    simp [hm, n1]
  · unfold E85
    generalize bkD b = B at *
    simp [sb, n2])
abbrev rk1 (b : List Tx) (o : Nat) (t : Tx) : D := .lst (((rankL b o (evW 8 t)).take 1).map hdD)
theorem b5_ok (g : Gs b) (ho : 1 ≤ o ∧ o ≤ 3) (ht : Tk3 t) : q5b5 (E85 L b o t s4 s5 s6 s7 s8 s9 s10 s11 s12 s13 s14 s15 s16 s17) = .ok (.nx (E85 L b o t s4 s5 s6 (.va (bestD b o t)) s8 s9 s10 s11 s12 s13 s14 s15 s16 s17)) := set_e (by
  have lb := likeliest_begun_ok g ho ht.beg
  unfold E85
  generalize bestD b o t = BD at *
  generalize bkD b = B at *
  simp [lb])
theorem b6_ok (g : Gs b) (ho : 1 ≤ o ∧ o ≤ 3) (ht : Tk3 t) : q5b6 (E85 L b o t s4 s5 s6 s7 s8 s9 s10 s11 s12 s13 s14 s15 s16 s17) = .ok (.nx (E85 L b o t s4 s5 s6 s7 (.va (rk1 b o t)) s9 s10 s11 s12 s13 s14 s15 s16 s17)) := set_e (by
  have hw := ev_ok (n := 8) (by decide) (by decide) ht.end_
  have lk : g_likeliest [bkD b, .int (o : Nat), wiD (evW 8 t), .int 1] = _ := likeliest_ok g.bk ho (g.e64 o) hw (g.mid (by show 8 ≤ 8; omega)) (many := 1) (by decide)
  have ll := len_t (t := t) (by have := ht.n; omega)
  have c1 := cut1 (x := t) (by rw [lim_val]; have := ht.n; omega) 3
  rw [List.take_of_length_le ht.n] at c1
  have c1 : dSl (.str t) none (some 3) = .ok (.str t) := c1
  have lt : dLt (.int (t.length : Nat)) (.int 4) = .ok (.bl true) := by
    show R.ok (D.bl (decide _)) = _
    rw [decide_eq_true (by have := ht.n; omega)]
  have lit : D.tup [.int 1, .int 8, .str t, .str [], .tup [], .bl true] = wiD (evW 8 t) := rfl
  have l6 : 6 ≤ lim := by decide
  have l0 : 0 ≤ lim := by decide
  have lk : g_likeliest [bkD b, .int (o : Nat), wiD (evW 8 t), .int 1] = .ok (rk1 b o t) := lk
  unfold E85
  generalize rk1 b o t = RK at *
  generalize wiD (evW 8 t) = W at *
  generalize ((t.length : Nat) : Int) = z at *
  generalize bkD b = B at *
  simp [bSl, pNo, pSo, toI, ll, lt, c1, lit, lk, l6, l0, -dLt_i])
theorem b7_ok (g : Gs b) (ho : 1 ≤ o ∧ o ≤ 3) (ht : Tk3 t) : q5b7 (E85 L b o t (.va (.int ((goodW b o (evW 8 t)).length : Nat))) s5 s6 (.va (bestD b o t)) (.va (rk1 b o t)) s9 s10 s11 s12 s13 s14 s15 s16 s17) = .ok (.nx (E85 L b o t (.va (.int ((goodW b o (evW 8 t)).length : Nat))) s5 s6 (.va (bestD b o t)) (.va (rk1 b o t)) s9 s10 s11 s12 s13 s14 s15 s16 s17)) := if_f (by
  have hc := g.c ho.2
  have bn := best_non (b := b) (t := t) hc
  have c1 : tVal (b2 dNe (b2 dIsN (bVar 7) (bC .non)) (b2 dEq (bVar 4) (bC (.int 0)))) (E85 L b o t (.va (.int ((goodW b o (evW 8 t)).length : Nat))) s5 s6 (.va (bestD b o t)) (.va (rk1 b o t)) s9 s10 s11 s12 s13 s14 s15 s16 s17) = .ok false := by
    have e1 : dIsN (bestD b o t) .non = .ok (.bl (decide ((goodW b o (evW 8 t)).length = 0))) := by
      show R.ok (D.bl (isNon (bestD b o t))) = _
      congr 2
      by_cases q : (goodW b o (evW 8 t)).length = 0
      · rw [decide_eq_true q, bn.mpr q]; rfl
      · rw [decide_eq_false q]
        have : bestD b o t ≠ .non := fun z => q (bn.mp z)
        unfold bestD at this ⊢
        cases z : rankL b o (evW 8 t) with
        | nil => rw [z] at this; exact absurd rfl this
        | cons e l => rfl
    have e2 : dEq (.int ((goodW b o (evW 8 t)).length : Nat)) (.int 0) = .ok (.bl (decide ((goodW b o (evW 8 t)).length = 0))) := by
      rw [dEq_p (by simp) (by simp), eqv_int]
      congr 2
      rw [Bool.eq_iff_iff, beq_iff_eq, decide_eq_true_eq]; omega
    have e3 := blNe (decide ((goodW b o (evW 8 t)).length = 0))
    generalize decide ((goodW b o (evW 8 t)).length = 0) = dd at *
    generalize (((goodW b o (evW 8 t)).length : Nat) : Int) = M at *
    unfold E85
    generalize rk1 b o t = RK at *
    generalize bestD b o t = BD at *
    generalize bkD b = B at *
    simp [e1, e2, e3]
  refine tor_ok (y := false) c1 ?_
  have l0 : 0 ≤ lim := by decide
  cases z : rankL b o (evW 8 t) with
  | nil =>
    have r : rk1 b o t = .lst [] := by unfold rk1; rw [z]; rfl
    rw [r]
    have ne : dNe (.lst []) (.lst []) = .ok (.bl false) := xNil
    refine tand_ok (x := false) (y := false) ?_ fun h => nomatch h
    generalize (((goodW b o (evW 8 t)).length : Nat) : Int) = M at *
    unfold E85
    generalize bestD b o t = BD at *
    generalize bkD b = B at *
    simp [ne, l0]
  | cons e l =>
    have r : rk1 b o t = .lst [hdD e] := by unfold rk1; rw [z]; rfl
    have r2 : bestD b o t = .str e.2 := by unfold bestD; rw [z]
    have em : e ∈ rankL b o (evW 8 t) := by rw [z]; exact List.mem_cons_self
    have nm := rank_name g ho.2 (by show 8 ≤ 8; omega) em
    have ne := nmNe nm
    have pl1 := rank_plL (l := [e]) g ho (w := evW 8 t) (by show 8 ≤ 8; omega) fun f hf => by rw [List.mem_singleton.mp hf]; exact em
    have nn : dNe (.lst [hdD e]) (.lst []) = .ok (.bl true) := neNil _ pl1
    rw [r, r2]
    refine (tand_ok (x := true) (y := false) ?_ fun _ => ?_)
    · generalize (((goodW b o (evW 8 t)).length : Nat) : Int) = M at *
      unfold E85
      generalize D.lst [hdD e] = RK at *
      generalize bkD b = B at *
      simp [nn, l0]
    · show ((dNe (.str e.2) (.str e.2)).bind tB) = _
      rw [ne]; rfl)
theorem b8_ok (g : Gs b) (ho : 1 ≤ o ∧ o ≤ 3) (ht : Tk3 t) : q5b8 (E85 L b o t s4 s5 s6 (.va (bestD b o t)) s8 s9 s10 s11 s12 s13 s14 s15 s16 s17) = .ok (.nx (E85 L b o t s4 s5 s6 (.va (bestD b o t)) s8 s9 s10 s11 s12 s13 s14 s15 s16 s17)) := if_f (by
  have hc := g.c ho.2
  cases z : rankL b o (evW 8 t) with
  | nil =>
    have r2 : bestD b o t = .non := by unfold bestD; rw [z]
    rw [r2]
    exact tand_ok (x := false) (y := false) rfl fun h => nomatch h
  | cons e l =>
    have r2 : bestD b o t = .str e.2 := by unfold bestD; rw [z]
    have em : e ∈ rankL b o (evW 8 t) := by rw [z]; exact List.mem_cons_self
    have pf := ((good_ev hc).mp ((rank_mem hc).mp em).1)
    have ll := len_t (t := t) (by have := ht.n; omega)
    have c1 := cut1 (x := e.2) (by rw [lim_val]; have := pf.1.2.1; omega) t.length
    rw [pf.2.2] at c1
    have ne : dNe (.str t) (.str t) = .ok (.bl false) := dNe_self (by rw [pl_str]; exact ht.beg.chs.all)
    rw [r2]
    refine tand_ok (x := true) (y := false) rfl fun _ => ?_
    generalize ((t.length : Nat) : Int) = z at *
    unfold E85
    generalize bkD b = B at *
    simp [bSl, pNo, pSo, toI, ll, c1, ne])
abbrev nlL (b : List Tx) (o : Nat) (t : Tx) : List Hd := nlR (evB o b) (endT o t)
abbrev rwL (b : List Tx) (o : Nat) (t : Tx) : Rw := rowL (evB o b) (endT o t)
theorem b9_ok (g : Gs b) (ho : 1 ≤ o ∧ o ≤ 3) (ht : Tk3 t) : q5b9 (E85 L b o t s4 s5 s6 s7 s8 s9 s10 s11 s12 s13 s14 s15 s16 s17) = .ok (.nx (E85 L b o t s4 s5 s6 s7 s8 (.va (.lst ((nlL b o t).map nlD))) s10 s11 s12 s13 s14 s15 s16 s17)) := set_e (by
  have nl := next_letters_ok g.bk ho (g.e64 o) ht.beg
  unfold E85
  generalize D.lst ((nlL b o t).map nlD) = NL at *
  generalize bkD b = B at *
  simp [nl])
theorem nl_len (g : Gs b) : (nlL b o t).length ≤ 3 := by
  have := (nlR_perm (evB o b) (endT o t)).length_eq
  rw [List.length_map] at this
  have h := abz_nxt g.l (o := o) (endT o t)
  show (nlR (evB o b) (endT o t)).length ≤ 3
  omega
theorem nl_fr (g : Gs b) (ho : 1 ≤ o ∧ o ≤ 3) : ∀ {l : List Hd}, (∀ e ∈ l, e ∈ nlL b o t) → Fr 1 l.length (rS (l.map (·.1)))
  | [], _ => Fr.zero' _ _
  | e :: l, h => by
    rw [List.map_cons, rS_cons, List.length_cons, Nat.add_comm]
    have ih := nl_fr g ho (l := l) fun f hf => h f (List.mem_cons_of_mem _ hf)
    have e1 := ((nlR_spec _ _).2 e |>.mp (h e List.mem_cons_self)).2
    obtain ⟨c, ec, lc⟩ := pq_fct (bk_of g.bk ho.2).n (endT o t, e.2)
    refine Fr.add ⟨c, by rw [e1, ec, Nat.pow_one], by rw [Nat.pow_one, Nat.one_mul]; exact lc⟩ ih
theorem b11_ok (g : Gs b) (ho : 1 ≤ o ∧ o ≤ 3) (ht : Tk3 t) : ∃ t6 t13, q5b11 (E85 L b o t s4 s5 s6 s7 s8 (.va (.lst ((nlL b o t).map nlD))) (.va (frD 0)) s11 s12 s13 s14 s15 s16 s17) = .ok (.nx (E85 L b o t s4 s5 t6 s7 s8 (.va (.lst ((nlL b o t).map nlD))) (.va (frD (rS ((nlL b o t).map (·.1))))) s11 s12 t13 s14 s15 s16 s17)) := by
  have few := nl_len (o := o) (t := t) g
  obtain ⟨γ', l1, t6, t13, rfl⟩ := forGo_inv (bd := bdT [6, 13]) (inj := nlD) (l0 := nlL b o t) (body := q5b11b)
    (I := fun dn γ => ∃ t6 t13, γ = E85 L b o t s4 s5 t6 s7 s8 (.va (.lst ((nlL b o t).map nlD))) (.va (frD (rS (dn.map (·.1))))) s11 s12 t13 s14 s15 s16 s17)
    (γ := E85 L b o t s4 s5 s6 s7 s8 (.va (.lst ((nlL b o t).map nlD))) (.va (frD 0)) s11 s12 s13 s14 s15 s16 s17) (fun dn e rest γ hr hI => by
      obtain ⟨t6, t13, rfl⟩ := hI
      have dl : dn.length ≤ 3 := by have := congrArg List.length hr; simp at this; omega
      have f1 := nl_fr g ho (l := dn) fun f hf => by rw [hr]; simp [hf]
      have f2 := nl_fr g ho (l := [e]) fun f hf => by rw [hr, List.mem_singleton.mp hf]; simp
      rw [List.map_singleton, rS_cons, rS_nil, Rat.add_zero] at f2
      have ad := added_ok (f1.sz (by omega) (by omega)) (f2.sz (by omega) (by show 1 < 2 ^ 20; decide)) (by omega)
      have sn : rS ((dn ++ [e]).map (·.1)) = rS (dn.map (·.1)) + e.1 := by rw [List.map_append, List.map_singleton, rS_snoc]
      rw [sn]
      have k0 : bdT [6, 13] (nlD e) (E85 L b o t s4 s5 t6 s7 s8 (.va (.lst ((nlL b o t).map nlD))) (.va (frD (rS (dn.map (·.1))))) s11 s12 t13 s14 s15 s16 s17) = .ok (E85 L b o t s4 s5 (.va (.str e.2)) s7 s8 (.va (.lst ((nlL b o t).map nlD))) (.va (frD (rS (dn.map (·.1))))) s11 s12 (.va (frD e.1)) s14 s15 s16 s17) := rfl
      have k : q5b11b (E85 L b o t s4 s5 (.va (.str e.2)) s7 s8 (.va (.lst ((nlL b o t).map nlD))) (.va (frD (rS (dn.map (·.1))))) s11 s12 (.va (frD e.1)) s14 s15 s16 s17) = .ok (.nx (E85 L b o t s4 s5 (.va (.str e.2)) s7 s8 (.va (.lst ((nlL b o t).map nlD))) (.va (frD (rS (dn.map (·.1)) + e.1))) s11 s12 (.va (frD e.1)) s14 s15 s16 s17)) := set_e (by
        unfold E85
        generalize frD (rS (dn.map (·.1)) + e.1) = F3 at *
        generalize frD (rS (dn.map (·.1))) = F1 at *
        generalize frD e.1 = F2 at *
        generalize D.lst ((nlL b o t).map nlD) = NL at *
        generalize bkD b = B at *
        simp [ad])
      exact ⟨_, k0, _, .inl k, .va (.str e.2), .va (frD e.1), rfl⟩) ⟨s6, s13, rfl⟩
  exact ⟨t6, t13, forE_e (d := .lst ((nlL b o t).map nlD)) (ds := (nlL b o t).map nlD) rfl rfl (fun es h => nomatch h) l1⟩
theorem b12_ok (g : Gs b) (ho : 1 ≤ o ∧ o ≤ 3) (ht : Tk3 t) : q5b12 (E85 L b o t s4 s5 s6 s7 s8 s9 s10 s11 s12 s13 s14 s15 s16 s17) = .ok (.nx (E85 L b o t s4 s5 s6 s7 s8 s9 s10 (.va (.lst (rowT (rwL b o t)))) s12 s13 s14 s15 s16 s17)) := set_e (by
  have bh := behind_ok g.bk ho ht.beg (Nat.lt_of_le_of_lt ((tabOk _).rlen _) (g.e64 o))
  unfold E85
  generalize D.lst (rowT (rwL b o t)) = RT at *
  generalize bkD b = B at *
  simp [bh])
def rwI (e : Tx × Int) : D := .tup [.str e.1, .int e.2]
theorem row_chsL (g : Gs b) (ho : 1 ≤ o ∧ o ≤ 3) : ∀ e ∈ rwL b o t, chs e.1 := fun e he => by
  have : e.1 ∈ ks (rwL b o t) := List.mem_map.mpr ⟨e, he, rfl⟩
  unfold rwL rowL at this
  rw [ks_lst, (sortT_perm _).mem_iff] at this
  exact row_chs (fun e he => ((bk_of g.bk ho.2).c e he).2.1) this
theorem row_lenL (g : Gs b) : (rwL b o t).length < 64 := by
  have h : (ks (rwL b o t)).length = (ks (rowOf (tabOf (evB o b)) (endT o t))).length := by
    unfold rwL rowL
    rw [ks_lst, (sortT_perm _).length_eq]
  unfold ks at h
  rw [List.length_map, List.length_map] at h
  rw [h]
  exact Nat.lt_of_le_of_lt ((tabOk _).rlen _) (g.e64 o)
theorem b13_ok (g : Gs b) (ho : 1 ≤ o ∧ o ≤ 3) : q5b13 (E85 L b o t s4 s5 s6 s7 s8 s9 s10 (.va (.lst (rowT (rwL b o t)))) s12 s13 s14 s15 s16 s17) = .ok (.nx (E85 L b o t s4 s5 s6 s7 s8 s9 s10 (.va (.lst (rowT (rwL b o t)))) (.ow (.lst (((rwL b o t).filter fun e => e.1 == []).map fun e => .int e.2))) s13 s14 s15 s16 s17)) := by
  have len := row_lenL (o := o) (t := t) g
  have cs := row_chsL (t := t) g ho
  unfold q5b13
  generalize rwL b o t = R at *
  have go := lcGo_fil (bd := bdT [6, 15]) (ifs := tVal (b2 dEq (bVar 6) (bC (.str [])))) (elt := bVar 15) (γ := wipeG (E85 L b o t s4 s5 s6 s7 s8 s9 s10 (.va (.lst (rowT R))) s12 s13 s14 s15 s16 s17) [6, 15]) (inj := rwI) (p := fun e => e.1 == []) (f := fun e => .int e.2) (l := R) fun e he => ⟨E85 L b o t s4 s5 (.va (.str e.1)) s7 s8 s9 s10 (.va (.lst (rowT R))) s12 s13 s14 (.va (.int e.2)) s16 s17, rfl, by
    have eq := eqNilT (cs e he)
    show ((dEq (.str e.1) (.str [])).bind tB) = _
    rw [eq]; rfl, fun _ => rfl⟩
  rw [fOwn_e, lcE_e (d := .lst (rowT R)) rfl rfl go (by rw [List.length_map, lim_val]; have := List.length_filter_le (fun e : Tx × Int => e.1 == []) R; omega)]
  rfl
theorem row_ksL : (rwL b o t).map (·.1) = sortT (ks (rowOf (tabOf (evB o b)) (endT o t))) := ks_lst 0 _
theorem b14_ok (g : Gs b) (ho : 1 ≤ o ∧ o ≤ 3) : q5b14 (E85 L b o t s4 s5 s6 s7 s8 (.va (.lst ((nlL b o t).map nlD))) s10 (.va (.lst (rowT (rwL b o t)))) s12 s13 s14 s15 s16 s17) = .ok (.nx (E85 L b o t s4 s5 s6 s7 s8 (.va (.lst ((nlL b o t).map nlD))) s10 (.va (.lst (rowT (rwL b o t)))) s12 s13 s14 s15 s16 s17)) := if_f (by
  have len := row_lenL (o := o) (t := t) g
  have cs := row_chsL (t := t) g ho
  have few := nl_len (o := o) (t := t) g
  have key : sortT ((nlL b o t).map (·.2)) = ((rwL b o t).filter fun e => !(e.1 == [])).map (·.1) := by
    have e1 : ((rwL b o t).filter fun e => !(e.1 == [])).map (·.1) = nxt (evB o b) (endT o t) := by
      unfold nxt
      rw [← row_ksL, List.filter_map]; rfl
    rw [e1]
    have p := nlR_perm (evB o b) (endT o t)
    refine sorted_uniq (r := fun a c => leT a c = true) (fun a c h k => ?_) ((sortT_perm _).trans p) (sortT_pw _) ?_
    · unfold leT at h k
      by_cases q : a = c
      · exact q
      · rcases tlt_tot q with z | z
        · simp [z] at k
        · simp [z] at h
    · unfold nxt
      exact (sortT_pw _).filter _
  have l1 : bLcE (bVar 9) [16, 13] (bdT [16, 13]) yes (bVar 16) (E85 L b o t s4 s5 s6 s7 s8 (.va (.lst ((nlL b o t).map nlD))) s10 (.va (.lst (rowT (rwL b o t)))) s12 s13 s14 s15 s16 s17) = .ok (.lst (((nlL b o t).map (·.2)).map .str)) := by
    generalize rwL b o t = R at *
    generalize nlL b o t = N at *
    have go := lcGo_map (bd := bdT [16, 13]) (elt := bVar 16) (γ := wipeG (E85 L b o t s4 s5 s6 s7 s8 (.va (.lst (N.map nlD))) s10 (.va (.lst (rowT R))) s12 s13 s14 s15 s16 s17) [16, 13]) (inj := nlD) (f := fun e => D.str e.2) (l := N) fun e he => ⟨_, rfl, rfl⟩
    rw [show N.map (fun e => D.str e.2) = (N.map (·.2)).map .str by rw [List.map_map]; rfl] at go
    exact lcE_e (d := .lst (N.map nlD)) rfl rfl go (by rw [List.length_map, List.length_map, lim_val]; omega)
  have l2 : bLcE (bVar 11) [16, 15] (bdT [16, 15]) (tVal (b2 dNe (bVar 16) (bC (.str [])))) (bVar 16) (E85 L b o t s4 s5 s6 s7 s8 (.va (.lst ((nlL b o t).map nlD))) s10 (.va (.lst (rowT (rwL b o t)))) s12 s13 s14 s15 s16 s17) = .ok (.lst ((((rwL b o t).filter fun e => !(e.1 == [])).map (·.1)).map .str)) := by
    clear key
    generalize rwL b o t = R at *
    generalize nlL b o t = N at *
    have go := lcGo_fil (bd := bdT [16, 15]) (ifs := tVal (b2 dNe (bVar 16) (bC (.str [])))) (elt := bVar 16) (γ := wipeG (E85 L b o t s4 s5 s6 s7 s8 (.va (.lst (N.map nlD))) s10 (.va (.lst (rowT R))) s12 s13 s14 s15 s16 s17) [16, 15]) (inj := rwI) (p := fun e => !(e.1 == [])) (f := fun e => D.str e.1) (l := R) fun e he => ⟨E85 L b o t s4 s5 s6 s7 s8 (.va (.lst (N.map nlD))) s10 (.va (.lst (rowT R))) s12 s13 s14 (.va (.int e.2)) (.va (.str e.1)) s17, rfl, by
      have eq := neNilT (cs e he)
      show ((dNe (.str e.1) (.str [])).bind tB) = _
      rw [eq]; rfl, fun _ => rfl⟩
    rw [show (R.filter fun e => !(e.1 == [])).map (fun e => D.str e.1) = ((R.filter fun e => !(e.1 == [])).map (·.1)).map .str by rw [List.map_map]; rfl] at go
    exact lcE_e (d := .lst (rowT R)) rfl rfl go (by rw [List.length_map, List.length_map, lim_val]; have := List.length_filter_le (fun e : Tx × Int => !(e.1 == [])) R; omega)
  have st := dSort_strs ((nlL b o t).map (·.2))
  rw [key] at st
  have ne : dNe (.lst ((((rwL b o t).filter fun e => !(e.1 == [])).map (·.1)).map .str)) (.lst ((((rwL b o t).filter fun e => !(e.1 == [])).map (·.1)).map .str)) = .ok (.bl false) := dNe_self (strsPl fun x hx => by
    obtain ⟨e, he, rfl⟩ := List.mem_map.mp hx
    exact cs e (List.mem_filter.mp he).1)
  rw [tVal_e, b2_e, bN_e, bCons_e, l1, l2]
  show ((dSort [.lst (((nlL b o t).map (·.2)).map .str)]).bind fun x => dNe x (.lst ((((rwL b o t).filter fun e => !(e.1 == [])).map (·.1)).map .str))).bind tB = _
  rw [st]
  show (dNe _ _).bind tB = _
  rw [ne]; rfl)
theorem b15_ok (g : Gs b) (ho : 1 ≤ o ∧ o ≤ 3) : q5b15 (E85 L b o t s4 s5 s6 s7 s8 (.va (.lst ((nlL b o t).map nlD))) (.va (frD (rS ((nlL b o t).map (·.1))))) s11 (.ow (.lst (((rwL b o t).filter fun e => e.1 == []).map fun e => .int e.2))) s13 s14 s15 s16 s17) = .ok (.nx (E85 L b o t s4 s5 s6 s7 s8 (.va (.lst ((nlL b o t).map nlD))) (.va (frD (rS ((nlL b o t).map (·.1))))) s11 (.ow (.lst (((rwL b o t).filter fun e => e.1 == []).map fun e => .int e.2))) s13 s14 s15 s16 s17)) := if_f (by
  have hes := (bk_of g.bk ho.2).n
  have few := nl_len (o := o) (t := t) g
  have f1 := (nl_fr g ho (t := t) (l := nlL b o t) fun f hf => hf).sz (by omega) (by omega)
  have le1 : rS ((nlL b o t).map (·.1)) ≤ 1 := by
    rw [nlR_sum]
    by_cases q : tot (evB o b) (endT o t) = 0
    · have : nxt (evB o b) (endT o t) = [] := by
        cases z : nxt (evB o b) (endT o t) with
        | nil => rfl
        | cons l ls => exact absurd q (tot_ne (nxt_mem.mp (by rw [z]; exact List.mem_cons_self)).1)
      rw [this]; show (0 : Rat) ≤ 1; decide
    · rw [← nxt_sum q]
      have := pq_ge (evB o b) (endT o t, []) hes
      have h := (Rat.add_le_add_left (c := rS ((nxt (evB o b) (endT o t)).map fun l => pq (evB o b) (endT o t, l)))).mpr this
      rwa [Rat.add_zero] at h
  have ls := isLess_ok (p := 1) (a := 1) ⟨by decide, by decide, by decide⟩ f1 (by omega)
  rw [decide_eq_false (Rat.not_lt.mpr le1)] at ls
  have o1 : frD 1 = .tup [.int 1, .int 1] := rfl
  rw [o1] at ls
  have fe := frEq (rS ((nlL b o t).map (·.1))) 1
  rw [o1] at fe
  have l2 : 2 ≤ lim := by decide
  have l0 : 0 ≤ lim := by decide
  refine tor_ok (x := false) (y := false) ?_ ?_
  · have plN : pl 20 (.lst ((nlL b o t).map nlD)) = true := by
      rw [pl_lst, List.all_map, List.all_eq_true]
      intro e he
      have hm := ((nlR_spec _ _).2 e |>.mp he).1
      have hl := (nxt_mem.mp hm).1
      have cs := ((bk_of g.bk ho.2).c _ hl).2.1
      show pl 19 (.tup [.str e.2, frD e.1]) = true
      rw [pl_tup]
      have h1 : pl 18 (frD e.1) = true := pl_fr 17 _
      have h2 : pl 18 (.str e.2) = true := chs.all cs
      simp [h1, h2]
    have nn := neNil _ plN
    have c1 : tVal (b2 dNe (bVar 9) (bLst bNil)) (E85 L b o t s4 s5 s6 s7 s8 (.va (.lst ((nlL b o t).map nlD))) (.va (frD (rS ((nlL b o t).map (·.1))))) s11 (.ow (.lst (((rwL b o t).filter fun e => e.1 == []).map fun e => .int e.2))) s13 s14 s15 s16 s17) = .ok (!((nlL b o t).map nlD).isEmpty) := by
      generalize ((nlL b o t).map nlD).isEmpty = t1 at *
      unfold E85
      generalize D.lst (((rwL b o t).filter fun e => e.1 == []).map fun e => D.int e.2) = LL at *
      generalize frD (rS ((nlL b o t).map (·.1))) = QQ at *
      generalize D.lst ((nlL b o t).map nlD) = NL at *
      generalize bkD b = B at *
      simp [nn, l0]
    refine (tand_ok (y := false) c1 fun hne => ?_).trans (by rw [Bool.and_false])
    -- some letter: the row is not empty
    have tn0 : tot (evB o b) (endT o t) ≠ 0 := by
      cases z : nlL b o t with
      | nil => rw [z] at hne; exact absurd hne (by decide)
      | cons e l =>
        have he : e ∈ nlR (evB o b) (endT o t) := by show e ∈ nlL b o t; rw [z]; exact List.mem_cons_self
        exact tot_ne (nxt_mem.mp ((nlR_spec _ _).2 e |>.mp he).1).1
    have sm := nxt_sum tn0
    rw [← nlR_sum] at sm
    have iff1 : rS ((nlL b o t).map (·.1)) = 1 ↔ pq (evB o b) (endT o t, []) = 0 := by
      have sm : rS ((nlL b o t).map (·.1)) + pq (evB o b) (endT o t, []) = 1 := sm
      generalize rS ((nlL b o t).map (·.1)) = A at *
      generalize pq (evB o b) (endT o t, []) = P at *
      constructor
      · intro h; rw [h] at sm; grind
      · intro h; rw [h, Rat.add_zero] at sm; exact sm
    have iff2 : ((rwL b o t).filter fun e => e.1 == []) = [] ↔ pq (evB o b) (endT o t, []) = 0 := by
      rw [List.filter_eq_nil_iff]
      constructor
      · intro h
        refine Decidable.byContradiction fun z => ?_
        have hm := pq_iff.mp z
        have : ([] : Tx) ∈ (rwL b o t).map (·.1) := by rw [row_ksL, (sortT_perm _).mem_iff]; exact row_mem2.mpr hm
        obtain ⟨e, he, e0⟩ := List.mem_map.mp this
        exact h e he (by rw [e0]; rfl)
      · intro h e he z
        have e0 : e.1 = [] := by simpa using z
        have : ([] : Tx) ∈ (rwL b o t).map (·.1) := List.mem_map.mpr ⟨e, he, e0⟩
        rw [row_ksL, (sortT_perm _).mem_iff] at this
        exact (pq_iff.mpr (row_mem2.mp this)) h
    have eqn : dEq (.lst (((rwL b o t).filter fun e => e.1 == []).map fun e => D.int e.2)) (.lst []) = .ok (.bl (decide (rS ((nlL b o t).map (·.1)) = 1))) := by
      rw [eqNil _ (ints_pl (fun e : Tx × Int => e.2) _)]
      congr 2
      rw [Bool.eq_iff_iff, decide_eq_true_eq, iff1, ← iff2, List.isEmpty_iff, List.map_eq_nil_iff]
    have ne := blNe (decide (rS ((nlL b o t).map (·.1)) = 1))
    generalize decide (rS ((nlL b o t).map (·.1)) = 1) = dd at *
    unfold E85
    generalize hOne : D.tup [.int 1, .int 1] = ONE at *
    generalize D.lst (((rwL b o t).filter fun e => e.1 == []).map fun e => D.int e.2) = LL at *
    generalize frD (rS ((nlL b o t).map (·.1))) = QQ at *
    generalize D.lst ((nlL b o t).map nlD) = NL at *
    generalize bkD b = B at *
    simp [hOne, fe, eqn, ne, l0, l2]
  · unfold E85
    generalize D.lst (((rwL b o t).filter fun e => e.1 == []).map fun e => D.int e.2) = LL at *
    generalize frD (rS ((nlL b o t).map (·.1))) = QQ at *
    generalize D.lst ((nlL b o t).map nlD) = NL at *
    generalize bkD b = B at *
    simp [ls, l2])
theorem b16_ok (g : Gs b) (ho : 1 ≤ o ∧ o ≤ 3) : q5b16 (E85 L b o t s4 s5 s6 s7 s8 (.va (.lst ((nlL b o t).map nlD))) s10 s11 s12 s13 s14 s15 s16 s17) = .ok (.nx (E85 L b o t s4 s5 s6 s7 s8 (.va (.lst ((nlL b o t).map nlD))) s10 s11 s12 s13 s14 s15 s16 s17)) := if_f (by
  have hes := (bk_of g.bk ho.2).n
  have spec := nlR_spec (evB o b) (endT o t)
  have spec : Srt (nlL b o t) ∧ ∀ e, e ∈ nlL b o t ↔ _ := spec
  have few := nl_len (o := o) (t := t) g
  generalize nlL b o t = N at *
  have lc : bLcI (iZpA (bVar 9) (bSl (bVar 9) (pSo (bC (.int 1))) pNo)) [16, 17] (bdT [16, 17]) (tVal (bCall g_is_less (bCons (b2 dIx (bVar 16) (bC (.int 1))) (bCons (b2 dIx (bVar 17) (bC (.int 1))) bNil)))) (bC (.int 1)) (E85 L b o t s4 s5 s6 s7 s8 (.va (.lst (N.map nlD))) s10 s11 s12 s13 s14 s15 s16 s17) = .ok (.lst []) := by
    have sl : dSl (.lst (N.map nlD)) (some 1) none = .ok (.lst ((N.drop 1).map nlD)) := by
      show R.ok (D.lst (cutL (N.map nlD) (some 1) none)) = _
      rw [show (1 : Int) = ((1 : Nat) : Int) from rfl, cut_from, ← List.map_drop]
    have it : iZpA (bVar 9) (bSl (bVar 9) (pSo (bC (.int 1))) pNo) (E85 L b o t s4 s5 s6 s7 s8 (.va (.lst (N.map nlD))) s10 s11 s12 s13 s14 s15 s16 s17) = .ok ((N.zip (N.drop 1)).map fun p : Hd × Hd => D.tup [nlD p.1, nlD p.2]) := by
      show (dSl (.lst (N.map nlD)) (some 1) none).bind (fun d' => zipA (.lst (N.map nlD)) d') = _
      rw [sl]
      show R.ok (zipD _ _) = _
      unfold zipD
      rw [List.zip_map, List.map_map]; rfl
    have go := lcGo_fil (bd := bdT [16, 17]) (ifs := tVal (bCall g_is_less (bCons (b2 dIx (bVar 16) (bC (.int 1))) (bCons (b2 dIx (bVar 17) (bC (.int 1))) bNil)))) (elt := bC (.int 1)) (γ := wipeG (E85 L b o t s4 s5 s6 s7 s8 (.va (.lst (N.map nlD))) s10 s11 s12 s13 s14 s15 s16 s17) [16, 17]) (inj := fun p : Hd × Hd => D.tup [nlD p.1, nlD p.2]) (p := fun _ => false) (f := fun _ => D.int 1) (l := N.zip (N.drop 1)) fun p hp => ⟨E85 L b o t s4 s5 s6 s7 s8 (.va (.lst (N.map nlD))) s10 s11 s12 s13 s14 s15 (.va (nlD p.1)) (.va (nlD p.2)), rfl, by
      obtain ⟨i, hi⟩ := List.mem_iff_getElem?.mp hp
      obtain ⟨e, f⟩ := p
      obtain ⟨h1, h2⟩ := List.getElem?_zip_eq_some.mp hi
      have h1 : N[i]? = some e := h1
      have h2 : (N.drop 1)[i]? = some f := h2
      rw [List.getElem?_drop, Nat.add_comm] at h2
      have e1 := (spec.2 e |>.mp (List.mem_of_getElem? h1)).2
      have f1 := (spec.2 f |>.mp (List.mem_of_getElem? h2)).2
      obtain ⟨k1, m1⟩ := List.getElem?_eq_some_iff.mp h1
      obtain ⟨k2, m2⟩ := List.getElem?_eq_some_iff.mp h2
      have srt := List.pairwise_iff_getElem.mp spec.1 i (i + 1) k1 k2 (by omega)
      rw [m1, m2, cf_iff] at srt
      have il := isLess_ok (p := e.1) (q := f.1) (a := 8) (b := 8) (by rw [e1]; exact pq_sz (by omega) _) (by rw [f1]; exact pq_sz (by omega) _) (by omega)
      rw [decide_eq_false (fun h => by
        rcases srt with y | y
        · exact Rat.not_le.mpr h (Rat.le_of_lt y)
        · rw [y.1] at h; exact rlt_irr _ h)] at il
      show ((g_is_less [frD e.1, frD f.1]).bind tB) = _
      rw [il]; rfl, fun h => nomatch h⟩
    rw [List.filter_eq_nil_iff.mpr fun _ _ h => by cases h] at go
    unfold bLcI
    rw [it]
    exact lcOut_e go (by decide)
  have l0 : 0 ≤ lim := by decide
  rw [tVal_e, b2_e, lc]
  have ne : dNe (.lst []) (.lst []) = .ok (.bl false) := xNil
  simp [ne, l0])
theorem turn_ok (g : Gs b) (ho : 1 ≤ o ∧ o ≤ 3) (ht : Tk3 t) : ∃ x4 x5 x6 x7 x8 x9 x10 x11 x12 x13 x14 x15 x16 x17, q5b (E85 L b o t s4 s5 s6 s7 s8 s9 s10 s11 s12 s13 s14 s15 s16 s17) = .ok (.nx (E85 L b o t x4 x5 x6 x7 x8 x9 x10 x11 x12 x13 x14 x15 x16 x17)) := by
  obtain ⟨x6, k3⟩ := b3_ok (L := L) (s6 := s6) (s7 := s7) (s8 := s8) (s9 := s9) (s10 := s10) (s11 := s11) (s12 := s12) (s13 := s13) (s14 := s14) (s15 := s15) (s16 := s16) (s17 := s17) g ho ht
  obtain ⟨y6, y13, k11⟩ := b11_ok (L := L) (s4 := .va (.int ((goodW b o (evW 8 t)).length : Nat))) (s5 := .va (frD (fitQ b o (evW 8 t)))) (s6 := x6) (s7 := .va (bestD b o t)) (s8 := .va (rk1 b o t)) (s11 := s11) (s12 := s12) (s13 := s13) (s14 := s14) (s15 := s15) (s16 := s16) (s17 := s17) g ho ht
  refine ⟨.va (.int ((goodW b o (evW 8 t)).length : Nat)), .va (frD (fitQ b o (evW 8 t))), y6, .va (bestD b o t), .va (rk1 b o t), .va (.lst ((nlL b o t).map nlD)), .va (frD (rS ((nlL b o t).map (·.1)))), .va (.lst (rowT (rwL b o t))), .ow (.lst (((rwL b o t).filter fun e => e.1 == []).map fun e => .int e.2)), y13, s14, s15, s16, s17, ?_⟩
  unfold q5b
  rw [seq_nx (b1_ok g ho ht), seq_nx (b2_ok g ho ht), seq_nx k3, seq_nx (b4_ok g ho ht), seq_nx (b5_ok g ho ht), seq_nx (b6_ok g ho ht), seq_nx (b7_ok g ho ht), seq_nx (b8_ok g ho ht), seq_nx (b9_ok g ho ht)]
  rw [seq_nx (γ' := E85 L b o t (.va (.int ((goodW b o (evW 8 t)).length : Nat))) (.va (frD (fitQ b o (evW 8 t)))) x6 (.va (bestD b o t)) (.va (rk1 b o t)) (.va (.lst ((nlL b o t).map nlD))) (.va (frD 0)) s11 s12 s13 s14 s15 s16 s17) rfl]
  rw [seq_nx k11, seq_nx (b12_ok g ho ht), seq_nx (b13_ok g ho), seq_nx (b14_ok g ho), seq_nx (b15_ok g ho)]
  exact b16_ok g ho
end
theorem abz_ltr {c : Nat} (h : ltr c) : c ∈ abz := by
  rcases h with z | z | z <;> rw [z] <;> decide
theorem sum_cast (f : Nat → Nat) : ∀ l : List Nat, (l.map fun i => ((f i : Nat) : Int)).sum = (((l.map f).sum : Nat) : Int)
  | [] => rfl
  | i :: l => by rw [List.map_cons, List.sum_cons, sum_cast f l, List.map_cons, List.sum_cons]; omega
abbrev F85 (L : D) (b : List Tx) (o : Nat) (s3 s4 s5 s6 s7 s8 s9 s10 s11 s12 s13 s14 s15 s16 s17 : Sl) : Ga := [.va L, .va (bkD b), .va (.int (o : Nat)), s3, s4, s5, s6, s7, s8, s9, s10, s11, s12, s13, s14, s15, s16, s17]
theorem law_true_k85 (ns : List Int) (hns : ns.length ≤ 63) : g_law_k85 [.lst (ns.map .int)] = .ok (.bl true) := by
  obtain ⟨b, g, _, b3, bb⟩ := law_book3 hns
  obtain ⟨d1, d2, d3⟩ := drawn_ok hns (k := 50) (m := 3) (by decide) (by decide) (by decide)
  obtain ⟨o, oi⟩ : ∃ n : Nat, (1 : Int) + drawnF ns 50 3 = n := ⟨(1 + drawnF ns 50 3).toNat, by omega⟩
  have ho : 1 ≤ o ∧ o ≤ 3 := by omega
  obtain ⟨n1, n2, n3, n4⟩ := name_ok hns (k := 60) (m := 3) (by decide) (by decide) (by decide) (by decide)
  have hc := g.c ho.2
  have hm0 := how_many_begun_ok g ho (t := []) (.inl rfl)
  have sb0 := share_begun_ok g ho (t := []) (.inl rfl)
  rw [good_allL hc] at hm0
  rw [ev_up hc] at sb0
  have up : g_share_up_to [bkD b, .int (o : Nat), .int 8] = _ := share_up_to_ok g.bk ho (n := 8) (by decide) (abz_few g.l (by decide))
  obtain ⟨x, r, eb⟩ : ∃ x r, b = x :: r := by
    cases z : b with
    | nil => have := g.bk.1; rw [z] at this; simp at this
    | cons x r => exact ⟨x, r, rfl⟩
  have xb : x ∈ b := by rw [eb]; exact List.mem_cons_self
  have xl := b3 x xb
  have xa : ∀ c ∈ x, c ∈ abz := fun c hcx => abz_ltr (g.l x xb c hcx)
  have texts : ∀ t ∈ [[], x.take 1, x, nameF ns 60 3, x.take 2 ++ [97]], Tk3 t := fun t ht => by
    simp only [List.mem_cons, List.not_mem_nil, or_false] at ht
    rcases ht with z | z | z | z | z <;> subst z
    · exact ⟨fun c hc => (nomatch hc), by show 0 ≤ 3; omega⟩
    · exact ⟨fun c hc => xa c (List.mem_of_mem_take hc), by rw [List.length_take]; omega⟩
    · exact ⟨xa, xl⟩
    · exact ⟨fun c hc => abz_ltr (n4 c hc), by omega⟩
    · refine ⟨fun c hc => ?_, by rw [List.length_append, List.length_take, List.length_singleton]; omega⟩
      rcases List.mem_append.mp hc with z | z
      · exact xa c (List.mem_of_mem_take z)
      · rw [List.mem_singleton.mp z]; decide
  unfold g_law_k85
  refine fn_rt ?_
  rw [m_law_k85_e]
  unfold q
  rw [show [D.lst (ns.map D.int)].map Sl.va ++ List.replicate (18 - [D.lst (ns.map D.int)].length) Sl.un = [.va (Lk ns), .un, .un, .un, .un, .un, .un, .un, .un, .un, .un, .un, .un, .un, .un, .un, .un, .un] from rfl]
  refine (seq_nx (γ' := [.va (Lk ns), .va (bkD b), .un, .un, .un, .un, .un, .un, .un, .un, .un, .un, .un, .un, .un, .un, .un, .un]) (set_e (by
    generalize Lk ns = L at *
    simp [bb]))).trans ?_
  refine (seq_nx (γ' := F85 (Lk ns) b o .un .un .un .un .un .un .un .un .un .un .un .un .un .un .un) (set_e (by
    generalize Lk ns = L at *
    generalize bkD b = B at *
    simp [d1, oi]))).trans ?_
  refine (seq_nx (γ' := F85 (Lk ns) b o .un .un .un .un .un .un .un .un .un .un .un .un .un .un .un) (if_f (by
    have go := lcGo_map (bd := bdN 14) (elt := bCall g_how_many (bCons (bVar 1) (bCons (bVar 2) (bCons (bVar 14) bNil)))) (γ := wipeG (F85 (Lk ns) b o .un .un .un .un .un .un .un .un .un .un .un .un .un .un .un) [14]) (inj := fun i : Nat => D.int (1 + (i : Nat))) (f := fun i => D.int ((made (evB o b) o (i + 1)).length : Nat)) (l := List.range 8) fun i hi => ⟨_, rfl, by
      have hi := List.mem_range.mp hi
      have hm := how_many_ok g.bk ho (n := i + 1) (by omega) (abz_nar g.l (by omega))
      have e : (1 : Int) + (i : Nat) = ((i + 1 : Nat) : Int) := by omega
      show g_how_many [bkD b, .int (o : Nat), .int (1 + (i : Nat))] = _
      rw [e]; exact hm⟩
    have lc : bLcI (iR2 (bC (.int 1)) (bC (.int 9))) [14] (bdN 14) yes (bCall g_how_many (bCons (bVar 1) (bCons (bVar 2) (bCons (bVar 14) bNil)))) (F85 (Lk ns) b o .un .un .un .un .un .un .un .un .un .un .un .un .un .un .un) = .ok (.lst ((List.range 8).map fun i => D.int ((made (evB o b) o (i + 1)).length : Nat))) := by
      have it : iR2 (bC (.int 1)) (bC (.int 9)) (F85 (Lk ns) b o .un .un .un .un .un .un .un .un .un .un .un .un .un .un .un) = .ok ((List.range 8).map fun i : Nat => D.int (1 + (i : Nat))) := rfl
      unfold bLcI
      rw [it]
      exact lcOut_e go (by rw [List.length_map, List.length_range]; decide)
    have sm : dSum [.lst ((List.range 8).map fun i => D.int ((made (evB o b) o (i + 1)).length : Nat))] = .ok (.int (((List.range 8).map fun i => (made (evB o b) o (i + 1)).length).sum : Nat)) := by
      have e : (List.range 8).map (fun i => D.int ((made (evB o b) o (i + 1)).length : Nat)) = ((List.range 8).map fun i => (((made (evB o b) o (i + 1)).length : Nat) : Int)).map .int := by rw [List.map_map]; rfl
      rw [e]
      unfold dSum
      rw [← sum_cast]
      simp only [asInts_map]
      rfl
    have ne := intNe (((List.range 8).map fun i => (made (evB o b) o (i + 1)).length).sum : Nat)
    have rhs : bN dSum (bCons (bLcI (iR2 (bC (.int 1)) (bC (.int 9))) [14] (bdN 14) yes (bCall g_how_many (bCons (bVar 1) (bCons (bVar 2) (bCons (bVar 14) bNil))))) bNil) (F85 (Lk ns) b o .un .un .un .un .un .un .un .un .un .un .un .un .un .un .un) = .ok (.int (((List.range 8).map fun i => (made (evB o b) o (i + 1)).length).sum : Nat)) := by
      rw [bN_e, bCons_e, lc]
      exact sm
    rw [tVal_e, b2_e, rhs]
    generalize ((((List.range 8).map fun i => (made (evB o b) o (i + 1)).length).sum : Nat) : Int) = z at *
    unfold F85
    generalize bkD b = B at *
    simp [hm0, ne]))).trans ?_
  refine (seq_nx (γ' := F85 (Lk ns) b o .un .un .un .un .un .un .un .un .un .un .un .un .un .un .un) (if_f (by
    have ne := frNe (upQ (evB o b) o 8)
    unfold F85
    generalize frD (upQ (evB o b) o 8) = Q at *
    generalize bkD b = B at *
    simp [sb0, up, ne]))).trans ?_
  obtain ⟨γ', l1, x3, x4, x5, x6, x7, x8, x9, x10, x11, x12, x13, x14, x15, x16, x17, rfl⟩ := forGo_inv (bd := bdN 3) (inj := D.str) (l0 := [[], x.take 1, x, nameF ns 60 3, x.take 2 ++ [97]]) (body := q5b)
    (I := fun dn γ => ∃ x3 x4 x5 x6 x7 x8 x9 x10 x11 x12 x13 x14 x15 x16 x17, γ = F85 (Lk ns) b o x3 x4 x5 x6 x7 x8 x9 x10 x11 x12 x13 x14 x15 x16 x17) (γ := F85 (Lk ns) b o .un .un .un .un .un .un .un .un .un .un .un .un .un .un .un) (fun dn t rest γ hr hI => by
      obtain ⟨x3, x4, x5, x6, x7, x8, x9, x10, x11, x12, x13, x14, x15, x16, x17, rfl⟩ := hI
      obtain ⟨y4, y5, y6, y7, y8, y9, y10, y11, y12, y13, y14, y15, y16, y17, k⟩ := turn_ok (L := Lk ns) (s4 := x4) (s5 := x5) (s6 := x6) (s7 := x7) (s8 := x8) (s9 := x9) (s10 := x10) (s11 := x11) (s12 := x12) (s13 := x13) (s14 := x14) (s15 := x15) (s16 := x16) (s17 := x17) g ho (texts t (by rw [hr]; simp))
      exact ⟨_, rfl, _, .inl k, .va (.str t), y4, y5, y6, y7, y8, y9, y10, y11, y12, y13, y14, y15, y16, y17, rfl⟩) ⟨.un, .un, .un, .un, .un, .un, .un, .un, .un, .un, .un, .un, .un, .un, .un, rfl⟩
  have k5 : q5 (F85 (Lk ns) b o .un .un .un .un .un .un .un .un .un .un .un .un .un .un .un) = .ok (.nx (F85 (Lk ns) b o x3 x4 x5 x6 x7 x8 x9 x10 x11 x12 x13 x14 x15 x16 x17)) := by
    refine forE_e (d := .tup ([[], x.take 1, x, nameF ns 60 3, x.take 2 ++ [97]].map .str)) ?_ rfl (fun es h => nomatch h) l1
    have i0 : dIx (bkD b) (.int 0) = .ok (.str x) := by
      rw [eb]
      show o2r (L2.atI (D.str x :: r.map D.str) 0) = _
      rw [show (0 : Int) = ((0 : Nat) : Int) from rfl, L2.atI_nat (v := D.str x) rfl]; rfl
    have c1 : dSl (.str x) none (some 1) = .ok (.str (x.take 1)) := cut1 (x := x) (by rw [lim_val]; omega) 1
    have c2 : dSl (.str x) none (some 2) = .ok (.str (x.take 2)) := cut1 (x := x) (by rw [lim_val]; omega) 2
    have a1 : dAdd (.str (x.take 2)) (.str [97]) = .ok (.str (x.take 2 ++ [97])) := addT (by rw [lim_val]; simp; omega)
    have l5 : 5 ≤ lim := by decide
    generalize x.take 2 ++ [97] = T5 at *
    generalize nameF ns 60 3 = T4 at *
    generalize x.take 2 = X2 at *
    generalize x.take 1 = X1 at *
    unfold F85
    generalize Lk ns = L at *
    generalize bkD b = B at *
    simp [bSl, pNo, pSo, toI, i0, c1, c2, a1, n1, l5]
  refine (seq_nx k5).trans ?_
  rfl
end
end
end KN
open PySem PySem.W PyProof.Rows
set_option maxHeartbeats 0 in
theorem PySem.Challenge.cw_kinnames_k85_whole_begun_holds : PySem.Challenge.rw_kinnames_k85_whole_begun.Holds := by
  w_on; o_law; k_head; (case hw => w_witness2)
  k_fill
  refine L2.walk_of (l := PySem.Challenge.rw_kinnames_k85_whole_begun) (n := 63) (k := 7) (x := "_law_script") (CX := fun w => L2.CX PySem.Challenge.rw_kinnames_k85_whole_begun.prog w) (sp := fun w => KN.spOk _ 1 KN.g_law_k85) rfl (by decide) rfl ⟨rfl, by decide, by decide⟩ (fun w h Y => PySem.W.kIn_of Y) ?F (fun _ _ a ns hl _ hS => KN.law_endX KN.law_true_k85 hl hS) (fun w H s e s' h => KN.cx_end h)
  case F =>
    intro w mg fa h KX G hmg
    refine' KN.all_mk KX G hmg ?u0 ?pg0 ?hd0 ?po0 ?sa0 ?mk0 ?kc0 ?n0_found ?n0_heads ?n0_names ?n0_order ?n0_rows ?n0_wish ?a0 ?l0 ?c0 ?k0 ?a1 ?l1 ?c1 ?k1 ?a2 ?l2 ?c2 ?k2 ?a3 ?l3 ?c3 ?k3 ?a4 ?l4 ?c4 ?k4 ?a5 ?l5 ?c5 ?k5 ?a6 ?l6 ?c6 ?k6 ?a7 ?l7 ?c7 ?k7 ?a8 ?l8 ?c8 ?k8 ?a9 ?l9 ?c9 ?k9 ?a10 ?l10 ?c10 ?k10 ?a11 ?l11 ?c11 ?k11 ?a12 ?l12 ?c12 ?k12 ?a13 ?l13 ?c13 ?k13 ?a14 ?l14 ?c14 ?k14 ?a15 ?l15 ?c15 ?k15 ?a16 ?l16 ?c16 ?k16 ?a17 ?l17 ?c17 ?k17 ?a18 ?l18 ?c18 ?k18 ?a19 ?l19 ?c19 ?k19 ?a20 ?l20 ?c20 ?k20 ?a21 ?l21 ?c21 ?k21 ?a22 ?l22 ?c22 ?k22 ?a23 ?l23 ?c23 ?k23 ?a24 ?l24 ?c24 ?k24 ?a25 ?l25 ?c25 ?k25 ?a26 ?l26 ?c26 ?k26 ?i27 ?a27 ?l27 ?c27 ?k27 ?i28 ?a28 ?l28 ?c28 ?k28 ?i29 ?a29 ?l29 ?c29 ?k29 ?i30 ?a30 ?l30 ?c30 ?k30 ?a31 ?l31 ?c31 ?k31 ?i32 ?a32 ?l32 ?c32 ?k32 ?a33 ?l33 ?c33 ?k33 ?i34 ?a34 ?l34 ?c34 ?k34 ?a35 ?l35 ?c35 ?k35 ?a36 ?l36 ?c36 ?k36 ?a37 ?l37 ?c37 ?k37 ?a38 ?l38 ?c38 ?k38 ?a39 ?l39 ?c39 ?k39 ?a40 ?l40 ?c40 ?k40 ?a41 ?l41 ?c41 ?k41 ?a42 ?l42 ?c42 ?k42 ?a43 ?l43 ?c43 ?k43 ?a44 ?l44 ?c44 ?k44 ?a45 ?l45 ?c45 ?k45 ?a46 ?l46 ?c46 ?k46 ?a47 ?l47 ?c47 ?k47 ?a48 ?l48 ?c48 ?k48 ?z_all ?z_bool ?z_enumerate ?z_int ?z_isinstance ?z_len ?z_list ?z_max ?z_range ?z_sorted ?z_str ?z_sum ?z_tuple ?z_zip ?g_LETTERS ?g_MOST_LETTERS ?g_MOST_NAMES ?g_MOST_ORDER ?g_MOST ?g_MOST_BARRED ?g_MOST_ENDS ?EL ?E0 ?E1 ?E2 ?E3 ?E4 ?ES
    case u0 => k_is
    case pg0 => k_is
    case hd0 => k_is
    case po0 => k_is
    case sa0 => k_is
    case mk0 => k_is
    case kc0 => k_is
    case n0_found => k_is
    case n0_heads => k_is
    case n0_names => k_is
    case n0_order => k_is
    case n0_rows => k_is
    case n0_wish => k_is
    case a0 => k_is
    case l0 => k_is
    case c0 => k_is
    case k0 => k_is
    case a1 => k_is
    case l1 => k_is
    case c1 => k_is
    case k1 => k_is
    case a2 => k_is
    case l2 => k_is
    case c2 => k_is
    case k2 => k_is
    case a3 => k_is
    case l3 => k_is
    case c3 => k_is
    case k3 => k_is
    case a4 => k_is
    case l4 => k_is
    case c4 => k_is
    case k4 => k_is
    case a5 => k_is
    case l5 => k_is
    case c5 => k_is
    case k5 => k_is
    case a6 => k_is
    case l6 => k_is
    case c6 => k_is
    case k6 => k_is
    case a7 => k_is
    case l7 => k_is
    case c7 => k_is
    case k7 => k_is
    case a8 => k_is
    case l8 => k_is
    case c8 => k_is
    case k8 => k_is
    case a9 => k_is
    case l9 => k_is
    case c9 => k_is
    case k9 => k_is
    case a10 => k_is
    case l10 => k_is
    case c10 => k_is
    case k10 => k_is
    case a11 => k_is
    case l11 => k_is
    case c11 => k_is
    case k11 => k_is
    case a12 => k_is
    case l12 => k_is
    case c12 => k_is
    case k12 => k_is
    case a13 => k_is
    case l13 => k_is
    case c13 => k_is
    case k13 => k_is
    case a14 => k_is
    case l14 => k_is
    case c14 => k_is
    case k14 => k_is
    case a15 => k_is
    case l15 => k_is
    case c15 => k_is
    case k15 => k_is
    case a16 => k_is
    case l16 => k_is
    case c16 => k_is
    case k16 => k_is
    case a17 => k_is
    case l17 => k_is
    case c17 => k_is
    case k17 => k_is
    case a18 => k_is
    case l18 => k_is
    case c18 => k_is
    case k18 => k_is
    case a19 => k_is
    case l19 => k_is
    case c19 => k_is
    case k19 => k_is
    case a20 => k_is
    case l20 => k_is
    case c20 => k_is
    case k20 => k_is
    case a21 => k_is
    case l21 => k_is
    case c21 => k_is
    case k21 => k_is
    case a22 => k_is
    case l22 => k_is
    case c22 => k_is
    case k22 => k_is
    case a23 => k_is
    case l23 => k_is
    case c23 => k_is
    case k23 => k_is
    case a24 => k_is
    case l24 => k_is
    case c24 => k_is
    case k24 => k_is
    case a25 => k_is
    case l25 => k_is
    case c25 => k_is
    case k25 => k_is
    case a26 => k_is
    case l26 => k_is
    case c26 => k_is
    case k26 => k_is
    case i27 => k_is
    case a27 => k_is
    case l27 => k_is
    case c27 => k_is
    case k27 => k_is
    case i28 => k_is
    case a28 => k_is
    case l28 => k_is
    case c28 => k_is
    case k28 => k_is
    case i29 => k_is
    case a29 => k_is
    case l29 => k_is
    case c29 => k_is
    case k29 => k_is
    case i30 => k_is
    case a30 => k_is
    case l30 => k_is
    case c30 => k_is
    case k30 => k_is
    case a31 => k_is
    case l31 => k_is
    case c31 => k_is
    case k31 => k_is
    case i32 => k_is
    case a32 => k_is
    case l32 => k_is
    case c32 => k_is
    case k32 => k_is
    case a33 => k_is
    case l33 => k_is
    case c33 => k_is
    case k33 => k_is
    case i34 => k_is
    case a34 => k_is
    case l34 => k_is
    case c34 => k_is
    case k34 => k_is
    case a35 => k_is
    case l35 => k_is
    case c35 => k_is
    case k35 => k_is
    case a36 => k_is
    case l36 => k_is
    case c36 => k_is
    case k36 => k_is
    case a37 => k_is
    case l37 => k_is
    case c37 => k_is
    case k37 => k_is
    case a38 => k_is
    case l38 => k_is
    case c38 => k_is
    case k38 => k_is
    case a39 => k_is
    case l39 => k_is
    case c39 => k_is
    case k39 => k_is
    case a40 => k_is
    case l40 => k_is
    case c40 => k_is
    case k40 => k_is
    case a41 => k_is
    case l41 => k_is
    case c41 => k_is
    case k41 => k_is
    case a42 => k_is
    case l42 => k_is
    case c42 => k_is
    case k42 => k_is
    case a43 => k_is
    case l43 => k_is
    case c43 => k_is
    case k43 => k_is
    case a44 => k_is
    case l44 => k_is
    case c44 => k_is
    case k44 => k_is
    case a45 => k_is
    case l45 => k_is
    case c45 => k_is
    case k45 => k_is
    case a46 => k_is
    case l46 => k_is
    case c46 => k_is
    case k46 => k_is
    case a47 => k_is
    case l47 => k_is
    case c47 => k_is
    case k47 => k_is
    case a48 => k_is
    case l48 => k_is
    case c48 => k_is
    case k48 => k_is
    case z_all => k_is
    case z_bool => k_is
    case z_enumerate => k_is
    case z_int => k_is
    case z_isinstance => k_is
    case z_len => k_is
    case z_list => k_is
    case z_max => k_is
    case z_range => k_is
    case z_sorted => k_is
    case z_str => k_is
    case z_sum => k_is
    case z_tuple => k_is
    case z_zip => k_is
    case g_LETTERS => k_is
    case g_MOST_LETTERS => k_is
    case g_MOST_NAMES => k_is
    case g_MOST_ORDER => k_is
    case g_MOST => k_is
    case g_MOST_BARRED => k_is
    case g_MOST_ENDS => k_is
    case EL => (refine' KN.ErrL.mk ?nn ?bb ?tt ?dd; (case nn => k_is); (case bb => k_is); (case tt => k_is); (case dd => k_is))
    case E0 => (refine' KN.ErrOne.mk ?y0 ?y1 ?y2 ?y3 ?y4 ?y5 ?y6 ?y7 ?y8 ?y9 ?y10 ?y11 ?y12 ?y13; (case y0 => k_is); (case y1 => k_exc); (case y2 => k_is); (case y3 => k_is); (case y4 => k_is); (case y5 => k_is); (case y6 => k_is); (case y7 => k_is); (case y8 => k_is); (case y9 => k_is); (case y10 => k_is); (case y11 => k_is); (case y12 => k_is); (case y13 => k_is))
    case E1 => (refine' KN.ErrOne.mk ?y0 ?y1 ?y2 ?y3 ?y4 ?y5 ?y6 ?y7 ?y8 ?y9 ?y10 ?y11 ?y12 ?y13; (case y0 => k_is); (case y1 => k_exc); (case y2 => k_is); (case y3 => k_is); (case y4 => k_is); (case y5 => k_is); (case y6 => k_is); (case y7 => k_is); (case y8 => k_is); (case y9 => k_is); (case y10 => k_is); (case y11 => k_is); (case y12 => k_is); (case y13 => k_is))
    case E2 => (refine' KN.ErrOne.mk ?y0 ?y1 ?y2 ?y3 ?y4 ?y5 ?y6 ?y7 ?y8 ?y9 ?y10 ?y11 ?y12 ?y13; (case y0 => k_is); (case y1 => k_exc); (case y2 => k_is); (case y3 => k_is); (case y4 => k_is); (case y5 => k_is); (case y6 => k_is); (case y7 => k_is); (case y8 => k_is); (case y9 => k_is); (case y10 => k_is); (case y11 => k_is); (case y12 => k_is); (case y13 => k_is))
    case E3 => (refine' KN.ErrOne.mk ?y0 ?y1 ?y2 ?y3 ?y4 ?y5 ?y6 ?y7 ?y8 ?y9 ?y10 ?y11 ?y12 ?y13; (case y0 => k_is); (case y1 => k_exc); (case y2 => k_is); (case y3 => k_is); (case y4 => k_is); (case y5 => k_is); (case y6 => k_is); (case y7 => k_is); (case y8 => k_is); (case y9 => k_is); (case y10 => k_is); (case y11 => k_is); (case y12 => k_is); (case y13 => k_is))
    case E4 => (refine' KN.ErrOne.mk ?y0 ?y1 ?y2 ?y3 ?y4 ?y5 ?y6 ?y7 ?y8 ?y9 ?y10 ?y11 ?y12 ?y13; (case y0 => k_is); (case y1 => k_exc); (case y2 => k_is); (case y3 => k_is); (case y4 => k_is); (case y5 => k_is); (case y6 => k_is); (case y7 => k_is); (case y8 => k_is); (case y9 => k_is); (case y10 => k_is); (case y11 => k_is); (case y12 => k_is); (case y13 => k_is))
    case ES => (refine' KN.ErrSub.mk ?y0 ?y1 ?y2 ?y3 ?y4 ?y5 ?y6 ?y7 ?y8 ?y9 ?y10 ?y11 ?y12 ?y13 ?y14 ?y15 ?y16 ?y17 ?y18 ?y19 ?y20 ?y21 ?y22 ?y23 ?y24; (case y0 => k_is); (case y1 => k_is); (case y2 => k_is); (case y3 => k_is); (case y4 => k_is); (case y5 => k_is); (case y6 => k_is); (case y7 => k_is); (case y8 => k_is); (case y9 => k_is); (case y10 => k_is); (case y11 => k_is); (case y12 => k_is); (case y13 => k_is); (case y14 => k_is); (case y15 => k_is); (case y16 => k_is); (case y17 => k_is); (case y18 => k_is); (case y19 => k_is); (case y20 => k_is); (case y21 => k_is); (case y22 => k_is); (case y23 => k_is); (case y24 => k_is))
