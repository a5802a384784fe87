import PyProof.Rows.All
import Wide.All
import OpenK.AllK
import Wide.FinOn
import HandS.ForMost
import HandS.ForExc
import HandS.CallSlots
import HandS.Wide
import HandS.More
import HandS.TupAny
import HandS.TupMul
import HandS.Deep
import HandS.Style
import HandS.IsInst
import HandS.SortInts
import PyProof.Rows.SortShellAny
import KE.KSortTupG
import HandS.SetFor
import HandS.TryOnly
import HandS.HotCalls
import HandS.ExcIs
import HandS.ListItems
import KE.SortData
import HandS.Conv
import HandS.StrMore
import HandS.Codes
import HandS.Zip
import HandS.TryMany
import HandS.Text
import KE.GoesZip
import HandS.Flt
import HandS.Iter
import HandS.Strs
import KE.KIndexOf
import PyProof.TupleOfSeq
import PyProof.FString5
import HandS.TupSets
import KE.KDictKeyed
import HandS.Dict
import PySem.Challenge.RW_kinnames_k02_whole_tables
set_option Elab.async false
set_option linter.all false
set_option maxRecDepth 100000
set_option maxHeartbeats 4000000
/-! KnA: pure data, their standing in a heap, judgements -/
namespace KN
open PySem PySem.Spec PyProof.Rows L2
/-! ### pure data -/
abbrev Tx := List Nat
inductive D where
  | non | bl (b : Bool) | int (i : Int) | str (s : Tx)
  | lst (xs : List D) | tup (xs : List D) | dic (es : List (Tx × D))
abbrev toS (s : Tx) : Str := ⟨s.toArray⟩
inductive R (α : Type) where
  | ok (a : α) | ex (c : Nat) | no
namespace R
@[simp] def bind {α β : Type} : R α → (α → R β) → R β
  | ok a, f => f a
  | ex c, _ => ex c
  | no, _ => no
@[simp] def noex {α : Type} : R α → R α
  | ok a => ok a
  | _ => no
end R
inductive Sl where
  | un | va (d : D) | ow (d : D) | nd (es : List (Tx × List (Tx × D))) | xc (a : Addr)
  /-- an object of one's own (or one that was handed in), one that is read alone: its class, its fields, whether a field is one's own list -/
  | ob (h : Bool) (c : Nat) (fs : List (Bool × D)) | rf (c : Nat) (fs : List (Bool × D))
  /-- a list of one's own of objects of one's own, of one class, whose fields hold data alone -/
  | obs (c : Nat) (os : List (List (Bool × D)))
abbrev Ga := List Sl
/-! ### data in a heap -/
mutual
inductive Rep (K : PySem.W.Frag) (F : Hp) : D → V → Prop
  | non : Rep K F .non .non
  | bl (b : Bool) : Rep K F (.bl b) (.bl b)
  | int (i : Int) : Rep K F (.int i) (.int i)
  | str (s : Tx) : Rep K F (.str s) (.str (toS s))
  | lst {a : Addr} {ds : List D} {vs : List V} : SqL K F a vs → Reps K F ds vs → Rep K F (.lst ds) (.ref a)
  | tup {a : Addr} {ds : List D} {vs : List V} : SqT K F a vs → Reps K F ds vs → Rep K F (.tup ds) (.ref a)
  | dic {a : Addr} {es : List (Tx × D)} {kvs : List (Key × V)} : F a = some (.dK kvs) → RepK K F es kvs → Rep K F (.dic es) (.ref a)
inductive Reps (K : PySem.W.Frag) (F : Hp) : List D → List V → Prop
  | nil : Reps K F [] []
  | cons {d : D} {ds : List D} {v : V} {vs : List V} : Rep K F d v → Reps K F ds vs → Reps K F (d :: ds) (v :: vs)
inductive RepK (K : PySem.W.Frag) (F : Hp) : List (Tx × D) → List (Key × V) → Prop
  | nil : RepK K F [] []
  | cons {k : Tx} {d : D} {es : List (Tx × D)} {v : V} {kvs : List (Key × V)} : Rep K F d v → RepK K F es kvs → RepK K F ((k, d) :: es) ((Sum.inr (toS k), v) :: kvs)
end
theorem same_sqt {K : PySem.W.Frag} {F F' : Hp} {a : Addr} {xs : List V} (e : Same F F') (h : SqT K F a xs) : SqT K F' a xs := by
  rcases h with (h | ⟨o, h⟩) | h
  · exact .inl (.inl (e _ _ h))
  · exact .inl (.inr ⟨o, e _ _ h⟩)
  · exact .inr h
section
variable {K : PySem.W.Frag} {F F' : Hp}
theorem Rep.mono (e : Same F F') {d : D} {v : V} (h : Rep K F d v) : Rep K F' d v :=
  Rep.rec (motive_1 := fun d v _ => Rep K F' d v) (motive_2 := fun ds vs _ => Reps K F' ds vs) (motive_3 := fun es kvs _ => RepK K F' es kvs)
    .non .bl .int .str (fun h1 _ i => .lst (e.seq h1) i) (fun h1 _ i => .tup (same_sqt e h1) i) (fun h1 _ i => .dic (e _ _ h1) i)
    .nil (fun _ _ i j => .cons i j) .nil (fun _ _ i j => .cons i j) h
theorem Reps.mono (e : Same F F') {ds : List D} {vs : List V} (h : Reps K F ds vs) : Reps K F' ds vs :=
  Reps.rec (motive_1 := fun d v _ => Rep K F' d v) (motive_2 := fun ds vs _ => Reps K F' ds vs) (motive_3 := fun es kvs _ => RepK K F' es kvs)
    .non .bl .int .str (fun h1 _ i => .lst (e.seq h1) i) (fun h1 _ i => .tup (same_sqt e h1) i) (fun h1 _ i => .dic (e _ _ h1) i)
    .nil (fun _ _ i j => .cons i j) .nil (fun _ _ i j => .cons i j) h
theorem RepK.mono (e : Same F F') {es : List (Tx × D)} {kvs : List (Key × V)} (h : RepK K F es kvs) : RepK K F' es kvs :=
  RepK.rec (motive_1 := fun d v _ => Rep K F' d v) (motive_2 := fun ds vs _ => Reps K F' ds vs) (motive_3 := fun es kvs _ => RepK K F' es kvs)
    .non .bl .int .str (fun h1 _ i => .lst (e.seq h1) i) (fun h1 _ i => .tup (same_sqt e h1) i) (fun h1 _ i => .dic (e _ _ h1) i)
    .nil (fun _ _ i j => .cons i j) .nil (fun _ _ i j => .cons i j) h
theorem Reps.length {ds : List D} {vs : List V} (h : Reps K F ds vs) : ds.length = vs.length := by
  induction ds generalizing vs with
  | nil => cases h; rfl
  | cons d ds ih => cases h with | cons h1 h2 => simp [ih h2]
theorem Reps.get {ds : List D} {vs : List V} (h : Reps K F ds vs) {i : Nat} {d : D} (e : ds[i]? = some d) : ∃ v, vs[i]? = some v ∧ Rep K F d v := by
  induction ds generalizing vs i with
  | nil => simp at e
  | cons d' ds ih =>
    cases h with
    | cons h1 h2 =>
      cases i with
      | zero => simp at e; subst e; exact ⟨_, rfl, h1⟩
      | succ i => simp at e; simpa using ih h2 e
theorem Reps.append {ds es : List D} {vs us : List V} (h : Reps K F ds vs) (h' : Reps K F es us) : Reps K F (ds ++ es) (vs ++ us) := by
  induction ds generalizing vs with
  | nil => cases h; exact h'
  | cons d ds ih => cases h with | cons h1 h2 => exact .cons h1 (ih h2)
theorem Reps.take {ds : List D} {vs : List V} (h : Reps K F ds vs) (n : Nat) : Reps K F (ds.take n) (vs.take n) := by
  induction ds generalizing vs n with
  | nil => cases h; simp; exact .nil
  | cons d ds ih =>
    cases h with
    | cons h1 h2 =>
      cases n with
      | zero => exact .nil
      | succ n => exact .cons h1 (ih h2 n)
theorem Reps.drop {ds : List D} {vs : List V} (h : Reps K F ds vs) (n : Nat) : Reps K F (ds.drop n) (vs.drop n) := by
  induction ds generalizing vs n with
  | nil => cases h; simp; exact .nil
  | cons d ds ih =>
    cases h with
    | cons h1 h2 =>
      cases n with
      | zero => exact .cons h1 h2
      | succ n => exact ih h2 n
theorem Reps.set {ds : List D} {vs : List V} (h : Reps K F ds vs) {d : D} {v : V} (r : Rep K F d v) (n : Nat) : Reps K F (ds.set n d) (vs.set n v) := by
  induction ds generalizing vs n with
  | nil => cases h; exact .nil
  | cons d' ds ih =>
    cases h with
    | cons h1 h2 =>
      cases n with
      | zero => exact .cons r h2
      | succ n => exact .cons h1 (ih h2 n)
theorem Reps.reverse {ds : List D} {vs : List V} (h : Reps K F ds vs) : Reps K F ds.reverse vs.reverse := by
  induction ds generalizing vs with
  | nil => cases h; exact .nil
  | cons d ds ih => cases h with | cons h1 h2 => rw [List.reverse_cons, List.reverse_cons]; exact (ih h2).append (.cons h1 .nil)
theorem RepK.length {es : List (Tx × D)} {kvs : List (Key × V)} (h : RepK K F es kvs) : es.length = kvs.length := by
  induction es generalizing kvs with
  | nil => cases h; rfl
  | cons d ds ih => cases h with | cons h1 h2 => simp [ih h2]
end
/-- the frozen part of a heap; a dict of it may be locked -/
def Emb (F H : Hp) : Prop := ∀ a o, F a = some o → H a = some o ∨ ∃ ob kvs, o = .dK kvs ∧ H a = some (.frz ob (.dK kvs))
theorem Emb.sql {K : PySem.W.Frag} {F H : Hp} {a : Addr} {xs : List V} (e : Emb F H) (h : SqL K F a xs) : SqL K H a xs := by
  rcases h with (h | ⟨o, h⟩) | h
  · rcases e _ _ h with h | ⟨_, _, z, _⟩
    · exact .inl (.inl h)
    · cases z
  · rcases e _ _ h with h | ⟨_, _, z, _⟩
    · exact .inl (.inr ⟨o, h⟩)
    · cases z
  · exact .inr h
theorem Emb.sqt {K : PySem.W.Frag} {F H : Hp} {a : Addr} {xs : List V} (e : Emb F H) (h : SqT K F a xs) : SqT K H a xs := by
  rcases h with (h | ⟨o, h⟩) | h
  · rcases e _ _ h with h | ⟨_, _, z, _⟩
    · exact .inl (.inl h)
    · cases z
  · rcases e _ _ h with h | ⟨_, _, z, _⟩
    · exact .inl (.inr ⟨o, h⟩)
    · cases z
  · exact .inr h
theorem Emb.dk {F H : Hp} {a : Addr} {kvs : List (Key × V)} (e : Emb F H) (h : F a = some (.dK kvs)) : Rd H a (.dK kvs) := by
  rcases e _ _ h with h | ⟨ob, kvs', z, h⟩
  · exact .inl h
  · cases z; exact .inr ⟨ob, h⟩
theorem Emb.free {F H : Hp} {a : Addr} (e : Emb F H) (h : H a = none) : F a = none := by
  cases q : F a with
  | none => rfl
  | some o =>
    rcases e _ _ q with z | ⟨_, _, _, z⟩ <;> rw [h] at z <;> cases z
theorem Emb.none : Emb (fun _ => none) H := fun _ _ h => nomatch h
/-- F' and H' stand behind F and H: nothing known has changed -/
structure Nxt (F H F' H' : Hp) : Prop where
  f : Same F F'
  fn : ∀ a o, F' a = some o → F a = some o ∨ H a = none
  emb : Emb F' H'
  h : Same H H'
theorem Nxt.refl {F H : Hp} (e : Emb F H) : Nxt F H F H := ⟨.refl _, fun _ _ h => .inl h, e, .refl _⟩
theorem Nxt.trans {F H F1 H1 F2 H2 : Hp} (a : Nxt F H F1 H1) (b : Nxt F1 H1 F2 H2) : Nxt F H F2 H2 :=
  ⟨a.f.trans b.f, fun c o h => by
    rcases b.fn c o h with z | z
    · exact a.fn c o z
    · exact .inr (a.h.free z), b.emb, a.h.trans b.h⟩
theorem Nxt.new {F H : Hp} {p : Addr} (e : Emb F H) (hp : H p = none) (o : HO) : Nxt F H (upd F p o) (upd H p o) := by
  have fp : F p = none := e.free hp
  refine ⟨fun b u h => ?_, fun a u h => ?_, fun a u h => ?_, fun b u h => ?_⟩
  · rw [upd_ne (ne_of_none h fp)]; exact h
  · by_cases q : a = p
    · subst q; exact .inr hp
    · rw [upd_ne q] at h; exact .inl h
  · by_cases q : a = p
    · subst q; rw [upd_same] at h ⊢; exact .inl h
    · rw [upd_ne q] at h; rw [upd_ne q]; exact e a u h
  · rw [upd_ne (ne_of_none h hp)]; exact h
/-- a new thing that isn't frozen yet -/
theorem Nxt.laid {F H : Hp} {p : Addr} (e : Emb F H) (hp : H p = none) (o : HO) : Nxt F H F (upd H p o) := by
  have fp : F p = none := e.free hp
  refine ⟨.refl _, fun _ _ h => .inl h, fun a u h => ?_, fun b u h => ?_⟩
  · have q : a ≠ p := ne_of_none h fp
    rw [upd_ne q]; exact e a u h
  · rw [upd_ne (ne_of_none h hp)]; exact h
/-- a laid thing is frozen -/
theorem Emb.freeze {F H : Hp} {p : Addr} {o : HO} (e : Emb F H) (hp : H p = some o) : Emb (upd F p o) H := fun a u h => by
  by_cases q : a = p
  · subst q; rw [upd_same] at h; cases h; exact .inl hp
  · rw [upd_ne q] at h; exact e a u h
theorem same_upd {F : Hp} {p : Addr} {o : HO} (h : F p = none) : Same F (upd F p o) := fun b u e => by
  rw [upd_ne (ne_of_none e h)]; exact e
/-- a list or dict that may still change, at a -/
def Own (K : PySem.W.Frag) (F H : Hp) : D → Addr → Prop
  | .lst ds, a => ∃ vs, H a = some (.lst vs) ∧ Reps K F ds vs
  | .dic es, a => ∃ kvs, H a = some (.dK kvs) ∧ RepK K F es kvs
  | _, _ => False
theorem Own.next {K : PySem.W.Frag} {F H F' H' : Hp} {d : D} {a : Addr} (o : Own K F H d a) (f : Same F F') (h : ∀ u, H a = some u → H' a = some u) : Own K F' H' d a := by
  cases d <;> simp only [Own] at o ⊢
  · obtain ⟨vs, e, r⟩ := o; exact ⟨vs, h _ e, r.mono f⟩
  · obtain ⟨vs, e, r⟩ := o; exact ⟨vs, h _ e, r.mono f⟩
theorem Own.have {K : PySem.W.Frag} {F H : Hp} {d : D} {a : Addr} (o : Own K F H d a) : ∃ u, H a = some u := by
  cases d <;> simp only [Own] at o
  · obtain ⟨vs, e, r⟩ := o; exact ⟨_, e⟩
  · obtain ⟨vs, e, r⟩ := o; exact ⟨_, e⟩
/-- frozen: F' with the thing itself -/
theorem Own.freeze {K : PySem.W.Frag} {F H : Hp} {d : D} {a : Addr} (o : Own K F H d a) (e : Emb F H) (fa : F a = none) :
    ∃ u, H a = some u ∧ Emb (upd F a u) H ∧ Same F (upd F a u) ∧ Rep K (upd F a u) d (.ref a) := by
  cases d <;> simp only [Own] at o
  · obtain ⟨vs, h, r⟩ := o
    exact ⟨_, h, e.freeze h, same_upd fa, .lst (.inl (.inl upd_same)) (r.mono (same_upd fa))⟩
  · obtain ⟨kvs, h, r⟩ := o
    exact ⟨_, h, e.freeze h, same_upd fa, .dic upd_same (r.mono (same_upd fa))⟩
/-- read: frozen, or one's own -/
def Rep1 (K : PySem.W.Frag) (F H : Hp) (d : D) (v : V) : Prop := Rep K F d v ∨ ∃ a, v = .ref a ∧ Own K F H d a
theorem Rep1.next {K : PySem.W.Frag} {F H F' H' : Hp} {d : D} {v : V} (r : Rep1 K F H d v) (n : Nxt F H F' H') : Rep1 K F' H' d v := by
  rcases r with r | ⟨a, e, o⟩
  · exact .inl (r.mono n.f)
  · exact .inr ⟨a, e, o.next n.f (fun u z => n.h _ _ z)⟩
section
variable {K : PySem.W.Frag} {F H : Hp} {v : V}
theorem Rep1.lst (e : Emb F H) {ds : List D} (r : Rep1 K F H (.lst ds) v) : ∃ a vs, v = .ref a ∧ SqL K H a vs ∧ Reps K F ds vs := by
  rcases r with r | ⟨a, rfl, vs, h, r⟩
  · cases r with | lst h1 h2 => exact ⟨_, _, rfl, e.sql h1, h2⟩
  · exact ⟨a, vs, rfl, .inl (.inl h), r⟩
theorem Rep1.tup (e : Emb F H) {ds : List D} (r : Rep1 K F H (.tup ds) v) : ∃ a vs, v = .ref a ∧ SqT K H a vs ∧ Reps K F ds vs := by
  rcases r with r | ⟨a, rfl, o⟩
  · cases r with | tup h1 h2 => exact ⟨_, _, rfl, e.sqt h1, h2⟩
  · exact o.elim
theorem Rep1.dic (e : Emb F H) {es : List (Tx × D)} (r : Rep1 K F H (.dic es) v) : ∃ a kvs, v = .ref a ∧ Rd H a (.dK kvs) ∧ RepK K F es kvs := by
  rcases r with r | ⟨a, rfl, kvs, h, r⟩
  · cases r with | dic h1 h2 => exact ⟨_, _, rfl, e.dk h1, h2⟩
  · exact ⟨a, kvs, rfl, .inl h, r⟩
theorem Rep1.int {i : Int} (r : Rep1 K F H (.int i) v) : v = .int i := by
  rcases r with r | ⟨a, rfl, o⟩
  · cases r; rfl
  · exact o.elim
theorem Rep1.str {s : Tx} (r : Rep1 K F H (.str s) v) : v = .str (toS s) := by
  rcases r with r | ⟨a, rfl, o⟩
  · cases r; rfl
  · exact o.elim
theorem Rep1.bl {b : Bool} (r : Rep1 K F H (.bl b) v) : v = .bl b := by
  rcases r with r | ⟨a, rfl, o⟩
  · cases r; rfl
  · exact o.elim
theorem Rep1.non (r : Rep1 K F H .non v) : v = .non := by
  rcases r with r | ⟨a, rfl, o⟩
  · cases r; rfl
  · exact o.elim
end
/-! ### a frame -/
/-- the rows of a dict of dicts, all of one's own -/
def OwK (K : PySem.W.Frag) (F H : Hp) (a : Addr) : List (Tx × List (Tx × D)) → List (Key × V) → Prop
  | [], [] => True
  | (k, row) :: es, (k', v) :: kvs => k' = Sum.inr (toS k) ∧ (∃ r kv, v = .ref r ∧ r ≠ a ∧ F r = none ∧ H r = some (.dK kv) ∧ RepK K F row kv ∧ ∀ p ∈ kvs, p.1 ≠ k' ∧ p.2 ≠ .ref r) ∧ OwK K F H a es kvs
  | _, _ => False
theorem OwK.next {K : PySem.W.Frag} {F H F' H' : Hp} {a : Addr} : ∀ {es : List (Tx × List (Tx × D))} {kvs : List (Key × V)}, OwK K F H a es kvs → Same F F' →
    (∀ k b u, (k, V.ref b) ∈ kvs → F b = none → H b = some u → H' b = some u ∧ F' b = none) → OwK K F' H' a es kvs
  | [], [], _, _, _ => trivial
  | (k, row) :: es, (k', v) :: kvs, ⟨e, ⟨r, kv, e1, e2, e3, e4, e5, e6⟩, o⟩, f, h => by
    subst e1
    obtain ⟨h1, h2⟩ := h k' r _ List.mem_cons_self e3 e4
    exact ⟨e, ⟨r, kv, rfl, e2, h2, h1, e5.mono f, e6⟩, o.next f fun k b u m => h k b u (List.mem_cons_of_mem _ m)⟩
  | [], _ :: _, h, _, _ => h.elim
  | _ :: _, [], h, _, _ => h.elim
theorem OwK.row {K : PySem.W.Frag} {F H : Hp} {a : Addr} : ∀ {es : List (Tx × List (Tx × D))} {kvs : List (Key × V)}, OwK K F H a es kvs → ∀ {k : Key} {v : V}, (k, v) ∈ kvs → ∃ r kv, v = .ref r ∧ r ≠ a ∧ F r = none ∧ H r = some (.dK kv)
  | [], [], _, _, _, m => nomatch m
  | (k, row) :: es, (k', v) :: kvs, ⟨e, ⟨r, kv, e1, e2, e3, e4, e5, e6⟩, o⟩, _, _, m => by
    rcases List.mem_cons.mp m with m | m
    · cases m; exact ⟨r, kv, e1, e2, e3, e4⟩
    · exact o.row m
  | [], _ :: _, h, _, _, _ => h.elim
  | _ :: _, [], h, _, _, _ => h.elim
/-! ### objects -/
abbrev Fd := Bool × D
/-- the classes of the program and their fields, in the order of their first being set -/
def cNm : Nat → Str
  | 0 => "Search" | 1 => "Tally" | 2 => "Keeper" | 3 => "Pen" | _ => "Ledger"
def fNm : Nat → List Str
  | 0 => ["names", "order", "wish", "rows", "heads", "found"]
  | 1 => ["rows", "order", "wish", "kept", "ends"]
  | 2 => ["order", "names", "made"]
  | 3 => ["names", "order", "written", "past", "later"]
  | _ => ["order", "kept", "past", "later"]
def ObC (K : PySem.W.Frag) (c : Nat) (C : Addr) : Prop := PySem.W.nsIn K mainGlobals (cNm c) = some (some (.ref C))
/-- an object's fields as they stand: frozen data, or a list of its own -/
def FdsOk (K : PySem.W.Frag) (F H : Hp) (a : Addr) : List Fd → List V → Prop
  | [], [] => True
  | (false, d) :: fs, v :: vs => Rep K F d v ∧ FdsOk K F H a fs vs
  | (true, d) :: fs, v :: vs => (∃ b, v = .ref b ∧ b ≠ a ∧ F b = none ∧ Own K F H d b ∧ V.ref b ∉ vs) ∧ FdsOk K F H a fs vs
  | _, _ => False
def OwF : List Fd → List V → Addr → Prop
  | (true, _) :: fs, v :: vs, b => v = .ref b ∨ OwF fs vs b
  | (false, _) :: fs, _ :: vs, b => OwF fs vs b
  | _, _, _ => False
theorem FdsOk.len {K : PySem.W.Frag} {F H : Hp} {a : Addr} : ∀ {fs : List Fd} {vs : List V}, FdsOk K F H a fs vs → fs.length = vs.length
  | [], [], _ => rfl
  | (false, _) :: fs, v :: vs, h => by simp [FdsOk.len h.2]
  | (true, _) :: fs, v :: vs, h => by simp [FdsOk.len h.2]
  | [], _ :: _, h => h.elim
  | (false, _) :: _, [], h => h.elim
  | (true, _) :: _, [], h => h.elim
theorem FdsOk.own {K : PySem.W.Frag} {F H : Hp} {a b : Addr} : ∀ {fs : List Fd} {vs : List V}, FdsOk K F H a fs vs → OwF fs vs b → b ≠ a ∧ F b = none ∧ ∃ d, Own K F H d b
  | [], [], _, o => o.elim
  | (false, _) :: fs, v :: vs, h, o => FdsOk.own h.2 o
  | (true, d) :: fs, v :: vs, h, o => by
    rcases o with o | o
    · obtain ⟨b', e1, e2, e3, e4, _⟩ := h.1
      rw [e1] at o; cases o
      exact ⟨e2, e3, d, e4⟩
    · exact FdsOk.own h.2 o
  | [], _ :: _, h, _ => h.elim
  | (false, _) :: _, [], h, _ => h.elim
  | (true, _) :: _, [], h, _ => h.elim
theorem FdsOk.next {K : PySem.W.Frag} {F H F' H' : Hp} {a : Addr} : ∀ {fs : List Fd} {vs : List V}, FdsOk K F H a fs vs → Same F F' → (∀ b u, OwF fs vs b → F b = none → H b = some u → H' b = some u ∧ F' b = none) → FdsOk K F' H' a fs vs
  | [], [], _, _, _ => trivial
  | (false, _) :: fs, v :: vs, h, f, k => ⟨h.1.mono f, FdsOk.next h.2 f k⟩
  | (true, d) :: fs, v :: vs, h, f, k => by
    obtain ⟨b, e1, e2, e3, e4, e5⟩ := h.1
    obtain ⟨u, hu⟩ := e4.have
    exact ⟨⟨b, e1, e2, (k b u (.inl e1) e3 hu).2, e4.next f fun u z => (k b u (.inl e1) e3 z).1, e5⟩, FdsOk.next h.2 f fun b u o => k b u (.inr o)⟩
  | [], _ :: _, h, _, _ => h.elim
  | (false, _) :: _, [], h, _, _ => h.elim
  | (true, _) :: _, [], h, _, _ => h.elim
/-- an object at a, its dict at dx -/
structure ObAt (K : PySem.W.Frag) (F H : Hp) (c : Nat) (fs : List Fd) (a dx : Addr) (C : Addr) (kvs : List (Str × V)) : Prop where
  fa : F a = none
  fd : F dx = none
  ne : dx ≠ a
  ha : H a = some (.ins C dx kvs)
  hd : H dx = some (.own a)
  cl : ObC K c C
  nm : kvs.map (·.1) = (fNm c).take fs.length
  le : fs.length ≤ (fNm c).length
  ok : FdsOk K F H a fs (kvs.map (·.2))
theorem ObAt.next {K : PySem.W.Frag} {F H F' H' : Hp} {c : Nat} {fs : List Fd} {a dx C : Addr} {kvs : List (Str × V)} (o : ObAt K F H c fs a dx C kvs) (f : Same F F') (h : ∀ b u, (b = a ∨ b = dx ∨ OwF fs (kvs.map (·.2)) b) → F b = none → H b = some u → H' b = some u ∧ F' b = none) : ObAt K F' H' c fs a dx C kvs :=
  ⟨(h a _ (.inl rfl) o.fa o.ha).2, (h dx _ (.inr (.inl rfl)) o.fd o.hd).2, o.ne, (h a _ (.inl rfl) o.fa o.ha).1, (h dx _ (.inr (.inl rfl)) o.fd o.hd).1, o.cl, o.nm, o.le, o.ok.next f fun b u z => h b u (.inr (.inr z))⟩
/-- .. that is frozen -/
structure RfAt (K : PySem.W.Frag) (F : Hp) (c : Nat) (fs : List Fd) (a dx : Addr) (C : Addr) (kvs : List (Str × V)) : Prop where
  ne : dx ≠ a
  ha : F a = some (.ins C dx kvs)
  hd : F dx = some (.own a)
  cl : ObC K c C
  nm : kvs.map (·.1) = (fNm c).take fs.length
  le : fs.length ≤ (fNm c).length
  ok : Reps K F (fs.map (·.2)) (kvs.map (·.2))
theorem RfAt.mono {K : PySem.W.Frag} {F F' : Hp} {c : Nat} {fs : List Fd} {a dx C : Addr} {kvs : List (Str × V)} (o : RfAt K F c fs a dx C kvs) (f : Same F F') : RfAt K F' c fs a dx C kvs :=
  ⟨o.ne, f _ _ o.ha, f _ _ o.hd, o.cl, o.nm, o.le, o.ok.mono f⟩
/-- objects of one's own that stand in a list -/
def OwO (K : PySem.W.Frag) (F H : Hp) (c : Nat) : List (List Fd) → List V → Prop
  | [], [] => True
  | fs :: os, v :: vs => (∃ b dx C kvs, v = .ref b ∧ (∀ f ∈ fs, f.1 = false) ∧ ObAt K F H c fs b dx C kvs ∧ V.ref b ∉ vs) ∧ OwO K F H c os vs
  | _, _ => False
def InO (H : Hp) (vs : List V) (b : Addr) : Prop := ∃ b1 dx C kvs, V.ref b1 ∈ vs ∧ H b1 = some (.ins C dx kvs) ∧ (b = b1 ∨ b = dx)
theorem OwF_no : ∀ {fs : List Fd} {vs : List V} {b : Addr}, (∀ f ∈ fs, f.1 = false) → ¬ OwF fs vs b
  | [], _, _, _, h => h.elim
  | (true, d) :: fs, _, _, p, _ => by have := p (true, d) List.mem_cons_self; cases this
  | (false, _) :: fs, [], _, _, h => h.elim
  | (false, _) :: fs, _ :: vs, _, p, h => OwF_no (fun f hf => p f (List.mem_cons_of_mem _ hf)) h
theorem OwO.mem {K : PySem.W.Frag} {F H : Hp} {c : Nat} : ∀ {os : List (List Fd)} {vs : List V}, OwO K F H c os vs → ∀ {b : Addr}, V.ref b ∈ vs → ∃ fs dx C kvs, (∀ f ∈ fs, f.1 = false) ∧ ObAt K F H c fs b dx C kvs
  | [], [], _, _, m => nomatch m
  | fs :: os, v :: vs, ⟨⟨b1, dx, C, kvs, e, p, o, n⟩, h⟩, b, m => by
    rcases List.mem_cons.mp m with m | m
    · rw [e] at m; cases m; exact ⟨fs, dx, C, kvs, p, o⟩
    · exact h.mem m
  | [], _ :: _, h, _, _ => h.elim
  | _ :: _, [], h, _, _ => h.elim
theorem OwO.next {K : PySem.W.Frag} {F H F' H' : Hp} {c : Nat} : ∀ {os : List (List Fd)} {vs : List V}, OwO K F H c os vs → Same F F' →
    (∀ b u, InO H vs b → F b = none → H b = some u → H' b = some u ∧ F' b = none) → OwO K F' H' c os vs
  | [], [], _, _, _ => trivial
  | fs :: os, v :: vs, ⟨⟨b1, dx, C, kvs, e, p, o, n⟩, h⟩, f, k => by
    subst e
    refine ⟨⟨b1, dx, C, kvs, rfl, p, o.next f fun b u m => k b u ⟨b1, dx, C, kvs, List.mem_cons_self, o.ha, ?_⟩, n⟩, h.next f fun b u m => k b u ?_⟩
    · rcases m with m | m | m
      · exact .inl m
      · exact .inr m
      · exact absurd m (OwF_no p)
    · obtain ⟨b2, dx2, C2, kvs2, m1, m2, m3⟩ := m
      exact ⟨b2, dx2, C2, kvs2, List.mem_cons_of_mem _ m1, m2, m3⟩
  | [], _ :: _, h, _, _ => h.elim
  | _ :: _, [], h, _, _ => h.elim
theorem OwO.len {K : PySem.W.Frag} {F H : Hp} {c : Nat} : ∀ {os : List (List Fd)} {vs : List V}, OwO K F H c os vs → os.length = vs.length
  | [], [], _ => rfl
  | _ :: _, _ :: _, h => by simp [OwO.len h.2]
  | [], _ :: _, h => h.elim
  | _ :: _, [], h => h.elim
def SlOk (K : PySem.W.Frag) (F H : Hp) (s : Sl) (x : Option (Option V)) : Prop := match s with
  | .ob _ c fs => ∃ a dx C kvs, x = some (some (.ref a)) ∧ ObAt K F H c fs a dx C kvs
  | .rf c fs => ∃ a dx C kvs, x = some (some (.ref a)) ∧ RfAt K F c fs a dx C kvs
  | .un => True
  | .va d => ∃ v, x = some (some v) ∧ Rep K F d v
  | .ow d => ∃ a, x = some (some (.ref a)) ∧ F a = none ∧ Own K F H d a
  | .nd es => ∃ a kvs, x = some (some (.ref a)) ∧ F a = none ∧ H a = some (.dK kvs) ∧ OwK K F H a es kvs
  | .xc a => x = some (some (.ref a))
  | .obs c os => ∃ a vs, x = some (some (.ref a)) ∧ F a = none ∧ H a = some (.lst vs) ∧ OwO K F H c os vs
/-- b is one of what the slot owns -/
def Inn (H : Hp) (s : Sl) (x : Option (Option V)) (b : Addr) : Prop := match s with
  | .ob _ _ fs => ∃ a dx C kvs, x = some (some (.ref a)) ∧ H a = some (.ins C dx kvs) ∧ (b = a ∨ b = dx ∨ OwF fs (kvs.map (·.2)) b)
  | .ow _ => x = some (some (.ref b))
  | .nd _ => ∃ a kvs, x = some (some (.ref a)) ∧ H a = some (.dK kvs) ∧ (b = a ∨ ∃ k, (k, V.ref b) ∈ kvs)
  | .obs _ _ => ∃ a vs, x = some (some (.ref a)) ∧ H a = some (.lst vs) ∧ (b = a ∨ InO H vs b)
  | _ => False
theorem Inn.have {K : PySem.W.Frag} {F H : Hp} {s : Sl} {x : Option (Option V)} {b : Addr} (i : Inn H s x b) (k : SlOk K F H s x) : F b = none ∧ ∃ u, H b = some u := by
  cases s with
  | obs c os =>
    obtain ⟨a, vs, e1, e2, e3, e4⟩ := k
    obtain ⟨a', vs', i1, i2, i3⟩ := i
    rw [i1] at e1; cases e1
    rw [i2] at e3; cases e3
    rcases i3 with rfl | ⟨b1, dx, C, kvs, m, hb, hh⟩
    · exact ⟨e2, _, i2⟩
    · obtain ⟨fs, dx', C', kvs', p, o⟩ := e4.mem m
      rw [o.ha] at hb; cases hb
      rcases hh with rfl | rfl
      · exact ⟨o.fa, _, o.ha⟩
      · exact ⟨o.fd, _, o.hd⟩
  | xc a => exact i.elim
  | rf c fs => exact i.elim
  | ob h c fs =>
    obtain ⟨a, dx, C, kvs, e, o⟩ := k
    obtain ⟨a', dx', C', kvs', e', h', m⟩ := i
    rw [e] at e'; cases e'
    rw [o.ha] at h'; cases h'
    rcases m with rfl | rfl | m
    · exact ⟨o.fa, _, o.ha⟩
    · exact ⟨o.fd, _, o.hd⟩
    · obtain ⟨_, h2, _, h3⟩ := o.ok.own m
      exact ⟨h2, h3.have⟩
  | un => exact i.elim
  | va d => exact i.elim
  | ow d =>
    obtain ⟨a, e1, e2, e3⟩ := k
    have i : x = some (some (.ref b)) := i
    rw [i] at e1; cases e1
    exact ⟨e2, e3.have⟩
  | nd es =>
    obtain ⟨a, kvs, e1, e2, e3, e4⟩ := k
    obtain ⟨a', kvs', i1, i2, i3⟩ := i
    rw [i1] at e1; cases e1
    rw [i2] at e3; cases e3
    rcases i3 with rfl | ⟨k, m⟩
    · exact ⟨e2, _, i2⟩
    · obtain ⟨r, kv, q1, q2, q3, q4⟩ := e4.row m
      cases q1
      exact ⟨q3, _, q4⟩
/-- what is owned keeps standing -/
theorem SlOk.keep {K : PySem.W.Frag} {F H F' H' : Hp} {s : Sl} {x : Option (Option V)} (k : SlOk K F H s x) (f : Same F F') (h : ∀ b u, Inn H s x b → F b = none → H b = some u → H' b = some u ∧ F' b = none) : SlOk K F' H' s x := by
  cases s with
  | obs c os =>
    obtain ⟨a, vs, e1, e2, e3, e4⟩ := k
    obtain ⟨y1, y2⟩ := h a _ ⟨a, vs, e1, e3, .inl rfl⟩ e2 e3
    exact ⟨a, vs, e1, y2, y1, e4.next f fun b u m => h b u ⟨a, vs, e1, e3, .inr m⟩⟩
  | xc a => exact k
  | rf c fs => obtain ⟨a, dx, C, kvs, e, o⟩ := k; exact ⟨a, dx, C, kvs, e, o.mono f⟩
  | ob h c fs =>
    obtain ⟨a, dx, C, kvs, e, o⟩ := k
    exact ⟨a, dx, C, kvs, e, o.next f fun b u m => h b u ⟨a, dx, C, kvs, e, o.ha, m⟩⟩
  | un => trivial
  | va d => obtain ⟨v, e, p⟩ := k; exact ⟨v, e, p.mono f⟩
  | ow d =>
    obtain ⟨a, e1, e2, e3⟩ := k
    obtain ⟨u, hu⟩ := e3.have
    exact ⟨a, e1, (h a u e1 e2 hu).2, e3.next f fun u z => (h a u e1 e2 z).1⟩
  | nd es =>
    obtain ⟨a, kvs, e1, e2, e3, e4⟩ := k
    obtain ⟨y1, y2⟩ := h a _ ⟨a, kvs, e1, e3, .inl rfl⟩ e2 e3
    exact ⟨a, kvs, e1, y2, y1, e4.next f fun k b u m => h b u ⟨a, kvs, e1, e3, .inr ⟨k, m⟩⟩⟩
theorem Inn.back {K : PySem.W.Frag} {F H H' : Hp} {s : Sl} {x : Option (Option V)} {b : Addr} (i : Inn H' s x b) (k : SlOk K F H s x) (h : ∀ b u, Inn H s x b → H b = some u → H' b = some u) : Inn H s x b := by
  cases s with
  | obs c os =>
    obtain ⟨a, vs, e1, e2, e3, e4⟩ := k
    obtain ⟨a', vs', i1, i2, i3⟩ := i
    rw [i1] at e1; cases e1
    have := h _ _ ⟨_, vs, i1, e3, .inl rfl⟩ e3
    rw [i2] at this; cases this
    refine ⟨_, _, i1, e3, ?_⟩
    rcases i3 with z | ⟨b1, dx, C, kvs, m, hb, hh⟩
    · exact .inl z
    · obtain ⟨fs, dx', C', kvs', p, o⟩ := e4.mem m
      have := h b1 _ ⟨_, vs, i1, e3, .inr ⟨b1, dx', C', kvs', m, o.ha, .inl rfl⟩⟩ o.ha
      rw [hb] at this; cases this
      exact .inr ⟨b1, dx, C, kvs, m, o.ha, hh⟩
  | xc a => exact i
  | rf c fs => exact i
  | ob h c fs =>
    obtain ⟨a, dx, C, kvs, e, o⟩ := k
    obtain ⟨a', dx', C', kvs', e', h', m⟩ := i
    rw [e] at e'; cases e'
    have := h _ _ ⟨a, dx, C, kvs, e, o.ha, .inl rfl⟩ o.ha
    rw [h'] at this; cases this
    exact ⟨a, dx, C, kvs, e, o.ha, m⟩
  | un => exact i
  | va d => exact i
  | ow d => exact i
  | nd es =>
    obtain ⟨a, kvs, e1, e2, e3, e4⟩ := k
    obtain ⟨a', kvs', i1, i2, i3⟩ := i
    rw [i1] at e1; cases e1
    have := h _ _ ⟨_, kvs, i1, e3, .inl rfl⟩ e3
    rw [i2] at this; cases this
    exact ⟨_, _, i1, e3, i3⟩
theorem Nxt.unf {F H F' H' : Hp} (n : Nxt F H F' H') {b : Addr} {u : HO} (h1 : F b = none) (h2 : H b = some u) : F' b = none := by
  cases z : F' b with
  | none => rfl
  | some u' =>
    rcases n.fn b u' z with y | y
    · rw [h1] at y; cases y
    · rw [h2] at y; cases y
structure RS (K : PySem.W.Frag) (F : Hp) (γ : Ga) (σ : L2.St) (H : Hp) : Prop where
  emb : Emb F H
  len : γ.length = σ.length
  sl : ∀ (i : Nat) (s : Sl), γ[i]? = some s → SlOk K F H s σ[i]?
  apart : ∀ (i j : Nat) (s s' : Sl) (b : Addr), γ[i]? = some s → γ[j]? = some s' → Inn H s σ[i]? b → Inn H s' σ[j]? b → i = j
theorem RS.next {K : PySem.W.Frag} {F H F' H' : Hp} {γ : Ga} {σ : L2.St} (r : RS K F γ σ H) (n : Nxt F H F' H') : RS K F' γ σ H' :=
  ⟨n.emb, r.len, fun i s e => (r.sl i s e).keep n.f fun b u _ h1 h2 => ⟨n.h _ _ h2, n.unf h1 h2⟩, fun i j s s' b e1 e2 h1 h2 =>
    r.apart i j s s' b e1 e2 (h1.back (r.sl i s e1) fun b u _ z => n.h _ _ z) (h2.back (r.sl j s' e2) fun b u _ z => n.h _ _ z)⟩
/-! ### what is wanted of a value -/
/-- wishes about exceptions: class number, slots, heap -/
abbrev WN := Nat → L2.St → Hp → Prop
def PV (K : PySem.W.Frag) (F H : Hp) (d : D) (Q : VK) : Prop := ∀ v F' H', Nxt F H F' H' → Rep K F' d v → Q v H'
def PR (K : PySem.W.Frag) (F H : Hp) (d : D) (Q : VK) : Prop := ∀ v F' H', Nxt F H F' H' → Rep1 K F' H' d v → Q v H'
def PF (K : PySem.W.Frag) (F H : Hp) (d : D) (Q : VK) : Prop := ∀ a F' H', Nxt F H F' H' → H a = none → F' a = none → Own K F' H' d a → Q (.ref a) H'
def Out (P : D → VK → Prop) (F H : Hp) (W : Nat → Hp → Prop) (r : R D) (Q : VK) : Prop := match r with
  | .ok d => P d Q
  | .ex c => ∀ F' H', Nxt F H F' H' → W c H'
  | .no => False
def rdV (K : PySem.W.Frag) (W : WN) (f : Ga → R D) : TE := fun σ H Q => ∃ F γ, RS K F γ σ H ∧ Out (PV K F H) F H (fun c H' => W c σ H') (f γ) Q
def rdR (K : PySem.W.Frag) (W : WN) (f : Ga → R D) : TE := fun σ H Q => ∃ F γ, RS K F γ σ H ∧ Out (PR K F H) F H (fun c H' => W c σ H') (f γ) Q
def rdF (K : PySem.W.Frag) (W : WN) (f : Ga → R D) : TE := fun σ H Q => ∃ F γ, RS K F γ σ H ∧ Out (PF K F H) F H (fun c H' => W c σ H') (f γ) Q
/-- an expression: its value is frozen -/
structure J (X : Cx) (W : WN) (f : Ga → R D) (e : Expr) : Prop where
  pe : PE X e (rdV X.K W f)
/-- .. is read alone -/
structure JR (X : Cx) (W : WN) (f : Ga → R D) (e : Expr) : Prop where
  pe : PE X e (rdR X.K W f)
/-- .. is new, a list or a dict -/
structure JF (X : Cx) (W : WN) (f : Ga → R D) (e : Expr) : Prop where
  pe : PE X e (rdF X.K W f)
theorem PE.imp {X : Cx} {e : Expr} {t t' : TE} (h : PE X e t) (i : ∀ σ H Q, t' σ H Q → t σ H Q) : PE X e t' := ⟨fun pins s σ H Q I q => h.run pins s σ H Q I (i σ H Q q)⟩
section
variable {X : Cx} {W : WN} {f : Ga → R D} {e : Expr}
theorem Out.imp {P P' : D → VK → Prop} {F H : Hp} {W : Nat → Hp → Prop} {x : R D} {Q : VK} (o : Out P F H W x Q) (i : ∀ d, x = .ok d → P d Q → P' d Q) : Out P' F H W x Q := by
  cases x with
  | ok d => exact i d rfl o
  | ex c => exact o
  | no => exact o
theorem J.r (h : J X W f e) : JR X W f e := ⟨PE.imp h.pe fun σ H Q ⟨F, γ, r, o⟩ => ⟨F, γ, r, o.imp fun d _ o =>
  fun v F' H' n p => o v F' H' n (.inl p)⟩⟩
theorem JF.v (h : JF X W f e) : J X W f e := ⟨PE.imp h.pe fun σ H Q ⟨F, γ, r, o⟩ => ⟨F, γ, r, o.imp fun d _ o => by
  intro a F' H' n ha fa ow
  obtain ⟨u, hu, e1, s1, p⟩ := ow.freeze n.emb fa
  refine o _ _ H' ⟨n.f.trans s1, fun b w z => ?_, e1, n.h⟩ p
  by_cases q : b = a
  · subst q; exact .inr ha
  · rw [upd_ne q] at z; exact n.fn b w z⟩⟩
theorem JF.r (h : JF X W f e) : JR X W f e := h.v.r
end
/-- what follows a first value -/
theorem Out.bindR {K : PySem.W.Frag} {F H : Hp} {γ : Ga} {σ : L2.St} {W : WN} {x : R D} {g : D → R D} {P : Hp → Hp → D → VK → Prop} {Q Q' : VK}
    (o : Out (P F H) F H (fun c H' => W c σ H') (x.bind g) Q)
    (h : ∀ d v F1 H1, x = .ok d → Nxt F H F1 H1 → Rep1 K F1 H1 d v → Out (P F H) F H (fun c H' => W c σ H') (g d) Q → Q' v H1) : Out (PR K F H) F H (fun c H' => W c σ H') x Q' := by
  cases x with
  | ok d => exact fun v F1 H1 n r => h d v F1 H1 rfl n r o
  | ex c => exact o
  | no => exact o
end KN
/-! KnB: operations on pure data, and that the machine does them -/
namespace KN
open PySem PySem.Spec PyProof.Rows L2
/-- a length that any text or list may have -/
def lim : Nat := 1000000
theorem lim_line : lim ≤ sizeLine := by rw [sizeLine_eq]; decide
/-! ### plain data and == -/
def pl : Nat → D → Bool
  | _, .non => true
  | _, .bl _ => true
  | _, .int _ => true
  | _, .str s => s.all (· < 0x110000)
  | n + 1, .lst xs => xs.all (pl n)
  | n + 1, .tup xs => xs.all (pl n)
  | _, _ => false
def eqvL (f : D → D → Bool) : List D → List D → Bool
  | [], [] => true
  | x :: xs, y :: ys => f x y && eqvL f xs ys
  | _, _ => false
def eqv : Nat → D → D → Bool
  | _, .non, .non => true
  | _, .bl a, .bl b => a == b
  | _, .bl a, .int j => (if a then 1 else 0) == j
  | _, .int i, .bl b => i == (if b then 1 else 0)
  | _, .int i, .int j => i == j
  | _, .str s, .str t => s == t
  | n + 1, .lst xs, .lst ys => eqvL (eqv n) xs ys
  | n + 1, .tup xs, .tup ys => eqvL (eqv n) xs ys
  | _, _, _ => false
def toP : Nat → D → PyData
  | _, .non => .none
  | _, .bl b => .bool b
  | _, .int i => .int i
  | _, .str s => .str (toS s)
  | n + 1, .lst xs => .list (xs.map (toP n))
  | n + 1, .tup xs => .tuple (xs.map (toP n))
  | _, _ => .dict []
theorem strOk_toS (s : Tx) : PyData.strOk (toS s) = s.all (· < 0x110000) := by simp [PyData.strOk, toS]
theorem toP_lay : ∀ (n : Nat) (d : D), pl n d = true → (toP n d).canLay0 = true ∧ (toP n d).depth ≤ n
  | n, .non, _ => by cases n <;> simp [toP, PyData.canLay0, PyData.depth]
  | n, .bl _, _ => by cases n <;> simp [toP, PyData.canLay0, PyData.depth]
  | n, .int _, _ => by cases n <;> simp [toP, PyData.canLay0, PyData.depth]
  | n, .str s, h => by
    have h' : s.all (· < 0x110000) = true := by cases n <;> exact h
    cases n <;> simp only [toP, PyData.canLay0, PyData.depth, strOk_toS] <;> exact ⟨h', by omega⟩
  | 0, .lst _, h => nomatch h
  | 0, .tup _, h => nomatch h
  | n + 1, .lst xs, h => by
    have aux : ∀ xs : List D, xs.all (pl n) = true → PyData.canLayAll0 (xs.map (toP n)) = true ∧ PyData.depthAll (xs.map (toP n)) ≤ n := by
      intro xs
      induction xs with
      | nil => intro _; simp [PyData.canLayAll0, PyData.depthAll]
      | cons x xs ih =>
        intro h
        rw [List.all_cons, Bool.and_eq_true] at h
        obtain ⟨a, b⟩ := toP_lay n x h.1
        obtain ⟨c, d⟩ := ih h.2
        simp only [List.map_cons, PyData.canLayAll0, PyData.depthAll, a, c, Bool.and_self, true_and]
        omega
    obtain ⟨a, b⟩ := aux xs h
    simp only [toP, PyData.canLay0, PyData.depth]
    exact ⟨a, by omega⟩
  | n + 1, .tup xs, h => by
    have aux : ∀ xs : List D, xs.all (pl n) = true → PyData.canLayAll0 (xs.map (toP n)) = true ∧ PyData.depthAll (xs.map (toP n)) ≤ n := by
      intro xs
      induction xs with
      | nil => intro _; simp [PyData.canLayAll0, PyData.depthAll]
      | cons x xs ih =>
        intro h
        rw [List.all_cons, Bool.and_eq_true] at h
        obtain ⟨a, b⟩ := toP_lay n x h.1
        obtain ⟨c, d⟩ := ih h.2
        simp only [List.map_cons, PyData.canLayAll0, PyData.depthAll, a, c, Bool.and_self, true_and]
        omega
    obtain ⟨a, b⟩ := aux xs h
    simp only [toP, PyData.canLay0, PyData.depth]
    exact ⟨a, by omega⟩
  | n, .dic _, h => by cases n <;> exact nomatch h
theorem toP_shaped {d : D} (h : pl 20 d = true) : SeqAt.shaped (toP 20 d) = true := by
  obtain ⟨a, b⟩ := toP_lay 20 d h
  unfold SeqAt.shaped
  rw [a, decide_eq_true (by omega)]; rfl
theorem toS_inj {s t : Tx} : (toS s = toS t) ↔ s = t := by
  constructor
  · intro h
    have := congrArg (fun z : Str => z.cps.toList) h
    simpa using this
  · rintro rfl; rfl
theorem toS_beq (s t : Tx) : (toS s == toS t) = (s == t) := by
  rw [Bool.eq_iff_iff, beq_iff_eq, beq_iff_eq]; exact toS_inj
theorem eqvL_toP {n : Nat} (ih : ∀ d e, pl n d = true → pl n e = true → PyData.eqv (toP n d) (toP n e) = eqv n d e) : ∀ xs ys : List D, xs.all (pl n) = true → ys.all (pl n) = true → PyData.eqvAll (xs.map (toP n)) (ys.map (toP n)) = eqvL (eqv n) xs ys
  | [], [], _, _ => by simp [PyData.eqvAll, eqvL]
  | [], y :: ys, _, _ => by simp [PyData.eqvAll, eqvL]
  | x :: xs, [], _, _ => by simp [PyData.eqvAll, eqvL]
  | x :: xs, y :: ys, h, k => by
    rw [List.all_cons, Bool.and_eq_true] at h k
    simp only [List.map_cons, PyData.eqvAll, eqvL]
    rw [ih x y h.1 k.1, eqvL_toP ih xs ys h.2 k.2]
theorem eqv_toP : ∀ (n : Nat) (d e : D), pl n d = true → pl n e = true → PyData.eqv (toP n d) (toP n e) = eqv n d e := by
  intro n
  induction n with
  | zero =>
    intro d e h k
    cases d <;> cases e <;> first | (cases h; done) | (cases k; done) | (simp only [toP, PyData.eqv, eqv]; done) | (simp only [toP, PyData.eqv, eqv, toS_beq])
  | succ n ih =>
    intro d e h k
    cases d <;> cases e <;> first | (cases h; done) | (cases k; done) | (simp only [toP, PyData.eqv, eqv]; done) | (simp only [toP, PyData.eqv, eqv, toS_beq]; done) | (simp only [toP, PyData.eqv, eqv]; exact eqvL_toP ih _ _ h k)
/-- what is read is data for the library's == -/
theorem dp_of {K : PySem.W.Frag} {F H : Hp} (em : Emb F H) : ∀ (n : Nat) (d : D) (v : V), pl n d = true → Rep K F d v → Dp K H v (toP n d) := by
  intro n
  induction n with
  | zero =>
    intro d v h r
    cases r <;> first | (cases h; done) | exact .non | exact .bl _ | exact .int _ | exact .str _
  | succ n ih =>
    have aux : ∀ (ds : List D) (vs : List V), ds.all (pl n) = true → Reps K F ds vs → DpAll K H vs (ds.map (toP n)) := by
      intro ds
      induction ds with
      | nil => intro vs _ r; cases r; exact .nil
      | cons d ds ihl =>
        intro vs h r
        rw [List.all_cons, Bool.and_eq_true] at h
        cases r with | cons r1 r2 => exact .cons (ih d _ h.1 r1) (ihl _ h.2 r2)
    intro d v h r
    cases r with
    | non => exact .non
    | bl b => exact .bl _
    | int i => exact .int _
    | str s => exact .str _
    | lst h1 h2 => exact .lst (em.sql h1) (aux _ _ h h2)
    | tup h1 h2 => exact .tup (em.sqt h1) (aux _ _ h h2)
    | dic _ _ => exact nomatch h
theorem dps_of {K : PySem.W.Frag} {F H : Hp} (em : Emb F H) (n : Nat) : ∀ (ds : List D) (vs : List V), ds.all (pl n) = true → Reps K F ds vs → DpAll K H vs (ds.map (toP n)) := by
  intro ds
  induction ds with
  | nil => intro vs _ r; cases r; exact .nil
  | cons d ds ihl =>
    intro vs h r
    rw [List.all_cons, Bool.and_eq_true] at h
    cases r with | cons r1 r2 => exact .cons (dp_of em n d _ h.1 r1) (ihl _ h.2 r2)
theorem dp_of1 {K : PySem.W.Frag} {F H : Hp} (em : Emb F H) {d : D} {v : V} (h : pl 20 d = true) (r : Rep1 K F H d v) : Dp K H v (toP 20 d) := by
  rcases r with r | ⟨a, rfl, o⟩
  · exact dp_of em 20 d v h r
  · cases d <;> simp only [Own] at o
    · obtain ⟨vs, e, r⟩ := o
      exact .lst (.inl (.inl e)) (dps_of em 19 _ _ h r)
    · exact nomatch h
/-! ### the operations -/
def dAdd : D → D → R D
  | .int i, .int j => .ok (.int (i + j))
  | .str s, .str t => if s.length + t.length ≤ lim then .ok (.str (s ++ t)) else .no
  | .lst s, .lst t => if s.length + t.length ≤ lim then .ok (.lst (s ++ t)) else .no
  | .tup s, .tup t => if s.length + t.length ≤ lim then .ok (.tup (s ++ t)) else .no
  | _, _ => .no
def dSub : D → D → R D
  | .int i, .int j => .ok (.int (i - j))
  | _, _ => .no
def dMul : D → D → R D
  | .int i, .int j => if i.natAbs.log2 + j.natAbs.log2 < 1000000 then .ok (.int (i * j)) else .no
  | _, _ => .no
def dDiv : D → D → R D
  | .int i, .int j => if 0 < j ∧ j.natAbs.log2 < 9000 then .ok (.int (i / j)) else .no
  | _, _ => .no
def dMod : D → D → R D
  | .int i, .int j => if 0 < j then .ok (.int (i % j)) else .no
  | _, _ => .no
def dLt : D → D → R D
  | .int i, .int j => .ok (.bl (decide (i < j)))
  | .str s, .str t => .ok (.bl (decide (s < t)))
  | _, _ => .no
def dLe : D → D → R D
  | .int i, .int j => .ok (.bl (decide (i ≤ j)))
  | _, _ => .no
def dGt : D → D → R D
  | .int i, .int j => .ok (.bl (decide (j < i)))
  | _, _ => .no
def dGe : D → D → R D
  | .int i, .int j => .ok (.bl (decide (j ≤ i)))
  | _, _ => .no
def dEq (d e : D) : R D := if pl 20 d = true ∧ pl 20 e = true then .ok (.bl (eqv 20 d e)) else .no
def dNe (d e : D) : R D := if pl 20 d = true ∧ pl 20 e = true then .ok (.bl (!eqv 20 d e)) else .no
/-- a two-place operation of pure data, as a reading -/
def RD2 (K : PySem.W.Frag) (g : D → D → R D) : R2 := fun x y H Q => ∃ F dx dy d, Emb F H ∧ Rep1 K F H dx x ∧ Rep1 K F H dy y ∧ g dx dy = .ok d ∧ PV K F H d Q
section
variable {X : Cx}
theorem PV.here {K : PySem.W.Frag} {F H : Hp} {d : D} {Q : VK} (q : PV K F H d Q) (e : Emb F H) {v : V} (r : Rep K F d v) : Q v H := q v F H (.refl e) r
theorem PV.newL {K : PySem.W.Frag} {F H : Hp} {ds : List D} {vs : List V} {Q : VK} (q : PV K F H (.lst ds) Q) (e : Emb F H) (r : Reps K F ds vs) (p : Addr) (hp : H p = none) : Q (.ref p) (upd H p (.lst vs)) :=
  q _ _ _ (Nxt.new e hp _) (.lst (.inl (.inl upd_same)) (r.mono (same_upd (e.free hp))))
theorem PV.newT {K : PySem.W.Frag} {F H : Hp} {ds : List D} {vs : List V} {Q : VK} (q : PV K F H (.tup ds) Q) (e : Emb F H) (r : Reps K F ds vs) (p : Addr) (hp : H p = none) : Q (.ref p) (upd H p (.tup vs)) :=
  q _ _ _ (Nxt.new e hp _) (.tup (.inl (.inl upd_same)) (r.mono (same_upd (e.free hp))))
theorem toS_append (s t : Tx) : toS s ++ toS t = toS (s ++ t) := by
  apply TL.ext_tl
  rw [TL.tl_append]
theorem toS_len (s : Tx) : (toS s).length = s.length := by simp [toS, Str.length]
theorem od_addL {pins : List (Addr × Obj)} {s : Shared} {σ : L2.St} {H F : Hp} {x y : V} {v u : Value} {Q : VK} {xs ys : List D} (I : Inv X pins σ H s) (rx : RelV x v) (ry : RelV y u) (e : Emb F H)
    (r1 : Rep1 X.K F H (.lst xs) x) (r2 : Rep1 X.K F H (.lst ys) y) (hl : xs.length + ys.length ≤ lim) (q : PV X.K F H (.lst (xs ++ ys)) Q) : wpAny (model X.prog X.w) X.A (binaryOp .Add v u) (EP X pins σ Q) X.xe s := by
  obtain ⟨a, vs, rfl, s1, p1⟩ := r1.lst e
  obtain ⟨b, us, rfl, s2, p2⟩ := r2.lst e
  cases rx
  cases ry
  obtain ⟨its, w1, l1, z1⟩ := I.list s1
  obtain ⟨its2, w2, l2, z2⟩ := I.list s2
  obtain ⟨o1, n1, e1, c1, d1, t1⟩ := l1
  obtain ⟨o2, n2, e2, c2, d2, t2⟩ := l2
  obtain ⟨cc1, dd1, da1, sl1⟩ := o1
  obtain ⟨cc2, dd2, da2, sl2⟩ := o2
  simp only at c1 d1 t1 c2 d2 t2
  subst c1 d1 t1 c2 d2 t2
  have hz : vs.length + us.length ≤ sizeLine := by
    have := p1.length; have := p2.length; have := lim_line; omega
  have hz2 : its.length + its2.length ≤ sizeLine := by rw [← w1.length, ← w2.length]; exact hz
  have ea : its.toArray ++ its2.toArray = (its ++ its2).toArray := by simp
  refine concat_meets ⟨_, e1, rfl⟩ ⟨_, e2, rfl⟩ noFill_list_add seq_list_add PySem.F.slot_list_add PySem.F.entry_list_add (PySem.F.args_list_add_2 _ _) (list_addW a b its.toArray its2.toArray n1 n2 none none sl1 sl2 (by simpa using hz2)) ⟨e1, e2, ?_⟩
  rw [ea]
  exact ⟨.ref _, _, I.lnew (t' := s.toks) (w1.append w2) (by rw [List.length_append]; omega), rfl, q.newL e (p1.append p2) _ I.fresh⟩
theorem od_add : OpR X (binaryOp .Add) (RD2 X.K dAdd) := by
  intro pins s σ H x y v u Q I rx ry ⟨F, dx, dy, d, e, r1, r2, hg, q⟩
  cases dx <;> cases dy <;> first | (cases hg; done) | skip
  · rename_i i j
    cases hg
    exact op_add pins s σ H x y v u Q I rx ry ⟨i, j, r1.int, r2.int, q.here e (.int _)⟩
  · rename_i a b
    simp only [dAdd] at hg
    split at hg
    · rename_i hl
      cases hg
      refine op_add_str pins s σ H x y v u Q I rx ry ⟨_, _, r1.str, r2.str, ?_, ?_⟩
      · rw [toS_len, toS_len]; exact Nat.le_trans hl lim_line
      · rw [toS_append]; exact q.here e (.str _)
    · cases hg
  · simp only [dAdd] at hg
    split at hg
    · rename_i hl
      cases hg
      exact od_addL I rx ry e r1 r2 hl q
    · cases hg
  · simp only [dAdd] at hg
    split at hg
    · rename_i hl
      cases hg
      obtain ⟨a, vs, rfl, s1, p1⟩ := r1.tup e
      obtain ⟨b, us, rfl, s2, p2⟩ := r2.tup e
      refine op_catA pins s σ H _ _ v u Q I rx ry ⟨a, b, vs, us, rfl, rfl, s1, s2, ?_, fun h => ?_, fun h0 h => ?_, fun _ _ p hp => q.newT e (p1.append p2) p hp⟩
      · have := p1.length; have := p2.length; have := lim_line; omega
      · subst h
        rcases r2 with r2 | ⟨_, _, o⟩
        · have : _ = [] := List.eq_nil_of_length_eq_zero (by have := p1.length; simpa using this)
          subst this
          exact q.here e r2
        · exact o.elim
      · subst h
        rcases r1 with r1 | ⟨_, _, o⟩
        · have : _ = [] := List.eq_nil_of_length_eq_zero (by have := p2.length; simpa using this)
          subst this
          rw [List.append_nil] at q
          exact q.here e r1
        · exact o.elim
    · cases hg
theorem od_sub : OpR X (binaryOp .Sub) (RD2 X.K dSub) := by
  intro pins s σ H x y v u Q I rx ry ⟨F, dx, dy, d, e, r1, r2, hg, q⟩
  cases dx <;> cases dy <;> first | (cases hg; done) | skip
  rename_i i j
  cases hg
  exact op_sub pins s σ H x y v u Q I rx ry ⟨i, j, r1.int, r2.int, q.here e (.int _)⟩
theorem od_mul : OpR X (binaryOp .Mult) (RD2 X.K dMul) := by
  intro pins s σ H x y v u Q I rx ry ⟨F, dx, dy, d, e, r1, r2, hg, q⟩
  cases dx <;> cases dy <;> first | (cases hg; done) | skip
  rename_i i j
  simp only [dMul] at hg
  split at hg
  · rename_i hl
    cases hg
    exact op_mulW pins s σ H x y v u Q I rx ry ⟨i, j, r1.int, r2.int, hl, q.here e (.int _)⟩
  · cases hg
theorem od_div : OpR X (binaryOp .FloorDiv) (RD2 X.K dDiv) := by
  intro pins s σ H x y v u Q I rx ry ⟨F, dx, dy, d, e, r1, r2, hg, q⟩
  cases dx <;> cases dy <;> first | (cases hg; done) | skip
  rename_i i j
  simp only [dDiv] at hg
  split at hg
  · rename_i hl
    cases hg
    exact op_fdivW pins s σ H x y v u Q I rx ry ⟨i, j, r1.int, r2.int, hl, q.here e (.int _)⟩
  · cases hg
theorem od_mod : OpR X (binaryOp .Mod) (RD2 X.K dMod) := by
  intro pins s σ H x y v u Q I rx ry ⟨F, dx, dy, d, e, r1, r2, hg, q⟩
  cases dx <;> cases dy <;> first | (cases hg; done) | skip
  rename_i i j
  simp only [dMod] at hg
  split at hg
  · rename_i hl
    cases hg
    exact op_mod pins s σ H x y v u Q I rx ry ⟨i, j, r1.int, r2.int, hl, q.here e (.int _)⟩
  · cases hg
theorem od_lt : OpR X (compareOp .Lt) (RD2 X.K dLt) := by
  intro pins s σ H x y v u Q I rx ry ⟨F, dx, dy, d, e, r1, r2, hg, q⟩
  cases dx <;> cases dy <;> first | (cases hg; done) | skip
  · rename_i i j
    cases hg
    exact op_lt pins s σ H x y v u Q I rx ry ⟨i, j, r1.int, r2.int, q.here e (.bl _)⟩
  · rename_i i j
    cases hg
    exact op_lt_str pins s σ H x y v u Q I rx ry ⟨_, _, r1.str, r2.str, q.here e (.bl _)⟩
theorem od_le : OpR X (compareOp .LtE) (RD2 X.K dLe) := by
  intro pins s σ H x y v u Q I rx ry ⟨F, dx, dy, d, e, r1, r2, hg, q⟩
  cases dx <;> cases dy <;> first | (cases hg; done) | skip
  rename_i i j
  cases hg
  exact op_le pins s σ H x y v u Q I rx ry ⟨i, j, r1.int, r2.int, q.here e (.bl _)⟩
theorem od_eq (hu : X.A.units + 64 < cLine) : OpR X (compareOp .Eq) (RD2 X.K dEq) := by
  intro pins s σ H x y v u Q I rx ry ⟨F, dx, dy, d, e, r1, r2, hg, q⟩
  simp only [dEq] at hg
  split at hg
  · rename_i hl
    cases hg
    refine op_eqD hu pins s σ H x y v u Q I rx ry ⟨_, _, dp_of1 e hl.1 r1, dp_of1 e hl.2 r2, toP_shaped hl.1, toP_shaped hl.2, ?_⟩
    rw [eqv_toP 20 _ _ hl.1 hl.2]
    exact q.here e (.bl _)
  · cases hg
theorem od_ne (hu : X.A.units + 64 < cLine) : OpR X (compareOp .NotEq) (RD2 X.K dNe) := by
  intro pins s σ H x y v u Q I rx ry ⟨F, dx, dy, d, e, r1, r2, hg, q⟩
  simp only [dNe] at hg
  split at hg
  · rename_i hl
    cases hg
    refine op_neD hu pins s σ H x y v u Q I rx ry ⟨_, _, dp_of1 e hl.1 r1, dp_of1 e hl.2 r2, toP_shaped hl.1, toP_shaped hl.2, ?_⟩
    rw [eqv_toP 20 _ _ hl.1 hl.2]
    exact q.here e (.bl _)
  · cases hg
end
end KN
/-! KnC: judgements of expressions -/
namespace KN
open PySem PySem.Spec PyProof.Rows L2
/-! ### meanings -/
def bVar (i : Nat) : Ga → R D := fun γ => match γ[i]? with | some (.va d) => .ok d | _ => .no
def bRd (i : Nat) : Ga → R D := fun γ => match γ[i]? with | some (.ow d) => .ok d | _ => .no
def bC (d : D) : Ga → R D := fun _ => .ok d
def b1 (g : D → R D) (fa : Ga → R D) : Ga → R D := fun γ => (fa γ).bind g
def b2 (g : D → D → R D) (fa fb : Ga → R D) : Ga → R D := fun γ => (fa γ).bind fun x => (fb γ).bind fun y => g x y
def bNil : Ga → R (List D) := fun _ => .ok []
def bCons (fa : Ga → R D) (fs : Ga → R (List D)) : Ga → R (List D) := fun γ => (fa γ).bind fun x => (fs γ).bind fun xs => .ok (x :: xs)
def bN (g : List D → R D) (fs : Ga → R (List D)) : Ga → R D := fun γ => (fs γ).bind g
def bIf (c : Ga → R Bool) (fa fb : Ga → R D) : Ga → R D := fun γ => (c γ).bind fun b => if b = true then fa γ else fb γ
def tB : D → R Bool
  | .bl b => .ok b
  | _ => .no
def tVal (fa : Ga → R D) : Ga → R Bool := fun γ => (fa γ).bind tB
def tAnd (p q : Ga → R Bool) : Ga → R Bool := fun γ => (p γ).bind fun b => if b = true then q γ else .ok false
def tOr (p q : Ga → R Bool) : Ga → R Bool := fun γ => (p γ).bind fun b => if b = true then .ok true else q γ
def tNot (p : Ga → R Bool) : Ga → R Bool := fun γ => (p γ).bind fun b => .ok (!b)
def bTup (fs : Ga → R (List D)) : Ga → R D := bN (fun xs => if xs.length ≤ lim then .ok (.tup xs) else .no) fs
def bLst (fs : Ga → R (List D)) : Ga → R D := bN (fun xs => if xs.length ≤ lim then .ok (.lst xs) else .no) fs
/-! ### more judgements -/
inductive Reps1 (K : PySem.W.Frag) (F H : Hp) : List D → List V → Prop
  | nil : Reps1 K F H [] []
  | cons {d : D} {ds : List D} {v : V} {vs : List V} : Rep1 K F H d v → Reps1 K F H ds vs → Reps1 K F H (d :: ds) (v :: vs)
def OutA (P : List D → (List V → Hp → Prop) → Prop) (F H : Hp) (W : Nat → Hp → Prop) (r : R (List D)) (Q : List V → Hp → Prop) : Prop := match r with
  | .ok d => P d Q
  | .ex c => ∀ F' H', Nxt F H F' H' → W c H'
  | .no => False
def OutT (F H : Hp) (W : Nat → Hp → Prop) (r : R Bool) (Q : Bool → Hp → Prop) : Prop := match r with
  | .ok b => ∀ F' H', Nxt F H F' H' → Q b H'
  | .ex c => ∀ F' H', Nxt F H F' H' → W c H'
  | .no => False
def rdA (K : PySem.W.Frag) (W : WN) (f : Ga → R (List D)) : TA := fun σ H Q => ∃ F γ, RS K F γ σ H ∧ OutA (fun ds Q => ∀ vs F' H', Nxt F H F' H' → Reps K F' ds vs → Q vs H') F H (fun c H' => W c σ H') (f γ) Q
def rdA1 (K : PySem.W.Frag) (W : WN) (f : Ga → R (List D)) : TA := fun σ H Q => ∃ F γ, RS K F γ σ H ∧ OutA (fun ds Q => ∀ vs F' H', Nxt F H F' H' → Reps1 K F' H' ds vs → Q vs H') F H (fun c H' => W c σ H') (f γ) Q
def rdT (K : PySem.W.Frag) (W : WN) (f : Ga → R Bool) : TT := fun σ H Q => ∃ F γ, RS K F γ σ H ∧ OutT F H (fun c H' => W c σ H') (f γ) Q
structure JA (X : Cx) (W : WN) (f : Ga → R (List D)) (es : List Expr) : Prop where
  pa : PA X es (rdA X.K W f)
structure JA1 (X : Cx) (W : WN) (f : Ga → R (List D)) (es : List Expr) : Prop where
  pa : PA X es (rdA1 X.K W f)
structure JT (X : Cx) (W : WN) (f : Ga → R Bool) (e : Expr) : Prop where
  pt : PT X e (rdT X.K W f)
structure JW (X : Cx) (W : WN) (f : Ga → R Bool) (e : Expr) : Prop where
  pw : PW X e (rdT X.K W f)
theorem PA.imp {X : Cx} {e : List Expr} {t t' : TA} (h : PA X e t) (i : ∀ σ H Q, t' σ H Q → t σ H Q) : PA X e t' := ⟨fun pos pins s σ H Q I q => h.run pos pins s σ H Q I (i σ H Q q)⟩
theorem PT.imp {X : Cx} {e : Expr} {t t' : TT} (h : PT X e t) (i : ∀ σ H Q, t' σ H Q → t σ H Q) : PT X e t' := ⟨fun pins s σ H Q I q => h.run pins s σ H Q I (i σ H Q q)⟩
theorem PW.imp {X : Cx} {e : Expr} {t t' : TT} (h : PW X e t) (i : ∀ σ H Q, t' σ H Q → t σ H Q) : PW X e t' := ⟨fun w pins s σ H Q I q => h.run w pins s σ H Q I (i σ H Q q)⟩
section
variable {K : PySem.W.Frag} {F H F1 H1 : Hp} {d : D} {Q : VK}
theorem PV.next (q : PV K F H d Q) (n : Nxt F H F1 H1) : PV K F1 H1 d Q := fun v F' H' m p => q v F' H' (n.trans m) p
theorem PR.next (q : PR K F H d Q) (n : Nxt F H F1 H1) : PR K F1 H1 d Q := fun v F' H' m p => q v F' H' (n.trans m) p
theorem PF.next (q : PF K F H d Q) (n : Nxt F H F1 H1) : PF K F1 H1 d Q := fun a F' H' m ha fa p => q a F' H' (n.trans m) (n.h.free ha) fa p
end
section
variable {K : PySem.W.Frag} {W : WN} {F H : Hp} {γ : Ga} {σ : L2.St} {fa fb fc : Ga → R D} {Q : VK}
/-- from what is wanted behind a and what follows -/
theorem go1 {α : Type} {k : D → R α} {R' : V → Hp → Prop} {Z : R α → Prop} (r : RS K F γ σ H) (o : Z ((fa γ).bind k)) (hex : ∀ c, Z (.ex c) → ∀ F' H', Nxt F H F' H' → W c σ H') (hno : ¬ Z .no)
    (h : ∀ d x F1 H1, Nxt F H F1 H1 → RS K F1 γ σ H1 → Rep1 K F1 H1 d x → Z (k d) → R' x H1) : rdR K W fa σ H R' := by
  refine ⟨F, γ, r, ?_⟩
  cases e : fa γ with
  | ok d => rw [e] at o; exact fun x F1 H1 n p => h d x F1 H1 n (r.next n) p o
  | ex c => rw [e] at o; exact hex c o
  | no => rw [e] at o; exact hno o
theorem go1v {α : Type} {k : D → R α} {R' : V → Hp → Prop} {Z : R α → Prop} (r : RS K F γ σ H) (o : Z ((fa γ).bind k)) (hex : ∀ c, Z (.ex c) → ∀ F' H', Nxt F H F' H' → W c σ H') (hno : ¬ Z .no)
    (h : ∀ d x F1 H1, Nxt F H F1 H1 → RS K F1 γ σ H1 → Rep K F1 d x → Z (k d) → R' x H1) : rdV K W fa σ H R' := by
  refine ⟨F, γ, r, ?_⟩
  cases e : fa γ with
  | ok d => rw [e] at o; exact fun x F1 H1 n p => h d x F1 H1 n (r.next n) p o
  | ex c => rw [e] at o; exact hex c o
  | no => rw [e] at o; exact hno o
end
/-- a two-place operation on data, done by f, never raising -/
structure OpD (X : Cx) (f : Value → Value → Sem Value) (g : D → D → R D) : Prop where
  run : OpR X f (RD2 X.K g)
  ne : ∀ x y c, g x y ≠ .ex c
section
variable {X : Cx}
theorem o_add : OpD X (binaryOp .Add) dAdd := ⟨od_add, fun x y c => by cases x <;> cases y <;> simp [dAdd] <;> split <;> simp⟩
theorem o_sub : OpD X (binaryOp .Sub) dSub := ⟨od_sub, fun x y c => by cases x <;> cases y <;> simp [dSub]⟩
theorem o_mul : OpD X (binaryOp .Mult) dMul := ⟨od_mul, fun x y c => by cases x <;> cases y <;> simp [dMul] <;> split <;> simp⟩
theorem o_div : OpD X (binaryOp .FloorDiv) dDiv := ⟨od_div, fun x y c => by cases x <;> cases y <;> simp [dDiv] <;> split <;> simp⟩
theorem o_mod : OpD X (binaryOp .Mod) dMod := ⟨od_mod, fun x y c => by cases x <;> cases y <;> simp [dMod] <;> split <;> simp⟩
theorem o_lt : OpD X (compareOp .Lt) dLt := ⟨od_lt, fun x y c => by cases x <;> cases y <;> simp [dLt]⟩
theorem o_le : OpD X (compareOp .LtE) dLe := ⟨od_le, fun x y c => by cases x <;> cases y <;> simp [dLe]⟩
theorem o_eq (hu : X.A.units + 64 < cLine) : OpD X (compareOp .Eq) dEq := ⟨od_eq hu, fun x y c => by unfold dEq; split <;> simp⟩
theorem o_ne (hu : X.A.units + 64 < cLine) : OpD X (compareOp .NotEq) dNe := ⟨od_ne hu, fun x y c => by unfold dNe; split <;> simp⟩
end
section
variable {X : Cx} {W : WN} {f fa fb fc : Ga → R D} {a b c e : Expr} {pos : Pos}
theorem toS_tl (x : Str) : toS x.cps.toList = x := by apply TL.ext_tl; rfl
/-! ### names and constants -/
theorem j_var (i : Nat) {x : Str} (hN : X.N[i]? = some x := by rfl) (hv : Vis X.env.scope x := by first | exact Or.inl rfl | exact Or.inr (Or.inl rfl) | exact Or.inr (Or.inr rfl)) (hd : (x == ("__debug__" : Str)) = false := by decide)
    (hcd : (x == ("__classdict__" : Str)) = false := by decide) : J X W (bVar i) (.Name x pos) := ⟨PE.imp (pe_var hN hv hd hcd) fun σ H Q ⟨F, γ, r, o⟩ => by
  unfold bVar at o
  cases h : γ[i]? with
  | none => rw [h] at o; exact o.elim
  | some s =>
    rw [h] at o
    cases s with
    | un => exact o.elim
    | ow d => exact o.elim
    | nd d => exact o.elim
    | xc a => exact o.elim
    | ob _ _ => exact o.elim
    | rf _ _ => exact o.elim
    | obs _ _ => exact o.elim
    | va d =>
      obtain ⟨v, e1, p⟩ := r.sl i _ h
      exact ⟨v, e1, PV.here o r.emb p⟩⟩
theorem jr_rd (i : Nat) {x : Str} (hN : X.N[i]? = some x := by rfl) (hv : Vis X.env.scope x := by first | exact Or.inl rfl | exact Or.inr (Or.inl rfl) | exact Or.inr (Or.inr rfl)) (hd : (x == ("__debug__" : Str)) = false := by decide)
    (hcd : (x == ("__classdict__" : Str)) = false := by decide) : JR X W (bRd i) (.Name x pos) := ⟨PE.imp (pe_var hN hv hd hcd) fun σ H Q ⟨F, γ, r, o⟩ => by
  unfold bRd at o
  cases h : γ[i]? with
  | none => rw [h] at o; exact o.elim
  | some s =>
    rw [h] at o
    cases s with
    | un => exact o.elim
    | va d => exact o.elim
    | nd d => exact o.elim
    | xc a => exact o.elim
    | ob _ _ => exact o.elim
    | rf _ _ => exact o.elim
    | obs _ _ => exact o.elim
    | ow d =>
      obtain ⟨v, e1, _, p⟩ := r.sl i _ h
      exact ⟨_, e1, o _ F H (.refl r.emb) (.inr ⟨v, rfl, p⟩)⟩⟩
theorem j_c {v : V} {d : D} (h : PE X e (tC v)) (p : ∀ F, Rep X.K F d v) : J X W (bC d) e := ⟨PE.imp h fun σ H Q ⟨F, γ, r, o⟩ => PV.here (Q := Q) o r.emb (p F)⟩
theorem j_int {i : Int} {k : Nat} : J X W (bC (.int i)) (.Constant (.int i) k pos) := j_c pe_int fun _ => .int i
theorem j_bl {b : Bool} {k : Nat} : J X W (bC (.bl b)) (.Constant (.bool b) k pos) := j_c pe_bl fun _ => .bl b
theorem j_str {s : Tx} {x : Str} {k : Nat} (h : x.cps.toList = s := by rfl) : J X W (bC (.str s)) (.Constant (.str x) k pos) := j_c (v := .str x) pe_str fun _ => by
  subst h
  have := Rep.str (K := X.K) (F := ‹Hp›) x.cps.toList
  rw [toS_tl] at this
  exact this
/-- a constant of the module -/
theorem j_glob {x : Str} {u : Value} {d : D} {v : V} (hg : Gl X x) (hm : X.mg x = some u) (hu : RelV v u) (p : ∀ F, Rep X.K F d v) (hd : (x == ("__debug__" : Str)) = false := by decide) : J X W (bC d) (.Name x pos) := ⟨⟨fun pins s σ H Q I h => by
  obtain ⟨F, γ, r, o⟩ := h
  exact ld_glob I hg hm ⟨v, H, I, hu, PV.here (Q := Q) o r.emb (p F)⟩ hd⟩⟩
/-! ### operators -/
theorem rd2 {K : PySem.W.Frag} {F H : Hp} {γ : Ga} {σ : L2.St} {g : D → D → R D} {Q : VK} {R' : V → V → Hp → Prop} (r : RS K F γ σ H) (o : Out (PV K F H) F H (fun c H' => W c σ H') (b2 g fa fb γ) Q)
    (h : ∀ dx dy x y F2 H2, Nxt F H F2 H2 → RS K F2 γ σ H2 → Rep1 K F2 H2 dx x → Rep1 K F2 H2 dy y → Out (PV K F H) F H (fun c H' => W c σ H') (g dx dy) Q → R' x y H2) :
    rdR K W fa σ H fun x H1 => rdR K W fb σ H1 fun y H2 => R' x y H2 := by
  refine go1 (Z := fun z => Out (PV K F H) F H (fun c H' => W c σ H') z Q) r o (fun _ z => z) (fun z => z) fun dx x F1 H1 n1 r1 p1 o1 => ?_
  refine go1 (Z := fun z => Out (PV K F H) F H (fun c H' => W c σ H') z Q) r1 o1 (fun _ z F' H' n => z F' H' (n1.trans n)) (fun z => z) fun dy y F2 H2 n2 r2 p2 o2 => ?_
  exact h dx dy x y F2 H2 (n1.trans n2) r2 (p1.next n2) p2 o2
theorem tOp_of {K : PySem.W.Frag} {F H : Hp} {γ : Ga} {σ : L2.St} {g : D → D → R D} {Q : VK} (ne : ∀ x y c, g x y ≠ .ex c) (r : RS K F γ σ H) (o : Out (PV K F H) F H (fun c H' => W c σ H') (b2 g fa fb γ) Q) :
    tOp (RD2 K g) (rdR K W fa) (rdR K W fb) σ H Q := by
  refine rd2 r o fun dx dy x y F2 H2 n r2 p1 p2 o2 => ?_
  cases e : g dx dy with
  | ok d => rw [e] at o2; exact ⟨F2, dx, dy, d, r2.emb, p1, p2, e, PV.next (Q := Q) o2 n⟩
  | ex c => exact absurd e (ne _ _ _)
  | no => rw [e] at o2; exact o2.elim
theorem j_op {op : Operator} {g : D → D → R D} (ho : OpD X (binaryOp op) g) (ha : JR X W fa a) (hb : JR X W fb b) : J X W (b2 g fa fb) (.BinOp a op b pos) :=
  ⟨PE.imp (pe_op ho.run ha.pe hb.pe) fun σ H Q ⟨F, γ, r, o⟩ => tOp_of ho.ne r o⟩
theorem j_cmp {op : CmpOp} {g : D → D → R D} (ho : OpD X (compareOp op) g) (ha : JR X W fa a) (hb : JR X W fb b) (hm : behindInMarks op b = false := by first | exact nomark _ | rfl) : J X W (b2 g fa fb) (.Compare a [op] [b] pos) :=
  ⟨PE.imp (pe_cmpR ho.run ha.pe hb.pe hm) fun σ H Q ⟨F, γ, r, o⟩ => tOp_of ho.ne r o⟩
def dNot : D → R D
  | .bl b => .ok (.bl (!b))
  | _ => .no
theorem j_not (ha : JR X W fa a) : J X W (b1 dNot fa) (.UnaryOp .Not a pos) := ⟨PE.imp (pe_not ha.pe) fun σ H Q ⟨F, γ, r, o⟩ => by
  refine go1 (Z := fun z => Out (PV X.K F H) F H (fun c H' => W c σ H') z Q) r o (fun _ z => z) (fun z => z) fun dx x F1 H1 n1 r1 p1 o1 => ?_
  cases dx <;> first | exact o1.elim | skip
  exact ⟨_, p1.bl, PV.here (PV.next (Q := Q) o1 n1) r1.emb (.bl _)⟩⟩
/-! ### tests -/
theorem jt_cmp {op : CmpOp} {g : D → D → R D} (ho : OpD X (compareOp op) g) (ha : JR X W fa a) (hb : JR X W fb b) (hm : behindInMarks op b = false := by first | exact nomark _ | rfl) : JT X W (tVal (b2 g fa fb)) (.Compare a [op] [b] pos) :=
  ⟨PT.imp (pt_cmpR ho.run ha.pe hb.pe hm) fun σ H Q ⟨F, γ, r, o⟩ => by
    refine tOp_of (Q := fun x H' => ∃ k, x = .bl k ∧ Q k H') ho.ne r ?_
    unfold tVal at o
    cases e : b2 g fa fb γ with
    | ok d =>
      rw [e] at o
      cases d <;> first | exact o.elim | skip
      intro v F' H' n p
      cases p
      exact ⟨_, rfl, o F' H' n⟩
    | ex c => rw [e] at o; exact o
    | no => rw [e] at o; exact o⟩
theorem jt_val (h : J X W f e) (he : ∀ whole, isTrue e X.env whole = (do let v ← whole; standAt e.pos; holding [v] (truthy v)) := by intro _; rfl) : JT X W (tVal f) e :=
  ⟨PT.imp (pt_val h.pe he) fun σ H Q ⟨F, γ, r, o⟩ => by
    refine ⟨F, γ, r, ?_⟩
    unfold tVal at o
    cases e : f γ with
    | ok d =>
      rw [e] at o
      cases d <;> first | exact o.elim | skip
      intro v F' H' n p
      cases p
      exact ⟨_, rfl, o F' H' n⟩
    | ex c => rw [e] at o; exact o
    | no => rw [e] at o; exact o⟩
variable {p q : Ga → R Bool} {rest : List Expr}
theorem JW.t (h : JW X W p e) : JT X W p e := ⟨h.pw.pt⟩
theorem jw_and1 (ha : JT X W p a) : JW X W p (.BoolOp .And [a] pos) := ⟨pw_and1 ha.pt⟩
theorem jw_or1 (ha : JT X W p a) : JW X W p (.BoolOp .Or [a] pos) := ⟨pw_or1 ha.pt⟩
theorem jw_and (ha : JT X W p a) (hb : JW X W q (.BoolOp .And (b :: rest) pos)) : JW X W (tAnd p q) (.BoolOp .And (a :: b :: rest) pos) := ⟨PW.imp (pw_and ha.pt hb.pw) fun σ H Q h => by
  obtain ⟨F, γ, r, o⟩ := h
  refine ⟨F, γ, r, ?_⟩
  unfold tAnd at o
  cases e : p γ with
  | ok b =>
    simp only [e, R.bind] at o
    intro F' H' n
    cases b with
    | true =>
      simp only [if_true] at o ⊢
      refine ⟨F', γ, r.next n, ?_⟩
      cases e2 : q γ with
      | ok b' => rw [e2] at o; exact fun F2 H2 n2 => o F2 H2 (n.trans n2)
      | ex c => rw [e2] at o; exact fun F2 H2 n2 => o F2 H2 (n.trans n2)
      | no => rw [e2] at o; exact o
    | false => exact o F' H' n
  | ex c => simp only [e, R.bind] at o; exact o
  | no => simp only [e, R.bind] at o; exact o⟩
theorem jw_or (ha : JT X W p a) (hb : JW X W q (.BoolOp .Or (b :: rest) pos)) : JW X W (tOr p q) (.BoolOp .Or (a :: b :: rest) pos) := ⟨PW.imp (pw_or ha.pt hb.pw) fun σ H Q h => by
  obtain ⟨F, γ, r, o⟩ := h
  refine ⟨F, γ, r, ?_⟩
  unfold tOr at o
  cases e : p γ with
  | ok b =>
    simp only [e, R.bind] at o
    intro F' H' n
    cases b with
    | false =>
      simp only [Bool.false_eq_true, if_false] at o ⊢
      refine ⟨F', γ, r.next n, ?_⟩
      cases e2 : q γ with
      | ok b' => rw [e2] at o; exact fun F2 H2 n2 => o F2 H2 (n.trans n2)
      | ex c => rw [e2] at o; exact fun F2 H2 n2 => o F2 H2 (n.trans n2)
      | no => rw [e2] at o; exact o
    | true => exact o F' H' n
  | ex c => simp only [e, R.bind] at o; exact o
  | no => simp only [e, R.bind] at o; exact o⟩
theorem jt_not (ha : JT X W p a) : JT X W (tNot p) (.UnaryOp .Not a pos) := ⟨PT.imp (pt_not ha.pt) fun σ H Q h => by
  obtain ⟨F, γ, r, o⟩ := h
  refine ⟨F, γ, r, ?_⟩
  unfold tNot at o
  cases e : p γ with
  | ok b => simp only [e, R.bind] at o; exact o
  | ex c => simp only [e, R.bind] at o; exact o
  | no => simp only [e, R.bind] at o; exact o⟩
/-! ### and, or of truths as values; if .. else -/
def bAnd (fa fb : Ga → R D) : Ga → R D := fun γ => (fa γ).bind fun x => match x with | .bl true => fb γ | .bl false => .ok (.bl false) | _ => .no
theorem Out.next {K : PySem.W.Frag} {F H F1 H1 : Hp} {σ : L2.St} {x : R D} {Q : VK} (o : Out (PV K F H) F H (fun c H' => W c σ H') x Q) (n : Nxt F H F1 H1) : Out (PV K F1 H1) F1 H1 (fun c H' => W c σ H') x Q := by
  cases x with
  | ok d => exact PV.next (Q := Q) o n
  | ex c => exact fun F' H' m => o F' H' (n.trans m)
  | no => exact o
theorem j_one {op : BoolOp} (h : J X W f a) : J X W f (.BoolOp op [a] pos) := ⟨pe_one h.pe⟩
theorem j_and (ha : J X W fa a) (hb : J X W fb (.BoolOp .And (b :: rest) pos)) : J X W (bAnd fa fb) (.BoolOp .And (a :: b :: rest) pos) := ⟨PE.imp (pe_and ha.pe hb.pe) fun σ H Q ⟨F, γ, r, o⟩ => by
  refine go1v (Z := fun z => Out (PV X.K F H) F H (fun c H' => W c σ H') z Q) r o (fun _ z => z) (fun z => z) fun dx x F1 H1 n1 r1 p1 o1 => ?_
  cases dx <;> first | exact o1.elim | skip
  rename_i b
  cases p1
  refine ⟨b, rfl, ?_⟩
  cases b with
  | true => exact ⟨F1, γ, r1, Out.next o1 n1⟩
  | false => exact PV.here (PV.next (Q := Q) o1 n1) r1.emb (.bl _)⟩
/-! ### chains -/
def bCh (g g' : D → D → R D) (fa fb fc : Ga → R D) : Ga → R D := fun γ => (fa γ).bind fun x => (fb γ).bind fun y => (g x y).bind fun z => match z with
  | .bl true => (fc γ).bind fun w => g' y w
  | .bl false => .ok (.bl false)
  | _ => .no
theorem tCh_of {g g' : D → D → R D} {K : PySem.W.Frag} {F H : Hp} {γ : Ga} {σ : L2.St} {Q : VK} (ne : ∀ x y c, g x y ≠ .ex c) (ne' : ∀ x y c, g' x y ≠ .ex c) (r : RS K F γ σ H) (o : Out (PV K F H) F H (fun c H' => W c σ H') (bCh g g' fa fb fc γ) Q) :
    tChain (RD2 K g) (RD2 K g') (rdR K W fa) (rdR K W fb) (rdR K W fc) σ H Q := by
  refine go1 (Z := fun z => Out (PV K F H) F H (fun c H' => W c σ H') z Q) r o (fun _ z => z) (fun z => z) fun dx x F1 H1 n1 r1 p1 o1 => ?_
  refine go1 (Z := fun z => Out (PV K F H) F H (fun c H' => W c σ H') z Q) r1 o1 (fun _ z F' H' n => z F' H' (n1.trans n)) (fun z => z) fun dy y F2 H2 n2 r2 p2 o2 => ?_
  have p1' := p1.next n2
  have n12 := n1.trans n2
  cases e : g dx dy with
  | ok d =>
    rw [e] at o2
    simp only [R.bind] at o2
    cases d <;> first | exact o2.elim | skip
    rename_i k
    refine ⟨F2, dx, dy, _, r2.emb, p1', p2, e, fun v F' H' n p => ?_⟩
    cases p
    refine ⟨k, rfl, ?_⟩
    cases k with
    | true =>
      refine go1 (Z := fun z => Out (PV K F H) F H (fun c H' => W c σ H') z Q) (r2.next n) o2 (fun _ z F'' H'' m => z F'' H'' ((n12.trans n).trans m)) (fun z => z) fun dw w F3 H3 n3 r3 p3 o3 => ?_
      cases e3 : g' dy dw with
      | ok d => rw [e3] at o3; exact ⟨F3, dy, dw, d, r3.emb, (p2.next n).next n3, p3, e3, PV.next (Q := Q) o3 ((n12.trans n).trans n3)⟩
      | ex c => exact absurd e3 (ne' _ _ _)
      | no => rw [e3] at o3; exact o3.elim
    | false => exact PV.here (PV.next (Q := Q) o2 (n12.trans n)) n.emb (.bl _)
  | ex c => exact absurd e (ne _ _ _)
  | no => rw [e] at o2; exact o2.elim
theorem j_chain {op op' : CmpOp} {g g' : D → D → R D} (ho : OpD X (compareOp op) g) (ho' : OpD X (compareOp op') g') (ha : JR X W fa a) (hb : JR X W fb b) (hc : JR X W fc c)
    (h1 : lastMarks [op, op'] [b, c] = false := by with_unfolding_all rfl) : J X W (bCh g g' fa fb fc) (.Compare a [op, op'] [b, c] pos) :=
  ⟨PE.imp (pe_chain ho.run ho'.run ha.pe hb.pe hc.pe h1) fun σ H Q ⟨F, γ, r, o⟩ => tCh_of ho.ne ho'.ne r o⟩
/-! ### argument lists, displays -/
variable {es : List Expr} {fs : Ga → R (List D)}
theorem Reps1.next {K : PySem.W.Frag} {F H F' H' : Hp} {ds : List D} {vs : List V} (h : Reps1 K F H ds vs) (n : Nxt F H F' H') : Reps1 K F' H' ds vs := by
  induction ds generalizing vs with
  | nil => cases h; exact .nil
  | cons d ds ih => cases h with | cons h1 h2 => exact .cons (h1.next n) (ih h2)
theorem ja_nil : JA X W bNil [] := ⟨PA.imp pa_nil fun σ H Q ⟨F, γ, r, o⟩ => o [] F H (.refl r.emb) .nil⟩
theorem ja1_nil : JA1 X W bNil [] := ⟨PA.imp pa_nil fun σ H Q ⟨F, γ, r, o⟩ => o [] F H (.refl r.emb) .nil⟩
theorem ja_cons (ha : J X W fa e) (hr : JA X W fs es) (hs : starEach (e :: es) X.env = (false, eval e X.env) :: starEach es X.env := by rfl) : JA X W (bCons fa fs) (e :: es) := ⟨PA.imp (pa_cons ha.pe hr.pa hs) fun σ H Q ⟨F, γ, r, o⟩ => by
  refine ⟨F, γ, r, ?_⟩
  unfold bCons at o
  cases e1 : fa γ with
  | ok d =>
    simp only [e1, R.bind] at o
    intro v F' H' n p
    refine ⟨F', γ, r.next n, ?_⟩
    cases e2 : fs γ with
    | ok ds => simp only [e2, R.bind] at o; exact fun vs F2 H2 n2 ps => o _ F2 H2 (n.trans n2) (.cons (p.mono n2.f) ps)
    | ex c => simp only [e2, R.bind] at o; exact fun F2 H2 n2 => o F2 H2 (n.trans n2)
    | no => simp only [e2, R.bind] at o; exact o
  | ex c => simp only [e1, R.bind] at o; exact o
  | no => simp only [e1, R.bind] at o; exact o⟩
theorem ja1_cons (ha : JR X W fa e) (hr : JA1 X W fs es) (hs : starEach (e :: es) X.env = (false, eval e X.env) :: starEach es X.env := by rfl) : JA1 X W (bCons fa fs) (e :: es) := ⟨PA.imp (pa_cons ha.pe hr.pa hs) fun σ H Q ⟨F, γ, r, o⟩ => by
  refine ⟨F, γ, r, ?_⟩
  unfold bCons at o
  cases e1 : fa γ with
  | ok d =>
    simp only [e1, R.bind] at o
    intro v F' H' n p
    refine ⟨F', γ, r.next n, ?_⟩
    cases e2 : fs γ with
    | ok ds => simp only [e2, R.bind] at o; exact fun vs F2 H2 n2 ps => o _ F2 H2 (n.trans n2) (.cons (p.next n2) ps)
    | ex c => simp only [e2, R.bind] at o; exact fun F2 H2 n2 => o F2 H2 (n.trans n2)
    | no => simp only [e2, R.bind] at o; exact o
  | ex c => simp only [e1, R.bind] at o; exact o
  | no => simp only [e1, R.bind] at o; exact o⟩
theorem j_tup {x1 : Nat} (h : JA X W fs es) : J X W (bTup fs) (.Tuple es x1 pos) := ⟨PE.imp (pe_tup h.pa) fun σ H Q ⟨F, γ, r, o⟩ => by
  refine ⟨F, γ, r, ?_⟩
  unfold bTup bN at o
  cases e1 : fs γ with
  | ok ds =>
    simp only [e1, R.bind] at o
    intro vs F' H' n p
    split at o
    · rename_i hl
      refine ⟨by rw [← p.length]; exact Nat.le_trans hl lim_line, fun a ha => PV.newT (PV.next (Q := Q) o n) n.emb p a ha⟩
    · exact o.elim
  | ex c => simp only [e1, R.bind] at o; exact o
  | no => simp only [e1, R.bind] at o; exact o⟩
theorem jf_lst (h : JA X W fs es) : JF X W (bLst fs) (.List es pos) := ⟨PE.imp (pe_lst h.pa) fun σ H Q ⟨F, γ, r, o⟩ => by
  refine ⟨F, γ, r, ?_⟩
  unfold bLst bN at o
  cases e1 : fs γ with
  | ok ds =>
    simp only [e1, R.bind] at o
    intro vs F' H' n p
    split at o
    · rename_i hl
      refine ⟨by rw [← p.length]; exact Nat.le_trans hl lim_line, fun a ha => ?_⟩
      exact o a F' _ (n.trans (.laid n.emb ha _)) (n.h.free ha) (n.emb.free ha) ⟨_, upd_same, p⟩
    · exact o.elim
  | ex c => simp only [e1, R.bind] at o; exact o
  | no => simp only [e1, R.bind] at o; exact o⟩
end
end KN
/-! KnD: subscripts, slices, builtins, calls -/
namespace KN
open PySem PySem.Spec PyProof.Rows L2
/-! ### subscripts -/
def lookK (es : List (Tx × D)) (k : Tx) : Option D := (es.find? fun e => e.1 == k).map (·.2)
def o2r {α : Type} : Option α → R α
  | some a => .ok a
  | none => .no
def dIx : D → D → R D
  | .lst xs, .int i => o2r (atI xs i)
  | .tup xs, .int i => o2r (atI xs i)
  | .str s, .int i => if s.length ≤ lim then (match atI s i with | some c => .ok (.str [c]) | none => .no) else .no
  | .dic es, .str k => o2r (lookK es k)
  | _, _ => .no
theorem Reps.atI {K : PySem.W.Frag} {F : Hp} {ds : List D} {vs : List V} (h : Reps K F ds vs) {i : Int} {d : D} (e : atI ds i = some d) : ∃ v, L2.atI vs i = some v ∧ Rep K F d v := by
  unfold L2.atI at e ⊢
  rw [← h.length]
  cases q : ixN ds.length i with
  | none => rw [q] at e; cases e
  | some j =>
    rw [q] at e
    exact h.get (i := j) (by simpa using e)
theorem RepK.look {K : PySem.W.Frag} {F : Hp} {es : List (Tx × D)} {kvs : List (Key × V)} (h : RepK K F es kvs) (k : Tx) :
    (lookK es k = none ∧ valV kvs (Sum.inr (toS k)) = none) ∨ ∃ d v, lookK es k = some d ∧ valV kvs (Sum.inr (toS k)) = some v ∧ Rep K F d v := by
  induction es generalizing kvs with
  | nil => cases h; exact .inl ⟨rfl, rfl⟩
  | cons e es ih =>
    obtain ⟨k', d⟩ := e
    cases h with
    | cons h1 h2 =>
      by_cases q : k' = k
      · subst q
        refine .inr ⟨d, _, ?_, valV_pos rfl, h1⟩
        simp [lookK]
      · have q2 : ¬ (Sum.inr (toS k') : Key) = Sum.inr (toS k) := fun z => q (toS_inj.mp (Sum.inr.inj z))
        rw [valV_neg q2]
        have : lookK ((k', d) :: es) k = lookK es k := by
          unfold lookK
          rw [List.find?_cons, show (k' == k) = false from beq_eq_false_iff_ne.mpr q]
        rw [this]
        exact ih h2
section
variable {X : Cx}
theorem xd_ix (hu : X.A.units + 1 < cLine) : IxR X (RD2 X.K dIx) := by
  intro value slice pins s σ H x y v u Q I rx ry ⟨F, dx, dy, d, e, r1, r2, hg, q⟩ hs
  cases dx <;> cases dy <;> first | (cases hg; done) | skip
  · rename_i z i
    simp only [dIx] at hg
    split at hg
    · rename_i hl
      split at hg
      · rename_i c hc
        cases hg
        have e1 := r1.str
        refine ix_str value slice pins s σ H x y v u Q I rx ry ⟨toS z, i, c, e1, r2.int, ?_, ?_, ?_⟩ hs
        · rw [toS_len]; exact Nat.le_trans hl lim_line
        · exact hc
        · exact q.here e (.str [c])
      · cases hg
    · cases hg
  · rename_i xs i
    simp only [dIx, o2r] at hg
    split at hg
    · rename_i d' hc
      cases hg
      obtain ⟨p, vs, rfl, s1, p1⟩ := r1.lst e
      obtain ⟨w, e1, e2⟩ := p1.atI hc
      exact ix_list value slice pins s σ H _ y v u Q I rx ry ⟨p, vs, i, w, rfl, r2.int, s1, e1, q.here e e2⟩ hs
    · cases hg
  · rename_i xs i
    simp only [dIx, o2r] at hg
    split at hg
    · rename_i d' hc
      cases hg
      obtain ⟨p, vs, rfl, s1, p1⟩ := r1.tup e
      obtain ⟨w, e1, e2⟩ := p1.atI hc
      exact ix_tup value slice pins s σ H _ y v u Q I rx ry ⟨p, vs, i, w, rfl, r2.int, s1, e1, q.here e e2⟩ hs
    · cases hg
  · rename_i es k
    simp only [dIx, o2r] at hg
    split at hg
    · rename_i d' hc
      cases hg
      obtain ⟨p, kvs, rfl, s1, p1⟩ := r1.dic e
      rcases p1.look k with ⟨z, _⟩ | ⟨d2, w, z, e1, e2⟩
      · rw [hc] at z; cases z
      · rw [hc] at z; cases z
        cases rx
        have g : DGet H p y (some w) := .inl ⟨kvs, .inr (toS k), s1, r2.str, e1.symm⟩
        exact tail_any (dict_typeIs I g) PySem.F.slot_dict_getitem.lookup (d_getItem hu I g ry fun w' s3 I3 rw' => ⟨w, H, I3, rw', q.here e e2⟩) hs
    · cases hg
end
theorem ne_ix : ∀ x y c, dIx x y ≠ .ex c := fun x y c => by
  cases x <;> cases y <;> simp only [dIx, o2r] <;> first | (intro h; cases h; done) | (split <;> first | (intro h; cases h; done) | (split <;> intro h <;> cases h))
/-! ### slices -/
def cutL {α : Type} (xs : List α) (lo hi : Option Int) : List α := (xs.drop (HT.sIx xs.length 0 lo)).take (HT.sIx xs.length xs.length hi - HT.sIx xs.length 0 lo)
theorem Reps.cut {K : PySem.W.Frag} {F : Hp} {ds : List D} {vs : List V} (h : Reps K F ds vs) (lo hi : Option Int) : Reps K F (cutL ds lo hi) (cutV vs lo hi) := by
  unfold cutL cutV
  rw [← h.length]
  exact (h.drop _).take _
def dSl : D → Option Int → Option Int → R D
  | .lst xs, lo, hi => .ok (.lst (cutL xs lo hi))
  | .tup xs, lo, hi => .ok (.tup (cutL xs lo hi))
  | .str s, lo, hi => if s.length ≤ lim then .ok (.str (cutL s lo hi)) else .no
  | _, _, _ => .no
theorem ne_sl : ∀ x lo hi c, dSl x lo hi ≠ .ex c := fun x lo hi c => by
  cases x <;> simp only [dSl] <;> first | (intro h; cases h; done) | (split <;> intro h <;> cases h)
def RSl (K : PySem.W.Frag) : V → Option Int → Option Int → Hp → VK → Prop := fun x lo hi H Q => ∃ F dx d, Emb F H ∧ Rep1 K F H dx x ∧ dSl dx lo hi = .ok d ∧ PV K F H d Q
theorem toS_cut (z : Tx) (lo hi : Option Int) : cutS (toS z) lo hi = toS (cutL z lo hi) := by
  unfold cutS cutL
  rw [toS_len]
theorem cut_whole {α : Type} {xs : List α} {lo hi : Option Int} (h : HT.sIx xs.length 0 lo = 0 ∧ HT.sIx xs.length xs.length hi = xs.length) : cutL xs lo hi = xs := by
  unfold cutL
  rw [h.1, h.2]
  simp
theorem sd_sl {X : Cx} : SlR X (RSl X.K) := by
  intro pins s σ H x v vl vu lo hi sl Q I rx hs pl pu ⟨F, dx, d, e, r1, hg, q⟩
  cases dx <;> first | (cases hg; done) | skip
  · rename_i z
    simp only [dSl] at hg
    split at hg
    · rename_i hl
      cases hg
      refine sl_str pins s σ H x v vl vu lo hi sl Q I rx hs pl pu ⟨toS z, r1.str, ?_, ?_⟩
      · rw [toS_len]; exact Nat.le_trans hl lim_line
      · rw [toS_cut]; exact q.here e (.str _)
    · cases hg
  · rename_i xs
    cases hg
    obtain ⟨p, vs, rfl, s1, p1⟩ := r1.lst e
    exact sl_list pins s σ H _ v vl vu lo hi sl Q I rx hs pl pu ⟨p, vs, rfl, s1, fun a ha => q.newL e (p1.cut lo hi) a ha⟩
  · rename_i xs
    cases hg
    have r1' := r1
    obtain ⟨p, vs, rfl, s1, p1⟩ := r1.tup e
    refine sl_tupA pins s σ H _ v vl vu lo hi sl Q I rx hs pl pu ⟨p, vs, rfl, s1, fun h => ?_, fun _ a ha => q.newT e (p1.cut lo hi) a ha⟩
    rw [← p1.length] at h
    rw [cut_whole h] at q
    rcases r1' with r1' | ⟨_, _, o⟩
    · exact q.here e r1'
    · exact o.elim
def bSl (fa : Ga → R D) (fl fh : Ga → R (Option Int)) : Ga → R D := fun γ => (fa γ).bind fun x => (fl γ).bind fun l => (fh γ).bind fun h => dSl x l h
def pNo : Ga → R (Option Int) := fun _ => .ok none
def toI : D → R (Option Int)
  | .int i => .ok (some i)
  | _ => .no
def pSo (fa : Ga → R D) : Ga → R (Option Int) := fun γ => (fa γ).bind toI
def rdO (K : PySem.W.Frag) (W : WN) (f : Ga → R (Option Int)) : TO := fun σ H Q => ∃ F γ, RS K F γ σ H ∧ (match f γ with
  | .ok o => ∀ F' H', Nxt F H F' H' → Q o H'
  | .ex c => ∀ F' H', Nxt F H F' H' → W c σ H'
  | .no => False)
structure JO (X : Cx) (W : WN) (f : Ga → R (Option Int)) (e : Option Expr) : Prop where
  po : PO X e (rdO X.K W f)
theorem PO.imp {X : Cx} {e : Option Expr} {t t' : TO} (h : PO X e t) (i : ∀ σ H Q, t' σ H Q → t σ H Q) : PO X e t' := ⟨fun pins s σ H Q I q => h.run pins s σ H Q I (i σ H Q q)⟩
section
variable {X : Cx} {W : WN} {f fa fb fc : Ga → R D} {a b c e : Expr} {pos p2 p : Pos} {lo hi : Option Expr} {fl fh : Ga → R (Option Int)} {es : List Expr} {fs : Ga → R (List D)}
theorem j_ix (hu : X.A.units + 1 < cLine) (ha : JR X W fa a) (hb : JR X W fb b) (hs : PlainIx b := by exact fun _ _ => rfl) : J X W (b2 dIx fa fb) (.Subscript a b pos) :=
  ⟨PE.imp (pe_ix (xd_ix hu) ha.pe hb.pe hs) fun σ H Q ⟨F, γ, r, o⟩ => tOp_of ne_ix r o⟩
theorem jo_none : JO X W pNo none := ⟨PO.imp po_none fun σ H Q ⟨F, γ, r, o⟩ => o F H (.refl r.emb)⟩
theorem jo_some (ha : JR X W fa a) : JO X W (pSo fa) (some a) := ⟨PO.imp (po_some ha.pe) fun σ H Q ⟨F, γ, r, o⟩ => by
  refine ⟨F, γ, r, ?_⟩
  unfold pSo at o
  cases e1 : fa γ with
  | ok d =>
    simp only [e1, R.bind] at o
    cases d <;> first | exact o.elim | skip
    exact fun v F' H' n p => ⟨_, p.int, o F' H' n⟩
  | ex c => simp only [e1, R.bind] at o; exact o
  | no => simp only [e1, R.bind] at o⟩
theorem j_slice (ha : JR X W fa a) (hl : JO X W fl lo) (hh : JO X W fh hi) : J X W (bSl fa fl fh) (.Subscript a (.Slice lo hi none p2) pos) := ⟨PE.imp (pe_slice sd_sl ha.pe hl.po hh.po) fun σ H Q ⟨F, γ, r, o⟩ => by
  refine go1 (Z := fun z => Out (PV X.K F H) F H (fun c H' => W c σ H') z Q) r o (fun _ z => z) (fun z => z) fun dx x F1 H1 n1 r1 p1 o1 => ?_
  refine ⟨F1, γ, r1, ?_⟩
  cases e1 : fl γ with
  | ok l =>
    simp only [e1, R.bind] at o1
    intro F2 H2 n2
    refine ⟨F2, γ, r1.next n2, ?_⟩
    cases e2 : fh γ with
    | ok h =>
      simp only [e2, R.bind] at o1
      intro F3 H3 n3
      cases e3 : dSl dx l h with
      | ok d => rw [e3] at o1; exact ⟨F3, dx, d, n3.emb, (p1.next n2).next n3, e3, PV.next (Q := Q) o1 ((n1.trans n2).trans n3)⟩
      | ex c => exact absurd e3 (ne_sl _ _ _ _)
      | no => rw [e3] at o1; exact o1.elim
    | ex c => simp only [e2, R.bind] at o1; exact fun F' H' m => o1 F' H' ((n1.trans n2).trans m)
    | no => simp only [e2, R.bind] at o1; exact o1
  | ex c => simp only [e1, R.bind] at o1; exact fun F' H' m => o1 F' H' (n1.trans m)
  | no => simp only [e1, R.bind] at o1; exact o1⟩
/-! ### builtins by name -/
def RDc (K : PySem.W.Frag) (g : List D → R D) : List V → Hp → VK → Prop := fun xs H Q => ∃ F ds d, Emb F H ∧ Reps1 K F H ds xs ∧ g ds = .ok d ∧ PV K F H d Q
def RDf (K : PySem.W.Frag) (g : List D → R D) : List V → Hp → VK → Prop := fun xs H Q => ∃ F ds d, Emb F H ∧ Reps1 K F H ds xs ∧ g ds = .ok d ∧ PF K F H d Q
structure CalD (X : Cx) (f : Value) (g : List D → R D) : Prop where
  run : CallR X f (RDc X.K g)
  ne : ∀ x c, g x ≠ .ex c
structure CalF (X : Cx) (f : Value) (g : List D → R D) : Prop where
  run : CallR X f (RDf X.K g)
  ne : ∀ x c, g x ≠ .ex c
theorem tCB_of {K : PySem.W.Frag} {g : List D → R D} {σ : L2.St} {H F : Hp} {γ : Ga} {Q : VK} (ne : ∀ x c, g x ≠ .ex c) (r : RS K F γ σ H) (o : Out (PV K F H) F H (fun c H' => W c σ H') (bN g fs γ) Q) :
    rdA1 K W fs σ H fun vs H1 => RDc K g vs H1 Q := by
  refine ⟨F, γ, r, ?_⟩
  unfold bN at o
  cases e1 : fs γ with
  | ok ds =>
    simp only [e1, R.bind] at o
    intro vs F' H' n p
    cases e2 : g ds with
    | ok d => rw [e2] at o; exact ⟨F', ds, d, n.emb, p, e2, PV.next (Q := Q) o n⟩
    | ex c => exact absurd e2 (ne _ _)
    | no => rw [e2] at o; exact o.elim
  | ex c => simp only [e1, R.bind] at o; exact o
  | no => simp only [e1, R.bind] at o; exact o
theorem tCF_of {K : PySem.W.Frag} {g : List D → R D} {σ : L2.St} {H F : Hp} {γ : Ga} {Q : VK} (ne : ∀ x c, g x ≠ .ex c) (r : RS K F γ σ H) (o : Out (PF K F H) F H (fun c H' => W c σ H') (bN g fs γ) Q) :
    rdA1 K W fs σ H fun vs H1 => RDf K g vs H1 Q := by
  refine ⟨F, γ, r, ?_⟩
  unfold bN at o
  cases e1 : fs γ with
  | ok ds =>
    simp only [e1, R.bind] at o
    intro vs F' H' n p
    cases e2 : g ds with
    | ok d => rw [e2] at o; exact ⟨F', ds, d, n.emb, p, e2, PF.next (Q := Q) o n⟩
    | ex c => exact absurd e2 (ne _ _)
    | no => rw [e2] at o; exact o.elim
  | ex c => simp only [e1, R.bind] at o; exact o
  | no => simp only [e1, R.bind] at o; exact o
theorem j_b {id : String} {x : Str} {g : List D → R D} (hc : CalD X (.builtin id) g) (hm : X.mg x = none) (hv : bootBuiltins x = some (.builtin id)) (ha : JA1 X W fs (e :: es)) (hg : Gl X x := by rfl) (hn : x ≠ "__name__" := by decide) (hdb : (x == ("__debug__" : Str)) = false := by decide)
    (he : starEach (e :: es) X.env = (false, eval e X.env) :: starEach es X.env := by rfl) (hpl : (backTo pos (starEach es X.env)).any (·.1) = false := by rfl) : J X W (bN g fs) (.Call (.Name x p) (e :: es) [] pos) :=
  ⟨PE.imp (pe_callB hc.run hg hm hv ha.pa hn hdb he hpl) fun σ H Q ⟨F, γ, r, o⟩ => tCB_of hc.ne r o⟩
theorem j_ty {id : String} {x : Str} {g : List D → R D} (hc : CalD X (.type id) g) (hm : X.mg x = none) (hv : bootBuiltins x = some (.type id)) (ha : JA1 X W fs (e :: es)) (hg : Gl X x := by rfl) (hn : x ≠ "__name__" := by decide) (hdb : (x == ("__debug__" : Str)) = false := by decide)
    (he : starEach (e :: es) X.env = (false, eval e X.env) :: starEach es X.env := by rfl) (hpl : (backTo pos (starEach es X.env)).any (·.1) = false := by rfl) : J X W (bN g fs) (.Call (.Name x p) (e :: es) [] pos) :=
  ⟨PE.imp (pe_callTy hc.run hg hm hv ha.pa hn hdb he hpl) fun σ H Q ⟨F, γ, r, o⟩ => tCB_of hc.ne r o⟩
theorem jf_b {id : String} {x : Str} {g : List D → R D} (hc : CalF X (.builtin id) g) (hm : X.mg x = none) (hv : bootBuiltins x = some (.builtin id)) (ha : JA1 X W fs (e :: es)) (hg : Gl X x := by rfl) (hn : x ≠ "__name__" := by decide) (hdb : (x == ("__debug__" : Str)) = false := by decide)
    (he : starEach (e :: es) X.env = (false, eval e X.env) :: starEach es X.env := by rfl) (hpl : (backTo pos (starEach es X.env)).any (·.1) = false := by rfl) : JF X W (bN g fs) (.Call (.Name x p) (e :: es) [] pos) :=
  ⟨PE.imp (pe_callB hc.run hg hm hv ha.pa hn hdb he hpl) fun σ H Q ⟨F, γ, r, o⟩ => tCF_of hc.ne r o⟩
theorem jf_ty {id : String} {x : Str} {g : List D → R D} (hc : CalF X (.type id) g) (hm : X.mg x = none) (hv : bootBuiltins x = some (.type id)) (ha : JA1 X W fs (e :: es)) (hg : Gl X x := by rfl) (hn : x ≠ "__name__" := by decide) (hdb : (x == ("__debug__" : Str)) = false := by decide)
    (he : starEach (e :: es) X.env = (false, eval e X.env) :: starEach es X.env := by rfl) (hpl : (backTo pos (starEach es X.env)).any (·.1) = false := by rfl) : JF X W (bN g fs) (.Call (.Name x p) (e :: es) [] pos) :=
  ⟨PE.imp (pe_callTy hc.run hg hm hv ha.pa hn hdb he hpl) fun σ H Q ⟨F, γ, r, o⟩ => tCF_of hc.ne r o⟩
end
/-! ### the builtins -/
section
variable {X : Cx}
theorem Reps1.inv1 {K : PySem.W.Frag} {F H : Hp} {d : D} {xs : List V} (h : Reps1 K F H [d] xs) : ∃ x, xs = [x] ∧ Rep1 K F H d x := by
  cases h with | cons h1 h2 => cases h2; exact ⟨_, rfl, h1⟩
theorem Reps1.inv2 {K : PySem.W.Frag} {F H : Hp} {d e : D} {xs : List V} (h : Reps1 K F H [d, e] xs) : ∃ x y, xs = [x, y] ∧ Rep1 K F H d x ∧ Rep1 K F H e y := by
  cases h with | cons h1 h2 => obtain ⟨y, rfl, h3⟩ := h2.inv1; exact ⟨_, _, rfl, h1, h3⟩
def dLen : List D → R D
  | [.str s] => if s.length ≤ lim then .ok (.int s.length) else .no
  | [.lst xs] => .ok (.int xs.length)
  | [.tup xs] => .ok (.int xs.length)
  | [.dic es] => .ok (.int es.length)
  | _ => .no
theorem c_len : CalD X (.builtin "len") dLen := by
  refine ⟨fun pins s σ H xs us Q I rv ⟨F, ds, d, e, r, hg, q⟩ => ?_, fun x c => ?_⟩
  · match ds, hg with
    | [.str z], hg =>
      simp only [dLen] at hg
      split at hg
      · rename_i hl
        cases hg
        obtain ⟨x, rfl, r1⟩ := r.inv1
        have e1 := r1.str
        subst e1
        refine call_len pins s σ H _ us Q I rv ⟨.str (toS z), z.length, rfl, ⟨?_, (toS_len z).symm⟩, q.here e (.int _)⟩
        rw [toS_len]; exact Nat.le_trans hl lim_line
      · cases hg
    | [.lst ys], hg =>
      cases hg
      obtain ⟨x, rfl, r1⟩ := r.inv1
      obtain ⟨a, vs, rfl, s1, p1⟩ := r1.lst e
      exact call_len pins s σ H _ us Q I rv ⟨.ref a, ys.length, rfl, .inl ⟨vs, s1, p1.length⟩, q.here e (.int _)⟩
    | [.tup ys], hg =>
      cases hg
      obtain ⟨x, rfl, r1⟩ := r.inv1
      obtain ⟨a, vs, rfl, s1, p1⟩ := r1.tup e
      exact call_len pins s σ H _ us Q I rv ⟨.ref a, ys.length, rfl, .inr ⟨vs, s1, p1.length⟩, q.here e (.int _)⟩
    | [.dic ys], hg =>
      cases hg
      obtain ⟨x, rfl, r1⟩ := r.inv1
      obtain ⟨a, kvs, rfl, s1, p1⟩ := r1.dic e
      obtain ⟨u, rfl, ru⟩ := vals1 rv
      cases ru
      refine d_len I s1 fun t s' I' => ⟨.int kvs.length, H, I', ⟨t, rfl⟩, ?_⟩
      rw [← p1.length]
      exact q.here e (.int _)
  · intro h
    unfold dLen at h
    split at h <;> try split at h
    all_goals cases h
def dMax : List D → R D
  | [.int i, .int j] => .ok (.int (max i j))
  | _ => .no
theorem c_max (hc : X.calm = true) : CalD X (.builtin "max") dMax := by
  refine ⟨fun pins s σ H xs us Q I rv ⟨F, ds, d, e, r, hg, q⟩ => ?_, fun x c => ?_⟩
  · match ds, hg with
    | [.int i, .int j], hg =>
      cases hg
      obtain ⟨x, y, rfl, r1, r2⟩ := r.inv2
      have e1 := r1.int
      have e2 := r2.int
      subst e1 e2
      refine call_max2 hc pins s σ H _ us Q I rv ⟨i, j, rfl, ?_⟩
      have : (if j > i then j else i) = max i j := by split <;> omega
      rw [this]
      exact q.here e (.int _)
  · intro h
    unfold dMax at h
    split at h <;> cases h
def dList : List D → R D
  | [.lst xs] => .ok (.lst xs)
  | [.tup xs] => .ok (.lst xs)
  | _ => .no
theorem PF.newL {K : PySem.W.Frag} {F H : Hp} {ds : List D} {vs : List V} {Q : VK} (q : PF K F H (.lst ds) Q) (e : Emb F H) (r : Reps K F ds vs) (p : Addr) (hp : H p = none) : Q (.ref p) (upd H p (.lst vs)) :=
  q p F _ (.laid e hp _) hp (e.free hp) ⟨vs, upd_same, r⟩
theorem c_list : CalF X (.type "list") dList := by
  refine ⟨fun pins s σ H xs us Q I rv ⟨F, ds, d, e, r, hg, q⟩ => ?_, fun x c => ?_⟩
  · match ds, hg with
    | [.lst ys], hg =>
      cases hg
      obtain ⟨x, rfl, r1⟩ := r.inv1
      obtain ⟨a, vs, rfl, s1, p1⟩ := r1.lst e
      exact call_list_of pins s σ H _ us Q I rv ⟨a, vs, rfl, .inl s1, fun l hl => q.newL e p1 l hl⟩
    | [.tup ys], hg =>
      cases hg
      obtain ⟨x, rfl, r1⟩ := r.inv1
      obtain ⟨a, vs, rfl, s1, p1⟩ := r1.tup e
      exact call_list_of pins s σ H _ us Q I rv ⟨a, vs, rfl, .inr s1, fun l hl => q.newL e p1 l hl⟩
  · intro h
    unfold dList at h
    split at h <;> cases h
def dTuple : List D → R D
  | [.lst xs] => .ok (.tup xs)
  | [.tup xs] => .ok (.tup xs)
  | _ => .no
theorem c_tuple : CalD X (.type "tuple") dTuple := by
  refine ⟨fun pins s σ H xs us Q I rv ⟨F, ds, d, e, r, hg, q⟩ => ?_, fun x c => ?_⟩
  · match ds, hg with
    | [.lst ys], hg =>
      cases hg
      obtain ⟨x, rfl, r1⟩ := r.inv1
      obtain ⟨a, vs, rfl, s1, p1⟩ := r1.lst e
      exact call_tuple_of pins s σ H _ us Q I rv ⟨a, vs, rfl, .inl ⟨s1, fun l hl => q.newT e p1 l hl⟩⟩
    | [.tup ys], hg =>
      cases hg
      obtain ⟨x, rfl, r1⟩ := r.inv1
      have r1' := r1
      obtain ⟨a, vs, rfl, s1, p1⟩ := r1.tup e
      refine call_tuple_of pins s σ H _ us Q I rv ⟨a, vs, rfl, .inr ⟨s1, ?_⟩⟩
      rcases r1' with r1' | ⟨_, _, o⟩
      · exact q.here e r1'
      · exact o.elim
  · intro h
    unfold dTuple at h
    split at h <;> cases h
/-- ints, truths, texts all the way -/
def asInts : List D → Option (List Int)
  | [] => some []
  | .int i :: xs => (asInts xs).map (i :: ·)
  | _ :: _ => none
def asBls : List D → Option (List Bool)
  | [] => some []
  | .bl i :: xs => (asBls xs).map (i :: ·)
  | _ :: _ => none
def asTxs : List D → Option (List Tx)
  | [] => some []
  | .str i :: xs => (asTxs xs).map (i :: ·)
  | _ :: _ => none
theorem asInts_of {xs : List D} {ns : List Int} (h : asInts xs = some ns) : xs = ns.map D.int := by
  induction xs generalizing ns with
  | nil => cases h; rfl
  | cons x xs ih =>
    cases x <;> simp only [asInts] at h <;> first | (cases h; done) | skip
    cases e : asInts xs with
    | none => rw [e] at h; cases h
    | some ms => rw [e] at h; cases h; rw [ih e]; rfl
theorem asBls_of {xs : List D} {ns : List Bool} (h : asBls xs = some ns) : xs = ns.map D.bl := by
  induction xs generalizing ns with
  | nil => cases h; rfl
  | cons x xs ih =>
    cases x <;> simp only [asBls] at h <;> first | (cases h; done) | skip
    cases e : asBls xs with
    | none => rw [e] at h; cases h
    | some ms => rw [e] at h; cases h; rw [ih e]; rfl
theorem asTxs_of {xs : List D} {ns : List Tx} (h : asTxs xs = some ns) : xs = ns.map D.str := by
  induction xs generalizing ns with
  | nil => cases h; rfl
  | cons x xs ih =>
    cases x <;> simp only [asTxs] at h <;> first | (cases h; done) | skip
    cases e : asTxs xs with
    | none => rw [e] at h; cases h
    | some ms => rw [e] at h; cases h; rw [ih e]; rfl
@[simp] theorem asInts_map (ns : List Int) : asInts (ns.map D.int) = some ns := by
  induction ns with
  | nil => rfl
  | cons n ns ih => simp [asInts, ih]
@[simp] theorem asBls_map (ns : List Bool) : asBls (ns.map D.bl) = some ns := by
  induction ns with
  | nil => rfl
  | cons n ns ih => simp [asBls, ih]
@[simp] theorem asTxs_map (ns : List Tx) : asTxs (ns.map D.str) = some ns := by
  induction ns with
  | nil => rfl
  | cons n ns ih => simp [asTxs, ih]
theorem Reps.ints {K : PySem.W.Frag} {F : Hp} {ns : List Int} {vs : List V} (h : Reps K F (ns.map D.int) vs) : vs = ns.map V.int := by
  induction ns generalizing vs with
  | nil => cases h; rfl
  | cons n ns ih => cases h with | cons h1 h2 => cases h1; rw [ih h2]; rfl
theorem Reps.bls {K : PySem.W.Frag} {F : Hp} {ns : List Bool} {vs : List V} (h : Reps K F (ns.map D.bl) vs) : vs = ns.map V.bl := by
  induction ns generalizing vs with
  | nil => cases h; rfl
  | cons n ns ih => cases h with | cons h1 h2 => cases h1; rw [ih h2]; rfl
theorem Reps.txs {K : PySem.W.Frag} {F : Hp} {ns : List Tx} {vs : List V} (h : Reps K F (ns.map D.str) vs) : vs = (ns.map toS).map V.str := by
  induction ns generalizing vs with
  | nil => cases h; rfl
  | cons n ns ih => cases h with | cons h1 h2 => cases h1; rw [ih h2]; rfl
theorem reps_ints {K : PySem.W.Frag} {F : Hp} (ns : List Int) : Reps K F (ns.map D.int) (ns.map V.int) := by
  induction ns with
  | nil => exact .nil
  | cons n ns ih => exact .cons (.int n) ih
theorem reps_txs {K : PySem.W.Frag} {F : Hp} (ns : List Tx) : Reps K F (ns.map D.str) ((ns.map toS).map V.str) := by
  induction ns with
  | nil => exact .nil
  | cons n ns ih => exact .cons (.str n) ih
def dSum : List D → R D
  | [.lst xs] => (o2r (asInts xs)).bind fun ns => .ok (.int ns.sum)
  | _ => .no
theorem c_sum (hc : X.calm = true) : CalD X (.builtin "sum") dSum := by
  refine ⟨fun pins s σ H xs us Q I rv ⟨F, ds, d, e, r, hg, q⟩ => ?_, fun x c => ?_⟩
  · match ds, hg with
    | [.lst ys], hg =>
      simp only [dSum, o2r] at hg
      split at hg
      · rename_i ns hn
        cases hg
        have := asInts_of hn
        subst this
        obtain ⟨x, rfl, r1⟩ := r.inv1
        obtain ⟨a, vs, rfl, s1, p1⟩ := r1.lst e
        rw [p1.ints] at s1
        exact cr_sum hc pins s σ H _ us Q I rv ⟨a, ns, rfl, s1, q.here e (.int _)⟩
      · cases hg
  · intro h
    unfold dSum at h
    split at h
    · simp only [o2r] at h; split at h <;> cases h
    · cases h
def dAll : List D → R D
  | [.lst xs] => (o2r (asBls xs)).bind fun ns => .ok (.bl (ns.all id))
  | _ => .no
theorem c_all (hc : X.calm = true) : CalD X (.builtin "all") dAll := by
  refine ⟨fun pins s σ H xs us Q I rv ⟨F, ds, d, e, r, hg, q⟩ => ?_, fun x c => ?_⟩
  · match ds, hg with
    | [.lst ys], hg =>
      simp only [dAll, o2r] at hg
      split at hg
      · rename_i ns hn
        cases hg
        have := asBls_of hn
        subst this
        obtain ⟨x, rfl, r1⟩ := r.inv1
        obtain ⟨a, vs, rfl, s1, p1⟩ := r1.lst e
        rw [p1.bls] at s1
        exact cr_all hc pins s σ H _ us Q I rv ⟨a, ns, rfl, s1, q.here e (.bl _)⟩
      · cases hg
  · intro h
    unfold dAll at h
    split at h
    · simp only [o2r] at h; split at h <;> cases h
    · cases h
/-! ### sorted -/
def leT (a b : Tx) : Bool := !decide (b < a)
def sortT (l : List Tx) : List Tx := l.mergeSort leT
def sortI (l : List Int) : List Int := l.mergeSort fun a b => decide (a ≤ b)
theorem leT_total (a b : Tx) : (leT a b || leT b a) = true := by
  unfold leT
  rcases Decidable.em (b < a) with h | h
  · have : ¬ a < b := List.lt_asymm h
    simp [this]
  · simp [h]
theorem leT_trans (a b c : Tx) : leT a b = true → leT b c = true → leT a c = true := by
  unfold leT
  simp only [Bool.not_eq_true', decide_eq_false_iff_not, List.not_lt]
  exact fun h k => List.le_trans h k
theorem leT_anti {a b : Tx} (h : leT a b = true) (k : leT b a = true) : a = b := by
  unfold leT at h k
  simp only [Bool.not_eq_true', decide_eq_false_iff_not, List.not_lt] at h k
  exact List.le_antisymm h k
theorem sortT_perm (l : List Tx) : (sortT l).Perm l := List.mergeSort_perm _ _
theorem sortT_pw (l : List Tx) : (sortT l).Pairwise (fun a b => leT a b = true) := List.pairwise_mergeSort leT_trans leT_total l
theorem sortI_perm (l : List Int) : (sortI l).Perm l := List.mergeSort_perm _ _
theorem sortI_pw (l : List Int) : (sortI l).Pairwise (· ≤ ·) := by
  have := List.pairwise_mergeSort (le := fun a b : Int => decide (a ≤ b)) (fun a b c h k => by simp at h k ⊢; omega) (fun a b => by simp; omega) l
  exact this.imp (fun h => of_decide_eq_true h)
theorem sorted_uniq {α : Type} {r : α → α → Prop} (anti : ∀ a b, r a b → r b a → a = b) {l m : List α} (p : l.Perm m) (hl : l.Pairwise r) (hm : m.Pairwise r) : l = m :=
  p.eq_of_pairwise (fun a b _ _ h k => anti a b h k) hl hm
theorem ltCps_iff (a b : Tx) : ltCps a b = decide (a < b) := ltCps_eq a b
theorem sortedS_pw {ys : List Tx} (h : sortedS (ys.map toS) = true) : ys.Pairwise (fun a b => leT a b = true) := by
  have aux : ∀ (r : List Tx) (x : Tx), risingS (toS x) (r.map toS) = true → (x :: r).Pairwise (fun a b => leT a b = true) := by
    intro r
    induction r with
    | nil => intro x _; simp
    | cons y r ih =>
      intro x h
      simp only [List.map_cons, risingS, Bool.and_eq_true] at h
      have h1 : leT x y = true := by
        have := h.1
        rw [ltCps_iff] at this
        exact this
      have h2 := ih y h.2
      refine List.pairwise_cons.mpr ⟨fun z hz => ?_, h2⟩
      rcases List.mem_cons.mp hz with e | hz
      · subst e; exact h1
      · exact leT_trans _ _ _ h1 ((List.pairwise_cons.mp h2).1 z hz)
  cases ys with
  | nil => exact .nil
  | cons x r => exact aux r x h
theorem sortT_of {ys ks : List Tx} (p : ys.Perm ks) (h : sortedS (ys.map toS) = true) : ys = sortT ks :=
  sorted_uniq (fun _ _ => leT_anti) (p.trans (sortT_perm ks).symm) (sortedS_pw h) (sortT_pw ks)
theorem sortI_of {ys ks : List Int} (p : ys.Perm ks) (h : ys.Pairwise (· ≤ ·)) : ys = sortI ks :=
  sorted_uniq (fun a b h k => by omega) (p.trans (sortI_perm ks).symm) h (sortI_pw ks)
section
variable {X : Cx}
theorem PF.newTx {K : PySem.W.Frag} {F H : Hp} {ks : List Tx} {Q : VK} (q : PF K F H (.lst (ks.map D.str)) Q) (e : Emb F H) (p : Addr) (hp : H p = none) : Q (.ref p) (upd H p (.lst ((ks.map toS).map V.str))) :=
  q.newL e (reps_txs ks) p hp
theorem perm_toS {ys : List Str} {ks : List Tx} (p : ys.Perm (ks.map toS)) : ∃ zs : List Tx, ys = zs.map toS ∧ zs.Perm ks := by
  refine ⟨ys.map fun y => y.cps.toList, ?_, ?_⟩
  · rw [List.map_map]
    have : (toS ∘ fun y : Str => y.cps.toList) = id := by funext y; exact toS_tl y
    rw [this, List.map_id]
  · have := p.map fun y : Str => y.cps.toList
    rw [List.map_map] at this
    have e : ((fun y : Str => y.cps.toList) ∘ toS) = id := by funext y; simp [toS]
    rw [e, List.map_id] at this
    exact this
/-- sorted of a dict with text keys, of texts, of ints -/
def dSorted : List D → R D
  | [.dic es] => if es.length < 64 then .ok (.lst ((sortT (es.map (·.1))).map D.str)) else .no
  | [.lst xs] => match asTxs xs with
    | some ks => .ok (.lst ((sortT ks).map D.str))
    | none => match asInts xs with
      | some ns => .ok (.lst ((sortI ns).map D.int))
      | none => .no
  | _ => .no
theorem RepK.keys {K : PySem.W.Frag} {F : Hp} {es : List (Tx × D)} {kvs : List (Key × V)} (h : RepK K F es kvs) : kvs.map (·.1) = ((es.map (·.1)).map toS).map Sum.inr := by
  induction es generalizing kvs with
  | nil => cases h; rfl
  | cons e es ih => cases h with | cons h1 h2 => simp [ih h2]
theorem cr_sortedSA {X : Cx} : CallR X (.builtin "sorted") (fun vs H Q => ∃ (a : Addr) (xs : List Str), vs = [V.ref a] ∧ SqL X.K H a (xs.map V.str) ∧
    ∀ (ys : List Str) (p : Addr), ys.Perm xs → sortedS ys = true → H p = none → Q (.ref p) (upd H p (.lst (ys.map V.str)))) := by
  intro pins s σ H vs us Q I r h
  obtain ⟨a, ns, rfl, hs, q⟩ := h
  obtain ⟨its, rv, hl, hz⟩ := I.list hs
  obtain ⟨u, rfl, ru⟩ := vals1 r
  cases ru
  refine PyProof.Rows.sorted_strsAny hl.isList rv.strs (by rw [← rv.length]; exact hz) fun out ss h1 h2 h3 => ?_
  obtain ⟨ep, he'⟩ := PyProof.Rows.sortedAll_at s.heap its out
  have hlen : (ss.map V.str).length ≤ sizeLine := by rw [List.length_map, h2.length_eq]; rw [List.length_map] at hz; exact hz
  exact ⟨.ref _, upd H (s.heap.objs.size + 1) (.lst (ss.map V.str)), I.laid (t' := s.toks) (fun _ _ => PyProof.Rows.sortedAll_old) (Nat.le_succ _) ⟨hlen, out.toList, ep, vals_of_strs h1, he'⟩, rfl, q _ _ h2 h3 (I.hok.fresh (Nat.le_succ _))⟩
theorem c_sorted (hc : X.calm = true) : CalF X (.builtin "sorted") dSorted := by
  refine ⟨fun pins s σ H xs us Q I rv ⟨F, ds, d, e, r, hg, q⟩ => ?_, fun x c => ?_⟩
  · match ds, hg with
    | [.dic ys], hg =>
      simp only [dSorted] at hg
      split at hg
      · rename_i hl
        cases hg
        obtain ⟨x, rfl, r1⟩ := r.inv1
        obtain ⟨a, kvs, rfl, s1, p1⟩ := r1.dic e
        refine call_sortedD hc pins s σ H _ us Q I rv ⟨a, kvs, _, rfl, s1, p1.keys, by simpa using hl, fun zs p hp hs hn => ?_⟩
        obtain ⟨ws, rfl, hw⟩ := perm_toS hp
        rw [sortT_of hw hs]
        exact q.newTx e p hn
      · cases hg
    | [.lst ys], hg =>
      simp only [dSorted] at hg
      obtain ⟨x, rfl, r1⟩ := r.inv1
      obtain ⟨a, vs, rfl, s1, p1⟩ := r1.lst e
      split at hg
      · rename_i ks hk
        cases hg
        have := asTxs_of hk
        subst this
        rw [p1.txs] at s1
        refine cr_sortedSA pins s σ H _ us Q I rv ⟨a, _, rfl, s1, fun zs p hp hs hn => ?_⟩
        obtain ⟨ws, rfl, hw⟩ := perm_toS hp
        rw [sortT_of hw hs]
        exact q.newTx e p hn
      · split at hg
        · rename_i ns hn
          cases hg
          have := asInts_of hn
          subst this
          rw [p1.ints] at s1
          refine cr_sortedI pins s σ H _ us Q I rv ⟨a, ns, rfl, s1, fun zs p hp hs hn => ?_⟩
          rw [sortI_of hp hs]
          exact q.newL e (reps_ints _) p hn
        · cases hg
  · intro h
    unfold dSorted at h
    split at h
    · split at h <;> cases h
    · split at h
      · cases h
      · split at h <;> cases h
    · cases h
/-! ### isinstance -/
inductive TK where
  | int | bool | str | tup | lst
def TK.nm : TK → String
  | .int => "int"
  | .bool => "bool"
  | .str => "str"
  | .tup => "tuple"
  | .lst => "list"
def isT : TK → D → Bool
  | .int, .int _ => true
  | .int, .bl _ => true
  | .bool, .bl _ => true
  | .str, .str _ => true
  | .tup, .tup _ => true
  | .lst, .lst _ => true
  | _, _ => false
def tyD : D → String
  | .non => "NoneType"
  | .bl _ => "bool"
  | .int _ => "int"
  | .str _ => "str"
  | .lst _ => "list"
  | .tup _ => "tuple"
  | .dic _ => "dict"
theorem tyX_of {K : PySem.W.Frag} {F H : Hp} (em : Emb F H) {d : D} {v : V} (r : Rep1 K F H d v) : TyX K H v (.type (tyD d)) := by
  cases d with
  | non => cases r.non; exact .base .non
  | bl b => cases r.bl; exact .base (.bl _)
  | int i => cases r.int; exact .base (.int _)
  | str s => cases r.str; exact .base (.str _)
  | lst xs =>
    obtain ⟨a, vs, rfl, s1, _⟩ := r.lst em
    rcases s1 with (h | ⟨o, h⟩) | ⟨o, its, n, h, c, _⟩
    · exact .base (.lst h)
    · exact .base (.frz h)
    · exact .kList h c
  | tup xs =>
    obtain ⟨a, vs, rfl, s1, _⟩ := r.tup em
    rcases s1 with (h | ⟨o, h⟩) | ⟨o, its, n, h, c, _⟩
    · exact .base (.tup h)
    · exact .fTuple h
    · exact .kTuple h c
  | dic xs =>
    obtain ⟨a, vs, rfl, s1, _⟩ := r.dic em
    rcases s1 with h | ⟨o, h⟩
    · exact .base (.dK h)
    · exact .fDict h
def dIsi (T : TK) : D → R D := fun d => .ok (.bl (isT T d))
def kitN : Nat → TK → Bool
  | 1, .int => true
  | 1, .bool => true
  | 2, .int => true
  | 3, .str => true
  | 4, .lst => true
  | 5, .tup => true
  | _, _ => false
theorem kit_tab : ∀ T : TK, kitB "NoneType" T.nm = some false ∧ kitB "dict" T.nm = some false ∧ kitB "bool" T.nm = some (kitN 1 T) ∧ kitB "int" T.nm = some (kitN 2 T) ∧ kitB "str" T.nm = some (kitN 3 T) ∧ kitB "list" T.nm = some (kitN 4 T) ∧ kitB "tuple" T.nm = some (kitN 5 T) := by
  intro T
  cases T <;> decide +kernel
theorem kit_isT (T : TK) (d : D) : kitB (tyD d) T.nm = some (isT T d) := by
  obtain ⟨a, b, c, d1, e, f, g⟩ := kit_tab T
  cases d with
  | non => rw [show tyD .non = "NoneType" from rfl, a]; cases T <;> rfl
  | bl _ => rw [show tyD (.bl _) = "bool" from rfl, c]; cases T <;> rfl
  | int _ => rw [show tyD (.int _) = "int" from rfl, d1]; cases T <;> rfl
  | str _ => rw [show tyD (.str _) = "str" from rfl, e]; cases T <;> rfl
  | lst _ => rw [show tyD (.lst _) = "list" from rfl, f]; cases T <;> rfl
  | tup _ => rw [show tyD (.tup _) = "tuple" from rfl, g]; cases T <;> rfl
  | dic _ => rw [show tyD (.dic _) = "dict" from rfl, b]; cases T <;> rfl
end
section
variable {X : Cx} {W : WN} {f fa fb fc : Ga → R D} {a b c e : Expr} {pos p p2 : Pos}
theorem j_isi (T : TK) {x : Str} (ha : JR X W fa a) (hv : bootBuiltins x = some (.type T.nm)) (hm : X.mg "isinstance" = none) (hm2 : X.mg x = none) (hg : Gl X "isinstance" := by rfl) (hg2 : Gl X x := by rfl)
    (hn : x ≠ "__name__" := by decide) (hdb : (x == ("__debug__" : Str)) = false := by decide) (he : starEach [a, .Name x p2] X.env = (false, eval a X.env) :: starEach [.Name x p2] X.env := by rfl) (he2 : starEach [.Name x p2] X.env = (false, eval (.Name x p2) X.env) :: starEach [] X.env := by rfl)
    (hpl : (backTo pos (starEach [.Name x p2] X.env)).any (·.1) = false := by rfl) : J X W (b1 (dIsi T) fa) (.Call (.Name "isinstance" p) [a, .Name x p2] [] pos) := by
  have h2 : PE X (.Name x p2) (tC (.ty T.nm)) := pe_bltn hg2 hm2 hv rfl hn hdb
  refine ⟨PE.imp (pe_callB call_isi hg hm boot_isinstance (pa_cons ha.pe (pa_cons h2 pa_nil he2) he) (by decide) (by decide) he hpl) fun σ H Q ⟨F, γ, r, o⟩ => ?_⟩
  refine go1 (Z := fun z => Out (PV X.K F H) F H (fun c H' => W c σ H') z Q) r o (fun _ z => z) (fun z => z) fun dx x F1 H1 n1 r1 p1 o1 => ?_
  exact ⟨x, .ty T.nm, .type (tyD dx), .type T.nm, isT T dx, rfl, .ty T.nm, tyX_of r1.emb p1, kit_ty (kit_isT T dx), PV.here (PV.next (Q := Q) o1 n1) r1.emb (.bl _)⟩
end
/-! ### calls of defs -/
/-- a class's number as a value -/
abbrev Cl := Nat → Value
def VW (cl : Cl) (W : WN) : WX := fun cls d σ H => ∃ c, cls = cl c ∧ d = none ∧ W c σ H
def spD (K : PySem.W.Frag) (cl : Cl) (n : Nat) (g : List D → R D) : Sp := fun vs H Q E => ∃ F ds, vs.length = n ∧ Emb F H ∧ Reps K F ds vs ∧ Out (PV K F H) F H (fun c H' => E (cl c) none H') (g ds) Q
section
variable {X : Cx} {W : WN} {cl : Cl} {fs : Ga → R (List D)} {k n : Nat} {f : Addr} {fd : FuncData} {ps : List Str} {g : List D → R D} {x : Str} {e : Expr} {es : List Expr} {p pos : Pos}
def bCall (g : List D → R D) (fs : Ga → R (List D)) : Ga → R D := fun γ => (fs γ).bind g
theorem tCall_of {K : PySem.W.Frag} {σ : L2.St} {H F : Hp} {γ : Ga} {Q : VK} (hn : ∀ γ ds, fs γ = .ok ds → ds.length = n) (r : RS K F γ σ H) (o : Out (PV K F H) F H (fun c H' => W c σ H') (bCall g fs γ) Q) :
    rdA K W fs σ H fun vs H1 => spD K cl n g vs H1 Q (WE (VW cl W) σ) := by
  refine ⟨F, γ, r, ?_⟩
  unfold bCall at o
  cases e1 : fs γ with
  | ok ds =>
    simp only [e1, R.bind] at o
    intro vs F' H' m q
    refine ⟨F', ds, ?_, m.emb, q, ?_⟩
    · rw [← q.length]; exact hn γ ds e1
    · cases e2 : g ds with
      | ok d => rw [e2] at o; exact PV.next (Q := Q) o m
      | ex c => rw [e2] at o; exact fun F2 H2 m2 => ⟨c, rfl, rfl, o F2 H2 (m.trans m2)⟩
      | no => rw [e2] at o; exact o
  | ex c => simp only [e1, R.bind] at o; exact o
  | no => simp only [e1, R.bind] at o; exact o
theorem bNil_len : ∀ γ ds, bNil γ = .ok ds → ds.length = 0 := fun γ ds h => by cases h; rfl
theorem bCons_len {fa : Ga → R D} {n : Nat} (h : ∀ γ ds, fs γ = .ok ds → ds.length = n) : ∀ γ ds, bCons fa fs γ = .ok ds → ds.length = n + 1 := fun γ ds e => by
  unfold bCons at e
  cases e1 : fa γ <;> simp only [e1, R.bind] at e
  · cases e2 : fs γ <;> simp only [e2] at e
    · cases e; simp [h γ _ e2]
    · cases e
    · cases e
  · cases e
  · cases e
theorem j_call (F : FnOk X.prog X.w X.K X.mg X.base (L2.CX X.prog X.w) k f fd ps (spD X.K cl n g)) (hr : Room k X.A) (hm : X.mg x = some (.ref f)) (hk : PySem.W.keepIn X.K (.ref f) = true) (hb : Binds X.K fd ps []) (tk : Takes X (VW cl W))
    (ha : JA X W fs (e :: es)) (hn : ∀ γ ds, fs γ = .ok ds → ds.length = n) (hg : Gl X x := by rfl) (hdb : (x == ("__debug__" : Str)) = false := by decide) (he : starEach (e :: es) X.env = (false, eval e X.env) :: starEach es X.env := by rfl) (hpl : (backTo pos (starEach es X.env)).any (·.1) = false := by rfl) :
    J X W (bCall g fs) (.Call (.Name x p) (e :: es) [] pos) :=
  ⟨PE.imp (pe_callS F hr hg hm hk hb (fun σ => passAt tk σ) ha.pa hdb he hpl) fun σ H Q ⟨F, γ, r, o⟩ => tCall_of hn r o⟩
end
end
end KN
/-! KnE: statements, loops, defs -/
namespace KN
open PySem PySem.Spec PyProof.Rows L2
/-! ### the base of a def's run: what stood at its entry; what is locked -/
structure Bs where
  F0 : Hp
  H0 : Hp
  S : List (Addr × HO)
  /-- the object that was handed in, its dict -/
  ob : Option (Addr × Addr)
structure Fin (B : Bs) (F H : Hp) : Prop where
  f0 : Same B.F0 F
  fn : ∀ a o, F a = some o → B.F0 a = some o ∨ B.H0 a = none
  emb : Emb F H
  h0 : ∀ b o, B.H0 b = some o → H b = some o ∨ ∃ ob kvs, o = .dK kvs ∧ (b, HO.frz ob (.dK kvs)) ∈ B.S
  sS : ∀ p ∈ B.S, H p.1 = some p.2 ∧ ∃ ob kvs, p.2 = .frz ob (.dK kvs) ∧ F p.1 = some (.dK kvs)
theorem Fin.free {B : Bs} {F H : Hp} (f : Fin B F H) {a : Addr} (h : H a = none) : B.H0 a = none := by
  cases q : B.H0 a with
  | none => rfl
  | some u =>
    rcases f.h0 a u q with y | ⟨ob, kvs, e, y⟩
    · rw [h] at y; cases y
    · have := (f.sS _ y).1; rw [h] at this; cases this
theorem Fin.next {B : Bs} {F H F' H' : Hp} (f : Fin B F H) (n : Nxt F H F' H') : Fin B F' H' := by
  refine ⟨f.f0.trans n.f, fun a o h => ?_, n.emb, fun b o h => ?_, fun p hp => ?_⟩
  · rcases n.fn a o h with z | z
    · exact f.fn a o z
    · exact .inr (f.free z)
  · rcases f.h0 b o h with y | y
    · exact .inl (n.h _ _ y)
    · exact .inr y
  · obtain ⟨h1, ob, u, h2, h3⟩ := f.sS p hp
    exact ⟨n.h _ _ h1, ob, u, h2, n.f _ _ h3⟩
theorem Fin.start {F H : Hp} (e : Emb F H) : Fin ⟨F, H, [], none⟩ F H := ⟨.refl _, fun _ _ h => .inl h, e, fun _ _ h => .inl h, fun _ h => nomatch h⟩
theorem Fin.nxt {F0 H0 F H : Hp} (f : Fin ⟨F0, H0, [], none⟩ F H) : Nxt F0 H0 F H := ⟨f.f0, f.fn, f.emb, fun b o h => by
  rcases f.h0 b o h with y | ⟨_, _, _, y⟩
  · exact y
  · cases y⟩
/-- the handed-in object's slot, or one that is read alone -/
def hnd : Sl → Bool
  | .ob h _ _ => h
  | .rf _ _ => true
  | _ => false
def isRf : Sl → Bool
  | .rf _ _ => true
  | _ => false
structure RB (K : PySem.W.Frag) (B : Bs) (F : Hp) (γ : Ga) (σ : L2.St) (H : Hp) : Prop where
  rs : RS K F γ σ H
  fi : Fin B F H
  ow : ∀ (i : Nat) (s : Sl) (b : Addr), γ[i]? = some s → Inn H s σ[i]? b → B.H0 b = none
  /-- what is read alone is what was handed in -/
  lk : ∀ (j : Nat) (s : Sl) (a dx : Addr), γ[j]? = some s → hnd s = true → B.ob = some (a, dx) → σ[j]? = some (some (.ref a)) ∧ (isRf s = true → ∃ C kvs, F a = some (.ins C dx kvs))
theorem RB.next {K : PySem.W.Frag} {B : Bs} {F H F' H' : Hp} {γ : Ga} {σ : L2.St} (r : RB K B F γ σ H) (n : Nxt F H F' H') : RB K B F' γ σ H' := ⟨r.rs.next n, r.fi.next n, fun i s b e h => r.ow i s b e (h.back (r.rs.sl i s e) fun b u _ z => n.h _ _ z), fun j s a dx e1 e2 e3 => ⟨(r.lk j s a dx e1 e2 e3).1, fun e4 => let ⟨C, kvs, e5⟩ := (r.lk j s a dx e1 e2 e3).2 e4; ⟨C, kvs, n.f _ _ e5⟩⟩⟩
inductive Rx where
  /-- the object that was handed in is changed: returned d, or (none) gone on, the slots as they are then -/
  | rm (d : Option D) (γ : Ga)
  /-- a new object is returned -/
  | ro (c : Nat) (fs : List Fd)
inductive Fl where
  | nx (γ : Ga) | rt (d : D) | bk (γ : Ga) | ct (γ : Ga) | rx (x : Rx)
/-- all but an object -/
def rem (F : Hp) (a dx : Addr) : Hp := fun b => if b = a ∨ b = dx then none else F b
def Bs.sub (B : Bs) : Bs := match B.ob with
  | some (a, dx) => ⟨rem B.F0 a dx, rem B.H0 a dx, B.S, some (a, dx)⟩
  | none => B
def OutX (K : PySem.W.Frag) (B : Bs) (x : Rx) (E : Ends) : Prop := match x with
  | .rm (some d) γ => B.ob ≠ none ∧ ∀ v F σ H, RB K B.sub F γ σ H → Rep K F d v → E.rt v H
  | .rm none γ => B.ob ≠ none ∧ ∀ F σ H, RB K B.sub F γ σ H → E.nx σ H
  | .ro c fs => ∀ a F H, Fin B F H → SlOk K F H (.ob false c fs) (some (some (.ref a))) → (∀ b, Inn H (.ob false c fs) (some (some (.ref a))) b → B.H0 b = none) → E.rt (.ref a) H
def OutS (K : PySem.W.Frag) (W : WN) (B : Bs) (r : R Fl) (E : Ends) : Prop := match r with
  | .ok (.nx γ) => ∀ F σ H, RB K B F γ σ H → E.nx σ H
  | .ok (.bk γ) => ∀ F σ H, RB K B F γ σ H → E.bk σ H
  | .ok (.ct γ) => ∀ F σ H, RB K B F γ σ H → E.ct σ H
  | .ok (.rt d) => ∀ v F H, Fin B F H → Rep K F d v → E.rt v H
  | .ok (.rx x) => OutX K B x E
  | .ex c => ∀ σ F H, Fin B F H → W c σ H
  | .no => False
def rdS (K : PySem.W.Frag) (W : WN) (f : Ga → R Fl) : TS := fun E σ H => ∃ B F γ, RB K B F γ σ H ∧ OutS K W B (f γ) E
structure JS (X : Cx) (W : WN) (f : Ga → R Fl) (s : Stmt) : Prop where
  ps : PS X s (rdS X.K W f)
structure JSs (X : Cx) (W : WN) (f : Ga → R Fl) (s : List Stmt) : Prop where
  pss : PSs X s (rdS X.K W f)
theorem PS.imp {X : Cx} {e : Stmt} {t t' : TS} (h : PS X e t) (i : ∀ E σ H, t' E σ H → t E σ H) : PS X e t' := ⟨fun pins s σ H E I q => h.run pins s σ H E I (i E σ H q)⟩
theorem PSs.imp {X : Cx} {e : List Stmt} {t t' : TS} (h : PSs X e t) (i : ∀ E σ H, t' E σ H → t E σ H) : PSs X e t' := ⟨fun pins s σ H E I q => h.run pins s σ H E I (i E σ H q)⟩
/-! ### slots stored -/
theorem get_set {α : Type} {γ : List α} {i j : Nat} {s0 s : α} (e : (γ.set i s0)[j]? = some s) : (j = i ∧ s = s0 ∧ i < γ.length) ∨ (j ≠ i ∧ γ[j]? = some s) := by
  by_cases q : j = i
  · subst q
    by_cases l : j < γ.length
    · rw [List.getElem?_set_self l] at e; cases e; exact .inl ⟨rfl, rfl, l⟩
    · rw [List.getElem?_eq_none (by simpa using l)] at e; cases e
  · rw [List.getElem?_set_ne (Ne.symm q)] at e; exact .inr ⟨q, e⟩
theorem RS.put {K : PySem.W.Frag} {F H : Hp} {γ : Ga} {σ : L2.St} (r : RS K F γ σ H) (i : Nat) {s0 : Sl} {x0 : Option V} (k : SlOk K F H s0 (some x0))
    (ap : ∀ j s b, j ≠ i → γ[j]? = some s → Inn H s σ[j]? b → Inn H s0 (some x0) b → False) : RS K F (γ.set i s0) (σ.set i x0) H := by
  refine ⟨r.emb, by simp [r.len], fun j s e => ?_, fun j k s1 s2 b e1 e2 h1 h2 => ?_⟩
  · rcases get_set e with ⟨rfl, rfl, l⟩ | ⟨n, e⟩
    · rw [List.getElem?_set_self (r.len ▸ l)]; exact k
    · rw [List.getElem?_set_ne (Ne.symm n)]; exact r.sl j s e
  · rcases get_set e1 with ⟨rfl, rfl, l⟩ | ⟨n1, y1⟩ <;> rcases get_set e2 with ⟨rfl, rfl, l2⟩ | ⟨n2, y2⟩
    · rfl
    · rw [List.getElem?_set_self (r.len ▸ l)] at h1
      rw [List.getElem?_set_ne (Ne.symm n2)] at h2
      exact (ap _ _ b n2 y2 h2 h1).elim
    · rw [List.getElem?_set_self (r.len ▸ l2)] at h2
      rw [List.getElem?_set_ne (Ne.symm n1)] at h1
      exact (ap _ _ b n1 y1 h1 h2).elim
    · rw [List.getElem?_set_ne (Ne.symm n1)] at h1
      rw [List.getElem?_set_ne (Ne.symm n2)] at h2
      exact r.apart j k s1 s2 b y1 y2 h1 h2
theorem RB.put {K : PySem.W.Frag} {B : Bs} {F H : Hp} {γ : Ga} {σ : L2.St} (r : RB K B F γ σ H) (i : Nat) {s0 : Sl} {x0 : Option V} (k : SlOk K F H s0 (some x0))
    (ap : ∀ j s b, j ≠ i → γ[j]? = some s → Inn H s σ[j]? b → Inn H s0 (some x0) b → False) (fr : ∀ b, Inn H s0 (some x0) b → B.H0 b = none) (nr : hnd s0 = false := by rfl) : RB K B F (γ.set i s0) (σ.set i x0) H := by
  refine ⟨r.rs.put i k ap, r.fi, fun j s b e h => ?_, fun j s a dx e h h2 => by
    rcases get_set e with ⟨_, e, _⟩ | ⟨n, e⟩
    · subst e; rw [nr] at h; cases h
    · rw [List.getElem?_set_ne (Ne.symm n)]; exact r.lk j s a dx e h h2⟩
  rcases get_set e with ⟨rfl, rfl, l⟩ | ⟨n, e⟩
  · rw [List.getElem?_set_self (r.rs.len ▸ l)] at h; exact fr b h
  · rw [List.getElem?_set_ne (Ne.symm n)] at h; exact r.ow j s b e h
theorem RS.set {K : PySem.W.Frag} {F H : Hp} {γ : Ga} {σ : L2.St} (r : RS K F γ σ H) (i : Nat) {d : D} {v : V} (p : Rep K F d v) : RS K F (γ.set i (.va d)) (σ.set i (some v)) H :=
  r.put i (s0 := .va d) (x0 := some v) ⟨v, rfl, p⟩ fun _ _ _ _ _ _ h => h
theorem RB.set {K : PySem.W.Frag} {B : Bs} {F H : Hp} {γ : Ga} {σ : L2.St} (r : RB K B F γ σ H) (i : Nat) {d : D} {v : V} (p : Rep K F d v) : RB K B F (γ.set i (.va d)) (σ.set i (some v)) H :=
  r.put i (s0 := .va d) (x0 := some v) ⟨v, rfl, p⟩ (fun _ _ _ _ _ _ h => h) fun _ h => h.elim
/-- a slot that is known no more -/
theorem RB.un {K : PySem.W.Frag} {B : Bs} {F H : Hp} {γ : Ga} {σ : L2.St} (r : RB K B F γ σ H) (i : Nat) (x : Option V) : RB K B F (γ.set i .un) (σ.set i x) H :=
  r.put i (s0 := .un) (x0 := x) trivial (fun _ _ _ _ _ _ h => h) fun _ h => h.elim
/-- a new thing of one's own -/
theorem RB.own {K : PySem.W.Frag} {B : Bs} {F H F' H' : Hp} {γ : Ga} {σ : L2.St} (r : RB K B F γ σ H) (n : Nxt F H F' H') (i : Nat) {d : D} {a : Addr} (ha : H a = none) (fa : F' a = none) (o : Own K F' H' d a) : RB K B F' (γ.set i (.ow d)) (σ.set i (some (.ref a))) H' := by
  have r' := r.next n
  refine r'.put i (s0 := .ow d) (x0 := some (.ref a)) ⟨a, rfl, fa, o⟩ (fun j s b nj e h1 h2 => ?_) fun b h => ?_
  · have q := h1.back (r.rs.sl j s e) fun b u _ z => n.h _ _ z
    obtain ⟨_, u, hu⟩ := q.have (r.rs.sl j s e)
    cases h2
    rw [ha] at hu; cases hu
  · cases h; exact r.fi.free ha
/-- what the slot i owns is changed -/
theorem RB.chg {K : PySem.W.Frag} {B : Bs} {F H F' H' : Hp} {γ : Ga} {σ : L2.St} (r : RB K B F γ σ H) {i : Nat} {s0 s1 : Sl} (hi : γ[i]? = some s0) (k : SlOk K F' H' s1 σ[i]?) (fi : Fin B F' H') (f : Same F F')
    (keep : ∀ b u, H b = some u → F b = none → ¬ Inn H s0 σ[i]? b → H' b = some u ∧ F' b = none) (inn : ∀ b, Inn H' s1 σ[i]? b → Inn H s0 σ[i]? b ∨ H b = none) (nr : hnd s1 = true → hnd s0 = true ∧ isRf s1 = false := by intro h; cases h) : RB K B F' (γ.set i s1) σ H' := by
  have ks : ∀ j s, j ≠ i → γ[j]? = some s → ∀ b u, Inn H s σ[j]? b → F b = none → H b = some u → H' b = some u ∧ F' b = none := fun j s nj e b u h1 h2 h3 =>
    keep b u h3 h2 fun h4 => nj (r.rs.apart j i s s0 b e hi h1 h4)
  have bk : ∀ j s b, j ≠ i → γ[j]? = some s → Inn H' s σ[j]? b → Inn H s σ[j]? b := fun j s b nj e h => h.back (r.rs.sl j s e) fun b u h1 h2 => (ks j s nj e b u h1 (h1.have (r.rs.sl j s e)).1 h2).1
  refine ⟨⟨fi.emb, by simp [r.rs.len], fun j s e => ?_, fun j k s1 s2 b e1 e2 h1 h2 => ?_⟩, fi, fun j s b e h => ?_, fun j s a dx e h h2 => by
    rcases get_set e with ⟨ej, e, _⟩ | ⟨n, e⟩
    · subst e
      subst ej
      exact ⟨(r.lk j s0 a dx hi (nr h).1 h2).1, fun z => by rw [(nr h).2] at z; cases z⟩
    · exact ⟨(r.lk j s a dx e h h2).1, fun e4 => let ⟨C, kvs, e5⟩ := (r.lk j s a dx e h h2).2 e4; ⟨C, kvs, f _ _ e5⟩⟩⟩
  · rcases get_set e with ⟨rfl, rfl, l⟩ | ⟨n, e⟩
    · exact k
    · exact (r.rs.sl j s e).keep f (ks j s n e)
  · rcases get_set e1 with ⟨rfl, rfl, l⟩ | ⟨n1, y1⟩ <;> rcases get_set e2 with ⟨rfl, rfl, l2⟩ | ⟨n2, y2⟩
    · rfl
    · have h2 := bk _ _ b n2 y2 h2
      rcases inn b h1 with h1 | h1
      · exact r.rs.apart _ _ _ _ b hi y2 h1 h2
      · obtain ⟨_, u, hu⟩ := h2.have (r.rs.sl _ _ y2)
        rw [h1] at hu; cases hu
    · have h1 := bk _ _ b n1 y1 h1
      rcases inn b h2 with h2 | h2
      · exact r.rs.apart _ _ _ _ b y1 hi h1 h2
      · obtain ⟨_, u, hu⟩ := h1.have (r.rs.sl _ _ y1)
        rw [h2] at hu; cases hu
    · exact r.rs.apart j k s1 s2 b y1 y2 (bk _ _ b n1 y1 h1) (bk _ _ b n2 y2 h2)
  · rcases get_set e with ⟨rfl, rfl, l⟩ | ⟨n, e⟩
    · rcases inn b h with h | h
      · exact r.ow _ _ b hi h
      · exact r.fi.free h
    · exact r.ow j s b e (bk j s b n e h)
theorem Fin.frz {B : Bs} {F H : Hp} (f : Fin B F H) {a : Addr} {u : HO} (hu : H a = some u) (fa : F a = none) (h0 : B.H0 a = none) : Fin B (upd F a u) H :=
  ⟨f.f0.trans (same_upd fa), fun b w z => by
    by_cases q : b = a
    · subst q; exact .inr h0
    · rw [upd_ne q] at z; exact f.fn b w z, f.emb.freeze hu, f.h0, fun p hp => by
    obtain ⟨y1, ob, u, y2, y3⟩ := f.sS p hp
    exact ⟨y1, ob, u, y2, same_upd fa _ _ y3⟩⟩
theorem Fin.chg {B : Bs} {F H : Hp} (f : Fin B F H) {a : Addr} {u : HO} (fa : F a = none) (h0 : B.H0 a = none) : Fin B F (upd H a u) :=
  ⟨f.f0, f.fn, fun b w z => by rw [upd_ne (ne_of_none z fa)]; exact f.emb b w z, fun b w z => by rw [upd_ne (ne_of_none z h0)]; exact f.h0 b w z, fun p hp => by
    obtain ⟨y1, ob, u, y2, y3⟩ := f.sS p hp
    rw [upd_ne (ne_of_none y3 fa)]; exact ⟨y1, ob, u, y2, y3⟩⟩
/-- one's own thing is frozen -/
theorem RB.freeze {K : PySem.W.Frag} {B : Bs} {F H : Hp} {γ : Ga} {σ : L2.St} (r : RB K B F γ σ H) {i : Nat} {d : D} (e : γ[i]? = some (.ow d)) : ∃ F', RB K B F' (γ.set i (.va d)) σ H := by
  obtain ⟨a, h1, fa, o⟩ := r.rs.sl i _ e
  obtain ⟨u, hu, e1, s1, p⟩ := o.freeze r.rs.emb fa
  refine ⟨upd F a u, r.chg e (s1 := .va d) ⟨_, h1, p⟩ (r.fi.frz hu fa (r.ow i _ a e h1)) s1 (fun b w z1 z2 z3 => ⟨z1, ?_⟩) fun b h => h.elim⟩
  rw [upd_ne]
  · exact z2
  · rintro rfl; exact z3 h1
theorem OwK.rep {K : PySem.W.Frag} {F F' H : Hp} {a : Addr} (f : Same F F') : ∀ {es : List (Tx × List (Tx × D))} {kvs : List (Key × V)}, OwK K F H a es kvs → (∀ k b, (k, V.ref b) ∈ kvs → F' b = H b) → RepK K F' (es.map fun e => (e.1, .dic e.2)) kvs
  | [], [], _, _ => .nil
  | (k, row) :: es, (k', v) :: kvs, ⟨e, ⟨r, kv, e1, e2, e3, e4, e5, e6⟩, o⟩, h => by
    subst e1
    subst e
    exact .cons (.dic ((h _ r List.mem_cons_self).trans e4) (e5.mono f)) (o.rep f fun k b m => h k b (List.mem_cons_of_mem _ m))
  | [], _ :: _, h, _ => h.elim
  | _ :: _, [], h, _ => h.elim
open Classical in
theorem RB.freezeN {K : PySem.W.Frag} {B : Bs} {F H : Hp} {γ : Ga} {σ : L2.St} (r : RB K B F γ σ H) {i : Nat} {es : List (Tx × List (Tx × D))} (e : γ[i]? = some (.nd es)) : ∃ F', RB K B F' (γ.set i (.va (.dic (es.map fun e => (e.1, .dic e.2))))) σ H := by
  have k := r.rs.sl i _ e
  have F1 : ∀ b, Inn H (.nd es) σ[i]? b → F b = none := fun b h => (h.have k).1
  have F2 : ∀ b, Inn H (.nd es) σ[i]? b → B.H0 b = none := fun b h => r.ow i _ b e h
  have sm : Same F (fun b => if Inn H (.nd es) σ[i]? b then H b else F b) := fun b u h => by
    have : ¬ Inn H (.nd es) σ[i]? b := fun z => by rw [F1 b z] at h; cases h
    show (if Inn H (.nd es) σ[i]? b then H b else F b) = _
    rw [if_neg this]; exact h
  refine ⟨fun b => if Inn H (.nd es) σ[i]? b then H b else F b, r.chg e (s1 := .va _) ?_ ⟨r.fi.f0.trans sm, fun b o h => ?_, fun b o h => ?_, r.fi.h0, fun p hp => ?_⟩ sm (fun b u z1 z2 z3 => ⟨z1, ?_⟩) fun b h => h.elim⟩
  · obtain ⟨a, kvs, e1, e2, e3, e4⟩ := k
    refine ⟨_, e1, .dic ?_ (e4.rep sm fun k b m => ?_)⟩
    · show (if Inn H (.nd es) σ[i]? a then H a else F a) = _
      rw [if_pos ⟨a, kvs, e1, e3, .inl rfl⟩]; exact e3
    · show (if Inn H (.nd es) σ[i]? b then H b else F b) = _
      rw [if_pos ⟨a, kvs, e1, e3, .inr ⟨k, m⟩⟩]
  · by_cases z : Inn H (.nd es) σ[i]? b
    · exact .inr (F2 b z)
    · simp only [if_neg z] at h; exact r.fi.fn b o h
  · by_cases z : Inn H (.nd es) σ[i]? b
    · simp only [if_pos z] at h; exact .inl h
    · simp only [if_neg z] at h; exact r.fi.emb b o h
  · obtain ⟨y1, ob, u, y2, y3⟩ := r.fi.sS p hp
    exact ⟨y1, ob, u, y2, sm _ _ y3⟩
  · show (if Inn H (.nd es) σ[i]? b then H b else F b) = _
    rw [if_neg z3]; exact z2
/-! ### blocks and small statements -/
def fNil : Ga → R Fl := fun γ => .ok (.nx γ)
def fSeq (f g : Ga → R Fl) : Ga → R Fl := fun γ => match f γ with
  | .ok (.nx γ') => g γ'
  | .ok (.rx (.rm none _)) => .no
  | r => r
def fSet (i : Nat) (fe : Ga → R D) : Ga → R Fl := fun γ => (fe γ).bind fun d => .ok (.nx (γ.set i (.va d)))
def fOwn (i : Nat) (fe : Ga → R D) : Ga → R Fl := fun γ => (fe γ).bind fun d => .ok (.nx (γ.set i (.ow d)))
def fExpr (fe : Ga → R D) : Ga → R Fl := fun γ => (fe γ).bind fun _ => .ok (.nx γ)
def fRet (fe : Ga → R D) : Ga → R Fl := fun γ => (fe γ).bind fun d => .ok (.rt d)
def fRetN : Ga → R Fl := fun _ => .ok (.rt .non)
def fIf (c : Ga → R Bool) (f g : Ga → R Fl) : Ga → R Fl := fun γ => (c γ).bind fun b => if b = true then f γ else g γ
def fFz (i : Nat) (f : Ga → R Fl) : Ga → R Fl := fun γ => match γ[i]? with
  | some (.ow d) => f (γ.set i (.va d))
  | some (.nd es) => f (γ.set i (.va (.dic (es.map fun e => (e.1, .dic e.2)))))
  | _ => .no
section
variable {X : Cx} {W : WN} {f g : Ga → R Fl} {fa fb fe : Ga → R D} {st : Stmt} {rest sts : List Stmt} {e : Expr} {pos pos' : Pos} {p : Ga → R Bool}
theorem js_nil : JSs X W fNil [] := ⟨PSs.imp pss_nil fun E σ H ⟨B, F, γ, r, o⟩ => o F σ H r⟩
theorem js_cons (h : JS X W f st) (h2 : JSs X W g rest) : JSs X W (fSeq f g) (st :: rest) := ⟨PSs.imp (pss_cons h.ps h2.pss) fun E σ H ⟨B, F, γ, r, o⟩ => by
  refine ⟨B, F, γ, r, ?_⟩
  unfold fSeq at o
  cases e1 : f γ with
  | ok fl =>
    rw [e1] at o
    cases fl with
    | nx γ' => exact fun F' σ' H' r' => ⟨B, F', γ', r', o⟩
    | rt d => exact o
    | rx x => cases x with
      | rm d γ' => cases d with
        | none => exact o.elim
        | some d => exact o
      | ro c fs => exact o
    | bk γ' => exact o
    | ct γ' => exact o
  | ex c => rw [e1] at o; exact o
  | no => rw [e1] at o; exact o⟩
theorem js_one (h : JS X W f st) : JSs X W f [st] := ⟨pss_one h.ps⟩
/-- from an expression's end to a statement's -/
theorem ex_of {K : PySem.W.Frag} {B : Bs} {F H : Hp} {γ : Ga} {σ : L2.St} {E : Ends} {k : D → R Fl} {Q : VK} (r : RB K B F γ σ H) (o : OutS K W B ((fe γ).bind k) E)
    (h : ∀ d v F' H', Nxt F H F' H' → RB K B F' γ σ H' → Rep K F' d v → OutS K W B (k d) E → Q v H') : rdV K W fe σ H Q := by
  refine ⟨F, γ, r.rs, ?_⟩
  cases e1 : fe γ with
  | ok d => rw [e1] at o; exact fun v F' H' n p => h d v F' H' n (r.next n) p o
  | ex c => rw [e1] at o; exact fun F' H' n => o σ F' H' (r.fi.next n)
  | no => rw [e1] at o; exact o
theorem js_set {i : Nat} {x : Str} (hN : X.N.Nodup) (he : J X W fe e) (hi : X.N[i]? = some x := by rfl) (hx : Loc X.env.scope x := by first | exact .inl rfl | exact .inr rfl) (hs : swapsWith e (some (.Name x pos')) pos.line X.env = pure false := by rfl) (hf : X.fn x = true ∨ X.env.scope.names.lookup x = some .local := by first | exact .inl rfl | exact .inr rfl) :
    JS X W (fSet i fe) (.Assign [.Name x pos'] e pos) := ⟨PS.imp (ps_set hN hi hx he.pe hs hf) fun E σ H ⟨B, F, γ, r, o⟩ =>
  ex_of r o fun d v F' H' _ r' p o' => o' F' _ H' (r'.set i p)⟩
theorem js_expr (he : J X W fe e) (hs : swapsWith e none pos.line X.env = pure false := by rfl) : JS X W (fExpr fe) (.Expr e pos) := ⟨PS.imp (ps_expr he.pe hs) fun E σ H ⟨B, F, γ, r, o⟩ =>
  ex_of r o fun d v F' H' _ r' p o' => o' F' _ H' r'⟩
theorem js_ret (he : J X W fe e) : JS X W (fRet fe) (.Return (some e) pos) := ⟨PS.imp (ps_ret he.pe) fun E σ H ⟨B, F, γ, r, o⟩ =>
  ex_of r o fun d v F' H' _ r' p o' => o' v F' H' r'.fi p⟩
theorem js_if {c : Expr} {a b : List Stmt} (hc : JT X W p c) (ha : JSs X W f a) (hb : JSs X W g b) : JS X W (fIf p f g) (.If c a b pos) := ⟨PS.imp (ps_if hc.pt ha.pss hb.pss) fun E σ H ⟨B, F, γ, r, o⟩ => by
  refine ⟨F, γ, r.rs, ?_⟩
  unfold fIf at o
  cases e1 : p γ with
  | ok b =>
    simp only [e1, R.bind] at o
    intro F' H' n
    cases b with
    | true => exact ⟨B, F', γ, r.next n, o⟩
    | false => exact ⟨B, F', γ, r.next n, o⟩
  | ex c => simp only [e1, R.bind] at o; exact fun F' H' n => o σ F' H' (r.fi.next n)
  | no => simp only [e1, R.bind] at o; exact o⟩
/-- a thing of one's own is frozen ahead of what follows -/
theorem jss_fz (i : Nat) (h : JSs X W f sts) : JSs X W (fFz i f) sts := ⟨PSs.imp h.pss fun E σ H ⟨B, F, γ, r, o⟩ => by
  unfold fFz at o
  cases e1 : γ[i]? with
  | none => rw [e1] at o; exact o.elim
  | some s =>
    rw [e1] at o
    cases s with
    | un => exact o.elim
    | va d => exact o.elim
    | xc a => exact o.elim
    | ob _ _ _ => exact o.elim
    | rf _ _ => exact o.elim
    | obs _ _ => exact o.elim
    | nd es =>
      obtain ⟨F', r'⟩ := r.freezeN e1
      exact ⟨B, F', _, r', o⟩
    | ow d =>
      obtain ⟨F', r'⟩ := r.freeze e1
      exact ⟨B, F', _, r', o⟩⟩
/-! a, b = e1, e2 -/
end
end KN
/-! KnF: targets, what is walked, loops, comprehensions, defs -/
namespace KN
open PySem PySem.Spec PyProof.Rows L2
/-! ### targets -/
/-- the slots but those at is are as they were; those of one's own too -/
structure Kp (is : List Nat) (γ : Ga) (σ : L2.St) (γ' : Ga) (σ' : L2.St) : Prop where
  len : σ'.length = σ.length
  out : ∀ j, j ∉ is → σ'[j]? = σ[j]?
  ow : ∀ (j : Nat) (s : Sl), γ'[j]? = some s → (∃ d, s = .va d) ∨ (γ[j]? = some s ∧ σ'[j]? = σ[j]?)
theorem Kp.refl {is : List Nat} {γ : Ga} {σ : L2.St} : Kp is γ σ γ σ := ⟨rfl, fun _ _ => rfl, fun _ _ h => .inr ⟨h, rfl⟩⟩
theorem Kp.set {is : List Nat} {γ : Ga} {σ : L2.St} {γ' : Ga} {σ' : L2.St} (k : Kp is γ σ γ' σ') {i : Nat} (hi : i ∈ is) (d : D) (v : V) : Kp is γ σ (γ'.set i (.va d)) (σ'.set i (some v)) :=
  ⟨by simp [k.len], fun j hj => by
    have : j ≠ i := fun q => hj (q ▸ hi)
    rw [List.getElem?_set_ne (Ne.symm this)]; exact k.out j hj, fun j d' e => by
    rcases get_set e with ⟨rfl, rfl, l⟩ | ⟨n, e⟩
    · exact .inl ⟨d, rfl⟩
    · rw [List.getElem?_set_ne (Ne.symm n)]
      exact k.ow j d' e⟩
structure JG (X : Cx) (is : List Nat) (bd : D → Ga → R Ga) (t : TG) (tg : Expr) : Prop where
  pg : PG X tg t
  go : ∀ {F : Hp} {γ γ' : Ga} {σ : L2.St} {H : Hp} {d : D} {v : V} {Q : L2.St → Hp → Prop}, RS X.K F γ σ H → Rep X.K F d v → bd d γ = .ok γ' → (∀ σ', RS X.K F γ' σ' H → Kp is γ σ γ' σ' → Q σ' H) → t v σ H Q
def bdN (i : Nat) : D → Ga → R Ga := fun d γ => .ok (γ.set i (.va d))
def setAll : List Nat → List D → Ga → R Ga
  | [], [], γ => .ok γ
  | i :: is, d :: ds, γ => setAll is ds (γ.set i (.va d))
  | _, _, _ => .no
def bdT (is : List Nat) : D → Ga → R Ga
  | .tup ds, γ => setAll is ds γ
  | _, _ => .no
theorem bd_ne (is : List Nat) : ∀ ds γ c, setAll is ds γ ≠ .ex c := by
  induction is with
  | nil => intro ds γ c; cases ds <;> simp [setAll]
  | cons i is ih =>
    intro ds γ c
    cases ds with
    | nil => simp [setAll]
    | cons d ds => exact ih ds _ c
section
variable {X : Cx} {pos : Pos}
theorem jg_n {i : Nat} {x : Str} (hN : X.N.Nodup) (hi : X.N[i]? = some x := by rfl) (hx : Loc X.env.scope x := by first | exact .inl rfl | exact .inr rfl) (hf : X.fn x = true ∨ X.env.scope.names.lookup x = some .local := by first | exact .inl rfl | exact .inr rfl) : JG X [i] (bdN i) (gName i) (.Name x pos) :=
  ⟨pg_name hN hi hx hf, fun {F γ γ' σ H d v Q} r p e q => by
    cases e
    exact q _ (r.set i p) (Kp.refl.set (by simp) d v)⟩
structure JGs (X : Cx) (is js : List Nat) (t : TGs) (es : List Expr) : Prop where
  pgs : PGs X es t
  len : is.length = es.length
  go : ∀ {F : Hp} {γ₀ γ γ' : Ga} {σ₀ σ : L2.St} {H : Hp} {ds : List D} {vs : List V} {Q : L2.St → Hp → Prop}, RS X.K F γ σ H → Kp js γ₀ σ₀ γ σ → Reps X.K F ds vs → setAll is ds γ = .ok γ' → (∀ σ', RS X.K F γ' σ' H → Kp js γ₀ σ₀ γ' σ' → Q σ' H) → t vs σ H Q
theorem jgs_nil {js : List Nat} : JGs X [] js gNil [] := ⟨pgs_nil, rfl, fun {F γ₀ γ γ' σ₀ σ H ds vs Q} r k p e q => by
  cases p with
  | nil => cases e; exact ⟨rfl, q _ r k⟩
  | cons _ _ => cases e⟩
theorem jgs_cons {i : Nat} {is js : List Nat} {x : Str} {t : TGs} {es : List Expr} (hN : X.N.Nodup) (hr : JGs X is js t es) (hij : i ∈ js := by simp) (hi : X.N[i]? = some x := by rfl) (hx : Loc X.env.scope x := by first | exact .inl rfl | exact .inr rfl) (hf : X.fn x = true ∨ X.env.scope.names.lookup x = some .local := by first | exact .inl rfl | exact .inr rfl)
    (hs : (assignEach (.Name x pos :: es) X.env).map (·.2) = assign (.Name x pos) X.env :: (assignEach es X.env).map (·.2) := by rfl) : JGs X (i :: is) js (gCons (gName i) t) (.Name x pos :: es) :=
  ⟨pgs_cons (pg_name hN hi hx hf) hr.pgs hs, by simp [hr.len], fun {F γ₀ γ γ' σ₀ σ H ds vs Q} r k p e q => by
    cases p with
    | nil => cases e
    | cons p1 p2 => exact ⟨_, _, rfl, hr.go (r.set i p1) (k.set hij _ _) p2 e q⟩⟩
theorem jg_t {is : List Nat} {t : TGs} {es : List Expr} {k n : Nat} (hc : X.calm = true) (h : JGs X is is t es) (hn : (assignEach es X.env).length = n := by rfl) (hst : (assignEach es X.env).findIdx? (·.1) = none := by rfl) (hl : n = is.length := by rfl) : JG X is (bdT is) (gTup X.K n t) (.Tuple es k pos) :=
  ⟨pg_tup hc h.pgs hn hst, fun {F γ γ' σ H d v Q} r p e q => by
    cases d <;> first | (cases e; done) | skip
    rename_i ds
    cases p with
    | tup h1 h2 =>
      refine ⟨_, _, rfl, r.emb.sqt h1, ?_, h.go r .refl h2 e q⟩
      have : ∀ (is : List Nat) (ds : List D) (γ : Ga), setAll is ds γ = .ok γ' → ds.length = is.length := by
        intro is
        induction is with
        | nil => intro ds γ e; cases ds with | nil => rfl | cons _ _ => cases e
        | cons i is ih =>
          intro ds γ e
          cases ds with
          | nil => cases e
          | cons d ds => simp [ih ds _ e]
      rw [← h2.length, this _ _ _ e, hl]⟩
theorem jg_tK {K : PySem.W.Frag} {is : List Nat} {t : TGs} {es : List Expr} {k : Nat} (hK : X.K = K) (hc : X.calm = true) (h : JGs X is is t es) (hn : (assignEach es X.env).length = is.length := by rfl) (hst : (assignEach es X.env).findIdx? (·.1) = none := by rfl) : JG X is (bdT is) (gTup K is.length t) (.Tuple es k pos) := by
  subst hK
  exact jg_t hc h hn hst rfl
theorem RB.kp {K : PySem.W.Frag} {B : Bs} {F H : Hp} {γ γ' : Ga} {σ σ' : L2.St} {is : List Nat} (r : RB K B F γ σ H) (r' : RS K F γ' σ' H) (k : Kp is γ σ γ' σ') : RB K B F γ' σ' H :=
  ⟨r', r.fi, fun j d a e1 e2 => by
    rcases k.ow j d e1 with ⟨x, rfl⟩ | ⟨z1, z2⟩
    · exact e2.elim
    · exact r.ow j d a z1 (z2 ▸ e2), fun j s a dx e1 h h2 => by
    rcases k.ow j _ e1 with ⟨x, z⟩ | ⟨z1, z2⟩
    · subst z; cases h
    · exact z2 ▸ r.lk j s a dx z1 h h2⟩
end
/-! ### what is walked -/
def Goes (K : PySem.W.Frag) (J : It) (F : Hp) (S : List (Addr × HO)) (ds : List D) : Prop := ∀ F' H' i, Same F F' → Emb F' H' → (∀ p ∈ S, H' p.1 = some p.2) →
  (i = ds.length → J.stop i H') ∧ ∀ d, ds[i]? = some d → J.go i H' ∧ ∀ x H'', J.yld i H' x H'' → ∃ F'', Nxt F' H' F'' H'' ∧ Rep K F'' d x
theorem goes_list {K : PySem.W.Frag} {F : Hp} {a : Addr} {ds : List D} {vs : List V} (h : SqL K F a vs) (r : Reps K F ds vs) : Goes K (Itl K a) F [] ds := fun F' H' i f e _ => by
  have q := e.sql (f.seq h)
  refine ⟨fun hi => ⟨vs, q, by rw [← r.length]; omega⟩, fun d hd => ?_⟩
  obtain ⟨v, hv, p⟩ := r.get hd
  refine ⟨⟨vs, v, q, hv⟩, fun x H'' ⟨e1, e2⟩ => ?_⟩
  subst e1
  have : v = x := Option.some.inj (hv.symm.trans (e2 vs q))
  subst this
  exact ⟨F', .refl e, p.mono f⟩
theorem goes_tup {K : PySem.W.Frag} {F : Hp} {a : Addr} {ds : List D} {vs : List V} (h : SqT K F a vs) (r : Reps K F ds vs) : Goes K (Itt K a) F [] ds := fun F' H' i f e _ => by
  have q := e.sqt (same_sqt f h)
  refine ⟨fun hi => ⟨vs, q, by rw [← r.length]; omega⟩, fun d hd => ?_⟩
  obtain ⟨v, hv, p⟩ := r.get hd
  refine ⟨⟨vs, v, q, hv⟩, fun x H'' ⟨e1, e2⟩ => ?_⟩
  subst e1
  have : v = x := Option.some.inj (hv.symm.trans (e2 vs q))
  subst this
  exact ⟨F', .refl e, p.mono f⟩
def sgn (s : Tx) : List D := s.map fun c => .str [c]
theorem goes_str {K : PySem.W.Frag} {F : Hp} {s : Tx} : Goes K (Its (toS s)) F [] (sgn s) := fun F' H' i f e _ => by
  refine ⟨fun hi => ?_, fun d hd => ?_⟩
  · show (toS s).cps.size ≤ i
    simp [toS, sgn] at hi ⊢; omega
  · have l : i < s.length := by
      have := (List.getElem?_eq_some_iff.mp hd).1
      simpa [sgn] using this
    refine ⟨by show i < (toS s).cps.size; simpa [toS] using l, fun x H'' ⟨e1, c, e2, e3⟩ => ?_⟩
    subst e1
    have hc : s[i]? = some c := by simpa [toS] using e2
    have : d = .str [c] := by simp [sgn, hc] at hd; exact hd.symm
    subst this
    subst e3
    exact ⟨F', .refl e, .str [c]⟩
theorem RepK.get {K : PySem.W.Frag} {F : Hp} {es : List (Tx × D)} {kvs : List (Key × V)} (h : RepK K F es kvs) {i : Nat} {k : Tx} {d : D} (e : es[i]? = some (k, d)) : ∃ v, kvs[i]? = some (Sum.inr (toS k), v) ∧ Rep K F d v := by
  induction es generalizing kvs i with
  | nil => simp at e
  | cons e' es ih =>
    cases h with
    | cons h1 h2 =>
      cases i with
      | zero => simp at e; obtain ⟨rfl, rfl⟩ := e; exact ⟨_, rfl, h1⟩
      | succ i => simp at e; simpa using ih h2 e
def keysD (es : List (Tx × D)) : List D := es.map fun e => .str e.1
theorem goes_dic {K : PySem.W.Frag} {F : Hp} {a : Addr} {od : Obj} {es : List (Tx × D)} {kvs : List (Key × V)} (r : RepK K F es kvs) : Goes K (Itk a od kvs) F [(a, .frz od (.dK kvs))] (keysD es) := fun F' H' i f e hS => by
  have q := hS _ (List.mem_singleton.mpr rfl)
  refine ⟨fun hi => ⟨q, ?_⟩, fun d hd => ?_⟩
  · rw [← r.length]; simp [keysD] at hi; omega
  · have l : i < es.length := by
      have := (List.getElem?_eq_some_iff.mp hd).1
      simpa [keysD] using this
    refine ⟨⟨q, by rw [← r.length]; exact l⟩, fun x H'' ⟨e1, k, v, e2, e3⟩ => ?_⟩
    subst e1
    have he : es[i]? = some es[i] := List.getElem?_eq_getElem l
    obtain ⟨w, h1, h2⟩ := r.get (k := es[i].1) (d := es[i].2) he
    rw [h1] at e2
    cases e2
    have : d = .str es[i].1 := by simp [keysD, he] at hd; exact hd.symm
    subst this
    subst e3
    exact ⟨F', .refl e, .str _⟩
def rngD (lo : Int) (n : Nat) : List D := (List.range n).map fun i => .int (lo + (i : Nat))
theorem goes_rng {K : PySem.W.Frag} {F : Hp} {lo : Int} {n : Nat} : Goes K (Itr lo n) F [] (rngD lo n) := fun F' H' i f e _ => by
  refine ⟨fun hi => ?_, fun d hd => ?_⟩
  · show n ≤ i
    simp [rngD] at hi; omega
  · have l : i < n := by
      have := (List.getElem?_eq_some_iff.mp hd).1
      simpa [rngD] using this
    refine ⟨l, fun x H'' ⟨e1, e2⟩ => ?_⟩
    subst e1
    have : d = .int (lo + (i : Nat)) := by simp [rngD, l] at hd; exact hd.symm
    subst this
    subst e2
    exact ⟨F', .refl e, .int _⟩
def rdI (K : PySem.W.Frag) (W : WN) (f : Ga → R (List D)) : TI := fun σ H Rr => ∃ F γ, RS K F γ σ H ∧ (match f γ with
  | .ok ds => ∀ J F' H', Nxt F H F' H' → Goes K J F' [] ds → Rr J H'
  | .ex c => ∀ F' H', Nxt F H F' H' → W c σ H'
  | .no => False)
structure JI (X : Cx) (W : WN) (f : Ga → R (List D)) (tg it : Expr) : Prop where
  pi : PI X tg it (rdI X.K W f)
theorem PI.imp {X : Cx} {tg e : Expr} {t t' : TI} (h : PI X tg e t) (i : ∀ σ H Q, t' σ H Q → t σ H Q) : PI X tg e t' := ⟨fun pins s σ H Q I q => h.run pins s σ H Q I (i σ H Q q)⟩
/-- any value: list, tuple, text; a dict is locked meanwhile -/
def items : D → R (List D)
  | .lst xs => .ok xs
  | .tup xs => .ok xs
  | .str s => .ok (sgn s)
  | .dic es => .ok (keysD es)
  | _ => .no
def rdE (X : Cx) (W : WN) (f : Ga → R D) : TI := fun σ H Rr => ∃ F γ, RS X.K F γ σ H ∧ (match f γ with
  | .ok (.dic es) => ∀ J F' H' d od kvs, Nxt F H F' H' → F' d = some (.dK kvs) → Goes X.K J F' [(d, .frz od (.dK kvs))] (keysD es) →
      ((H' d = some (.dK kvs) → (∀ o' u', X.H_0 d ≠ some (.frz o' u')) → Rr J (upd H' d (.frz od (.dK kvs)))) ∧ (H' d = some (.frz od (.dK kvs)) → Rr J H'))
  | .ok d => ∃ ds, items d = .ok ds ∧ ∀ J F' H', Nxt F H F' H' → Goes X.K J F' [] ds → Rr J H'
  | .ex c => ∀ F' H', Nxt F H F' H' → W c σ H'
  | .no => False)
section
variable {X : Cx} {W : WN} {fe fa fb : Ga → R D} {tg e a b : Expr} {pos p : Pos}
theorem pi_any (he : J X W fe e) : PI X tg e (rdE X W fe) := ⟨fun pins s σ H Rr I h => by
  obtain ⟨F, γ, r, o⟩ := h
  cases e1 : fe γ with
  | ok d =>
    rw [e1] at o
    cases d
    case non => obtain ⟨_, z, _⟩ := o; cases z
    case bl _ => obtain ⟨_, z, _⟩ := o; cases z
    case int _ => obtain ⟨_, z, _⟩ := o; cases z
    case str z =>
      obtain ⟨ds, z1, o⟩ := o
      cases z1
      refine (pi_str he.pe).run pins s σ H Rr I ⟨F, γ, r, ?_⟩
      rw [e1]
      intro v F' H' n p
      cases p
      exact ⟨toS z, rfl, o _ F' H' n goes_str⟩
    case lst xs =>
      obtain ⟨ds, z1, o⟩ := o
      cases z1
      refine (pi_list he.pe).run pins s σ H Rr I ⟨F, γ, r, ?_⟩
      rw [e1]
      intro v F' H' n p
      cases p with | lst h1 h2 => exact ⟨_, rfl, ⟨_, n.emb.sql h1⟩, o _ F' H' n (goes_list h1 h2)⟩
    case tup xs =>
      obtain ⟨ds, z1, o⟩ := o
      cases z1
      refine (pi_tup he.pe).run pins s σ H Rr I ⟨F, γ, r, ?_⟩
      rw [e1]
      intro v F' H' n p
      cases p with | tup h1 h2 => exact ⟨_, rfl, ⟨_, n.emb.sqt h1⟩, o _ F' H' n (goes_tup h1 h2)⟩
    case dic es =>
      have h0 : rdV X.K W fe σ H (fun x H1 => ∃ d kvs F', x = .ref d ∧ Nxt F H F' H1 ∧ F' d = some (.dK kvs) ∧ RepK X.K F' es kvs) := by
        refine ⟨F, γ, r, ?_⟩
        rw [e1]
        intro v F' H' n p
        cases p with | dic h1 h2 => exact ⟨_, _, F', rfl, n, h1, h2⟩
      refine thn (he.pe.run pins s σ H _ I h0) fun u s1 ⟨x, H1, I1, rx, d, kvs, F', ex, n, hd, hk⟩ => ?_
      subst ex
      obtain rfl : u = Value.ref d := rx
      have fin : ∀ {od : Obj} {H2 : Hp}, Inv X pins σ H2 s1 → H2 d = some (.frz od (.dK kvs)) → Rr (Itk d od kvs) H2 → wpAny (model X.prog X.w) X.A (pyIter (.ref d)) (PIE X pins σ tg Rr) X.xe s1 := fun {od H2} I2 hd2 q => by
        obtain ⟨hs, hgd, hx, es, ep, vs, hdt, hsz, kv, hm⟩ := I2.frzK hd2
        refine iter_keys hs hgd hx hdt (pi_one (tk := s1.toks) I2 _ (turn_keys _ hdt) ⟨_, Heap.get?_push_size _ rfl, rfl, ?_⟩ q)
        rw [hsz] <;> rfl
      rcases n.emb d _ hd with z | ⟨ob, kvs', e2, z⟩
      · obtain ⟨od, I2⟩ := I1.lock z trivial
        exact fin I2 upd_same ((o _ F' H1 d od kvs n hd (goes_dic hk)).1 z (I1.nofrz z trivial))
      · cases e2
        exact fin I1 z ((o _ F' H1 d ob kvs n hd (goes_dic hk)).2 z)
  | ex c =>
    rw [e1] at o
    refine (pi_list he.pe).run pins s σ H Rr I ⟨F, γ, r, ?_⟩
    rw [e1]
    exact o
  | no => rw [e1] at o; exact o.elim⟩
def i2n : D → R Int
  | .int i => if i.natAbs < 2 ^ 62 then .ok i else .no
  | _ => .no
def iR1 (fa : Ga → R D) : Ga → R (List D) := fun γ => (fa γ).bind fun d => (i2n d).bind fun j => .ok (rngD 0 j.toNat)
theorem i2n_ok {d : D} {i : Int} (h : i2n d = .ok i) : d = .int i ∧ -(2 ^ 62) ≤ i ∧ i < 2 ^ 62 := by
  cases d <;> simp only [i2n] at h <;> first | (cases h; done) | skip
  split at h
  · cases h; exact ⟨rfl, by omega, by omega⟩
  · cases h
theorem i2n_ne {d : D} {c : Nat} : i2n d ≠ .ex c := by
  cases d <;> simp only [i2n] <;> first | (intro h; cases h; done) | (split <;> intro h <;> cases h)
theorem ji_r1 (hm : X.mg "range" = none) (ha : J X W fa a) (hg : Gl X "range" := by rfl) (hs : starEach [a] X.env = [(false, eval a X.env)] := by rfl) (hs1 : starEach [a] X.env = (false, eval a X.env) :: starEach [] X.env := by rfl) : JI X W (iR1 fa) tg (.Call (.Name "range" p) [a] [] pos) :=
  ⟨PI.imp (pi_range1 hg hm (pa_cons ha.pe pa_nil hs1) hs) fun σ H Rr ⟨F, γ, r, o⟩ => by
    refine ⟨F, γ, r, ?_⟩
    unfold iR1 at o
    cases e1 : fa γ with
    | ok d =>
      simp only [e1, R.bind] at o
      intro v F' H' n p
      cases e2 : i2n d with
      | ok j =>
        obtain ⟨rfl, h1, h2⟩ := i2n_ok e2
        cases p
        simp only [e2] at o
        exact ⟨j, rfl, h1, h2, o _ F' H' n goes_rng⟩
      | ex c => exact absurd e2 i2n_ne
      | no => simp only [e2] at o
    | ex c => simp only [e1, R.bind] at o; exact o
    | no => simp only [e1, R.bind] at o⟩
end
end KN
/-! KnG: loops, comprehensions, defs -/
namespace KN
open PySem PySem.Spec PyProof.Rows L2
/-! ### unlocking -/
def Ul (X : Cx) (Q : Hp → Prop) (H : Hp) : Prop := Q H ∨ ∃ d od u, H d = some (.frz od u) ∧ (∀ o' u', X.H_0 d ≠ some (.frz o' u')) ∧ Q (upd H d u)
def unlE (X : Cx) (E : Ends) : Ends := ⟨fun σ => Ul X (E.nx σ), fun v => Ul X (E.rt v), fun σ => Ul X (E.bk σ), fun σ => Ul X (E.ct σ)⟩
section
variable {X : Cx} {pins : List (Addr × Obj)} {σ : L2.St} {H : Hp} {s : Shared}
theorem Ul.run {Q : Hp → Prop} (I : Inv X pins σ H s) (u : Ul X Q H) : ∃ H', Inv X pins σ H' s ∧ Q H' := by
  rcases u with q | ⟨d, od, u, h, hn, q⟩
  · exact ⟨H, I, q⟩
  · exact ⟨_, I.unlock h hn, q⟩
theorem ps_unl {st : Stmt} {t : TS} (h : PS X st t) : PS X st (fun E => t (unlE X E)) := ⟨fun pins s σ H E I hw => by
  refine thn (h.run pins s σ H _ I hw) fun f s1 q => ?_
  cases f with
  | next => obtain ⟨σ', H', I2, q⟩ := q; obtain ⟨H2, I3, q⟩ := Ul.run I2 q; exact ⟨σ', H2, I3, q⟩
  | brk => obtain ⟨σ', H', I2, q⟩ := q; obtain ⟨H2, I3, q⟩ := Ul.run I2 q; exact ⟨σ', H2, I3, q⟩
  | cont => obtain ⟨σ', H', I2, q⟩ := q; obtain ⟨H2, I3, q⟩ := Ul.run I2 q; exact ⟨σ', H2, I3, q⟩
  | ret v => obtain ⟨x, σ', H', I2, r, q⟩ := q; obtain ⟨H2, I3, q⟩ := Ul.run I2 q; exact ⟨x, σ', H2, I3, r, q⟩⟩
theorem pe_unl {e : Expr} {t : TE} (h : PE X e t) : PE X e (fun σ H Q => t σ H fun v => Ul X (Q v)) := ⟨fun pins s σ H Q I hw => by
  refine thn (h.run pins s σ H _ I hw) fun v s1 ⟨x, H1, I2, r, q⟩ => ?_
  obtain ⟨H2, I3, q⟩ := Ul.run I2 q
  exact ⟨x, H2, I3, r, q⟩⟩
end
/-! ### for -/
def forGo (bd : D → Ga → R Ga) (body : Ga → R Fl) : List D → Ga → R Fl
  | [], γ => .ok (.nx γ)
  | x :: xs, γ => (bd x γ).bind fun γ1 => match body γ1 with
    | .ok (.nx γ2) => forGo bd body xs γ2
    | .ok (.ct γ2) => forGo bd body xs γ2
    | .ok (.bk γ2) => .ok (.nx γ2)
    | .ok (.rt d) => .ok (.rt d)
    | .ok (.rx _) => .no
    | .ex c => .ex c
    | .no => .no
/-- a loop's end is no changed object's -/
theorem forGo_rm {bd : D → Ga → R Ga} {body : Ga → R Fl} : ∀ (ds : List D) (γ : Ga) (y : Rx), forGo bd body ds γ ≠ .ok (.rx y)
  | [], γ, _ => fun h => by cases h
  | x :: xs, γ, y => fun h => by
    simp only [forGo] at h
    cases e : bd x γ with
    | ok γ1 =>
      simp only [e, R.bind] at h
      cases e2 : body γ1 with
      | ok fl =>
        rw [e2] at h
        cases fl with
        | nx γ2 => exact forGo_rm xs γ2 y h
        | ct γ2 => exact forGo_rm xs γ2 y h
        | bk γ2 => cases h
        | rt d => cases h
        | rx _ => cases h
      | ex c => rw [e2] at h; cases h
      | no => rw [e2] at h; cases h
    | ex c => simp only [e, R.bind] at h; cases h
    | no => simp only [e, R.bind] at h; cases h
/-- bd raises nothing -/
def BdOk (bd : D → Ga → R Ga) : Prop := ∀ d γ c, bd d γ ≠ .ex c
theorem bdN_ok {i : Nat} : BdOk (bdN i) := fun d γ c h => by cases h
theorem bdT_ok {is : List Nat} : BdOk (bdT is) := fun d γ c => by
  cases d <;> first | (intro h; cases h; done) | exact bd_ne _ _ _ _
theorem Fin.weak {B : Bs} {F1 F H : Hp} {h : Same B.F0 F1} {hn : ∀ a o, F1 a = some o → B.F0 a = some o ∨ B.H0 a = none} (f : Fin { B with F0 := F1 } F H) : Fin B F H :=
  ⟨h.trans f.f0, fun a o e => by
    rcases f.fn a o e with z | z
    · exact hn a o z
    · exact .inr z, f.emb, f.h0, f.sS⟩
theorem RB.weak {K : PySem.W.Frag} {B : Bs} {F1 F H : Hp} {γ : Ga} {σ : L2.St} (h : Same B.F0 F1) (hn : ∀ a o, F1 a = some o → B.F0 a = some o ∨ B.H0 a = none) (r : RB K { B with F0 := F1 } F γ σ H) : RB K B F γ σ H := ⟨r.rs, Fin.weak (h := h) (hn := hn) r.fi, r.ow, r.lk⟩
theorem RB.strong {K : PySem.W.Frag} {B : Bs} {F H : Hp} {γ : Ga} {σ : L2.St} (r : RB K B F γ σ H) : RB K { B with F0 := F } F γ σ H := ⟨r.rs, ⟨.refl _, fun _ _ e => .inl e, r.fi.emb, r.fi.h0, r.fi.sS⟩, r.ow, r.lk⟩
/-- the loop from a turn on -/
theorem for_core {X : Cx} {W : WN} {bd : D → Ga → R Ga} {body : Ga → R Fl} {is : List Nat} {t : TG} {tg : Expr} {J : It} {F0 H0 : Hp} {S : List (Addr × HO)} {ds : List D} {B : Bs} {E : Ends} {γ : Ga} {σ : L2.St} {tb : TS} (hbd : BdOk bd) (hg : JG X is bd t tg)
    (htb : ∀ D σ H, rdS X.K W body D σ H → tb D σ H) (gs : Goes X.K J F0 S ds) (hS : ∀ p ∈ S, p ∈ B.S) (r : RB X.K B F0 γ σ H0) (o : OutS X.K W B (forGo bd body ds γ) E) :
    ∃ Wi : Nat → Nat → L2.St → Hp → Prop, (∃ m, Wi 0 m σ H0) ∧ ∀ i m σ H, Wi i m σ H → (J.stop i H ∧ E.nx σ H) ∨
      (J.go i H ∧ ∃ N : L2.St → Hp → Prop, (∀ σ' H', N σ' H' → ∃ m', m' < m ∧ Wi (i + 1) m' σ' H') ∧ ∀ x H', J.yld i H x H' → t x σ H' fun σ2 H2 => tb { E with nx := N, ct := N, bk := E.nx } σ2 H2) := by
  refine ⟨fun i m σ H => ∃ F γ, Same F0 F ∧ RB X.K B F γ σ H ∧ OutS X.K W B (forGo bd body (ds.drop i) γ) E ∧ m = ds.length - i ∧ i ≤ ds.length, ⟨ds.length, F0, γ, .refl _, r, o, rfl, Nat.zero_le _⟩, ?_⟩
  rintro i m σ1 H1 ⟨F1, γ1, f1, r1, o1, rfl, hi⟩
  obtain ⟨g1, g2⟩ := gs F1 H1 i f1 r1.rs.emb fun p hp => (r1.fi.sS p (hS p hp)).1
  by_cases hl : i < ds.length
  · have hd : ds[i]? = some ds[i] := List.getElem?_eq_getElem hl
    obtain ⟨go, gy⟩ := g2 _ hd
    refine .inr ⟨go, fun σ' H' => ∃ F γ, Same F0 F ∧ RB X.K B F γ σ' H' ∧ OutS X.K W B (forGo bd body (ds.drop (i + 1)) γ) E, fun σ' H' ⟨F, γ', a, b, c⟩ => ⟨ds.length - (i + 1), by omega, F, γ', a, b, c, rfl, hl⟩, fun x H' hy => ?_⟩
    obtain ⟨F2, n2, p2⟩ := gy x H' hy
    have r2 := r1.next n2
    rw [List.drop_eq_getElem_cons hl] at o1
    simp only [forGo] at o1
    cases e1 : bd ds[i] γ1 with
    | ok γ2 =>
      simp only [e1, R.bind] at o1
      refine hg.go r2.rs p2 e1 fun σ2 rs2 k => ?_
      have r3 := r2.kp rs2 k
      refine htb _ _ _ ⟨{ B with F0 := F2 }, F2, γ2, r3.strong, ?_⟩
      have back : ∀ {F γ σ H}, RB X.K { B with F0 := F2 } F γ σ H → RB X.K B F γ σ H := fun q => q.weak r2.fi.f0 r2.fi.fn
      cases e2 : body γ2 with
      | ok fl =>
        rw [e2] at o1
        cases fl with
        | nx γ3 => exact fun F σ H q => ⟨F, γ3, (f1.trans n2.f).trans q.fi.f0, back q, o1⟩
        | ct γ3 => exact fun F σ H q => ⟨F, γ3, (f1.trans n2.f).trans q.fi.f0, back q, o1⟩
        | bk γ3 => exact fun F σ H q => o1 F σ H (back q)
        | rt d => exact fun v F H q p => o1 v F H (Fin.weak (h := r2.fi.f0) (hn := r2.fi.fn) q) p
        | rx _ => exact o1.elim
      | ex c => rw [e2] at o1; exact fun σ F H q => o1 σ F H (Fin.weak (h := r2.fi.f0) (hn := r2.fi.fn) q)
      | no => rw [e2] at o1; exact o1
    | ex c => exact absurd e1 (hbd _ _ _)
    | no => simp only [e1, R.bind] at o1; exact o1.elim
  · have hi' : i = ds.length := by omega
    refine .inl ⟨g1 hi', ?_⟩
    rw [List.drop_eq_nil_of_le (by omega)] at o1
    exact o1 F1 σ1 H1 r1
def fForI (it : Ga → R (List D)) (bd : D → Ga → R Ga) (body : Ga → R Fl) : Ga → R Fl := fun γ => (it γ).bind fun ds => forGo bd body ds γ
def fForE (fe : Ga → R D) (bd : D → Ga → R Ga) (body : Ga → R Fl) : Ga → R Fl := fun γ => (fe γ).bind fun d => match d with
  | .dic es => (forGo bd body (keysD es) γ).noex
  | d => (items d).bind fun ds => forGo bd body ds γ
section
variable {X : Cx} {W : WN} {bd : D → Ga → R Ga} {body : Ga → R Fl} {is : List Nat} {t : TG} {tg iter : Expr} {it : Ga → R (List D)} {fe : Ga → R D} {sts : List Stmt} {pos : Pos}
theorem js_forI (hp : PassesOwn (model X.prog X.w) X.A X.env X.xe) (hc : X.calm = true) (hbd : BdOk bd) (hi : JI X W it tg iter) (hg : JG X is bd t tg) (hb : JSs X W body sts) (hs : ∀ x, foldedSetIterable iter X.env x = pure x := by intro _; rfl) :
    JS X W (fForI it bd body) (.For tg iter sts [] pos) := ⟨PS.imp (ps_for hp hc hi.pi hg.pg hb.pss hs) fun E σ H ⟨B, F, γ, r, o⟩ => by
  refine ⟨F, γ, r.rs, ?_⟩
  unfold fForI at o
  cases e1 : it γ with
  | ok ds =>
    simp only [e1, R.bind] at o
    exact fun J F' H' n gs => for_core hbd hg (fun _ _ _ h => h) gs (fun _ h => nomatch h) (r.next n) o
  | ex c => simp only [e1, R.bind] at o; exact fun F' H' n => o σ F' H' (r.fi.next n)
  | no => simp only [e1, R.bind] at o; exact o⟩
/-- locked, unlocked -/
theorem RB.lock {K : PySem.W.Frag} {B : Bs} {F H : Hp} {γ : Ga} {σ : L2.St} (r : RB K B F γ σ H) {d : Addr} {od : Obj} {kvs : List (Key × V)} (hF : F d = some (.dK kvs)) (hH : H d = some (.dK kvs)) :
    RB K { B with S := (d, .frz od (.dK kvs)) :: B.S } F γ σ (upd H d (.frz od (.dK kvs))) := by
  have em : Emb F (upd H d (.frz od (.dK kvs))) := fun a o e => by
    by_cases q : a = d
    · subst q; rw [hF] at e; cases e; exact .inr ⟨od, kvs, rfl, upd_same⟩
    · rw [upd_ne q]; exact r.rs.emb a o e
  have ks : ∀ b u, F b = none → H b = some u → upd H d (.frz od (.dK kvs)) b = some u := fun b u h1 h2 => by
    rw [upd_ne]
    · exact h2
    · rintro rfl; rw [h1] at hF; cases hF
  have bk : ∀ i s b, γ[i]? = some s → Inn (upd H d (.frz od (.dK kvs))) s σ[i]? b → Inn H s σ[i]? b := fun i s b e h => h.back (r.rs.sl i s e) fun b u h1 h2 => ks b u (h1.have (r.rs.sl i s e)).1 h2
  refine ⟨⟨em, r.rs.len, fun i s e => (r.rs.sl i s e).keep (.refl _) fun b u _ h1 h2 => ⟨ks b u h1 h2, h1⟩, fun i j s s' b e1 e2 h1 h2 => r.rs.apart i j s s' b e1 e2 (bk _ _ b e1 h1) (bk _ _ b e2 h2)⟩, ⟨r.fi.f0, r.fi.fn, em, fun b o e => ?_, fun p hp => ?_⟩, fun i s b e h => r.ow i s b e (bk i s b e h), r.lk⟩
  · by_cases q : b = d
    · subst q
      rcases r.fi.h0 b o e with z | ⟨ob, k2, z1, z2⟩
      · rw [hH] at z; cases z; exact .inr ⟨od, kvs, rfl, List.mem_cons_self⟩
      · have := (r.fi.sS _ z2).1; rw [hH] at this; cases this
    · rw [upd_ne q]
      rcases r.fi.h0 b o e with z | ⟨ob, k2, z1, z2⟩
      · exact .inl z
      · exact .inr ⟨ob, k2, z1, List.mem_cons_of_mem _ z2⟩
  · rcases List.mem_cons.mp hp with e | hp
    · subst e; exact ⟨upd_same, od, kvs, rfl, hF⟩
    · obtain ⟨y1, ob, u, y2, y3⟩ := r.fi.sS p hp
      have q : p.1 ≠ d := by
        intro z
        rw [z, hH] at y1
        rw [y2] at y1
        cases y1
      rw [upd_ne q]; exact ⟨y1, ob, u, y2, y3⟩
theorem Fin.unlock {B : Bs} {F H : Hp} {d : Addr} {od : Obj} {kvs : List (Key × V)} (f : Fin { B with S := (d, .frz od (.dK kvs)) :: B.S } F H) (hd : ∀ p ∈ B.S, p.1 ≠ d) (h0 : ∀ o' u', B.H0 d ≠ some (.frz o' u')) : Fin B F (upd H d (.dK kvs)) := by
  obtain ⟨y1, ob, u, y2, y3⟩ := f.sS _ List.mem_cons_self
  cases y2
  refine ⟨f.f0, f.fn, fun a o e => ?_, fun b o e => ?_, fun p hp => ?_⟩
  · by_cases q : a = d
    · subst q; rw [y3] at e; cases e; exact .inl upd_same
    · rw [upd_ne q]; exact f.emb a o e
  · by_cases q : b = d
    · subst q
      rcases f.h0 b o e with z | ⟨ob, k2, z1, z2⟩
      · rw [y1] at z; cases z; exact absurd e (h0 _ _)
      · have := (f.sS _ z2).1
        rw [y1] at this
        cases this
        exact .inl (by rw [z1]; exact upd_same)
    · rw [upd_ne q]
      rcases f.h0 b o e with z | ⟨ob, k2, z1, z2⟩
      · exact .inl z
      · rcases List.mem_cons.mp z2 with w | w
        · exact absurd (Prod.mk.inj w).1 q
        · exact .inr ⟨ob, k2, z1, w⟩
  · obtain ⟨z1, z2⟩ := f.sS p (List.mem_cons_of_mem _ hp)
    rw [upd_ne (hd p hp)]; exact ⟨z1, z2⟩
theorem RB.unlock {K : PySem.W.Frag} {B : Bs} {F H : Hp} {γ : Ga} {σ : L2.St} {d : Addr} {od : Obj} {kvs : List (Key × V)} (r : RB K { B with S := (d, .frz od (.dK kvs)) :: B.S } F γ σ H) (hd : ∀ p ∈ B.S, p.1 ≠ d) (h0 : ∀ o' u', B.H0 d ≠ some (.frz o' u')) :
    RB K B F γ σ (upd H d (.dK kvs)) := by
  have f := r.fi.unlock hd h0
  obtain ⟨y1, ob, u, y2, y3⟩ := r.fi.sS _ List.mem_cons_self
  cases y2
  have ks : ∀ b u, F b = none → H b = some u → upd H d (.dK kvs) b = some u := fun b u h1 h2 => by
    rw [upd_ne]
    · exact h2
    · rintro rfl; rw [h1] at y3; cases y3
  have bk : ∀ i s b, γ[i]? = some s → Inn (upd H d (.dK kvs)) s σ[i]? b → Inn H s σ[i]? b := fun i s b e h => h.back (r.rs.sl i s e) fun b u h1 h2 => ks b u (h1.have (r.rs.sl i s e)).1 h2
  exact ⟨⟨f.emb, r.rs.len, fun i s e => (r.rs.sl i s e).keep (.refl _) fun b u _ h1 h2 => ⟨ks b u h1 h2, h1⟩, fun i j s s' b e1 e2 h1 h2 => r.rs.apart i j s s' b e1 e2 (bk _ _ b e1 h1) (bk _ _ b e2 h2)⟩, f, fun i s b e h => r.ow i s b e (bk i s b e h), r.lk⟩
theorem RB.pin {K : PySem.W.Frag} {B : Bs} {F H : Hp} {γ : Ga} {σ : L2.St} (r : RB K B F γ σ H) {d : Addr} {od : Obj} {kvs : List (Key × V)} (hF : F d = some (.dK kvs)) (hH : H d = some (.frz od (.dK kvs))) :
    RB K { B with S := (d, .frz od (.dK kvs)) :: B.S } F γ σ H :=
  ⟨r.rs, ⟨r.fi.f0, r.fi.fn, r.fi.emb, fun b o e => by
    rcases r.fi.h0 b o e with z | ⟨ob, k2, z1, z2⟩
    · exact .inl z
    · exact .inr ⟨ob, k2, z1, List.mem_cons_of_mem _ z2⟩, fun p hp => by
    rcases List.mem_cons.mp hp with e | hp
    · subst e; exact ⟨hH, od, kvs, rfl, hF⟩
    · exact r.fi.sS p hp⟩, r.ow, r.lk⟩
theorem Fin.unpin {B : Bs} {F H : Hp} {d : Addr} {od : Obj} {kvs : List (Key × V)} (f : Fin { B with S := (d, .frz od (.dK kvs)) :: B.S } F H)
    (hq : ∀ o, B.H0 d = some o → o = .frz od (.dK kvs) ∨ ∃ ob kvs, o = .dK kvs ∧ (d, HO.frz ob (.dK kvs)) ∈ B.S) : Fin B F H :=
  ⟨f.f0, f.fn, f.emb, fun b o e => by
    rcases f.h0 b o e with z | ⟨ob, k2, z1, z2⟩
    · exact .inl z
    · rcases List.mem_cons.mp z2 with w | w
      · have e1 := (Prod.mk.inj w).1
        subst e1
        rcases hq o e with y | y
        · exact .inl (by rw [y]; exact (f.sS _ List.mem_cons_self).1)
        · exact .inr y
      · exact .inr ⟨ob, k2, z1, w⟩, fun p hp => f.sS p (List.mem_cons_of_mem _ hp)⟩
theorem js_forE (hp : PassesOwn (model X.prog X.w) X.A X.env X.xe) (hc : X.calm = true) (hbd : BdOk bd) (he : J X W fe iter) (hg : JG X is bd t tg) (hb : JSs X W body sts) (hs : ∀ x, foldedSetIterable iter X.env x = pure x := by intro _; rfl) :
    JS X W (fForE fe bd body) (.For tg iter sts [] pos) := ⟨PS.imp (ps_unl (ps_for hp hc (pi_any he) hg.pg hb.pss hs)) fun E σ H ⟨B, F, γ, r, o⟩ => by
  refine ⟨F, γ, r.rs, ?_⟩
  unfold fForE at o
  have up : ∀ {B : Bs} {x : R Fl}, OutS X.K W B x E → OutS X.K W B x (unlE X E) := fun {B x} o => by
    cases x with
    | ok fl => cases fl with
      | nx γ => exact fun F σ H q => .inl (o F σ H q)
      | bk γ => exact fun F σ H q => .inl (o F σ H q)
      | ct γ => exact fun F σ H q => .inl (o F σ H q)
      | rt d => exact fun v F H q p => .inl (o v F H q p)
      | rx x => cases x with
        | rm d γ' => cases d with
          | none => exact ⟨o.1, fun F σ H q => .inl (o.2 F σ H q)⟩
          | some d => exact ⟨o.1, fun v F σ H q p => .inl (o.2 v F σ H q p)⟩
        | ro c fs => exact fun a F H q p p2 => .inl (o a F H q p p2)
    | ex c => exact o
    | no => exact o
  cases e1 : fe γ with
  | ok d =>
    simp only [e1, R.bind] at o
    cases d
    case dic es =>
      intro J F' H' d od kvs n hd gs
      have r' := r.next n
      have o : OutS X.K W B (forGo bd body (keysD es) γ).noex E := o
      have cv : ∀ {S' : List (Addr × HO)}, (∀ F γ σ H, RB X.K { B with S := S' } F γ σ H → ∀ {T : L2.St → Hp → Prop}, (∀ F σ H, RB X.K B F γ σ H → T σ H) → Ul X (T σ) H) →
          (∀ F H, Fin { B with S := S' } F H → ∀ {x : D} {T : V → Hp → Prop} {v : V}, (∀ v F H, Fin B F H → Rep X.K F x v → T v H) → Rep X.K F x v → Ul X (T v) H) → OutS X.K W { B with S := S' } (forGo bd body (keysD es) γ) (unlE X E) := fun {S'} c1 c2 => by
        cases e2 : forGo bd body (keysD es) γ with
        | ok fl =>
          rw [e2] at o
          cases fl with
          | nx γ => exact fun F σ H q => c1 F γ σ H q o
          | bk γ => exact fun F σ H q => c1 F γ σ H q o
          | ct γ => exact fun F σ H q => c1 F γ σ H q o
          | rt x => exact fun v F H q p => c2 F H q o p
          | rx x => exact absurd e2 (forGo_rm _ _ _)
        | ex c => rw [e2] at o; exact o.elim
        | no => rw [e2] at o; exact o.elim
      refine ⟨fun z hn => ?_, fun z => ?_⟩
      · have hS : ∀ p ∈ B.S, p.1 ≠ d := fun p hp q => by
          obtain ⟨y1, ob, u, y2, y3⟩ := r'.fi.sS p hp
          rw [q, z, y2] at y1; cases y1
        have h0 : ∀ o' u', B.H0 d ≠ some (.frz o' u') := fun o' u' e => by
          rcases r'.fi.h0 d _ e with y | ⟨_, _, y, _⟩
          · rw [z] at y; cases y
          · cases y
        have hit : ∀ {F H : Hp}, Fin { B with S := (d, .frz od (.dK kvs)) :: B.S } F H → H d = some (.frz od (.dK kvs)) := fun f => (f.sS _ List.mem_cons_self).1
        refine for_core hbd hg (fun _ _ _ h => h) gs (fun p hp => ?_) (r'.lock (od := od) hd z) (cv (fun F γ σ H q T f => .inr ⟨d, od, _, hit q.fi, hn, f F σ _ (q.unlock hS h0)⟩) fun F H q x T v f p => .inr ⟨d, od, _, hit q, hn, f v F _ (q.unlock hS h0) p⟩)
        rw [List.mem_singleton.mp hp]; exact List.mem_cons_self
      · have hq : ∀ o, B.H0 d = some o → o = .frz od (.dK kvs) ∨ ∃ ob kvs, o = .dK kvs ∧ (d, HO.frz ob (.dK kvs)) ∈ B.S := fun o e => by
          rcases r'.fi.h0 d o e with y | y
          · rw [z] at y; cases y; exact .inl rfl
          · exact .inr y
        refine for_core hbd hg (fun _ _ _ h => h) gs (fun p hp => ?_) (r'.pin (od := od) hd z) (cv (fun F γ σ H q T f => .inl (f F σ _ ⟨q.rs, q.fi.unpin hq, q.ow, q.lk⟩)) fun F H q x T v f p => .inl (f v F _ (q.unpin hq) p))
        rw [List.mem_singleton.mp hp]; exact List.mem_cons_self
    case non => exact o.elim
    case bl _ => exact o.elim
    case int _ => exact o.elim
    case str s =>
      refine ⟨sgn s, rfl, fun J F' H' n gs => for_core hbd hg (fun _ _ _ h => h) gs (fun _ h => nomatch h) (r.next n) (up o)⟩
    case lst xs =>
      refine ⟨xs, rfl, fun J F' H' n gs => for_core hbd hg (fun _ _ _ h => h) gs (fun _ h => nomatch h) (r.next n) (up o)⟩
    case tup xs =>
      refine ⟨xs, rfl, fun J F' H' n gs => for_core hbd hg (fun _ _ _ h => h) gs (fun _ h => nomatch h) (r.next n) (up o)⟩
  | ex c => simp only [e1, R.bind] at o; exact fun F' H' n => o σ F' H' (r.fi.next n)
  | no => simp only [e1, R.bind] at o; exact o⟩
/-! ### while -/
/-! ### defs -/
def fnD (n : Nat) (body : Ga → R Fl) (ds : List D) : R D := match body (ds.map .va ++ List.replicate (n - ds.length) .un) with
  | .ok (.rt d) => .ok d
  | .ok (.nx _) => .ok .non
  | .ex c => .ex c
  | _ => .no
theorem start_ow {ds : List D} {k i : Nat} {s : Sl} {H : Hp} {x : Option (Option V)} {b : Addr} (h : (ds.map Sl.va ++ List.replicate k .un)[i]? = some s) : ¬ Inn H s x b := fun z => by
  by_cases l : i < ds.length
  · rw [List.getElem?_append_left (by simpa using l), List.getElem?_map, List.getElem?_eq_getElem l] at h
    cases h; exact z
  · rw [List.getElem?_append_right (by simpa using l), List.getElem?_replicate] at h
    split at h <;> cases h
    exact z
theorem rs_start {K : PySem.W.Frag} {F H : Hp} {N : List Str} {ds : List D} {vs : List V} (e : Emb F H) (r : Reps K F ds vs) : RS K F (ds.map .va ++ List.replicate (N.length - ds.length) .un) (L2.start N vs) H := by
  refine ⟨e, by simp [L2.start, r.length], fun i s h => ?_, fun i j d d' a h => ?_⟩
  · by_cases l : i < ds.length
    · rw [List.getElem?_append_left (by simpa using l)] at h
      rw [List.getElem?_map, List.getElem?_eq_getElem l] at h
      cases h
      obtain ⟨v, hv, p⟩ := r.get (List.getElem?_eq_getElem l)
      refine ⟨v, ?_, p⟩
      unfold L2.start
      rw [List.getElem?_append_left (by simpa [r.length] using (List.getElem?_eq_some_iff.mp hv).1), List.getElem?_map, hv]
      rfl
    · rw [List.getElem?_append_right (by simpa using l), List.getElem?_replicate] at h
      split at h
      · cases h; trivial
      · cases h
  · exact fun _ h2 _ => absurd h2 (start_ow h)
section
variable {P : Program} {w : World} {K : PySem.W.Frag} {mg : Str → Option Value} {base : Heap}
abbrev cxD (P : Program) (w : World) (K : PySem.W.Frag) (mg : Str → Option Value) (base : Heap) (N : List Str) (qual : Str) (st : Stmt) (f : Addr) (cdv : Value) (A : Around) (outer : List Env) (s : Shared) (H : Hp) (E : XK) : Cx :=
  cxOf (L2.CX P w) P w K mg base N qual (defScope st) f cdv A outer s H E
abbrev wnD (cl : Cl) (E : XK) : WN := fun c _ H => E (cl c) none H
theorem takes_D {cl : Cl} {N : List Str} {qual : Str} {st : Stmt} {f : Addr} {cdv : Value} {A : Around} {outer : List Env} {s : Shared} {H : Hp} {E : XK} : Takes (cxD P w K mg base N qual st f cdv A outer s H E) (VW cl (wnD cl E)) :=
  (takes_of (E := E) rfl rfl rfl rfl).imp fun c d σ H ⟨c', e1, e2, h⟩ => by subst e1 e2; exact h
theorem passes_D {N : List Str} {qual : Str} {st : Stmt} {f : Addr} {cdv : Value} {A : Around} {outer : List Env} {s : Shared} {H : Hp} {E : XK} : PassesOwn (model P w) (cxD P w K mg base N qual st f cdv A outer s H E).A (cxD P w K mg base N qual st f cdv A outer s H E).env (cxD P w K mg base N qual st f cdv A outer s H E).xe :=
  passes_of rfl
theorem fok {x qual : Str} {st : Stmt} {f : Addr} {fd : FuncData} {N ps : List Str} {k n m : Nat} {cl : Cl} {body : Ga → R Fl} (Fu : Fun K x qual st f fd) (S : FnScope N ps (defScope st)) (hn : N.length = n) (hm : ps.length = m)
    (hb : ∀ (cdv : Value) (A : Around) (outer : List Env) (s : Shared) (H : Hp) (E : XK), Room k (A.deeper (envOfC qual (defScope st) s.heap.objs.size f cdv)) → JSs (cxD P w K mg base N qual st f cdv A outer s H E) (wnD cl E) body (defBody st)) :
    FnOk P w K mg base (L2.CX P w) (k + 1) f fd ps (spD K cl m (fnD n body)) := by
  refine Fu.okX S (fun vs H Q E h => ?_) fun cdv A outer s H vs Q E hr h => ?_
  · obtain ⟨F, ds, h1, _⟩ := h
    rw [h1, hm]
  · refine ⟨_, (hb cdv A outer s H E hr).pss, ?_⟩
    obtain ⟨F, ds, h1, em, rp, o⟩ := h
    subst hn
    have r := rs_start (N := N) em rp
    refine ⟨⟨F, H, [], none⟩, F, _, ⟨r, .start em, fun i d a e1 e2 => absurd e2 (start_ow e1), fun _ _ _ _ _ _ h => nomatch h⟩, ?_⟩
    · unfold fnD at o
      cases e : body (ds.map .va ++ List.replicate (N.length - ds.length) .un) with
      | ok fl =>
        rw [e] at o
        cases fl with
        | nx γ => exact fun F' σ' H' q => o _ F' H' q.fi.nxt .non
        | rt d => exact fun v F' H' q p => o v F' H' q.nxt p
        | rx _ => exact o.elim
        | bk γ => exact o.elim
        | ct γ => exact o.elim
      | ex c => rw [e] at o; exact fun σ' F' H' q => o F' H' q.nxt
      | no => rw [e] at o; exact o.elim
end
end
end KN
/-! KnH: comprehensions, own things changed, dicts, texts -/
namespace KN
open PySem PySem.Spec PyProof.Rows L2
/-! ### comprehensions -/
def wipeG (γ : Ga) : List Nat → Ga
  | [] => γ
  | v :: vs => (wipeG γ vs).set v .un
theorem wipeG_len (γ : Ga) : ∀ vs, (wipeG γ vs).length = γ.length
  | [] => rfl
  | v :: vs => by simp [wipeG, wipeG_len γ vs]
theorem wipeG_get {γ : Ga} {i : Nat} {s : Sl} : ∀ {vs : List Nat}, (wipeG γ vs)[i]? = some s → s = .un ∨ (i ∉ vs ∧ γ[i]? = some s)
  | [], h => .inr ⟨by simp, h⟩
  | v :: vs, h => by
    unfold wipeG at h
    by_cases hi : v = i
    · subst hi
      by_cases hv : v < (wipeG γ vs).length
      · rw [List.getElem?_set_self hv] at h; cases h; exact .inl rfl
      · rw [List.getElem?_eq_none (by simpa using hv)] at h; cases h
    · rw [List.getElem?_set_ne hi] at h
      rcases wipeG_get h with h | ⟨h1, h2⟩
      · exact .inl h
      · exact .inr ⟨by simp only [List.mem_cons, not_or]; exact ⟨fun e => hi e.symm, h1⟩, h2⟩
theorem wipe_out {σ : L2.St} {i : Nat} : ∀ {vs : List Nat}, i ∉ vs → (wipe σ vs)[i]? = σ[i]?
  | [], _ => rfl
  | v :: vs, h => by
    unfold wipe
    simp only [List.mem_cons, not_or] at h
    rw [List.getElem?_set_ne (fun e => h.1 e.symm)]
    exact wipe_out h.2
theorem wipe_in {σ : L2.St} {i : Nat} : ∀ {vs : List Nat}, i ∈ vs → i < σ.length → (wipe σ vs)[i]? = some none
  | [], h, _ => nomatch h
  | v :: vs, h, hl => by
    unfold wipe
    by_cases hi : v = i
    · subst hi; rw [List.getElem?_set_self (by rw [wipe_length]; exact hl)]
    · rw [List.getElem?_set_ne hi]
      rcases List.mem_cons.mp h with e | h
      · exact absurd e.symm hi
      · exact wipe_in h hl
theorem wipe_same {σ σ' : L2.St} {vs : List Nat} (hl : σ'.length = σ.length) (ho : ∀ j, j ∉ vs → σ'[j]? = σ[j]?) : wipe σ' vs = wipe σ vs := by
  apply List.ext_getElem?
  intro i
  by_cases h : i ∈ vs
  · by_cases l : i < σ.length
    · rw [wipe_in h l, wipe_in h (by rw [hl]; exact l)]
    · rw [List.getElem?_eq_none (by rw [wipe_length, hl]; omega), List.getElem?_eq_none (by rw [wipe_length]; omega)]
  · rw [wipe_out h, wipe_out h, ho i h]
theorem wipe_wipe {σ : L2.St} {vs : List Nat} : wipe (wipe σ vs) vs = wipe σ vs := wipe_same (wipe_length _ _) fun j h => wipe_out h
theorem RS.wipe {K : PySem.W.Frag} {F H : Hp} {γ : Ga} {σ : L2.St} (r : RS K F γ σ H) (vs : List Nat) : RS K F (wipeG γ vs) (L2.wipe σ vs) H := by
  refine ⟨r.emb, by rw [wipeG_len, wipe_length, r.len], fun i s e => ?_, fun i j d d' a e1 e2 h1 h2 => ?_⟩
  · rcases wipeG_get e with rfl | ⟨h1, h2⟩
    · trivial
    · rw [wipe_out h1]; exact r.sl i s h2
  · rcases wipeG_get e1 with z | ⟨z1, z2⟩
    · subst z; exact h1.elim
    · rcases wipeG_get e2 with y | ⟨y1, y2⟩
      · subst y; exact h2.elim
      · rw [wipe_out z1] at h1
        rw [wipe_out y1] at h2
        exact r.apart i j d d' a z2 y2 h1 h2
def lcGo (bd : D → Ga → R Ga) (ifs : Ga → R Bool) (elt : Ga → R D) (γ : Ga) : List D → R (List D)
  | [] => .ok []
  | x :: xs => (bd x γ).noex.bind fun γ1 => (ifs γ1).noex.bind fun b => if b = true then (elt γ1).noex.bind fun y => (lcGo bd ifs elt γ xs).bind fun ys => .ok (y :: ys) else lcGo bd ifs elt γ xs
theorem lcGo_ne {bd : D → Ga → R Ga} {ifs : Ga → R Bool} {elt : Ga → R D} {γ : Ga} : ∀ xs c, lcGo bd ifs elt γ xs ≠ .ex c := by
  intro xs
  induction xs with
  | nil => intro c h; cases h
  | cons x xs ih =>
    intro c h
    unfold lcGo at h
    cases e1 : bd x γ <;> simp only [e1, R.noex, R.bind] at h <;> try (cases h; done)
    rename_i γ1
    cases e2 : ifs γ1 <;> simp only [e2, R.noex, R.bind] at h <;> try (cases h; done)
    rename_i b
    cases b <;> simp only [Bool.false_eq_true, if_false, if_true] at h
    · exact ih c h
    · cases e3 : elt γ1 <;> simp only [e3, R.noex, R.bind] at h <;> try (cases h; done)
      cases e4 : lcGo bd ifs elt γ xs <;> simp only [e4, R.bind] at h <;> try (cases h; done)
      exact ih _ e4
abbrev W0 : WN := fun _ _ _ => False
/-- the tests of a comprehension: none, or one -/
def yes : Ga → R Bool := fun _ => .ok true
structure JIfs (X : Cx) (f : Ga → R Bool) (t : TT) (es : List Expr) : Prop where
  pts : PTs X es t
  go : ∀ {σ : L2.St} {H F : Hp} {γ : Ga} {Q : Bool → Hp → Prop}, RS X.K F γ σ H → OutT F H (fun _ _ => False) (f γ) Q → t σ H Q
theorem jifs_nil {X : Cx} : JIfs X yes tYes [] := ⟨pts_nil, fun {σ H F γ Q} r o => o F H (.refl r.emb)⟩
theorem jifs_one {X : Cx} {f : Ga → R Bool} {e : Expr} (h : JT X W0 f e) : JIfs X f (rdT X.K W0 f) [e] := ⟨pts_one h.pt, fun {σ H F γ Q} r o => ⟨F, γ, r, o⟩⟩
theorem jifs_oneK {X : Cx} {K : PySem.W.Frag} {f : Ga → R Bool} {e : Expr} (hK : X.K = K) (h : JT X W0 f e) : JIfs X f (rdT K W0 f) [e] := by
  subst hK
  exact jifs_one h
/-- the walk of a comprehension -/
theorem lc_core {K : PySem.W.Frag} {bd : D → Ga → R Ga} {ifs : Ga → R Bool} {elt : Ga → R D} {vs : List Nat} {g : TG} {tt : TT} {te : TE} {J : It} {F0 H0 : Hp} {S : List (Addr × HO)} {ds ys : List D} {γ : Ga} {σ : L2.St} {D0 : Addr} {Q : Hp → Prop}
    (hg : ∀ {F : Hp} {γ γ' : Ga} {σ : L2.St} {H : Hp} {d : D} {v : V} {Q : L2.St → Hp → Prop}, RS K F γ σ H → Rep K F d v → bd d γ = .ok γ' → (∀ σ', RS K F γ' σ' H → Kp vs γ σ γ' σ' → Q σ' H) → g v σ H Q)
    (ht : ∀ {σ : L2.St} {H F : Hp} {γ : Ga} {Q : Bool → Hp → Prop}, RS K F γ σ H → OutT F H (fun _ _ => False) (ifs γ) Q → tt σ H Q)
    (he : ∀ {σ : L2.St} {H F : Hp} {γ : Ga} {Q : VK}, RS K F γ σ H → Out (PV K F H) F H (fun _ _ => False) (elt γ) Q → te σ H Q)
    (gs : Goes K J F0 S ds) (hS : ∀ p ∈ S, H0 p.1 = some p.2) (r : RS K F0 γ σ H0) (o : lcGo bd ifs elt (wipeG γ vs) ds = .ok ys) (hz : ys.length < sizeLine) (hD : H0 D0 = none)
    (fin : ∀ F' H', Nxt F0 H0 F' H' → F' D0 = none → (∃ us, H' D0 = some (.lst us) ∧ Reps K F' ys us) → Q H') :
    ∃ Wi : Nat → Nat → Hp → Prop, (∃ m, Wi 0 m (upd H0 D0 (.lst []))) ∧ ∀ i m H, Wi i m H → (J.stop i H ∧ Q H) ∨
      (J.go i H ∧ ∃ Nx : Hp → Prop, (∀ H', Nx H' → ∃ m', m' < m ∧ Wi (i + 1) m' H') ∧ ∀ x H', J.yld i H x H' → g x (wipe σ vs) H' fun σ2 H2 => wipe σ2 vs = wipe σ vs ∧ tt σ2 H2 fun b H3 =>
        if b = true then te σ2 H3 fun y H4 => ∃ acc, H4 D0 = some (.lst acc) ∧ acc.length < sizeLine ∧ Nx (upd H4 D0 (.lst (acc ++ [y]))) else Nx H3) := by
  have dS : ∀ p ∈ S, p.1 ≠ D0 := fun p hp q => by have := hS p hp; rw [q, hD] at this; cases this
  -- the state: what was made so far, what is left to make
  refine ⟨fun i m H => ∃ F zs rest us, Nxt F0 H0 F H ∧ F D0 = none ∧ H D0 = some (.lst us) ∧ Reps K F zs us ∧ lcGo bd ifs elt (wipeG γ vs) (ds.drop i) = .ok rest ∧ ys = zs ++ rest ∧ (∀ p ∈ S, H p.1 = some p.2) ∧ m = ds.length - i ∧ i ≤ ds.length,
    ⟨ds.length, F0, [], ys, [], .laid r.emb hD _, r.emb.free hD, upd_same, .nil, o, rfl, fun p hp => by rw [upd_ne (dS p hp)]; exact hS p hp, rfl, Nat.zero_le _⟩, ?_⟩
  rintro i m H1 ⟨F1, zs, rest, us, n1, fD, hus, rp, o1, ey, hS1, rfl, hi⟩
  obtain ⟨g1, g2⟩ := gs F1 H1 i n1.f n1.emb hS1
  by_cases hl : i < ds.length
  · have hd : ds[i]? = some ds[i] := List.getElem?_eq_getElem hl
    obtain ⟨go, gy⟩ := g2 _ hd
    rw [List.drop_eq_getElem_cons hl] at o1
    unfold lcGo at o1
    cases e1 : bd ds[i] (wipeG γ vs) with
    | ok γ2 =>
      simp only [e1, R.noex, R.bind] at o1
      refine .inr ⟨go, fun H' => ∃ F zs rest us, Nxt F0 H0 F H' ∧ F D0 = none ∧ H' D0 = some (.lst us) ∧ Reps K F zs us ∧ lcGo bd ifs elt (wipeG γ vs) (ds.drop (i + 1)) = .ok rest ∧ ys = zs ++ rest ∧ (∀ p ∈ S, H' p.1 = some p.2),
        fun H' ⟨F, zs, rest, us, a⟩ => ⟨ds.length - (i + 1), by omega, F, zs, rest, us, a.1, a.2.1, a.2.2.1, a.2.2.2.1, a.2.2.2.2.1, a.2.2.2.2.2.1, a.2.2.2.2.2.2, rfl, hl⟩, fun x H' hy => ?_⟩
      obtain ⟨F2, n2, p2⟩ := gy x H' hy
      have n02 := n1.trans n2
      have r2 := (r.next n02).wipe vs
      refine hg r2 p2 e1 fun σ2 rs2 k => ⟨(wipe_same k.len k.out).trans wipe_wipe, ht rs2 ?_⟩
      have keep : ∀ {F3 H3 : Hp}, Nxt F2 H' F3 H3 → Nxt F1 H1 F3 H3 ∧ F3 D0 = none ∧ H3 D0 = some (.lst us) ∧ Reps K F3 zs us ∧ ∀ p ∈ S, H3 p.1 = some p.2 := fun {F3 H3} n3 => by
        have n13 := n2.trans n3
        refine ⟨n13, ?_, n13.h _ _ hus, rp.mono n13.f, fun p hp => n13.h _ _ (hS1 p hp)⟩
        cases q : F3 D0 with
        | none => rfl
        | some u =>
          rcases n13.fn _ _ q with z | z
          · rw [fD] at z; cases z
          · rw [hus] at z; cases z
      cases e2 : ifs γ2 with
      | ok b =>
        simp only [e2] at o1
        intro F3 H3 n3
        obtain ⟨k1, k2, k3, k4, k5⟩ := keep n3
        cases b with
        | false =>
          simp only [Bool.false_eq_true, if_false] at o1 ⊢
          exact ⟨F3, zs, rest, us, n1.trans k1, k2, k3, k4, o1, ey, k5⟩
        | true =>
          simp only [if_true] at o1 ⊢
          refine he (rs2.next n3) ?_
          cases e3 : elt γ2 with
          | ok y =>
            simp only [e3] at o1
            intro v F4 H4 n4 p4
            obtain ⟨l1, l2, l3, l4, l5⟩ := keep (n3.trans n4)
            cases e4 : lcGo bd ifs elt (wipeG γ vs) (ds.drop (i + 1)) with
            | ok rest' =>
              simp only [e4] at o1
              cases o1
              have hlen : us.length < sizeLine := by
                rw [← rp.length]
                have : ys.length = zs.length + (rest'.length + 1) := by rw [ey]; simp
                omega
              have n04 := n1.trans l1
              refine ⟨us, l3, hlen, F4, zs ++ [y], rest', us ++ [v], ⟨n04.f, n04.fn, fun a u z => ?_, fun b u z => ?_⟩, l2, upd_same, l4.append (.cons p4 .nil), rfl, by rw [ey]; simp, fun p hp => by rw [upd_ne (dS p hp)]; exact l5 p hp⟩
              · rw [upd_ne (ne_of_none z l2)]; exact n04.emb a u z
              · rw [upd_ne (ne_of_none z hD)]; exact n04.h b u z
            | ex c => exact absurd e4 (lcGo_ne _ _)
            | no => simp only [e4] at o1; cases o1
          | ex c => simp only [e3] at o1; cases o1
          | no => simp only [e3] at o1; cases o1
      | ex c => simp only [e2] at o1; cases o1
      | no => simp only [e2] at o1; cases o1
    | ex c => simp only [e1, R.noex, R.bind] at o1; cases o1
    | no => simp only [e1, R.noex, R.bind] at o1; cases o1
  · have hi' : i = ds.length := by omega
    refine .inl ⟨g1 hi', fin F1 H1 n1 fD ⟨us, hus, ?_⟩⟩
    rw [List.drop_eq_nil_of_le (by omega)] at o1
    cases o1
    rw [ey, List.append_nil]
    exact rp
def lcOut (bd : D → Ga → R Ga) (ifs : Ga → R Bool) (elt : Ga → R D) (vs : List Nat) (γ : Ga) (ds : List D) : R D := (lcGo bd ifs elt (wipeG γ vs) ds).bind fun ys => if ys.length ≤ lim then .ok (.lst ys) else .no
def bLcI (it : Ga → R (List D)) (vs : List Nat) (bd : D → Ga → R Ga) (ifs : Ga → R Bool) (elt : Ga → R D) : Ga → R D := fun γ => (it γ).bind fun ds => lcOut bd ifs elt vs γ ds
def bLcE (fe : Ga → R D) (vs : List Nat) (bd : D → Ga → R Ga) (ifs : Ga → R Bool) (elt : Ga → R D) : Ga → R D := fun γ => (fe γ).bind fun d => (items d).bind fun ds => lcOut bd ifs elt vs γ ds
theorem lcOut_ne {bd : D → Ga → R Ga} {ifs : Ga → R Bool} {elt : Ga → R D} {vs : List Nat} {γ : Ga} {ds : List D} {c : Nat} : lcOut bd ifs elt vs γ ds ≠ .ex c := by
  unfold lcOut
  cases e : lcGo bd ifs elt (wipeG γ vs) ds with
  | ok ys => simp only [R.bind]; split <;> intro h <;> cases h
  | ex c => exact absurd e (lcGo_ne _ _)
  | no => intro h; cases h
theorem lcOut_ok {bd : D → Ga → R Ga} {ifs : Ga → R Bool} {elt : Ga → R D} {vs : List Nat} {γ : Ga} {ds : List D} {d : D} (h : lcOut bd ifs elt vs γ ds = .ok d) : ∃ ys, d = .lst ys ∧ lcGo bd ifs elt (wipeG γ vs) ds = .ok ys ∧ ys.length < sizeLine := by
  unfold lcOut at h
  cases e : lcGo bd ifs elt (wipeG γ vs) ds with
  | ok ys =>
    rw [e] at h
    simp only [R.bind] at h
    split at h
    · cases h; exact ⟨ys, rfl, rfl, by have : lim < sizeLine := by (rw [sizeLine_eq]; decide)
                                       omega⟩
    · cases h
  | ex c => exact absurd e (lcGo_ne _ _)
  | no => rw [e] at h; cases h
section
variable {X : Cx} {W : WN} {bd : D → Ga → R Ga} {ifs : Ga → R Bool} {elt fe : Ga → R D} {it : Ga → R (List D)} {own : List (Str × Nat)} {g : TG} {tt : TT} {tg iter e : Expr} {es : List Expr} {scope : Scope} {pos : Pos}
/-- the block's parts -/
structure Blk (X : Cx) (scope : Scope) (own : List (Str × Nat)) (bd : D → Ga → R Ga) (ifs : Ga → R Bool) (elt : Ga → R D) (g : TG) (tt : TT) (tg : Expr) (es : List Expr) (e : Expr) : Prop where
  ok : BlkOk X.N X.env.scope scope own
  hg : ∀ (s : Shared) (H : Hp) (C : Addr) (cl : List (Str × Addr)) (fp : List Addr), JG (X.blk s H scope (compEnvC scope cl C X.env) fp) (own.map (·.2)) bd g tg
  ht : ∀ (s : Shared) (H : Hp) (C : Addr) (cl : List (Str × Addr)) (fp : List Addr), JIfs (X.blk s H scope (compEnvC scope cl C X.env) fp) ifs tt es
  he : ∀ (s : Shared) (H : Hp) (C : Addr) (cl : List (Str × Addr)) (fp : List Addr), J (X.blk s H scope (compEnvC scope cl C X.env) fp) W0 elt e
theorem tLc_of {σ : L2.St} {H F : Hp} {γ : Ga} {ds ys : List D} {J : It} {S : List (Addr × HO)} {Q : VK} (b : Blk X scope own bd ifs elt g tt tg es e) (r : RS X.K F γ σ H) (gs : Goes X.K J F S ds) (hS : ∀ p ∈ S, H p.1 = some p.2)
    (o : lcGo bd ifs elt (wipeG γ (own.map (·.2))) ds = .ok ys) (hz : ys.length < sizeLine)
    (fin : ∀ a F' H', Nxt F H F' H' → H a = none → F' a = none → Own X.K F' H' (.lst ys) a → Q (.ref a) H') : ∀ D0, H D0 = none → ∃ Wi : Nat → Nat → Hp → Prop, (∃ m, Wi 0 m (upd H D0 (.lst []))) ∧ ∀ i m H, Wi i m H →
      (J.stop i H ∧ Q (.ref D0) H) ∨ (J.go i H ∧ ∃ Nx : Hp → Prop, (∀ H', Nx H' → ∃ m', m' < m ∧ Wi (i + 1) m' H') ∧ ∀ x H', J.yld i H x H' → g x (wipe σ (own.map (·.2))) H' fun σ2 H2 => wipe σ2 (own.map (·.2)) = wipe σ (own.map (·.2)) ∧ tt σ2 H2 fun b H3 =>
        if b = true then rdV X.K W0 elt σ2 H3 fun y H4 => ∃ acc, H4 D0 = some (.lst acc) ∧ acc.length < sizeLine ∧ Nx (upd H4 D0 (.lst (acc ++ [y]))) else Nx H3) := fun D0 hD =>
  lc_core (K := X.K) (fun {F γ γ' σ H d v Q} r p e q => (b.hg X.s_0 X.H_0 X.env.locals [] []).go r p e q) (fun {σ H F γ Q} r o => (b.ht X.s_0 X.H_0 X.env.locals [] []).go r o)
    (fun {σ H F γ Q} r o => ⟨F, γ, r, o⟩) gs hS r o hz hD fun F' H' n f0 ow => fin D0 F' H' n hD f0 ow
theorem jf_lcI (hc : X.calm = true) (hN : X.N.Nodup) (hi : JI X W it tg iter) (b : Blk X scope own bd ifs elt g tt tg es e) (hs : ∀ x, foldedSetIterable iter X.env x = pure x := by intro _; rfl) :
    JF X W (bLcI it (own.map (·.2)) bd ifs elt) (.ListComp e [⟨tg, iter, es, 0⟩] scope pos) := ⟨PE.imp (pe_lc hc hN hi.pi b.ok (fun s H C cl fp => (b.hg s H C cl fp).pg) (fun s H C cl fp => (b.ht s H C cl fp).pts) (fun s H C cl fp => (b.he s H C cl fp).pe) hs) fun σ H Q ⟨F, γ, r, o⟩ => by
  refine ⟨F, γ, r, ?_⟩
  unfold bLcI at o
  cases e1 : it γ with
  | ok ds =>
    simp only [e1, R.bind] at o
    intro J F' H' n gs
    cases e2 : lcOut bd ifs elt (own.map (·.2)) γ ds with
    | ok d =>
      rw [e2] at o
      obtain ⟨ys, rfl, h1, h2⟩ := lcOut_ok e2
      exact tLc_of b (r.next n) gs (fun _ h => nomatch h) h1 h2 fun a F2 H2 n2 ha f0 ow => PF.next (Q := Q) o n a F2 H2 n2 ha f0 ow
    | ex c => exact absurd e2 lcOut_ne
    | no => rw [e2] at o; exact o.elim
  | ex c => simp only [e1, R.bind] at o; exact o
  | no => simp only [e1, R.bind] at o; exact o⟩
/-- what a walked value asks, in an expression: unlocked at the end -/
theorem lcE_of {σ : L2.St} {H F : Hp} {γ : Ga} {Q : VK} (b : Blk X scope own bd ifs elt g tt tg es e) (r : RS X.K F γ σ H) (o : Out (PF X.K F H) F H (fun c H' => W c σ H') (bLcE fe (own.map (·.2)) bd ifs elt γ) Q) :
    tLc (rdE X W fe) g tt (rdV X.K W0 elt) (own.map (·.2)) σ H fun v => Ul X (Q v) := by
  refine ⟨F, γ, r, ?_⟩
  unfold bLcE at o
  cases e1 : fe γ with
  | ok d =>
    simp only [e1, R.bind] at o
    have simple : ∀ {ds : List D}, Out (PF X.K F H) F H (fun c H' => W c σ H') (lcOut bd ifs elt (own.map (·.2)) γ ds) Q → ∀ J F' H', Nxt F H F' H' → Goes X.K J F' [] ds → ∀ D0, H' D0 = none → ∃ Wi : Nat → Nat → Hp → Prop, (∃ m, Wi 0 m (upd H' D0 (.lst []))) ∧ ∀ i m H, Wi i m H →
      (J.stop i H ∧ Ul X (Q (.ref D0)) H) ∨ (J.go i H ∧ ∃ Nx : Hp → Prop, (∀ H', Nx H' → ∃ m', m' < m ∧ Wi (i + 1) m' H') ∧ ∀ x H', J.yld i H x H' → g x (wipe σ (own.map (·.2))) H' fun σ2 H2 => wipe σ2 (own.map (·.2)) = wipe σ (own.map (·.2)) ∧ tt σ2 H2 fun b H3 =>
        if b = true then rdV X.K W0 elt σ2 H3 fun y H4 => ∃ acc, H4 D0 = some (.lst acc) ∧ acc.length < sizeLine ∧ Nx (upd H4 D0 (.lst (acc ++ [y]))) else Nx H3) := fun {ds} o J F' H' n gs => by
      cases e2 : lcOut bd ifs elt (own.map (·.2)) γ ds with
      | ok d =>
        rw [e2] at o
        obtain ⟨ys, rfl, h1, h2⟩ := lcOut_ok e2
        exact tLc_of (Q := fun v => Ul X (Q v)) b (r.next n) gs (fun _ h => nomatch h) h1 h2 fun a F2 H2 n2 ha f0 ow => .inl (PF.next (Q := Q) o n a F2 H2 n2 ha f0 ow)
      | ex c => exact absurd e2 lcOut_ne
      | no => rw [e2] at o; exact o.elim
    cases d
    case non => exact o.elim
    case bl _ => exact o.elim
    case int _ => exact o.elim
    case str s => exact ⟨sgn s, rfl, simple o⟩
    case lst xs => exact ⟨xs, rfl, simple o⟩
    case tup xs => exact ⟨xs, rfl, simple o⟩
    case dic ks =>
      intro J F' H' d od kvs n hd gs
      have o : Out (PF X.K F H) F H (fun c H' => W c σ H') (lcOut bd ifs elt (own.map (·.2)) γ (keysD ks)) Q := o
      cases e2 : lcOut bd ifs elt (own.map (·.2)) γ (keysD ks) with
      | ok x =>
        rw [e2] at o
        obtain ⟨ys, rfl, h1, h2⟩ := lcOut_ok e2
        have r' := r.next n
        refine ⟨fun z hn => ?_, fun z => ?_⟩
        · -- locked by us
          have em : Emb F' (upd H' d (.frz od (.dK kvs))) := fun a o e => by
            by_cases q : a = d
            · subst q; rw [hd] at e; cases e; exact .inr ⟨od, kvs, rfl, upd_same⟩
            · rw [upd_ne q]; exact n.emb a o e
          have rl : RS X.K F' γ σ (upd H' d (.frz od (.dK kvs))) := by
            have ks : ∀ b u, F' b = none → H' b = some u → upd H' d (.frz od (.dK kvs)) b = some u := fun b u h1 h2 => by
              rw [upd_ne]
              · exact h2
              · rintro rfl; rw [h1] at hd; cases hd
            have bk : ∀ i s b, γ[i]? = some s → Inn (upd H' d (.frz od (.dK kvs))) s σ[i]? b → Inn H' s σ[i]? b := fun i s b e h => h.back (r'.sl i s e) fun b u h1 h2 => ks b u (h1.have (r'.sl i s e)).1 h2
            exact ⟨em, r'.len, fun i s e => (r'.sl i s e).keep (.refl _) fun b u _ h1 h2 => ⟨ks b u h1 h2, h1⟩, fun i j s s' b e1 e2 h1 h2 => r'.apart i j s s' b e1 e2 (bk _ _ b e1 h1) (bk _ _ b e2 h2)⟩
          refine tLc_of (Q := fun v => Ul X (Q v)) b rl gs (fun p hp => by rw [List.mem_singleton.mp hp]; exact upd_same) h1 h2 fun a F2 H2 n2 ha f0 ow => ?_
          have had : a ≠ d := fun q => by rw [q, upd_same] at ha; cases ha
          have hd2 : F2 d = some (.dK kvs) := n2.f _ _ hd
          refine .inr ⟨d, od, .dK kvs, n2.h _ _ upd_same, hn, ?_⟩
          rw [upd_ne had] at ha
          refine o a F2 _ ⟨n.f.trans n2.f, fun c u q => ?_, fun c u q => ?_, fun c u q => ?_⟩ (n.h.free ha) f0 (ow.next (.refl _) fun u q => by rw [upd_ne had]; exact q)
          · rcases n2.fn c u q with y | y
            · exact n.fn c u y
            · by_cases w : c = d
              · subst w; rw [upd_same] at y; cases y
              · rw [upd_ne w] at y; exact .inr (n.h.free y)
          · by_cases w : c = d
            · subst w; rw [hd2] at q; cases q; exact .inl upd_same
            · rw [upd_ne w]; exact n2.emb c u q
          · by_cases w : c = d
            · subst w
              have := n.h _ _ q
              rw [z] at this; cases this; exact upd_same
            · rw [upd_ne w]
              exact n2.h _ _ (by rw [upd_ne w]; exact n.h _ _ q)
        · exact tLc_of (Q := fun v => Ul X (Q v)) b r' gs (fun p hp => by rw [List.mem_singleton.mp hp]; exact z) h1 h2 fun a F2 H2 n2 ha f0 ow => .inl (PF.next (Q := Q) o n a F2 H2 n2 ha f0 ow)
      | ex c => exact absurd e2 lcOut_ne
      | no => rw [e2] at o; exact o.elim
  | ex c => simp only [e1, R.bind] at o; exact o
  | no => simp only [e1, R.bind] at o; exact o
theorem jf_lcE (hc : X.calm = true) (hN : X.N.Nodup) (he : J X W fe iter) (b : Blk X scope own bd ifs elt g tt tg es e) (hs : ∀ x, foldedSetIterable iter X.env x = pure x := by intro _; rfl) :
    JF X W (bLcE fe (own.map (·.2)) bd ifs elt) (.ListComp e [⟨tg, iter, es, 0⟩] scope pos) := ⟨PE.imp (pe_unl (pe_lc hc hN (pi_any he) b.ok (fun s H C cl fp => (b.hg s H C cl fp).pg) (fun s H C cl fp => (b.ht s H C cl fp).pts) (fun s H C cl fp => (b.he s H C cl fp).pe) hs)) fun σ H Q ⟨F, γ, r, o⟩ => lcE_of b r o⟩
theorem js_lcE (i : Nat) {y : Str} {py : Pos} {spos : Pos} (hc : X.calm = true) (hN : X.N.Nodup) (he : J X W fe iter) (b : Blk X scope own bd ifs elt g tt tg es e) (hy : X.N[i]? = some y := by rfl) (hyl : X.env.scope.names.lookup y = some .local := by rfl)
    (hsw : swapsWith (.ListComp e [⟨tg, iter, es, 0⟩] scope pos) (some (.Name y py)) spos.line X.env = pure true := by exact sw_true rfl rfl rfl (by decide +kernel)) (hs : ∀ x, foldedSetIterable iter X.env x = pure x := by intro _; rfl) :
    JS X W (fOwn i (bLcE fe (own.map (·.2)) bd ifs elt)) (.Assign [.Name y py] (.ListComp e [⟨tg, iter, es, 0⟩] scope pos) spos) := ⟨PS.imp (ps_unl (ps_setLc hc hN hy hyl hsw (pi_any he) b.ok (fun s H C cl fp => (b.hg s H C cl fp).pg) (fun s H C cl fp => (b.ht s H C cl fp).pts) (fun s H C cl fp => (b.he s H C cl fp).pe) hs)) fun E σ H ⟨B, F, γ, r, o⟩ => by
  refine lcE_of (fe := fe) (W := W) (F := F) (γ := γ) (Q := fun x H1 => gName i x σ H1 E.nx) b r.rs ?_
  unfold fOwn at o
  cases e1 : bLcE fe (own.map (·.2)) bd ifs elt γ with
  | ok d => rw [e1] at o; exact fun a F' H' n ha fa ow => o F' _ H' (r.own n i ha fa ow)
  | ex c => rw [e1] at o; exact fun F' H' n => o σ F' H' (r.fi.next n)
  | no => rw [e1] at o; exact o⟩
end
/-! ### own things changed -/
def putD (es : List (Tx × D)) (k : Tx) (d : D) : List (Tx × D) := if (es.any fun e => e.1 == k) = true then es.map (fun e => if (e.1 == k) = true then (e.1, d) else e) else es ++ [(k, d)]
theorem keyS_iff {k k' : Tx} : ((Sum.inr (toS k') : Key) = Sum.inr (toS k)) ↔ k' = k := ⟨fun z => toS_inj.mp (Sum.inr.inj z), fun z => by rw [z]⟩
theorem RepK.any_eq {K : PySem.W.Frag} {F : Hp} (k : Tx) {es : List (Tx × D)} {kvs : List (Key × V)} (h : RepK K F es kvs) : (kvs.any fun kv => decide (kv.1 = (Sum.inr (toS k) : Key))) = es.any fun e => e.1 == k := by
  induction es generalizing kvs with
  | nil => cases h; rfl
  | cons e es ih =>
    cases h with
    | cons h1 h2 =>
      rw [List.any_cons, List.any_cons, ih h2]
      congr 1
      rw [Bool.eq_iff_iff]
      simp [toS_inj]
theorem RepK.repl {K : PySem.W.Frag} {F : Hp} (k : Tx) {d : D} {v : V} (p : Rep K F d v) {es : List (Tx × D)} {kvs : List (Key × V)} (h : RepK K F es kvs) :
    RepK K F (es.map (fun e => if (e.1 == k) = true then (e.1, d) else e)) (kvs.map (fun kv => if kv.1 = (Sum.inr (toS k) : Key) then (kv.1, v) else kv)) := by
  induction es generalizing kvs with
  | nil => cases h; exact .nil
  | cons e es ih =>
    obtain ⟨k', d'⟩ := e
    cases h with
    | cons h1 h2 =>
      simp only [List.map_cons]
      by_cases q : k' = k
      · rw [if_pos (keyS_iff.mpr q), if_pos (by simpa using q)]; exact .cons p (ih h2)
      · rw [if_neg (fun z => q (keyS_iff.mp z)), if_neg (by simpa using q)]; exact .cons h1 (ih h2)
theorem RepK.snoc {K : PySem.W.Frag} {F : Hp} (k : Tx) {d : D} {v : V} (p : Rep K F d v) {es : List (Tx × D)} {kvs : List (Key × V)} (h : RepK K F es kvs) : RepK K F (es ++ [(k, d)]) (kvs ++ [(Sum.inr (toS k), v)]) := by
  induction es generalizing kvs with
  | nil => cases h; exact .cons p .nil
  | cons e es ih =>
    obtain ⟨k', d'⟩ := e
    cases h with
    | cons h1 h2 => exact .cons h1 (ih h2)
theorem RepK.put {K : PySem.W.Frag} {F : Hp} {es : List (Tx × D)} {kvs : List (Key × V)} (h : RepK K F es kvs) (k : Tx) {d : D} {v : V} (p : Rep K F d v) : RepK K F (putD es k d) (putK kvs (Sum.inr (toS k)) v) := by
  unfold putD putK
  rw [h.any_eq k]
  split
  · exact h.repl k p
  · exact h.snoc k p
theorem lim_lt : lim < sizeLine := by rw [sizeLine_eq]; decide
/-! ### dicts -/
section
variable {X : Cx} {W : WN} {fe fk fv fa fb fc : Ga → R D} {e k a b c : Expr} {pos apos cpos p1 p2 tpos : Pos}
theorem jf_dic0 : JF X W (bC (.dic [])) (.Dict [] [] pos) := ⟨PE.imp pe_dnewK fun σ H Q ⟨F, γ, r, o⟩ => fun p hp => by
  exact o p F _ (.laid r.emb hp _) hp (r.emb.free hp) ⟨[], upd_same, .nil⟩⟩
def bGet (fa fb fc : Ga → R D) : Ga → R D := fun γ => (fa γ).bind fun x => match x with
  | .dic es => (fb γ).bind fun y => (fc γ).bind fun z => match y with
    | .str k => .ok ((lookK es k).getD z)
    | _ => .no
  | _ => .no
theorem j_get (hu : X.A.units + 1 < cLine) (ha : JR X W fa a) (hb : J X W fb b) (hc : J X W fc c) (m : M2 X a "get" apos b c cpos := by exact ⟨rfl, rfl, rfl, rfl⟩) : J X W (bGet fa fb fc) (.Call (.Attribute a "get" apos) [b, c] [] cpos) :=
  ⟨PE.imp (pe_dget2 hu ha.pe hb.pe hc.pe m) fun σ H Q ⟨F, γ, r, o⟩ => by
    refine go1 (Z := fun z => Out (PV X.K F H) F H (fun c H' => W c σ H') z Q) r o (fun _ z => z) (fun z => z) fun dx x F1 H1 n1 r1 p1 o1 => ?_
    cases dx <;> first | exact o1.elim | skip
    rename_i es
    obtain ⟨d, kvs, rfl, s1, q1⟩ := p1.dic r1.emb
    refine ⟨d, rfl, .inl ⟨kvs, s1⟩, ?_⟩
    refine go1v (Z := fun z => Out (PV X.K F H) F H (fun c H' => W c σ H') z Q) r1 o1 (fun _ z F' H' n => z F' H' (n1.trans n)) (fun z => z) fun dy y F2 H2 n2 r2 p2 o2 => ?_
    refine go1v (Z := fun z => Out (PV X.K F H) F H (fun c H' => W c σ H') z Q) r2 o2 (fun _ z F' H' n => z F' H' ((n1.trans n2).trans n)) (fun z => z) fun dz z F3 H3 n3 r3 p3 o3 => ?_
    cases dy <;> first | exact o3.elim | skip
    rename_i s
    cases p2
    obtain ⟨d', kvs', e', s3, q3⟩ := ((p1.next n2).next n3).dic r3.emb
    cases e'
    refine ⟨_, .inl ⟨kvs', .inr (toS s), s3, rfl, rfl⟩, ?_⟩
    have q := PV.next (Q := Q) o3 ((n1.trans n2).trans n3)
    rcases q3.look s with ⟨z1, z2⟩ | ⟨d1, v1, z1, z2, z3⟩
    · rw [z2]; rw [z1] at q; exact q.here r3.emb p3
    · rw [z2]; rw [z1] at q; exact q.here r3.emb z3⟩
end
/-! ### in -/
/-- s stands somewhere in t -/
def subT (s t : Tx) : Bool := (List.range (t.length + 1)).any fun i => decide (i + s.length ≤ t.length) && ((t.drop i).take s.length == s)
theorem sub_occ (s t : Tx) : (!(Builtin.Str.occurrences (toS t) (toS s) 0 (toS t).length 1).isEmpty) = subT s t := by
  rw [Bool.eq_iff_iff, PySem.StrLaws.found_iff]
  unfold subT
  rw [List.any_eq_true]
  simp only [toS_len, PySem.StrLaws.subAt_eq]
  constructor
  · rintro ⟨i, h1, h2⟩
    exact ⟨i, List.mem_range.mpr (by omega), by simpa using ⟨h1, by simpa [toS] using h2⟩⟩
  · rintro ⟨i, _, h⟩
    rw [Bool.and_eq_true, decide_eq_true_iff] at h
    exact ⟨i, h.1, by simpa [toS] using h.2⟩
def flatD : D → Bool
  | .non => true
  | .bl _ => true
  | .int _ => true
  | .str s => s.all (· < 0x110000)
  | _ => false
def dInB : D → D → R Bool
  | .str s, .str t => .ok (subT s t)
  | .str k, .dic es => .ok (lookK es k).isSome
  | x, .lst xs => if pl 20 x = true ∧ pl 20 (.lst xs) = true then .ok (xs.any fun z => eqv 20 z x) else .no
  | x, .tup xs => if flatD x = true ∧ xs.all flatD = true then .ok (xs.any fun z => eqv 20 z x) else .no
  | _, _ => .no
def dIn (x y : D) : R D := (dInB x y).bind fun b => .ok (.bl b)
theorem dInB_ne : ∀ x y c, dInB x y ≠ .ex c := fun x y c => by
  unfold dInB
  split <;> first | (intro h; cases h; done) | (split <;> intro h <;> cases h)
theorem toP_succ : ∀ (n : Nat) (d : D), pl n d = true → toP (n + 1) d = toP n d := by
  intro n
  induction n with
  | zero => intro d h; cases d <;> first | rfl | (cases h; done)
  | succ n ih =>
    intro d h
    cases d <;> first | rfl | (cases h; done) | skip
    · simp only [toP, PyData.list.injEq]
      refine List.map_congr_left fun x hx => ih x (List.all_eq_true.mp h x hx)
    · simp only [toP, PyData.tuple.injEq]
      refine List.map_congr_left fun x hx => ih x (List.all_eq_true.mp h x hx)
theorem pl_succ : ∀ (n : Nat) (d : D), pl n d = true → pl (n + 1) d = true := by
  intro n
  induction n with
  | zero => intro d h; cases d <;> first | rfl | exact h | (cases h; done)
  | succ n ih =>
    intro d h
    cases d <;> first | rfl | exact h | (cases h; done) | skip
    · exact List.all_eq_true.mpr fun x hx => ih x (List.all_eq_true.mp h x hx)
    · exact List.all_eq_true.mpr fun x hx => ih x (List.all_eq_true.mp h x hx)
theorem flat_v {K : PySem.W.Frag} {F H : Hp} {d : D} {v : V} (h : flatD d = true) (r : Rep1 K F H d v) : flatV v = true := by
  cases d <;> first | (cases h; done) | skip
  · cases r.non; rfl
  · cases r.bl; rfl
  · cases r.int; rfl
  · cases r.str; rfl
theorem eqV_of {K : PySem.W.Frag} {F H : Hp} {d e : D} {v u : V} (h : flatD d = true) (h2 : flatD e = true) (r : Rep1 K F H d v) (r2 : Rep1 K F H e u) : eqV v u = eqv 20 d e := by
  cases d <;> first | (cases h; done) | skip
  · cases r.non
    cases e <;> first | (cases h2; done) | skip
    · cases r2.non; rfl
    · cases r2.bl; rfl
    · cases r2.int; rfl
    · cases r2.str; rfl
  · cases r.bl
    cases e <;> first | (cases h2; done) | skip
    · cases r2.non; rfl
    · cases r2.bl; rfl
    · cases r2.int; rfl
    · cases r2.str; rfl
  · cases r.int
    cases e <;> first | (cases h2; done) | skip
    · cases r2.non; rfl
    · cases r2.bl; rfl
    · cases r2.int; rfl
    · cases r2.str; rfl
  · cases r.str
    cases e <;> first | (cases h2; done) | skip
    · cases r2.non; rfl
    · cases r2.bl; rfl
    · cases r2.int; rfl
    · cases r2.str; exact toS_beq _ _
theorem inV_of {K : PySem.W.Frag} {F H : Hp} {x : D} {v : V} (h : flatD x = true) (r : Rep1 K F H x v) : ∀ {xs : List D} {vs : List V}, xs.all flatD = true → Reps K F xs vs → inV v vs = xs.any (fun z => eqv 20 z x) ∧ vs.all flatV = true := by
  intro xs
  induction xs with
  | nil => intro vs _ q; cases q; exact ⟨rfl, rfl⟩
  | cons y ys ih =>
    intro vs ha q
    rw [List.all_cons, Bool.and_eq_true] at ha
    cases q with
    | cons q1 q2 =>
      obtain ⟨a, b⟩ := ih ha.2 q2
      refine ⟨?_, by rw [List.all_cons, flat_v (H := H) ha.1 (.inl q1), b]; rfl⟩
      unfold inV at a ⊢
      rw [List.any_cons, List.any_cons, a, eqV_of ha.1 h (.inl q1) r]
theorem in_run {X : Cx} {pins : List (Addr × Obj)} {s : Shared} {σ : L2.St} {H : Hp} {x y : V} {v u : Value} {F : Hp} {dx dy : D} {b : Bool} (hu : X.A.units + 65 < cLine) (neg : Bool) {Q : VK} (I : Inv X pins σ H s) (rx : RelV x v) (ry : RelV y u) (e : Emb F H) (r1 : Rep1 X.K F H dx x) (r2 : Rep1 X.K F H dy y)
    (hg : dInB dx dy = .ok b) (q : Q (.bl (if neg then !b else b)) H) : wpAny (model X.prog X.w) X.A (compareOp (if neg then .NotIn else .In) v u) (EP X pins σ Q) X.xe s := by
  unfold dInB at hg
  split at hg
  · rename_i s1 t1
    cases hg
    rw [← sub_occ] at q
    cases neg with
    | true => exact op_notin_str pins s σ H x y v u Q I rx ry ⟨_, _, r1.str, r2.str, q⟩
    | false => exact op_in_str pins s σ H x y v u Q I rx ry ⟨_, _, r1.str, r2.str, q⟩
  · rename_i k es
    cases hg
    obtain ⟨a, kvs, rfl, s1, p1⟩ := r2.dic e
    cases ry
    have ex := r1.str
    subst ex
    have hl : (lookK es k).isSome = (valV kvs (Sum.inr (toS k) : Key)).isSome := by
      rcases p1.look k with ⟨z1, z2⟩ | ⟨d1, v1, z1, z2, z3⟩
      · rw [z1, z2]; rfl
      · rw [z1, z2]; rfl
    rw [hl] at q
    have g : DGet H a (.str (toS k)) (valV kvs (Sum.inr (toS k) : Key)) := .inl ⟨kvs, .inr (toS k), s1, rfl, rfl⟩
    cases neg with
    | true => exact d_notIn (by omega) I g rx fun s3 I3 => ⟨.bl (!(valV kvs (Sum.inr (toS k) : Key)).isSome), H, I3, rfl, q⟩
    | false => exact d_in (by omega) I g rx fun s3 I3 => ⟨.bl (valV kvs (Sum.inr (toS k) : Key)).isSome, H, I3, rfl, q⟩
  · rename_i _ _ xs
    split at hg
    · rename_i hp
      cases hg
      have ha : xs.all (pl 19) = true := hp.2
      have e1 : ∀ z ∈ xs, PyData.eqv (toP 19 z) (toP 20 dx) = eqv 20 z dx := fun z hz => by
        have hz' := List.all_eq_true.mp ha z hz
        rw [← toP_succ 19 z hz', eqv_toP 20 z dx (pl_succ 19 z hz') hp.1]
      have e2 : ((xs.map (toP 19)).any fun z => PyData.eqv z (toP 20 dx)) = xs.any fun z => eqv 20 z dx := by
        rw [List.any_map]
        clear q r2 hp ha
        induction xs with
        | nil => rfl
        | cons z zs ih =>
          rw [List.any_cons, List.any_cons, ih (fun z hz => e1 z (List.mem_cons_of_mem _ hz))]
          congr 1
          exact e1 z List.mem_cons_self
      have d1 := dp_of1 e hp.1 r1
      have d2 := dp_of1 e hp.2 r2
      rw [← e2] at q
      cases neg with
      | true => exact op_notInD hu pins s σ H x y v u Q I rx ry ⟨_, _, d1, d2, toP_shaped hp.1, toP_shaped hp.2, q⟩
      | false => exact op_inD hu pins s σ H x y v u Q I rx ry ⟨_, _, d1, d2, toP_shaped hp.1, toP_shaped hp.2, q⟩
    · cases hg
  · rename_i _ _ xs
    split at hg
    · rename_i hp
      cases hg
      obtain ⟨a, vs, rfl, s1, p1⟩ := r2.tup e
      obtain ⟨i1, i2⟩ := inV_of hp.1 r1 hp.2 p1
      rw [← i1] at q
      cases neg with
      | true => exact op_notIn_seq pins s σ H x _ v u Q I rx ry ⟨a, vs, rfl, .inr s1, flat_v hp.1 r1, i2, q⟩
      | false => exact op_in_seq pins s σ H x _ v u Q I rx ry ⟨a, vs, rfl, .inr s1, flat_v hp.1 r1, i2, q⟩
    · cases hg
  · cases hg
theorem o_in {X : Cx} (hu : X.A.units + 65 < cLine) : OpD X (compareOp .In) dIn := by
  refine ⟨fun pins s σ H x y v u Q I rx ry ⟨F, dx, dy, d, e, r1, r2, hg, q⟩ => ?_, fun x y c => ?_⟩
  · unfold dIn at hg
    cases e1 : dInB dx dy with
    | ok b => rw [e1] at hg; cases hg; exact in_run hu false I rx ry e r1 r2 e1 (q.here e (.bl _))
    | ex c => exact absurd e1 (dInB_ne _ _ _)
    | no => rw [e1] at hg; cases hg
  · unfold dIn
    cases e1 : dInB x y with
    | ok b => intro h; cases h
    | ex c => exact absurd e1 (dInB_ne _ _ _)
    | no => intro h; cases h
/-! ### methods of texts -/
section
variable {X : Cx} {W : WN} {fa fb : Ga → R D} {a b : Expr} {cpos apos : Pos}
def b2s (g : Tx → D → R D) (fa fb : Ga → R D) : Ga → R D := fun γ => (fa γ).bind fun x => match x with
  | .str s => (fb γ).bind fun y => g s y
  | _ => .no
theorem j_m1 {id : String} {name : Str} {g : Tx → D → R D} (slot : Slot "str" name id) (ty : typeOf (.builtin id) = pure (.type "method_descriptor"))
    (rule : MtR X id (fun x xs H Q => ∃ F s dy y d, x = .str (toS s) ∧ xs = [y] ∧ Emb F H ∧ Rep1 X.K F H dy y ∧ g s dy = .ok d ∧ PV X.K F H d Q)) (ne : ∀ s y c, g s y ≠ .ex c) (ha : JR X W fa a) (hb : JR X W fb b)
    (hs : starEach [b] X.env = [(false, eval b X.env)] := by rfl) (hbase : attributeBase a name X.env (eval a X.env) = eval a X.env := by rfl) (hline : (apos.endLine == cpos.line) = true := by rfl) : J X W (b2s g fa fb) (.Call (.Attribute a name apos) [b] [] cpos) :=
  ⟨PE.imp (pe_m1 slot ty rule ha.pe hb.pe hs hbase hline) fun σ H Q ⟨F, γ, r, o⟩ => by
    refine go1 (Z := fun z => Out (PV X.K F H) F H (fun c H' => W c σ H') z Q) r o (fun _ z => z) (fun z => z) fun dx x F1 H1 n1 r1 p1 o1 => ?_
    cases dx <;> first | exact o1.elim | skip
    rename_i z
    refine ⟨⟨_, p1.str⟩, ?_⟩
    refine go1 (Z := fun z => Out (PV X.K F H) F H (fun c H' => W c σ H') z Q) r1 o1 (fun _ z F' H' n => z F' H' (n1.trans n)) (fun z => z) fun dy y F2 H2 n2 r2 p2 o2 => ?_
    cases e : g z dy with
    | ok d => rw [e] at o2; exact ⟨F2, z, dy, y, d, p1.str, rfl, r2.emb, p2, e, PV.next (Q := Q) o2 (n1.trans n2)⟩
    | ex c => exact absurd e (ne _ _ _)
    | no => rw [e] at o2; exact o2.elim⟩
def dEw : Tx → D → R D
  | s, .str t => .ok (.bl (decide (t.length ≤ s.length) && (s.drop (s.length - t.length) == t)))
  | _, _ => .no
theorem j_ew (ha : JR X W fa a) (hb : JR X W fb b) (hs : starEach [b] X.env = [(false, eval b X.env)] := by rfl) (hbase : attributeBase a "endswith" X.env (eval a X.env) = eval a X.env := by rfl) (hline : (apos.endLine == cpos.line) = true := by rfl) :
    J X W (b2s dEw fa fb) (.Call (.Attribute a "endswith" apos) [b] [] cpos) :=
  j_m1 PySem.F.slot_str_endswith PySem.F.type_str_endswith (fun pins s σ H x xs v us Q I rx rs ⟨F, z, dy, y, d, e1, e2, e, r2, hg, q⟩ => by
    cases dy <;> first | (cases hg; done) | skip
    rename_i t
    cases hg
    refine mt_endswith pins s σ H x xs v us Q I rx rs ⟨_, _, e1, by rw [e2, r2.str], ?_⟩
    have : Txt.endswith (toS z) (toS t) = (decide (t.length ≤ z.length) && (z.drop (z.length - t.length) == t)) := by
      unfold Txt.endswith
      rw [PySem.StrLaws.subAt_eq, toS_len, toS_len, Nat.zero_add]
      by_cases h : t.length ≤ z.length
      · congr 2
        show ((z.drop (z.length - t.length)).take t.length) = _
        rw [List.take_of_length_le]
        rw [List.length_drop]; omega
      · simp [h]
    rw [this]
    exact q.here e (.bl _)) (fun s y c => by cases y <;> intro h <;> cases h) ha hb hs hbase hline
/-- sep.join -/
def joinT (s : Tx) : List Tx → Tx
  | [] => []
  | [x] => x
  | x :: y :: r => x ++ (s ++ joinT s (y :: r))
def dJoin : Tx → D → R D
  | s, .lst xs => (o2r (asTxs xs)).bind fun ts => if (ts.map (·.length)).sum + ts.length * s.length ≤ lim then .ok (.str (joinT s ts)) else .no
  | _, _ => .no
theorem joinT_eq (s : Tx) : ∀ ts : List Tx, Str.join (toS s) (ts.map toS) = toS (joinT s ts) := by
  intro ts
  apply TL.ext_tl
  rw [TL.tl_join]
  have e : (ts.map toS).map TL.tl = ts := by
    rw [List.map_map]
    have : (TL.tl ∘ toS) = id := by funext y; simp [TL.tl, toS]
    rw [this, List.map_id]
  rw [e]
  show TL.joinL s ts = joinT s ts
  clear e
  induction ts with
  | nil => rfl
  | cons x r ih =>
    cases r with
    | nil => simp [TL.joinL, joinT]
    | cons y r => simp only [TL.joinL, joinT] at ih ⊢; rw [ih]
theorem j_join (ha : JR X W fa a) (hb : JR X W fb b) (hs : starEach [b] X.env = [(false, eval b X.env)] := by rfl) (hbase : attributeBase a "join" X.env (eval a X.env) = eval a X.env := by rfl) (hline : (apos.endLine == cpos.line) = true := by rfl) :
    J X W (b2s dJoin fa fb) (.Call (.Attribute a "join" apos) [b] [] cpos) :=
  j_m1 PySem.F.slot_str_join PySem.F.type_str_join (fun pins s σ H x xs v us Q I rx rs ⟨F, z, dy, y, d, e1, e2, e, r2, hg, q⟩ => by
    cases dy <;> first | (cases hg; done) | skip
    rename_i ts
    simp only [dJoin, o2r] at hg
    split at hg
    · rename_i ks hk
      have := asTxs_of hk
      subst this
      simp only [R.bind] at hg
      split at hg
      · rename_i hl
        cases hg
        obtain ⟨p, vs, rfl, s1, p1⟩ := r2.lst e
        rw [p1.txs] at s1
        refine mt_join pins s σ H x xs v us Q I rx rs ⟨_, p, _, e1, e2, .inl s1, ?_, ?_⟩
        · have hm : (List.map (fun x => x.length) (ks.map toS)) = ks.map (·.length) := by rw [List.map_map]; exact List.map_congr_left fun k _ => toS_len k
          rw [hm, List.length_map, toS_len]
          unfold lim at hl; omega
        · rw [TL.join_eq, joinT_eq]; exact q.here e (.str _)
      · cases hg
    · cases hg) (fun s y c => by
      cases y <;> simp only [dJoin, o2r] <;> first | (intro h; cases h; done) | skip
      split <;> simp only [R.bind] <;> first | (intro h; cases h; done) | (split <;> intro h <;> cases h)) ha hb hs hbase hline
end
end KN
/-! KnI: constants of the module, dict(), tuples backwards -/
namespace KN
open PySem PySem.Spec PyProof.Rows L2
theorem hu65_of {A : Around} {k : Nat} (hr : Room k A) : A.units + 65 < cLine := by have := hr.un; omega
theorem takes_W0 {X : Cx} {cl : Cl} : Takes X (VW cl W0) := takes0.imp fun c d σ H ⟨_, _, _, h⟩ => h
section
variable {X : Cx} {W : WN} {f fa fb fc : Ga → R D} {a b c e : Expr} {pos : Pos}
theorem j_globI {x : Str} {i : Int} (hm : ∃ t, X.mg x = some (.int i t)) (hg : Gl X x := by rfl) (hd : (x == ("__debug__" : Str)) = false := by decide) : J X W (bC (.int i)) (.Name x pos) := by
  obtain ⟨t, hm⟩ := hm
  exact j_glob (v := .int i) hg hm ⟨t, rfl⟩ (fun _ => .int i) hd
theorem j_globS {x : Str} {s : Tx} (hm : ∃ t, X.mg x = some (.str (toS s) t)) (hg : Gl X x := by rfl) (hd : (x == ("__debug__" : Str)) = false := by decide) : J X W (bC (.str s)) (.Name x pos) := by
  obtain ⟨t, hm⟩ := hm
  exact j_glob (v := .str (toS s)) hg hm ⟨t, rfl⟩ (fun _ => .str s) hd
end
/-! ### dict of a list of pairs -/
def asPrs : List D → Option (List (Tx × D))
  | [] => some []
  | .tup [.str k, d] :: xs => (asPrs xs).map ((k, d) :: ·)
  | _ :: _ => none
@[simp] theorem asPrs_map (ps : List (Tx × D)) : asPrs (ps.map fun p => D.tup [.str p.1, p.2]) = some ps := by
  induction ps with
  | nil => rfl
  | cons p ps ih => simp [asPrs, ih]
/-! ### t[::-1] -/
section
variable {prog : Program} {w : World} {A : Around} {E : Value → Shared → Prop} {s : Shared}
open HT
theorem rev_places (n : Nat) : Builtin.Slice.slicePlaces ((n : Int) - 1) (-1) (-1) = n := by
  unfold Builtin.Slice.slicePlaces
  have h1 : ¬ ((-1 : Int) > 0) := by omega
  simp only [h1, if_false]
  have : (- (-1 : Int)) = 1 := by omega
  rw [this, Int.ediv_one]
  split <;> omega
theorem sliceApplied_rev {sl : Addr} {t : Tok} {n : Nat} {Q : Int × Int × Nat → Shared → Prop} (hs : s.heap.IsSliceOf sl .none .none (.int (-1) t))
    (h : Q ((n : Int) - 1, -1, n) s) : wpAny (model prog w) A (Builtin.Slice.sliceApplied (.ref sl) (pure (n : Int))) Q E s := by
  obtain ⟨os, hos, hcs, hds⟩ := id hs
  unfold Builtin.Slice.sliceApplied Builtin.Slice.sliceFields
  refine wpAny_bind (wpAny_bind (wpAny_field hos hds (x := .none) rfl (wpAny_bind (wpAny_field hos hds (x := .none) rfl (wpAny_bind (wpAny_field hos hds (x := .int (-1) t) rfl (wpAny_pure ?_)))))))
  refine wpAny_bind (slicePart_int ?_)
  show wpAny _ _ (if ((-1 : Int) == 0) = true then _ else _) _ _ s
  rw [if_neg (by decide)]
  refine wpAny_bind (slicePart_none (wpAny_bind (slicePart_none (wpAny_bind (wpAny_pure ?_)))))
  show wpAny _ _ (match Builtin.Slice.sliceAdjust none none (-1) (n : Int) with | (lo, hi) => pure (lo, (-1 : Int), Builtin.Slice.slicePlaces lo hi (-1))) _ _ s
  have e : Builtin.Slice.sliceAdjust none none (-1) (n : Int) = ((n : Int) - 1, -1) := by
    unfold Builtin.Slice.sliceAdjust
    simp
  rw [e]
  show wpAny _ _ (pure ((n : Int) - 1, (-1 : Int), Builtin.Slice.slicePlaces ((n : Int) - 1) (-1) (-1))) _ _ s
  rw [rev_places]
  exact wpAny_pure h
theorem fm_congr {α β : Type} {f g : α → Option β} : ∀ {l : List α}, (∀ m ∈ l, f m = g m) → l.filterMap f = l.filterMap g
  | [], _ => rfl
  | x :: l, h => by
    rw [List.filterMap_cons, List.filterMap_cons, h x (List.mem_cons_self ..), fm_congr fun m hm => h m (List.mem_cons_of_mem _ hm)]
theorem fm_range {α : Type} : ∀ (l : List α), (List.range l.length).filterMap (fun m => l[m]?) = l
  | [] => rfl
  | x :: l => by
    rw [List.length_cons, List.range_succ_eq_map, List.filterMap_cons, List.filterMap_map]
    show x :: List.filterMap (fun m => l[m]?) (List.range l.length) = x :: l
    rw [fm_range l]
theorem pick_rev (xs : Array Value) : ((List.range xs.size).filterMap fun (m : Nat) => xs[((xs.size : Int) - 1 + (m : Int) * (-1)).toNat]?).toArray = xs.toList.reverse.toArray := by
  congr 1
  have e : ∀ m ∈ List.range xs.size, xs[((xs.size : Int) - 1 + (m : Int) * (-1)).toNat]? = xs.toList.reverse[m]? := fun m hm => by
    have hm' := List.mem_range.mp hm
    rw [List.getElem?_reverse (by simpa using hm')]
    have : ((xs.size : Int) - 1 + (m : Int) * (-1)).toNat = xs.toList.length - 1 - m := by simp; omega
    rw [this]
    simp
  rw [fm_congr e]
  have := fm_range xs.toList.reverse
  simpa using this
theorem getItem_tuple_rev {t sl : Addr} {items : Array Value} {tk : Tok} {Q : Value → Shared → Prop} (ht : IsTup s.heap t items) (hs : s.heap.IsSliceOf sl .none .none (.int (-1) tk))
    (h : Q (.ref s.heap.objs.size) { s with heap := s.heap.push { cls := .type "tuple", data := .seq items.toList.reverse.toArray } })
    (hsz : items.size ≤ sizeLine) : wpAny (model prog w) A (getItem (.ref t) (.ref sl)) Q E s := by
  have htake : sizeOk (.seq items.toList.reverse.toArray) := by
    show items.toList.reverse.toArray.size ≤ sizeLine
    simp; exact hsz
  obtain ⟨os, hos, hcs, hds⟩ := id hs
  have hTs : s.TypeIs (.ref sl) "slice" := ⟨os, hos, hcs⟩
  unfold getItem
  try with_reducible refine wpAny_holding ?_
  first | refine wpAny_bind (wpAny_pure ?_) | skip
  refine wpAny_bind (wpAny_sequenceKey ht.typeIs (by decide) ?_)
  refine wpAny_bind (wpAny_callSpecial?_slot (name := Str.ofString "__getitem__") ht.typeIs PyProof.Rows.slot_tuple_getitem
    (wpAny_call_entry PyProof.Rows.slot_tuple_getitem ht.typeIs entry_tuple_getitem ?_ (args_tuple_getitem _ _)))
  show wpAny _ _ (Builtin.Tuple.tupleItemsOf (.ref t) >>= _) _ _ s
  refine wpAny_bind (tupleItemsOf_ ht ?_)
  refine wpAny_bind (wpAny_typeOf hTs ?_)
  rw [if_pos (by decide)]
  refine wpAny_bind (sliceApplied_rev hs ?_)
  show wpAny _ _ (if (((items.size : Int) - 1) == 0 && (-1 : Int) == 1 && items.size == items.size) = true then _ else _) _ _ s
  rw [if_neg (by simp), pick_rev]
  first
    | exact wpAny_bind (m := Builtin.Tuple.tupleExact _) (wpAny_newObj_type (wpAny_pure ⟨_, rfl, wpAny_pure h⟩) htake)
    | exact wpAny_bind (m := Builtin.Tuple.tupleExact _) (wpAny_newObj_type (wpAny_bind (wpAny_pure (wpAny_pure ⟨_, rfl, wpAny_pure h⟩))) htake)
    | exact wpAny_bind (wpAny_bind (m := Builtin.Tuple.tupleExact _) (wpAny_newObj_type (wpAny_pure (wpAny_pure ⟨_, rfl, wpAny_pure h⟩)) htake))
    | exact wpAny_bind (wpAny_bind (m := Builtin.Tuple.tupleExact _) (wpAny_newObj_type (wpAny_pure ⟨_, rfl, wpAny_pure h⟩) htake))
end
def tRevT (K : PySem.W.Frag) (te : TE) : TE := fun σ H Q => te σ H fun x H1 => ∃ a xs, x = .ref a ∧ SqT K H1 a xs ∧ ∀ p, H1 p = none → Q (.ref p) (upd H1 p (.tup xs.reverse))
theorem pe_revT {X : Cx} {e : Expr} {te : TE} {k : Nat} {p1 p2 p3 pos : Pos} (he : PE X e te) : PE X (.Subscript e (.Slice none none (some (.UnaryOp .USub (.Constant (.int 1) k p1) p2)) p3) pos) (tRevT X.K te) := by
  refine ⟨fun pins s σ H Q I h => ?_⟩
  refine Subscript_ (thn (he.run pins s σ H _ I h) fun v s1 ⟨x, H1, I1, r1, q1⟩ => ?_)
  obtain ⟨a, xs, ex, hx, q⟩ := q1
  subst ex
  cases r1
  have hst : PO X (some (.UnaryOp .USub (.Constant (.int 1) k p1) p2)) (tPart (tUn (rU fun i => .int (-i)) (tC (.int 1)))) := po_some (pe_un un_neg pe_int)
  refine wpAny_Slice (thn (po_none.run pins s1 σ H1 (fun o H2 => o = none ∧ H2 = H1) I1 ⟨rfl, rfl⟩) fun vl s2 ⟨l, H2, I2, pl, el, e2⟩ => ?_)
  subst el e2
  refine thn (po_none.run pins s2 σ H2 (fun o H3 => o = none ∧ H3 = H2) I2 ⟨rfl, rfl⟩) fun vu s3 ⟨u, H3, I3, pu, eu, e3⟩ => ?_
  subst eu e3
  refine thn (hst.run pins s3 σ H3 (fun o H4 => o = some (-1) ∧ H4 = H3) I3 ⟨1, rfl, -1, rfl, rfl, rfl⟩) fun vs s4 ⟨o, H4, I4, ps, eo, e4⟩ => ?_
  subst eo e4
  cases pl
  cases pu
  cases ps with
  | int _ tk =>
    have I5 : Inv X pins σ H4 { s4 with heap := s4.heap.push { cls := .type "slice", data := .fields #[.none, .none, .int (-1) tk] } } := I4.kept (t' := s4.toks) fun b ob q => Heap.get?_push_of_some _ q
    obtain ⟨its, r, ht, hz⟩ := I5.tuple hx
    have hlen := r.length
    show wpAny (model X.prog X.w) X.A (subscriptTail e (.Slice none none (some (.UnaryOp .USub (.Constant (.int 1) k p1) p2)) p3) (.ref a) (.ref s4.heap.objs.size)) (EP X pins σ Q) X.xe { s4 with heap := s4.heap.push { cls := .type "slice", data := .fields #[.none, .none, .int (-1) tk] } }
    refine tail_any (ops := [.ref a, .ref s4.heap.objs.size]) ht.typeIs (PyProof.Rows.slot_tuple_getitem.lookup) ?_ (by with_unfolding_all rfl)
    refine getItem_tuple_rev ht (Heap.IsSliceOf.new _ .none .none (.int (-1) tk)) ?_ (by rw [List.size_toArray]; omega)
    refine ⟨.ref _, _, I5.laid (t' := s4.toks) (o := .tup xs.reverse) (fun b ob q => Heap.get?_push_of_some _ q) (Nat.le_refl _) ?_, rfl, q _ (I5.hok.fresh (Nat.le_refl _))⟩
    exact ⟨by rw [List.length_reverse]; exact hz, _, r.reverse, IsTup.new _ _⟩
def dRev : D → R D
  | .lst xs => .ok (.lst xs.reverse)
  | .tup xs => .ok (.tup xs.reverse)
  | _ => .no
theorem j_rev {X : Cx} {W : WN} {fa : Ga → R D} {a : Expr} {k : Nat} {p1 p2 p3 pos : Pos} (ha : JR X W fa a) : J X W (b1 dRev fa) (.Subscript a (.Slice none none (some (.UnaryOp .USub (.Constant (.int 1) k p1) p2)) p3) pos) := ⟨⟨fun pins s σ H Q I h => by
  obtain ⟨F, γ, r, o⟩ := h
  unfold b1 at o
  cases e1 : fa γ with
  | ok d =>
    rw [e1] at o
    cases d <;> first | exact o.elim | skip
    · rename_i xs
      refine (pe_revL ha.pe).run pins s σ H Q I ⟨F, γ, r, ?_⟩
      rw [e1]
      intro v F1 H1 n1 p1
      obtain ⟨a, vs, rfl, s1, rp⟩ := p1.lst n1.emb
      exact ⟨a, vs, rfl, s1, fun p hp => PV.newL (PV.next (Q := Q) o n1) n1.emb rp.reverse p hp⟩
    · rename_i xs
      refine (pe_revT ha.pe).run pins s σ H Q I ⟨F, γ, r, ?_⟩
      rw [e1]
      intro v F1 H1 n1 p1
      obtain ⟨a, vs, rfl, s1, rp⟩ := p1.tup n1.emb
      exact ⟨a, vs, rfl, s1, fun p hp => PV.newT (PV.next (Q := Q) o n1) n1.emb rp.reverse p hp⟩
  | ex c =>
    rw [e1] at o
    refine (pe_revL ha.pe).run pins s σ H Q I ⟨F, γ, r, ?_⟩
    rw [e1]
    exact o
  | no => rw [e1] at o; exact o.elim⟩⟩
end KN
/-! KnJ: dicts of dicts -/
namespace KN
open PySem PySem.Spec PyProof.Rows L2
abbrev Tb := List (Tx × List (Tx × D))
def lookN : Tb → Tx → Option (List (Tx × D))
  | [], _ => none
  | (k, r) :: es, x => if k = x then some r else lookN es x
def putN : Tb → Tx → List (Tx × D) → Tb
  | [], x, r => [(x, r)]
  | (k, r0) :: es, x, r => if k = x then (k, r) :: es else (k, r0) :: putN es x r
theorem putK_mem {kvs : List (Key × V)} {k : Key} {v : V} {p : Key × V} (h : p ∈ putK kvs k v) : p ∈ kvs ∨ p = (k, v) := by
  unfold putK at h
  split at h
  · obtain ⟨q, hq, e⟩ := List.mem_map.mp h
    split at e
    · rename_i z; subst e; right; rw [← z]
    · subst e; exact .inl hq
  · rcases List.mem_append.mp h with h | h
    · exact .inl h
    · exact .inr (List.mem_singleton.mp h)
theorem putK_pos {kvs : List (Key × V)} {k : Key} {v v0 : V} (h : ∀ p ∈ kvs, p.1 ≠ k) : putK ((k, v0) :: kvs) k v = (k, v) :: kvs := by
  unfold putK
  have : (((k, v0) :: kvs).any fun kv => decide (kv.1 = k)) = true := by simp
  rw [if_pos this, List.map_cons, if_pos rfl]
  congr 1
  conv => rhs; rw [← List.map_id kvs]
  exact List.map_congr_left fun p hp => by rw [if_neg (h p hp)]; rfl
theorem putK_neg {kvs : List (Key × V)} {k k' : Key} {v v0 : V} (h : k' ≠ k) : putK ((k', v0) :: kvs) k v = (k', v0) :: putK kvs k v := by
  unfold putK
  rw [List.any_cons]
  have : decide (k' = k) = false := decide_eq_false h
  simp only [this, Bool.false_or]
  split
  · rw [List.map_cons, if_neg h]
  · rfl
section
variable {K : PySem.W.Frag} {F H : Hp} {a : Addr}
theorem OwK.look (c : Tx) : ∀ {es : Tb} {kvs : List (Key × V)}, OwK K F H a es kvs →
    (lookN es c = none ∧ valV kvs (Sum.inr (toS c)) = none) ∨ ∃ row r kv, lookN es c = some row ∧ valV kvs (Sum.inr (toS c)) = some (.ref r) ∧ r ≠ a ∧ F r = none ∧ H r = some (.dK kv) ∧ RepK K F row kv ∧ ((Sum.inr (toS c) : Key), V.ref r) ∈ kvs
  | [], [], _ => .inl ⟨rfl, rfl⟩
  | (k, row) :: es, (k', v) :: kvs, ⟨e, ⟨r, kv, e1, e2, e3, e4, e5, e6⟩, o⟩ => by
    subst e1
    subst e
    by_cases q : k = c
    · subst q
      exact .inr ⟨row, r, kv, by simp [lookN], valV_pos rfl, e2, e3, e4, e5, List.mem_cons_self⟩
    · have q' : ¬ (Sum.inr (toS k) : Key) = Sum.inr (toS c) := fun z => q (keyS_iff.mp z)
      rcases o.look c with ⟨h1, h2⟩ | ⟨row', r', kv', h1, h2, h3, h4, h5, h6, h7⟩
      · exact .inl ⟨by rw [lookN, if_neg q]; exact h1, by rw [valV_neg q']; exact h2⟩
      · exact .inr ⟨row', r', kv', by rw [lookN, if_neg q]; exact h1, by rw [valV_neg q']; exact h2, h3, h4, h5, h6, List.mem_cons_of_mem _ h7⟩
  | [], _ :: _, h => h.elim
  | _ :: _, [], h => h.elim
theorem OwK.len : ∀ {es : Tb} {kvs : List (Key × V)}, OwK K F H a es kvs → es.length = kvs.length
  | [], [], _ => rfl
  | (k, row) :: es, (k', v) :: kvs, ⟨e, _, o⟩ => by simp [o.len]
  | [], _ :: _, h => h.elim
  | _ :: _, [], h => h.elim
theorem mem_of_val {kvs : List (Key × V)} {k : Key} {v : V} (h : valV kvs k = some v) : ∃ p ∈ kvs, p.2 = v := by
  unfold valV at h
  cases e : kvs.find? fun kv => decide (kv.1 = k) with
  | none => rw [e] at h; cases h
  | some p => rw [e] at h; cases h; exact ⟨p, List.mem_of_find?_eq_some e, rfl⟩
theorem OwK.put {F2 H2 : Hp} (c : Tx) {row : List (Tx × D)} {q : Addr} {kv : List (Key × V)} (f : Same F F2) (q1 : q ≠ a) (q2 : F2 q = none) (q3 : H2 q = some (.dK kv)) (q4 : RepK K F2 row kv) : ∀ {es : Tb} {kvs : List (Key × V)}, OwK K F H a es kvs →
    (∀ k b u, (k, V.ref b) ∈ kvs → b ≠ q → F b = none → H b = some u → H2 b = some u ∧ F2 b = none) →
    (valV kvs (Sum.inr (toS c)) = some (.ref q) ∨ (valV kvs (Sum.inr (toS c)) = none ∧ ∀ p ∈ kvs, p.2 ≠ .ref q)) → OwK K F2 H2 a (putN es c row) (putK kvs (Sum.inr (toS c)) (.ref q))
  | [], [], _, _, h => ⟨rfl, ⟨q, kv, rfl, q1, q2, q3, q4, fun p hp => nomatch hp⟩, trivial⟩
  | (k, row0) :: es, (k', v) :: kvs, ⟨e, ⟨r, kv0, e1, e2, e3, e4, e5, e6⟩, o⟩, keep, h => by
    subst e1
    subst e
    by_cases z : k = c
    · subst z
      have hv : valV ((Sum.inr (toS k), V.ref r) :: kvs) (Sum.inr (toS k)) = some (.ref r) := valV_pos rfl
      have hq : r = q := by
        rcases h with h | ⟨h, _⟩
        · rw [hv] at h; cases h; rfl
        · rw [hv] at h; cases h
      subst hq
      rw [putK_pos fun p hp => (e6 p hp).1]
      have : putN ((k, row0) :: es) k row = (k, row) :: es := by simp [putN]
      rw [this]
      refine ⟨rfl, ⟨r, kv, rfl, q1, q2, q3, q4, e6⟩, o.next f fun k' b u m h1 h2 => keep k' b u (List.mem_cons_of_mem _ m) ?_ h1 h2⟩
      rintro rfl
      exact (e6 _ m).2 rfl
    · have z' : ¬ (Sum.inr (toS k) : Key) = Sum.inr (toS c) := fun y => z (keyS_iff.mp y)
      rw [putK_neg z']
      have : putN ((k, row0) :: es) c row = (k, row0) :: putN es c row := by simp [putN, z]
      rw [this]
      rw [valV_neg z'] at h
      have rq : r ≠ q := by
        rintro rfl
        rcases h with h | ⟨_, h⟩
        · obtain ⟨i, hi, he⟩ := mem_of_val h
          exact (e6 _ hi).2 he
        · exact h _ List.mem_cons_self rfl
      obtain ⟨y1, y2⟩ := keep _ r _ List.mem_cons_self rq e3 e4
      refine ⟨rfl, ⟨r, kv0, rfl, e2, y2, y1, e5.mono f, fun p hp => ?_⟩, o.put c f q1 q2 q3 q4 (fun k' b u m => keep k' b u (List.mem_cons_of_mem _ m)) ?_⟩
      · rcases putK_mem hp with hp | rfl
        · exact e6 p hp
        · exact ⟨fun y => z' y.symm, fun y => by cases y; exact rq rfl⟩
      · rcases h with h | ⟨h1, h2⟩
        · exact .inl h
        · exact .inr ⟨h1, fun p hp => h2 p (List.mem_cons_of_mem _ hp)⟩
  | [], _ :: _, h, _, _ => h.elim
  | _ :: _, [], h, _, _ => h.elim
/-- one row of one's own table is another -/
theorem RB.putRow {B : Bs} {γ : Ga} {σ : L2.St} (r : RB K B F γ σ H) {i : Nat} {es : Tb} (e : γ[i]? = some (.nd es)) {kvs : List (Key × V)} (ea : σ[i]? = some (some (.ref a))) (ek : H a = some (.dK kvs)) {c : Tx} {row : List (Tx × D)} {q : Addr} {kv : List (Key × V)} {H1 : Hp}
    (n : Nxt F H F H1) (hq : (valV kvs (Sum.inr (toS c)) = some (.ref q)) ∨ (valV kvs (Sum.inr (toS c)) = none ∧ H q = none)) (rp : RepK K F row kv) :
    RB K B F (γ.set i (.nd (putN es c row))) σ (upd (upd H1 q (.dK kv)) a (.dK (putK kvs (Sum.inr (toS c)) (.ref q)))) := by
  obtain ⟨a', kvs', e1, e2, e3, e4⟩ := r.rs.sl i _ e
  rw [ea] at e1; cases e1
  rw [ek] at e3; cases e3
  have qI : q ≠ a ∧ F q = none ∧ B.H0 q = none ∧ (Inn H (.nd es) σ[i]? q ∨ H q = none) := by
    rcases hq with h | ⟨_, h⟩
    · rcases e4.look c with ⟨_, z⟩ | ⟨row', r', kv', h1, h2, h3, h4, h5, h6, h7⟩
      · rw [h] at z; cases z
      · rw [h] at h2; cases h2
        exact ⟨h3, h4, r.ow i _ q e ⟨a, kvs, ea, ek, .inr ⟨_, h7⟩⟩, .inl ⟨a, kvs, ea, ek, .inr ⟨_, h7⟩⟩⟩
    · exact ⟨fun z => (by rw [z, ek] at h; cases h), r.rs.emb.free h, r.fi.free h, .inr h⟩
  obtain ⟨q1, q2, q3, q4⟩ := qI
  have a0 := r.ow i _ a e ⟨a, kvs, ea, ek, .inl rfl⟩
  refine r.chg e (s1 := .nd _) ⟨a, _, ea, e2, upd_same, OwK.put c (.refl _) q1 q2 ?_ rp e4 (fun k b u m nb fb hb => ⟨?_, fb⟩) ?_⟩ (((r.fi.next n).chg q2 q3).chg e2 a0) (.refl _) (fun b u hb fb nb => ⟨?_, fb⟩) fun b h => ?_
  · rw [upd_ne q1]; exact upd_same
  · obtain ⟨r', kv', w1, w2, w3, w4⟩ := e4.row m
    cases w1
    rw [upd_ne w2, upd_ne nb]; exact n.h _ _ hb
  · rcases hq with h | ⟨h1, h2⟩
    · exact .inl h
    · refine .inr ⟨h1, fun p hp z => ?_⟩
      obtain ⟨r', kv', w1, w2, w3, w4⟩ := e4.row (k := p.1) (v := p.2) hp
      rw [w1] at z; cases z
      rw [h2] at w4; cases w4
  · have n1 : b ≠ a := by rintro rfl; exact nb ⟨b, kvs, ea, ek, .inl rfl⟩
    have n2 : b ≠ q := by
      rintro rfl
      rcases q4 with h | h
      · exact nb h
      · rw [hb] at h; cases h
    rw [upd_ne n1, upd_ne n2]; exact n.h _ _ hb
  · obtain ⟨a2, kvs2, w1, w2, w3⟩ := h
    rw [ea] at w1; cases w1
    rw [upd_same] at w2; cases w2
    rcases w3 with rfl | ⟨k, m⟩
    · exact .inl ⟨b, kvs, ea, ek, .inl rfl⟩
    · rcases putK_mem m with m | m
      · exact .inl ⟨a, kvs, ea, ek, .inr ⟨k, m⟩⟩
      · cases m; exact q4
end
def fNd0 (i : Nat) : Ga → R Fl := fun γ => .ok (.nx (γ.set i (.nd [])))
def fBump (i r c l : Nat) : Ga → R Fl := fun γ => match γ[i]?, γ[c]?, γ[l]? with
  | some (.nd es), some (.va (.str ck)), some (.va (.str lk)) => match (lookK ((lookN es ck).getD []) lk).getD (.int 0) with
    | .int n => if (es.length < lim ∧ ((lookN es ck).getD []).length < lim) ∧ r < γ.length then .ok (.nx ((γ.set i (.nd (putN es ck (putD ((lookN es ck).getD []) lk (.int (n + 1)))))).set r .un)) else .no
    | _ => .no
  | _, _, _ => .no
section
variable {X : Cx} {W : WN}
theorem js_nd0 (i : Nat) {x : Str} {pos pos' p2 : Pos} (hN : X.N.Nodup) (hi : X.N[i]? = some x := by rfl) (hx : Loc X.env.scope x := by first | exact .inl rfl | exact .inr rfl) (hs : swapsWith (.Dict [] [] p2) (some (.Name x pos')) pos.line X.env = pure false := by rfl) (hf : X.fn x = true ∨ X.env.scope.names.lookup x = some .local := by first | exact .inl rfl | exact .inr rfl) :
    JS X W (fNd0 i) (.Assign [.Name x pos'] (.Dict [] [] p2) pos) := ⟨PS.imp (ps_set hN hi hx pe_dnewK hs hf) fun E σ H ⟨B, F, γ, r, o⟩ => fun p hp => by
  have n := Nxt.laid r.rs.emb hp (.dK [])
  refine o F _ _ ((r.next n).put i (s0 := .nd []) (x0 := some (.ref p)) ⟨p, [], rfl, r.rs.emb.free hp, upd_same, trivial⟩ (fun j s b nj e h1 h2 => ?_) fun b h => ?_)
  · have q := h1.back (r.rs.sl j s e) fun b u _ z => n.h _ _ z
    obtain ⟨_, u, hu⟩ := q.have (r.rs.sl j s e)
    obtain ⟨a, kvs, w1, w2, w3⟩ := h2
    cases w1
    rw [upd_same] at w2; cases w2
    rcases w3 with rfl | ⟨_, m⟩
    · rw [hp] at hu; cases hu
    · cases m
  · obtain ⟨a, kvs, w1, w2, w3⟩ := h
    cases w1
    rw [upd_same] at w2; cases w2
    rcases w3 with rfl | ⟨_, m⟩
    · exact r.fi.free hp
    · cases m⟩
theorem va_at {K : PySem.W.Frag} {F H : Hp} {γ : Ga} {σ : L2.St} (r : RS K F γ σ H) {i : Nat} {s : Tx} (e : γ[i]? = some (.va (.str s))) : σ[i]? = some (some (.str (toS s))) := by
  obtain ⟨v, e1, p⟩ := r.sl i _ e
  cases p; exact e1
/-- row = found.get(context, {}); row[letter] = row.get(letter, 0) + 1; found[context] = row -/
theorem jss_bump (i r c l : Nat) {fx rx cx lx : Str} {n1 : Nat} {n2 : Nat} {q1 q2 q3 q4 q5 q6 q7 q8 q9 q10 q11 q12 q13 q14 q15 q16 q17 q18 q19 q20 : Pos} (hN : X.N.Nodup) (hu : X.A.units + 1 < cLine) (ir : r ≠ i := by decide) (cr : r ≠ c := by decide) (lr : r ≠ l := by decide)
    (hi : X.N[i]? = some fx := by rfl) (hr : X.N[r]? = some rx := by rfl) (hc : X.N[c]? = some cx := by rfl) (hl : X.N[l]? = some lx := by rfl)
    (vi : Vis X.env.scope fx := by first | exact Or.inl rfl | exact Or.inr (Or.inl rfl) | exact Or.inr (Or.inr rfl)) (vr : Vis X.env.scope rx := by first | exact Or.inl rfl | exact Or.inr (Or.inl rfl) | exact Or.inr (Or.inr rfl))
    (vc : Vis X.env.scope cx := by first | exact Or.inl rfl | exact Or.inr (Or.inl rfl) | exact Or.inr (Or.inr rfl)) (vl : Vis X.env.scope lx := by first | exact Or.inl rfl | exact Or.inr (Or.inl rfl) | exact Or.inr (Or.inr rfl))
    (di : (fx == ("__debug__" : Str)) = false := by decide) (dr : (rx == ("__debug__" : Str)) = false := by decide) (dc : (cx == ("__debug__" : Str)) = false := by decide) (dl : (lx == ("__debug__" : Str)) = false := by decide)
    (ci : (fx == ("__classdict__" : Str)) = false := by decide) (cr' : (rx == ("__classdict__" : Str)) = false := by decide) (cc : (cx == ("__classdict__" : Str)) = false := by decide) (cl : (lx == ("__classdict__" : Str)) = false := by decide)
    (hx : Loc X.env.scope rx := by first | exact .inl rfl | exact .inr rfl) (hf : X.fn rx = true ∨ X.env.scope.names.lookup rx = some .local := by first | exact .inl rfl | exact .inr rfl)
    (s1 : swapsWith (.Call (.Attribute (.Name fx q1) "get" q2) [.Name cx q3, .Dict [] [] q4] [] q5) (some (.Name rx q6)) q7.line X.env = pure false := by rfl)
    (s2 : swapsWith (.BinOp (.Call (.Attribute (.Name rx q8) "get" q9) [.Name lx q10, .Constant (.int 0) n1 q11] [] q12) .Add (.Constant (.int 1) n2 q13) q14) (some (.Subscript (.Name rx q15) (.Name lx q16) q17)) q18.line X.env = pure false := by rfl)
    (s3 : swapsWith (.Name rx q19) (some (.Subscript (.Name fx q20) (.Name cx q1') q2')) q3'.line X.env = pure false := by rfl)
    (m1 : M2 X (.Name fx q1) "get" q2 (.Name cx q3) (.Dict [] [] q4) q5 := by exact ⟨rfl, rfl, rfl, rfl⟩)
    (m2 : M2 X (.Name rx q8) "get" q9 (.Name lx q10) (.Constant (.int 0) n1 q11) q12 := by exact ⟨rfl, rfl, rfl, rfl⟩) :
    JSs X W (fBump i r c l) [.Assign [.Name rx q6] (.Call (.Attribute (.Name fx q1) "get" q2) [.Name cx q3, .Dict [] [] q4] [] q5) q7,
      .Assign [.Subscript (.Name rx q15) (.Name lx q16) q17] (.BinOp (.Call (.Attribute (.Name rx q8) "get" q9) [.Name lx q10, .Constant (.int 0) n1 q11] [] q12) .Add (.Constant (.int 1) n2 q13) q14) q18,
      .Assign [.Subscript (.Name fx q20) (.Name cx q1') q2'] (.Name rx q19) q3'] :=
  ⟨PSs.imp (pss_cons (ps_set hN hr hx (pe_dget2 hu (pe_var hi vi di ci) (pe_var hc vc dc cc) pe_dnewK m1) s1 hf) (pss_cons (ps_dput hu (pe_var hr vr dr cr') (pe_var hl vl dl cl) (pe_add (pe_dget2 hu (pe_var hr vr dr cr') (pe_var hl vl dl cl) pe_int m2) pe_int) s2)
      (pss_one (ps_dput hu (pe_var hi vi di ci) (pe_var hc vc dc cc) (pe_var hr vr dr cr') s3)))) fun E σ H ⟨B, F, γ, R, o⟩ => by
    unfold fBump at o
    split at o
    · rename_i es ck lk e1 e2 e3
      split at o
      · rename_i n en
        split at o
        · rename_i hlen'
          obtain ⟨hlen, hgr⟩ := hlen'
          obtain ⟨a, kvs, a1, a2, a3, a4⟩ := R.rs.sl i _ e1
          have c1 := va_at R.rs e2
          have l1 := va_at R.rs e3
          have hσr : r < σ.length := by rw [← R.rs.len]; exact hgr
          have g1 : ∀ {x : Option V} {k : Nat}, r ≠ k → (σ.set r x)[k]? = σ[k]? := fun h => List.getElem?_set_ne h
          have g2 : ∀ {x : Option V}, (σ.set r x)[r]? = some x := List.getElem?_set_self hσr
          refine ⟨_, a1, a, rfl, .inl ⟨kvs, .inl a3⟩, _, c1, fun p hp => ?_⟩
          have nx := Nxt.laid R.rs.emb hp (.dK [])
          have pa : p ≠ a := by rintro rfl; rw [hp] at a3; cases a3
          refine ⟨valV kvs (.inr (toS ck)), .inl ⟨kvs, .inr (toS ck), .inl (nx.h _ _ a3), rfl, rfl⟩, ?_⟩
          -- the row
          have key : ∃ q kv, (valV kvs (.inr (toS ck))).getD (.ref p) = .ref q ∧ (valV kvs (Sum.inr (toS ck)) = some (.ref q) ∨ (valV kvs (Sum.inr (toS ck)) = none ∧ H q = none)) ∧ upd H p (.dK []) q = some (.dK kv) ∧ RepK X.K F ((lookN es ck).getD []) kv ∧ q ≠ a := by
            rcases a4.look ck with ⟨z1, z2⟩ | ⟨row, q, kv, z1, z2, z3, z4, z5, z6, z7⟩
            · refine ⟨p, [], by rw [z2]; rfl, .inr ⟨z2, hp⟩, upd_same, by rw [z1]; exact .nil, pa⟩
            · refine ⟨q, kv, by rw [z2]; rfl, .inl z2, nx.h _ _ z5, by rw [z1]; exact z6, z3⟩
          obtain ⟨q, kv, k1, k2, k3, k4, k5⟩ := key
          rw [k1]
          show tSeq _ _ E (σ.set r (some (.ref q))) (upd H p (.dK []))
          refine ⟨_, g2, q, rfl, .inl ⟨kv, .inl k3⟩, _, (g1 lr).trans l1, valV kv (.inr (toS lk)), .inl ⟨kv, .inr (toS lk), .inl k3, rfl, rfl⟩, ?_⟩
          have hn : (valV kv (.inr (toS lk))).getD (.int 0) = .int n := by
            rcases k4.look lk with ⟨z1, z2⟩ | ⟨d, v, z1, z2, z3⟩
            · rw [z1] at en; cases en; rw [z2]; rfl
            · rw [z1] at en; cases en; cases z3; rw [z2]; rfl
          refine ⟨n, 1, hn, rfl, ?_⟩
          refine ⟨_, g2, _, (g1 lr).trans l1, q, _, rfl, .inl ⟨kv, .inr (toS lk), k3, rfl, by rw [← k4.length]; exact Nat.lt_trans hlen.2 lim_lt, rfl⟩, ?_⟩
          refine ⟨_, g2, _, (g1 ir).trans a1, _, (g1 cr).trans c1, a, _, rfl, .inl ⟨kvs, .inr (toS ck), ?_, rfl, by rw [← a4.len]; exact Nat.lt_trans hlen.1 lim_lt, rfl⟩, ?_⟩
          · rw [upd_ne (Ne.symm k5)]; exact nx.h _ _ a3
          · exact o F _ _ ((R.putRow e1 a1 a3 nx k2 (k4.put lk (.int (n + 1)))).un r _)
        · exact o.elim
      · exact o.elim
    · exact o.elim⟩
end
end KN
/-! KnK: sorted lists of tuples -/
namespace KN
open PySem PySem.Spec PyProof.Rows L2
open PyProof.Rows.G (tupKeyC tupKindC isTupObj)
abbrev Ik := Int ⊕ Tx
def unI : Ik → D
  | .inl i => .int i
  | .inr s => .str s
def unT (k : List Ik) : D := .tup (k.map unI)
def asI : List D → Option (List Ik)
  | [] => some []
  | .int i :: xs => (asI xs).map (.inl i :: ·)
  | .str s :: xs => (asI xs).map (.inr s :: ·)
  | _ :: _ => none
def asTs : List D → Option (List (List Ik))
  | [] => some []
  | .tup ys :: xs => (asI ys).bind fun k => (asTs xs).map (k :: ·)
  | _ :: _ => none
theorem asI_of {xs : List D} {k : List Ik} (h : asI xs = some k) : xs = k.map unI := by
  induction xs generalizing k with
  | nil => cases h; rfl
  | cons x xs ih =>
    cases x <;> simp only [asI] at h <;> first | (cases h; done) | skip
    all_goals
      cases e : asI xs with
      | none => rw [e] at h; cases h
      | some ms => rw [e] at h; cases h; rw [ih e]; rfl
@[simp] theorem asI_map (k : List Ik) : asI (k.map unI) = some k := by
  induction k with
  | nil => rfl
  | cons x k ih => cases x <;> simp [asI, unI, ih]
theorem asTs_of {xs : List D} {ks : List (List Ik)} (h : asTs xs = some ks) : xs = ks.map unT := by
  induction xs generalizing ks with
  | nil => cases h; rfl
  | cons x xs ih =>
    cases x <;> simp only [asTs] at h <;> first | (cases h; done) | skip
    rename_i ys
    cases e : asI ys with
    | none => rw [e] at h; cases h
    | some k =>
      rw [e] at h
      cases e2 : asTs xs with
      | none => rw [e2] at h; cases h
      | some ms => rw [e2] at h; cases h; rw [ih e2, asI_of e]; rfl
@[simp] theorem asTs_map (ks : List (List Ik)) : asTs (ks.map unT) = some ks := by
  induction ks with
  | nil => rfl
  | cons k ks ih => simp [asTs, unT, ih]
def leK (a b : List Ik) : Bool := !(lexLt itemOrd b a)
def sortK (l : List (List Ik)) : List (List Ik) := l.mergeSort leK
theorem leK_total (a b : List Ik) : (leK a b || leK b a) = true := by
  unfold leK
  cases h : lexLt itemOrd b a with
  | false => rfl
  | true =>
    cases k : lexLt itemOrd a b with
    | false => rfl
    | true => have := lex_trans (O := itemOrd) _ _ _ h k; rw [lex_irrefl] at this; cases this
theorem leK_trans (a b c : List Ik) : leK a b = true → leK b c = true → leK a c = true := by
  unfold leK
  simp only [Bool.not_eq_true']
  intro h k
  cases z : lexLt itemOrd c a with
  | false => rfl
  | true =>
    rcases lex_negTrans (O := itemOrd) c b a z with y | y
    · rw [k] at y; cases y
    · rw [h] at y; cases y
theorem leK_anti {a b : List Ik} (h : leK a b = true) (k : leK b a = true) : a = b := by
  unfold leK at h k
  simp only [Bool.not_eq_true'] at h k
  exact lex_total (O := itemOrd) a b k h
theorem sortK_perm (l : List (List Ik)) : (sortK l).Perm l := List.mergeSort_perm _ _
theorem sortK_pw (l : List (List Ik)) : (sortK l).Pairwise (fun a b => leK a b = true) := List.pairwise_mergeSort leK_trans leK_total l
/-- all of one shape, and not empty -/
def okK : List (List Ik) → Bool
  | [] => true
  | k :: ks => !k.isEmpty && ks.all fun k' => (k'.map Sum.isRight) == k.map Sum.isRight
def shp (k : List Ik) (i : Nat) : Bool := (k.map Sum.isRight)[i]?.getD false
def vIt : Ik → V
  | .inl i => .int i
  | .inr s => .str (toS s)
theorem items_of {shape : Nat → Bool} : ∀ (k : List Ik) (i : Nat) (its : List Value), Vals (k.map vIt) its → (∀ j x, k[j]? = some x → shape (i + j) = x.isRight) → tupItems shape i its = some k
  | [], _, _, r, _ => by cases r; rfl
  | x :: k, i, _, r, h => by
    cases r with
    | cons r1 r2 =>
      have h0 := h 0 x rfl
      have ih := items_of k (i + 1) _ r2 fun j y e => by
        have := h (j + 1) y (by simpa using e)
        rw [show i + 1 + j = i + (j + 1) by omega]; exact this
      cases x with
      | inl n =>
        obtain ⟨t, rfl⟩ := r1
        have h0 : shape i = false := by simpa using h0
        simp [tupItems, h0, ih]
      | inr s =>
        obtain ⟨t, rfl⟩ := r1
        have h0 : shape i = true := by simpa using h0
        simp [tupItems, h0, ih, toS]
theorem paired_perm {α β : Type} {R : α → β → Prop} {us its : List β} (p : us.Perm its) : ∀ {ks : List α}, Paired R ks its → ∃ ks', ks'.Perm ks ∧ Paired R ks' us := by
  induction p with
  | nil => intro ks h; exact ⟨ks, .refl _, h⟩
  | cons x p ih =>
    intro ks h
    cases h with
    | cons h1 h2 =>
      obtain ⟨ks', a, b⟩ := ih h2
      exact ⟨_ :: ks', a.cons _, .cons h1 b⟩
  | swap x y l =>
    intro ks h
    cases h with
    | cons h1 h2 => cases h2 with | cons h3 h4 => exact ⟨_, .swap _ _ _, .cons h3 (.cons h1 h4)⟩
  | trans p q ih1 ih2 =>
    intro ks h
    obtain ⟨k1, a, b⟩ := ih2 h
    obtain ⟨k2, c, d⟩ := ih1 b
    exact ⟨k2, c.trans a, d⟩
theorem paired_get {α β : Type} {R : α → β → Prop} {xs : List α} {ys : List β} (h : Paired R xs ys) {i : Nat} {x : α} (e : xs[i]? = some x) : ∃ y, ys[i]? = some y ∧ R x y := by
  induction h generalizing i with
  | nil => simp at e
  | cons h1 _ ih =>
    cases i with
    | zero => simp at e; subst e; exact ⟨_, rfl, h1⟩
    | succ i => simp at e; simpa using ih e
theorem Reps.its {K : PySem.W.Frag} {F : Hp} : ∀ {k : List Ik} {vs : List V}, Reps K F (k.map unI) vs → vs = k.map vIt
  | [], _, h => by cases h; rfl
  | x :: k, _, h => by
    cases h with
    | cons h1 h2 =>
      rw [Reps.its h2]
      cases x <;> cases h1 <;> rfl
theorem reps_its {K : PySem.W.Frag} {F : Hp} : ∀ k : List Ik, Reps K F (k.map unI) (k.map vIt)
  | [] => .nil
  | .inl i :: k => .cons (.int i) (reps_its k)
  | .inr s :: k => .cons (.str s) (reps_its k)
theorem cr_sortedTG {X : Cx} : CallR X (.builtin "sorted") (fun vs H Q => ∃ (a : Addr) (xs : List V) (F : Hp) (ks : List (List Ik)), vs = [V.ref a] ∧ SqL X.K H a xs ∧ Emb F H ∧ Reps X.K F (ks.map unT) xs ∧ okK ks = true ∧
    ∀ (ys : List V) (p : Addr), Reps X.K F ((sortK ks).map unT) ys → H p = none → Q (.ref p) (upd H p (.lst ys))) := by
  intro pins s σ H vs us Q I r h
  obtain ⟨a, xs, F, ks, rfl, hs, em, rp, hok, q⟩ := h
  obtain ⟨its, rv, hl, hz⟩ := I.list hs
  obtain ⟨u, rfl, ru⟩ := vals1 r
  cases ru
  let shape : Nat → Bool := shp (ks.headD [])
  let T : List Ik → Value → Prop := fun k u => ∃ p, u = .ref p ∧ SqT X.K F p (k.map vIt) ∧ tupKeyC s.heap shape u = some k ∧ ∃ f, TupOf s.heap shape u f
  have hsh : ∀ k ∈ ks, k ≠ [] ∧ ∀ j x, k[j]? = some x → shape (0 + j) = x.isRight := by
    intro k hk
    cases ks with
    | nil => cases hk
    | cons k0 ks =>
      simp only [okK, Bool.and_eq_true, Bool.not_eq_true', List.all_eq_true, beq_iff_eq] at hok
      obtain ⟨h0, h1⟩ := hok
      have e : k.map Sum.isRight = k0.map Sum.isRight := by
        rcases List.mem_cons.mp hk with rfl | hk
        · rfl
        · exact h1 k hk
      refine ⟨?_, fun j x hx => ?_⟩
      · rintro rfl
        cases k0 with
        | nil => cases h0
        | cons _ _ => cases e
      · show shp k0 (0 + j) = _
        unfold shp
        rw [Nat.zero_add, ← e, List.getElem?_map, hx]; rfl
  have one : ∀ {k : List Ik} {v : V} {u : Value}, k ∈ ks → Rep X.K F (unT k) v → RelV v u → T k u := by
    intro k v u hk r1 r2
    cases r1 with
    | tup t1 t2 =>
      rename_i p vs
      have ev := Reps.its t2
      subst ev
      cases r2
      obtain ⟨jts, rj, ht, _⟩ := I.tuple (em.sqt t1)
      obtain ⟨o, ho, hc, n, hd⟩ := ht
      obtain ⟨hne, hs0⟩ := hsh k hk
      refine ⟨p, rfl, t1, ?_, ?_⟩
      · unfold tupKeyC
        have e1 : isTupObj s.heap (.ref p) = true := by simp [isTupObj, ho, hc]
        rw [if_pos e1]
        simp only [tupKey, ho, hd]
        exact items_of k 0 _ (by simpa using rj) hs0
      · cases k with
        | nil => exact absurd rfl hne
        | cons x k =>
          cases rj with
          | cons r3 r4 =>
            rename_i f jts
            refine ⟨f, p, o, _, n, rfl, ho, hc, hd, rfl, fun z => ?_, fun z => ?_⟩
            · have := hs0 0 x rfl
              rw [show shape (0 + 0) = shape 0 from rfl, z] at this
              cases x with
              | inl i => exact ⟨i, r3⟩
              | inr s => cases this
            · have := hs0 0 x rfl
              rw [show shape (0 + 0) = shape 0 from rfl, z] at this
              cases x with
              | inl i => cases this
              | inr s => exact ⟨_, r3⟩
  have all : ∀ {ks' : List (List Ik)} {xs : List V} {its : List Value}, (∀ k ∈ ks', k ∈ ks) → Reps X.K F (ks'.map unT) xs → Vals xs its → Paired T ks' its := by
    intro ks'
    induction ks' with
    | nil => intro xs its _ h1 h2; cases h1; cases h2; exact .nil
    | cons k ks' ih =>
      intro xs its hm h1 h2
      cases h1 with
      | cons h3 h4 => cases h2 with | cons h5 h6 => exact .cons (one (hm k List.mem_cons_self) h3 h5) (ih (fun k hk => hm k (List.mem_cons_of_mem _ hk)) h4 h6)
  have hT := all (fun _ h => h) rp rv
  have tups : ∀ {ks' : List (List Ik)} {its : List Value}, Paired T ks' its → ∃ fs, TupsOf s.heap shape its fs := by
    intro ks' its h
    induction h with
    | nil => exact ⟨[], .nil⟩
    | cons h1 _ ih =>
      obtain ⟨fs, h⟩ := ih
      obtain ⟨_, _, _, _, f, hf⟩ := h1
      exact ⟨f :: fs, .cons hf h⟩
  obtain ⟨fs, hfs⟩ := tups hT
  have keys : ∀ {ks' : List (List Ik)} {its : List Value}, Paired T ks' its → ∀ v ∈ its, ∃ l, tupKeyC s.heap shape v = some l := by
    intro ks' its h
    induction h with
    | nil => intro v hv; cases hv
    | cons h1 _ ih =>
      intro v hv
      rcases List.mem_cons.mp hv with rfl | hv
      · obtain ⟨_, _, _, h, _⟩ := h1; exact ⟨_, h⟩
      · exact ih v hv
  refine PyProof.Rows.G.sorted_tups (vs := its) hl.isList hfs (keys hT) (by rw [← rv.length]; exact hz) fun st' h1 h2 _ => ?_
  have hp : ((arrOf st').map (·.2)).toList.Perm its := by
    have e := Array.perm_iff_toList_perm.mp h1
    rw [pairsOf_toList] at e
    have := e.map (·.2)
    rw [Array.toList_map]
    refine this.trans ?_
    rw [show (its.zip its).map (·.2) = its from by
      rw [← List.unzip_snd, List.unzip_zip (Eq.refl _)]]
  have hself : ∀ x ∈ (arrOf st').toList, x.1 = x.2 := fun x hx => by
    have e := Array.perm_iff_toList_perm.mp h1
    rw [pairsOf_toList] at e
    exact (mem_zip_self (e.mem_iff.mp hx)).1
  obtain ⟨ks', kp, hT'⟩ := paired_perm hp hT
  have hks : ks' = sortK ks := by
    refine sorted_uniq (fun _ _ => leK_anti) (kp.trans (sortK_perm ks).symm) ?_ (sortK_pw ks)
    have hlen : ks'.length = (arrOf st').size := by rw [hT'.length]; simp
    have at_ : ∀ i (hi : i < ks'.length), (KK (tupKindC s.heap shape) (arrOf st') i : List Ik) = ks'[i] := fun i hi => by
      obtain ⟨u, hu, hTu⟩ := paired_get hT' (List.getElem?_eq_getElem hi)
      rw [Array.toList_map, List.getElem?_map] at hu
      have hi' : i < (arrOf st').size := by rw [← hlen]; exact hi
      have hx : (arrOf st')[i]? = some (arrOf st')[i] := Array.getElem?_eq_getElem hi'
      rw [Array.getElem?_toList, hx] at hu
      cases hu
      unfold KK
      rw [hx]
      obtain ⟨_, _, _, hk, _⟩ := hTu
      have hs := hself (arrOf st')[i] (by simp)
      show (tupKeyC s.heap shape (arrOf st')[i].1).getD [] = _
      rw [hs, hk]; rfl
    rw [List.pairwise_iff_getElem]
    intro i j hi hj hij
    have hsz : (pairsOf its).size = (arrOf st').size := h1.size_eq.symm
    have := h2 i j (Nat.le_of_lt hij) (by rw [hsz, ← hlen]; exact hj)
    rw [at_ i hi, at_ j hj] at this
    have this : lexLt itemOrd ks'[j] ks'[i] = false := this
    unfold leK
    rw [this]; rfl
  have back : ∀ {ks' : List (List Ik)} {us : List Value}, Paired T ks' us → ∃ ys, Vals ys us ∧ Reps X.K F (ks'.map unT) ys := by
    intro ks' us h
    induction h with
    | nil => exact ⟨[], .nil, .nil⟩
    | cons h1 _ ih =>
      obtain ⟨ys, a, b⟩ := ih
      obtain ⟨p, rfl, hq, _⟩ := h1
      exact ⟨.ref p :: ys, .cons rfl a, .cons (.tup hq (reps_its _)) b⟩
  obtain ⟨ys, vy, ry⟩ := back hT'
  rw [hks] at ry
  obtain ⟨ep, he'⟩ := PyProof.Rows.sortedAll_at s.heap its ((arrOf st').map (·.2))
  have hlen : ys.length ≤ sizeLine := by rw [vy.length, hp.length_eq, ← rv.length]; exact hz
  exact ⟨.ref _, upd H (s.heap.objs.size + 1) (.lst ys), I.laid (t' := s.toks) (fun _ _ => PyProof.Rows.sortedAll_old) (Nat.le_succ _) ⟨hlen, ((arrOf st').map (·.2)).toList, ep, vy, he'⟩, rfl, q _ _ ry (I.hok.fresh (Nat.le_succ _))⟩
def dSort : List D → R D
  | [.lst xs] => match asTs xs with
    | some ks => if okK ks = true then .ok (.lst ((sortK ks).map unT)) else dSorted [.lst xs]
    | none => dSorted [.lst xs]
  | ds => dSorted ds
theorem c_sort {X : Cx} (hc : X.calm = true) : CalF X (.builtin "sorted") dSort := by
  have c0 := c_sorted (X := X) hc
  refine ⟨fun pins s σ H xs us Q I rv ⟨F, ds, d, e, r, hg, q⟩ => ?_, fun x c => ?_⟩
  · have old : dSorted ds = .ok d → _ := fun z => c0.run pins s σ H xs us Q I rv ⟨F, ds, d, e, r, z, q⟩
    unfold dSort at hg
    split at hg
    · split at hg
      · split at hg
        · rename_i ys ks hk hok
          cases hg
          obtain ⟨x, rfl, r1⟩ := r.inv1
          obtain ⟨a, vs, rfl, s1, p1⟩ := r1.lst e
          have := asTs_of hk
          subst this
          exact cr_sortedTG pins s σ H _ us Q I rv ⟨a, vs, F, ks, rfl, s1, e, p1, hok, fun zs p hr hn => q.newL e hr p hn⟩
        · exact old hg
      · exact old hg
    · exact old hg
  · intro h
    unfold dSort at h
    split at h
    · split at h
      · split at h
        · cases h
        · exact c0.ne _ _ h
      · exact c0.ne _ _ h
    · exact c0.ne _ _ h
end KN
/-! KnL: more meanings -/
/-! KnS: sets of ints, of texts, made of a list or tuple; their members sorted; their number -/
namespace KN
open PySem PySem.Spec PyProof.Rows L2
section
variable {κ : Type} [DecidableEq κ] {P : Program} {w : World}
structure GTab (knd : PySem.KeyKind P w κ) (es : Array (Int × Value)) (t : SetTable) (ks : List κ) : Prop where
  el : ElemsOf knd es.toList
  nd : es.toList.Pairwise fun e f => ∀ k, knd.is k e.2 = true → ¬ knd.is k f.2 = true
  mem : ∀ k, k ∈ ks ↔ ∃ e ∈ es.toList, knd.is k e.2 = true
  few : es.size ≤ ks.length
  fit : t.fits es.size = true
  ris : Ris t.place.toList
  led : w.params.followText "set-order" = true ∨ t.led = true
/-- the set at a, its members are those of ks -/
def GSet (knd : PySem.KeyKind P w κ) (h : Heap) (a : Addr) (ks : List κ) : Prop := ∃ o es ep t, h.get? a = some o ∧ o.ExactSet ∧ o.data = .set es ep t ∧ GTab knd es t ks
variable {knd : PySem.KeyKind P w κ} {es es' : Array (Int × Value)} {t t' : SetTable} {ks ks' : List κ} {h h' : Heap} {a : Addr}
theorem GSet.at (G : GSet knd h a ks) (q : ∀ o, h.get? a = some o → h'.get? a = some o) : GSet knd h' a ks := by
  obtain ⟨o, es, ep, t, g1, g2⟩ := G
  exact ⟨o, es, ep, t, q o g1, g2⟩
theorem GTab.congr (G : GTab knd es t ks) (q : ∀ k, k ∈ ks' ↔ k ∈ ks) (l : es.size ≤ ks'.length) : GTab knd es t ks' := ⟨G.el, G.nd, fun k => (q k).trans (G.mem k), l, G.fit, G.ris, G.led⟩
theorem GSet.congr (G : GSet knd h a ks) (q : ∀ k, k ∈ ks' ↔ k ∈ ks) (l : ks.length ≤ ks'.length) : GSet knd h a ks' := by
  obtain ⟨o, es, ep, t, g1, g2, g3, G⟩ := G
  exact ⟨o, es, ep, t, g1, g2, g3, G.congr q (Nat.le_trans G.few l)⟩
theorem nd_perm {l m : List (Int × Value)} (p : l.Perm m) (n : m.Pairwise fun e f => ∀ k, knd.is k e.2 = true → ¬ knd.is k f.2 = true) : l.Pairwise fun e f => ∀ k, knd.is k e.2 = true → ¬ knd.is k f.2 = true :=
  (p.pairwise_iff (fun hxy k h1 h2 => hxy k h2 h1)).mpr n
theorem GTab.perm (G : GTab knd es t ks) (p : es'.toList.Perm es.toList) (f : t'.fits es'.size = true) (r : Ris t'.place.toList) (l : t'.led = t.led) : GTab knd es' t' ks := by
  have sz : es'.size = es.size := by rw [← Array.length_toList, p.length_eq, Array.length_toList]
  refine ⟨fun e he => G.el e (p.mem_iff.mp he), nd_perm p G.nd, fun k => (G.mem k).trans ⟨fun ⟨e, he, q⟩ => ⟨e, p.mem_iff.mpr he, q⟩, fun ⟨e, he, q⟩ => ⟨e, p.mem_iff.mp he, q⟩⟩, by rw [sz]; exact G.few, f, r, ?_⟩
  rw [l]; exact G.led
theorem GTab.add (G : GTab knd es t ks) {k : κ} {x : Value} (hx : knd.is k x = true) (hs : x.scannable = true) (new : k ∉ ks) (p : es'.toList.Perm ((knd.hash k, x) :: es.toList)) (f : t'.fits es'.size = true) (r : Ris t'.place.toList)
    (l : t'.led = t.led) : GTab knd es' t' (k :: ks) := by
  have sz : es'.size = es.size + 1 := by rw [← Array.length_toList, p.length_eq, List.length_cons, Array.length_toList]
  refine ⟨fun e he => ?_, nd_perm p (List.pairwise_cons.mpr ⟨fun e he k' h1 h2 => ?_, G.nd⟩), fun k' => ⟨fun hk => ?_, fun ⟨e, he, q⟩ => ?_⟩, by rw [sz, List.length_cons]; have := G.few; omega, f, r, by rw [l]; exact G.led⟩
  · rcases List.mem_cons.mp (p.mem_iff.mp he) with rfl | he
    · exact ⟨⟨k, hx, rfl⟩, hs⟩
    · exact G.el e he
  · have : k' = k := knd.inj x k' k h1 hx
    subst this
    exact new ((G.mem k').mpr ⟨e, he, h2⟩)
  · rcases List.mem_cons.mp hk with rfl | hk
    · exact ⟨_, p.mem_iff.mpr List.mem_cons_self, hx⟩
    · obtain ⟨e, he, q⟩ := (G.mem k').mp hk
      exact ⟨e, p.mem_iff.mpr (List.mem_cons_of_mem _ he), q⟩
  · rcases List.mem_cons.mp (p.mem_iff.mp he) with rfl | he
    · rw [knd.inj x k' k q hx]; exact List.mem_cons_self
    · exact List.mem_cons_of_mem _ ((G.mem k').mpr ⟨e, he, q⟩)
/-! ### add -/
variable {A : Around} {E : Value → Shared → Prop} {s : Shared}
theorem gTail {g : Bool → Sem Unit} (hg : ∀ (b : Bool) (s₁ : Shared) (Q' : Unit → Shared → Prop), Q' () s₁ → wpAny (model P w) A (g b) Q' E s₁) {o : Obj} {ep : Nat} (ho : s.heap.get? a = some o) (hex : o.ExactSet)
    (hd : o.data = .set es ep t') (G : GTab knd es' t ks) (few : es'.size < scanBound) {wd : Bool} {R : Option Bool → Shared → Prop} (hR : ∀ h', Heap.SameBut a s.heap h' → GSet knd h' a ks → R (some true) { s with heap := h' }) :
    wpAny (model P w) A (do
        storeSet a es' t
        if (!wd && t.tooFull) = true then do
            g (relayAll t es' (SetTable.grown es'.size)).2.2
            storeSet a (relayAll t es' (SetTable.grown es'.size)).1 (relayAll t es' (SetTable.grown es'.size)).2.1
            pure (some true)
          else pure (some true)) R E s := by
  refine wpAny_bind (wpAny_storeSet_of ho hd ?_ (fits_of_scanBound few))
  have o1 := L2.store_at (es' := es') (t' := t) ho hd
  have b1 := Heap.SameBut.update s.heap a (Obj.putSet es' t)
  split
  · have p2 := relayAll_perm t es' (SetTable.grown es'.size)
    have f2 := relayAll_fits t es' (SetTable.grown es'.size)
    have r2 := relayAll_ris t es' (SetTable.grown es'.size)
    have l2 := relayAll_led t es' (SetTable.grown es'.size)
    generalize relayAll t es' (SetTable.grown es'.size) = Z at p2 f2 r2 l2 ⊢
    obtain ⟨e2, t2, gv⟩ := Z
    dsimp only at p2 f2 r2 l2 ⊢
    have few2 : e2.size < scanBound := by
      have : e2.size = es'.size := by rw [← Array.length_toList, p2.length_eq, Array.length_toList]
      omega
    refine wpAny_bind (hg _ _ _ (wpAny_bind (wpAny_storeSet_of o1 rfl ?_ (fits_of_scanBound few2))))
    exact wpAny_pure (hR _ (b1.trans (Heap.SameBut.update _ a _)) ⟨_, e2, _, t2, L2.store_at o1 rfl, hex, rfl, G.perm p2 f2 r2 l2⟩)
  · exact wpAny_pure (hR _ b1 ⟨_, es', _, t, o1, hex, rfl, G⟩)
theorem gAdd {k : κ} {x : Value} {Q : Bool → Shared → Prop} (hx : knd.is k x = true) (hs : x.scannable = true) (G : GSet knd s.heap a ks) (room : ks.length + 1 < scanBound)
    (hQ : ∀ b h', Heap.SameBut a s.heap h' → GSet knd h' a (k :: ks) → Q b { s with heap := h' }) : wpAny (model P w) A (setAddHashed a x (knd.hash k)) Q E s := by
  obtain ⟨o, es, ep, t, ho, hex, hd, G⟩ := G
  have few := G.few
  have bnd : es.size < scanBound := by omega
  unfold setAddHashed setAddHashedIn
  refine wpAny_holding (wpAny_bind (wpAny_setState_of ho hd G.fit (show _ from ?_)))
  dsimp only
  rw [byScan_of hs bnd G.el]
  simp only [↓reduceIte]
  unfold setAddByScan
  refine wpAny_bind (wpAny_bind (wpAny_rule (wpAny_bind (wpAny_setScan_of hx ho hd G.fit G.el ?_))))
  cases e1 : List.findIdx? (fun e => knd.is k e.2) es.toList with
  | some j =>
    obtain ⟨j1, j2, _⟩ := List.findIdx?_eq_some_iff_getElem.mp e1
    have hk : k ∈ ks := (G.mem k).mpr ⟨es.toList[j], List.getElem_mem j1, j2⟩
    exact wpAny_pure (wpAny_pure (hQ false s.heap (Heap.SameBut.refl a s.heap) ⟨o, es, ep, t, ho, hex, hd, G.congr (fun k' => ⟨fun z => (List.mem_cons.mp z).elim (fun e => e ▸ hk) id, List.mem_cons_of_mem _⟩) (by rw [List.length_cons]; omega)⟩))
  | none =>
    dsimp only
    have new : k ∉ ks := fun z => by
      obtain ⟨e, he, q⟩ := (G.mem k).mp z
      have c := List.findIdx?_eq_none_iff.mp e1 e he
      rw [q] at c; cases c
    have gv : ∀ (b : Bool) {s₁ : Shared} {Q' : Unit → Shared → Prop}, Q' () s₁ → wpAny (model P w) A (match b with | true => rule "set.scan.the-table-gave-way" | false => pure ()) Q' E s₁ := by
      intro b s₁ Q' q
      cases b
      · exact wpAny_pure q
      · exact wpAny_rule q
    have p1 := layNew_perm t es (knd.hash k) x
    have f1 := layNew_fits t es (knd.hash k) x
    have r1 := layNew_ris t es (knd.hash k) x G.ris
    have l1 := layNew_led t es (knd.hash k) x
    generalize layNew t es (knd.hash k) x = Z at p1 f1 r1 l1 ⊢
    obtain ⟨e2, t2, wd, gave⟩ := Z
    dsimp only at p1 f1 r1 l1 ⊢
    rw [Array.toList_push] at p1
    have p2 : e2.toList.Perm ((knd.hash k, x) :: es.toList) := p1.trans (List.perm_append_singleton _ _)
    have few2 : e2.size < scanBound := by
      have : e2.size = es.size + 1 := by rw [← Array.length_toList, p2.length_eq, List.length_cons, Array.length_toList]
      omega
    have G2 := G.add hx hs new p2 f1 r1 l1
    have G3 := G.add (t' := { t2 with plain := false }) hx hs new p2 (SetTable.fits_plain_off f1) r1 l1
    refine wpAny_bind (gv _ ?_)
    have g0 : ∀ (b : Bool) (s₁ : Shared) (Q' : Unit → Shared → Prop), Q' () s₁ → wpAny (model P w) A (match b with | true => rule "set.scan.the-table-gave-way" | false => pure ()) Q' E s₁ := fun b s₁ Q' q => gv b q
    split
    · refine wpAny_bind ?_
      rw [hashByValue_scannable 8 hs]
      refine wpAny_pure ?_
      split
      · exact gTail (fun b s₁ Q' q => by cases b <;> first | exact wpAny_pure q | exact wpAny_rule q) ho hex hd G2 few2 fun h' sb g => wpAny_pure (hQ true h' sb g)
      · exact gTail (fun b s₁ Q' q => by cases b <;> first | exact wpAny_pure q | exact wpAny_rule q) ho hex hd G3 few2 fun h' sb g => wpAny_pure (hQ true h' sb g)
    · refine wpAny_bind (wpAny_pure (show _ from ?_))
      simp only [↓reduceIte]
      exact gTail (fun b s₁ Q' q => by cases b <;> first | exact wpAny_pure q | exact wpAny_rule q) ho hex hd G2 few2 fun h' sb g => wpAny_pure (hQ true h' sb g)
/-! ### set.update over what is walked -/
theorem gUpdate {I : Addr} {fp wr : List Addr} {Gn : Array GenState → Array GenState → Prop} {n : Nat} {Pv : Nat → Value → Prop} {St : Nat → Shared → Prop} {R : Result → Shared → Prop} (Wk : WalksS P w A.in1 I fp wr Gn n Pv St) (S : Addr) (out : S ∉ fp)
    (ks : List κ) (hn : n = ks.length) (room : ks.length + 1 < scanBound) (hv : ∀ i v, Pv i v → ∃ k, ks[i]? = some k ∧ knd.is k v = true ∧ v.scannable = true) :
    ∀ (m i : Nat) (s : Shared), n - i = m → i ≤ n → St i s → GSet knd s.heap S (ks.take i) → (∀ s', Moved (S :: wr) Gn s s' → GSet knd s'.heap S ks → R (.ok (.ret .none)) s') →
      codeAny (model P w) A (.builtin "set.update.loop" ⟨[.ref S, .ref I], []⟩) R s := by
  have nw : S ∉ wr := fun z => out (Wk.sub _ z)
  have up : ∀ b ∈ wr, b ∈ S :: wr := fun b z => List.mem_cons_of_mem _ z
  intro m
  induction m with
  | zero =>
    intro i s hm hi st G hR
    have : i = n := by omega
    subst this
    refine codeAny_builtin F.entry_set_update_loop (show _ from ?_)
    rw [Around.under_plainId F.plain_set_update_loop _]
    refine wpAny_bind (m := pyNext (.ref I)) (Wk.done s _ _ st fun s' mv => ?_)
    have e : ks.take i = ks := List.take_of_length_le (by omega)
    rw [e] at G
    exact wpAny_pure (hR s' (mv.mono up) (G.at fun o z => mv.heap S o nw z))
  | succ m ih =>
    intro i s hm hi st G hR
    have lt : i < n := by omega
    refine codeAny_builtin F.entry_set_update_loop (show _ from ?_)
    rw [Around.under_plainId F.plain_set_update_loop _]
    refine wpAny_bind (m := pyNext (.ref I)) (Wk.item i s _ _ lt st fun v s' hP st' mv => ?_)
    obtain ⟨k, ek, hx, hs⟩ := hv i v hP
    have G' : GSet knd s'.heap S (ks.take i) := G.at fun o z => mv.heap S o nw z
    have tl : (ks.take i).length ≤ ks.length := by rw [List.length_take]; omega
    refine wpAny_bind (m := holding [v] (setAdd S v)) (wpAny_holding (show wpAny _ _ (setAdd S v) _ _ _ from ?_))
    unfold setAdd
    refine wpAny_holding (wpAny_bind (knd.pyHash hx (gAdd (s := { s' with toks := s'.toks + 1 }) hx hs G' (by omega) fun b h' sb G2 => ?_)))
    have G3 : GSet knd h' S (ks.take (i + 1)) := G2.congr (fun j => by rw [List.take_add_one, ek]; simp [List.mem_append, or_comm]) (by
      rw [List.take_add_one, ek]; simp)
    refine wpAny_pure ⟨plainId_quiet F.plain_set_update_loop _, ih (i + 1) _ (by omega) lt (Wk.frame _ s' _ _ st' (Nat.le_succ _) fun b hb o e => ?_) G3 fun s'' mv2 G4 => hR s'' (Moved.trans Wk.gtrans ((mv.mono up).then_heap (Nat.le_succ _) fun b o hb e => ?_) mv2) G4⟩
    · rw [sb.2 b (fun z : b = S => out (by rw [← z]; exact hb))]; exact e
    · rw [sb.2 b (fun z : b = S => hb (by rw [z]; exact List.mem_cons_self))]; exact e
theorem gNew {h : Heap} {a : Addr} (ho : h.get? a = some { cls := .type "set", dict := none, data := .set #[] 0 (.fresh 0 0 (!w.params.followText "set-order")) }) : GSet knd h a ([] : List κ) := by
  refine ⟨_, #[], 0, _, ho, ⟨rfl, rfl, rfl⟩, rfl, fun e he => absurd he (by simp), by simp, by simp, Nat.le_refl _, by rfl, List.Pairwise.nil, ?_⟩
  show _ ∨ (!w.params.followText "set-order") = true
  cases w.params.followText "set-order"
  · exact .inr rfl
  · exact .inl rfl
set_option maxRecDepth 100000 in
set_option maxHeartbeats 3200000 in
theorem gCall_list {l : Addr} {its : Array Value} (ks : List κ) {Q : Value → Shared → Prop} (cl : A.handled = none) (hl : s.heap.IsList l its) (hn : its.size = ks.length) (hv : ∀ (i : Nat) (v : Value), its[i]? = some v → ∃ k, ks[i]? = some k ∧ knd.is k v = true ∧ v.scannable = true)
    (room : ks.length + 1 < scanBound) (hQ : ∀ (h' : Heap) (tk : Nat), GSet knd h' s.heap.objs.size ks → (∀ b o, s.heap.get? b = some o → h'.get? b = some o) → Q (.ref s.heap.objs.size) { s with heap := h', toks := tk }) :
    wpAny (model P w) A (call (.type "set") [.ref l]) Q E s := by
  obtain ⟨mc, mt, em⟩ := F.called_set.mro
  have c1 := F.called_set.made
  have c2 := F.called_set.sub
  refine wpAny_call (codeAny_of_tree (show wpAny _ _ (callAny (.type "set") _) _ _ _ from wpAny_pure ⟨Code.quiet_builtin _ (by decide +kernel), codeAny_builtin F.entry_type_call ?_⟩))
  rw [Around.under_plain (weight_type_call_type "set" [.ref l] []) rfl]
  have c3 := F.called_set.notType
  have c4 := F.called_set.canCreate
  have c5 := F.typeCall_set_1 (.ref l)
  repeat (any_goals (first | assumption | wp_step))
  let o0 : Obj := { cls := .type "set", dict := none, data := .set #[] 0 (.fresh 0 0 (!w.params.followText "set-order")) }
  refine codeAny_mono (code_set_led1 (.ref l) (E := E) (Q₁ := fun obj s₁ => obj = .ref s.heap.objs.size ∧ s₁ = { s with heap := s.heap.push o0 }) ⟨rfl, rfl⟩) fun r s₁ hr => ?_
  cases r with
  | error e => exact hr
  | ok fl =>
   cases fl with
   | ret ob =>
    obtain ⟨rfl, rfl⟩ := hr
    have g0 : (s.heap.push o0).get? s.heap.objs.size = some o0 := Heap.get?_push_size _ rfl
    have ty : Shared.TypeIs { s with heap := s.heap.push o0 } (.ref s.heap.objs.size) "set" := ⟨_, g0, rfl⟩
    have c6 := F.called_set.init.lookup
    have c7 := F.called_set.init.bind (.ref s.heap.objs.size)
    repeat (any_goals (first | assumption | wp_step))
    refine codeAny_mono (codeAny_call_builtin (R := wants (fun r s₂ => r = .none ∧ ∃ h' tk, s₂ = { s with heap := h', toks := tk } ∧ GSet knd h' s.heap.objs.size ks ∧ (∀ b o, s.heap.get? b = some o → h'.get? b = some o)) E) F.called_set.init.plain F.entry_set_init (check_set_init_1 ty ?_)) fun r₂ s₂ h2 => ?_
    · obtain ⟨ol, gl, cl1, nl, dl⟩ := hl
      obtain ⟨oc, od, oa, os1⟩ := ol
      simp only at cl1 dl
      subst cl1 dl
      have gl1 : (s.heap.push o0).get? l = some { cls := .type "list", dict := od, data := .seq its nl, slots := os1 } := Heap.get?_push_of_some _ gl
      have c8 := F.sub_list_set
      have c9 := F.sub_list_frozenset
      have c10 : (Value.type "list" == Value.type "dict") = false := (by decide)
      have is1 : (s.heap.push o0).IsList l its := ⟨_, gl1, rfl, nl, rfl⟩
      unfold Builtin.«set.__init__» noKeywords Builtin.Frozenset.updateFrom
      generalize ePI : pyIter = PI
      wp_walk
      subst ePI
      refine wpAny_pyIter_list is1 (wpAny_bind (wpAny_runValue ?_))
      have lt : l < s.heap.objs.size := Heap.lt_size gl
      have cl3 : A.in1.in1.in1.handled = none := (by simp [cl])
      have ne1 : l ≠ (s.heap.push o0).objs.size := (by rw [Heap.size_push]; exact Nat.ne_of_lt (Nat.lt_succ_of_lt lt))
      have out : s.heap.objs.size ∉ [(s.heap.push o0).objs.size, l] := by
        rw [Heap.size_push]
        intro z
        rcases List.mem_cons.mp z with z | z
        · exact absurd z (Nat.ne_of_lt (Nat.lt_succ_self _))
        · exact absurd (List.mem_singleton.mp z).symm (Nat.ne_of_lt lt)
      refine gUpdate (knd := knd) ((Walks.list cl3 _ l ne1 its).toS) s.heap.objs.size out ks hn room hv (its.size - 0) 0 _ (by omega) (Nat.zero_le _) ⟨⟨_, Heap.get?_push_size _ rfl, rfl, rfl⟩, is1.push _⟩ ?h0 ?hR
      case h0 => exact gNew (Heap.get?_push_of_some _ g0)
      case hR =>
        intro s' mv G
        obtain ⟨h', g2, d', tk', os'⟩ := s'
        have e1 : g2 = s.gens := mv.gens
        have e2 : d' = s.drawn := mv.drawn
        have e3 : os' = s.os := mv.os
        subst e1 e2 e3
        refine (show wpAny _ _ _ _ _ _ from wpAny_pure (show wpAny _ _ (ret Value.none) _ _ _ from wpAny_pure ⟨rfl, h', tk', rfl, G, fun b o e => ?_⟩))
        have lb : b < s.heap.objs.size := Heap.lt_size e
        refine mv.heap b o (fun z => ?_) (Heap.get?_push_of_some _ (Heap.get?_push_of_some _ e))
        rw [Heap.size_push] at z
        rcases List.mem_cons.mp z with z | z
        · exact absurd z (Nat.ne_of_lt lb)
        · exact absurd (List.mem_singleton.mp z) (Nat.ne_of_lt (Nat.lt_succ_of_lt lb))
    · cases r₂ with
      | error e => exact h2
      | ok f2 =>
       cases f2 with
       | ret v =>
        obtain ⟨rfl, h', tk, rfl, G, kp⟩ := h2
        repeat (any_goals (first | assumption | wp_step))
        exact hQ _ _ G kp
       | _ => exact h2.elim
   | _ => exact hr.elim
set_option maxRecDepth 100000 in
set_option maxHeartbeats 3200000 in
theorem gCall_tuple {l : Addr} {its : Array Value} (ks : List κ) {Q : Value → Shared → Prop} (cl : A.handled = none) (hl : s.heap.IsTuple l its) (hn : its.size = ks.length) (hv : ∀ (i : Nat) (v : Value), its[i]? = some v → ∃ k, ks[i]? = some k ∧ knd.is k v = true ∧ v.scannable = true)
    (room : ks.length + 1 < scanBound) (hQ : ∀ (h' : Heap) (tk : Nat), GSet knd h' s.heap.objs.size ks → (∀ b o, s.heap.get? b = some o → h'.get? b = some o) → Q (.ref s.heap.objs.size) { s with heap := h', toks := tk }) :
    wpAny (model P w) A (call (.type "set") [.ref l]) Q E s := by
  obtain ⟨mc, mt, em⟩ := F.called_set.mro
  have c1 := F.called_set.made
  have c2 := F.called_set.sub
  refine wpAny_call (codeAny_of_tree (show wpAny _ _ (callAny (.type "set") _) _ _ _ from wpAny_pure ⟨Code.quiet_builtin _ (by decide +kernel), codeAny_builtin F.entry_type_call ?_⟩))
  rw [Around.under_plain (weight_type_call_type "set" [.ref l] []) rfl]
  have c3 := F.called_set.notType
  have c4 := F.called_set.canCreate
  have c5 := F.typeCall_set_1 (.ref l)
  repeat (any_goals (first | assumption | wp_step))
  let o0 : Obj := { cls := .type "set", dict := none, data := .set #[] 0 (.fresh 0 0 (!w.params.followText "set-order")) }
  refine codeAny_mono (code_set_led1 (.ref l) (E := E) (Q₁ := fun obj s₁ => obj = .ref s.heap.objs.size ∧ s₁ = { s with heap := s.heap.push o0 }) ⟨rfl, rfl⟩) fun r s₁ hr => ?_
  cases r with
  | error e => exact hr
  | ok fl =>
   cases fl with
   | ret ob =>
    obtain ⟨rfl, rfl⟩ := hr
    have g0 : (s.heap.push o0).get? s.heap.objs.size = some o0 := Heap.get?_push_size _ rfl
    have ty : Shared.TypeIs { s with heap := s.heap.push o0 } (.ref s.heap.objs.size) "set" := ⟨_, g0, rfl⟩
    have c6 := F.called_set.init.lookup
    have c7 := F.called_set.init.bind (.ref s.heap.objs.size)
    repeat (any_goals (first | assumption | wp_step))
    refine codeAny_mono (codeAny_call_builtin (R := wants (fun r s₂ => r = .none ∧ ∃ h' tk, s₂ = { s with heap := h', toks := tk } ∧ GSet knd h' s.heap.objs.size ks ∧ (∀ b o, s.heap.get? b = some o → h'.get? b = some o)) E) F.called_set.init.plain F.entry_set_init (check_set_init_1 ty ?_)) fun r₂ s₂ h2 => ?_
    · obtain ⟨ol, gl, cl1, nl, dl⟩ := hl
      obtain ⟨oc, od, oa, os1⟩ := ol
      simp only at cl1 dl
      subst cl1 dl
      have gl1 : (s.heap.push o0).get? l = some { cls := .type "tuple", dict := od, data := .seq its nl, slots := os1 } := Heap.get?_push_of_some _ gl
      have c8 := F.sub_tuple_set
      have c9 := F.sub_tuple_frozenset
      have c10 : (Value.type "tuple" == Value.type "dict") = false := (by decide)
      have is1 : (s.heap.push o0).IsTuple l its := ⟨_, gl1, rfl, nl, rfl⟩
      unfold Builtin.«set.__init__» noKeywords Builtin.Frozenset.updateFrom
      generalize ePI : pyIter = PI
      wp_walk
      subst ePI
      refine wpAny_pyIter_tuple is1 (wpAny_bind (wpAny_runValue ?_))
      have lt : l < s.heap.objs.size := Heap.lt_size gl
      have cl3 : A.in1.in1.in1.handled = none := (by simp [cl])
      have ne1 : l ≠ (s.heap.push o0).objs.size := (by rw [Heap.size_push]; exact Nat.ne_of_lt (Nat.lt_succ_of_lt lt))
      have out : s.heap.objs.size ∉ [(s.heap.push o0).objs.size, l] := by
        rw [Heap.size_push]
        intro z
        rcases List.mem_cons.mp z with z | z
        · exact absurd z (Nat.ne_of_lt (Nat.lt_succ_self _))
        · exact absurd (List.mem_singleton.mp z).symm (Nat.ne_of_lt lt)
      refine gUpdate (knd := knd) ((Walks.tuple cl3 _ l ne1 its).toS) s.heap.objs.size out ks hn room hv (its.size - 0) 0 _ (by omega) (Nat.zero_le _) ⟨⟨_, Heap.get?_push_size _ rfl, rfl, rfl⟩, is1.push _⟩ ?h0 ?hR
      case h0 => exact gNew (Heap.get?_push_of_some _ g0)
      case hR =>
        intro s' mv G
        obtain ⟨h', g2, d', tk', os'⟩ := s'
        have e1 : g2 = s.gens := mv.gens
        have e2 : d' = s.drawn := mv.drawn
        have e3 : os' = s.os := mv.os
        subst e1 e2 e3
        refine (show wpAny _ _ _ _ _ _ from wpAny_pure (show wpAny _ _ (ret Value.none) _ _ _ from wpAny_pure ⟨rfl, h', tk', rfl, G, fun b o e => ?_⟩))
        have lb : b < s.heap.objs.size := Heap.lt_size e
        refine mv.heap b o (fun z => ?_) (Heap.get?_push_of_some _ (Heap.get?_push_of_some _ e))
        rw [Heap.size_push] at z
        rcases List.mem_cons.mp z with z | z
        · exact absurd z (Nat.ne_of_lt lb)
        · exact absurd (List.mem_singleton.mp z) (Nat.ne_of_lt (Nat.lt_succ_of_lt lb))
    · cases r₂ with
      | error e => exact h2
      | ok f2 =>
       cases f2 with
       | ret v =>
        obtain ⟨rfl, h', tk, rfl, G, kp⟩ := h2
        repeat (any_goals (first | assumption | wp_step))
        exact hQ _ _ G kp
       | _ => exact h2.elim
   | _ => exact hr.elim
/-! ### sorted -/
theorem gVals (G : GTab knd es t ks) {vs : List Value} (p : vs.Perm (es.toList.map (·.2))) : (∀ v ∈ vs, ∃ k, knd.is k v = true) ∧ vs.Pairwise (fun u v => ∀ k, knd.is k u = true → ¬ knd.is k v = true) ∧ (∀ k, k ∈ ks ↔ ∃ v ∈ vs, knd.is k v = true) ∧ vs.length = es.size := by
  refine ⟨fun v hv => ?_, (p.pairwise_iff (fun hxy k h1 h2 => hxy k h2 h1)).mpr (List.pairwise_map.mpr G.nd), fun k => (G.mem k).trans ⟨fun ⟨e, he, q⟩ => ⟨e.2, p.mem_iff.mpr (List.mem_map.mpr ⟨e, he, rfl⟩), q⟩, fun ⟨v, hv, q⟩ => ?_⟩, by rw [p.length_eq, List.length_map, Array.length_toList]⟩
  · obtain ⟨e, he, rfl⟩ := List.mem_map.mp (p.mem_iff.mp hv)
    obtain ⟨⟨k, q, _⟩, _⟩ := G.el e he
    exact ⟨k, q⟩
  · obtain ⟨e, he, rfl⟩ := List.mem_map.mp (p.mem_iff.mp hv)
    exact ⟨e, he, q⟩
end
section
variable {P : Program} {w : World} {A : Around} {E : Value → Shared → Prop} {s : Shared} {a : Addr}
theorem gAreS {vs : List Value} (h : ∀ v ∈ vs, ∃ k, (PySem.strKind P w).is k v = true) : ∃ ks, StrsAre vs ks ∧ ∀ (i : Nat) (v : Value), vs[i]? = some v → ∃ k, ks[i]? = some k ∧ (PySem.strKind P w).is k v = true := by
  induction vs with
  | nil => exact ⟨[], .nil, fun i v z => by simp at z⟩
  | cons v vs ih =>
    obtain ⟨ks, h1, h2⟩ := ih fun u hu => h u (List.mem_cons_of_mem _ hu)
    obtain ⟨k, q⟩ := h v List.mem_cons_self
    obtain ⟨tk, rfl⟩ := Value.isStrOf_shape q
    exact ⟨k :: ks, .cons k tk h1, fun i v z => by
      cases i with
      | zero => simp at z; subst z; exact ⟨k, rfl, q⟩
      | succ i => simp at z ⊢; exact h2 i v z⟩
theorem gSortedS {ks : List Str} {Q : Value → Shared → Prop} (G : GSet (PySem.strKind P w) s.heap a ks) (cl : A.handled = none) (room : ks.length < scanBound)
    (hQ : ∀ s' p (out : Array Value) (c : Nat) (ms : List Str), (∀ b o, s.heap.get? b = some o → s'.heap.get? b = some o) → s'.gens = s.gens → s'.os = s.os → s.heap.objs.size ≤ p → s'.heap.get? p = some (seqObj "list" out c) → StrsAre out.toList ms → ms.Nodup → (∀ k, k ∈ ms ↔ k ∈ ks) → sortedS ms = true → Q (.ref p) s') :
    wpAny (model P w) A (call (.builtin "sorted") [.ref a]) Q E s := by
  obtain ⟨o, es, ep, t, ho, hex, hd, G⟩ := G
  have few := G.few
  refine Calls.call_function_entry kind_sorted plain_sorted entry_sorted (args_sorted1 _) (show _ from ?_)
  unfold Builtin.«sorted»
  refine wpAny_bind (m := checkCount "sorted" 1 1 _) (wpAny_pure (wpAny_bind (collect_set (A := A.in1) cl ⟨o, ho, hex.1, hd⟩ G.fit (by omega) G.ris G.led fun s1 vs kp sz g1 o1 pm => ?_)))
  obtain ⟨v1, v2, v3, v4⟩ := gVals G pm
  obtain ⟨ns, v5, v6⟩ := gAreS v1
  have len : vs.length ≤ sizeLine := by rw [v4]; exact fits_of_scanBound (show es.size < scanBound by omega)
  refine wpAny_bind (wpAny_newList (show _ from ?_) len)
  have g2 : (s1.heap.push (seqObj "list" vs.toArray 0)).get? s1.heap.objs.size = some (seqObj "list" vs.toArray 0) := Heap.get?_push_size _ rfl
  refine wpAny_bind (wpAny_holding (wpAny_call_entry slot_list_sort ⟨_, g2, rfl⟩ entry_list_sort (list_sort_treeKAny strKind_oneLt g2 v5.keysOf (fun x y r e => keyKind_strs (by rw [← e]; exact v5)) len fun st' a1 a2 => ⟨_, rfl, ?_⟩) (args_list_sort _)))
  obtain ⟨ms, m1, m2, m3⟩ := sorted_out_str v5 a1 a2
  obtain ⟨c, hc⟩ := sortedHeap_at (vs := vs) (out := (arrOf st').map (·.2)) g2
  have nn : ns.Nodup := by
    refine List.pairwise_iff_getElem.mpr fun i j hi hj ij e => ?_
    have li : ns.length = vs.length := by have := v5.len_eq; omega
    obtain ⟨k, e1, q1⟩ := v6 i vs[i] (List.getElem?_eq_getElem (by omega))
    obtain ⟨k2, e2, q2⟩ := v6 j vs[j] (List.getElem?_eq_getElem (by omega))
    rw [List.getElem?_eq_getElem hi] at e1
    rw [List.getElem?_eq_getElem hj] at e2
    cases e1
    cases e2
    rw [← e] at q2
    exact List.pairwise_iff_getElem.mp v2 i j (by omega) (by omega) ij _ q1 q2
  have nm : ∀ k, k ∈ ns ↔ k ∈ ks := fun k => by
    rw [v3 k]
    have li : ns.length = vs.length := by have := v5.len_eq; omega
    constructor
    · intro hk
      obtain ⟨i, hi, rfl⟩ := List.mem_iff_getElem.mp hk
      obtain ⟨k, e1, q1⟩ := v6 i vs[i] (List.getElem?_eq_getElem (by omega))
      rw [List.getElem?_eq_getElem hi] at e1
      cases e1
      exact ⟨vs[i], List.getElem_mem _, q1⟩
    · rintro ⟨v, hv, q⟩
      obtain ⟨i, hi, rfl⟩ := List.mem_iff_getElem.mp hv
      obtain ⟨k', e1, q1⟩ := v6 i vs[i] (List.getElem?_eq_getElem (by omega))
      have : k = k' := (PySem.strKind P w).inj _ _ _ q q1
      subst this
      exact List.mem_of_getElem? e1
  refine wpAny_pure ⟨_, rfl, hQ _ s1.heap.objs.size _ c ms (fun b u e => ?_) g1 o1 sz hc m1 (m2.nodup_iff.mpr nn) (fun k => m2.mem_iff.trans (nm k)) m3⟩
  have q := kp b u e
  have lt := Heap.lt_size q
  show (sortedHeap _ s1.heap.objs.size vs _).get? b = some u
  rw [sortedHeap_old (Nat.ne_of_lt lt) (by rw [size_push']; exact Nat.lt_succ_of_lt lt)]
  exact Heap.get?_push_of_some _ q
end
section
variable {P : Program} {w : World} {A : Around} {E : Value → Shared → Prop} {s : Shared} {a : Addr}
theorem gAreI {vs : List Value} (h : ∀ v ∈ vs, ∃ k, (PySem.intKind P w).is k v = true) : ∃ ks, IntsAre vs ks ∧ ∀ (i : Nat) (v : Value), vs[i]? = some v → ∃ k, ks[i]? = some k ∧ (PySem.intKind P w).is k v = true := by
  induction vs with
  | nil => exact ⟨[], .nil, fun i v z => by simp at z⟩
  | cons v vs ih =>
    obtain ⟨ks, h1, h2⟩ := ih fun u hu => h u (List.mem_cons_of_mem _ hu)
    obtain ⟨k, q⟩ := h v List.mem_cons_self
    obtain ⟨tk, rfl⟩ := Value.isInt_shape q
    exact ⟨k :: ks, .cons k tk h1, fun i v z => by
      cases i with
      | zero => simp at z; subst z; exact ⟨k, rfl, q⟩
      | succ i => simp at z ⊢; exact h2 i v z⟩
theorem gSortedI {ks : List Int} {Q : Value → Shared → Prop} (G : GSet (PySem.intKind P w) s.heap a ks) (cl : A.handled = none) (room : ks.length < scanBound)
    (hQ : ∀ s' p (out : Array Value) (c : Nat) (ms : List Int), (∀ b o, s.heap.get? b = some o → s'.heap.get? b = some o) → s'.gens = s.gens → s'.os = s.os → s.heap.objs.size ≤ p → s'.heap.get? p = some (seqObj "list" out c) → IntsAre out.toList ms → ms.Nodup → (∀ k, k ∈ ms ↔ k ∈ ks) → ms.Pairwise (· ≤ ·) → Q (.ref p) s') :
    wpAny (model P w) A (call (.builtin "sorted") [.ref a]) Q E s := by
  obtain ⟨o, es, ep, t, ho, hex, hd, G⟩ := G
  have few := G.few
  refine Calls.call_function_entry kind_sorted plain_sorted entry_sorted (args_sorted1 _) (show _ from ?_)
  unfold Builtin.«sorted»
  refine wpAny_bind (m := checkCount "sorted" 1 1 _) (wpAny_pure (wpAny_bind (collect_set (A := A.in1) cl ⟨o, ho, hex.1, hd⟩ G.fit (by omega) G.ris G.led fun s1 vs kp sz g1 o1 pm => ?_)))
  obtain ⟨v1, v2, v3, v4⟩ := gVals G pm
  obtain ⟨ns, v5, v6⟩ := gAreI v1
  have len : vs.length ≤ sizeLine := by rw [v4]; exact fits_of_scanBound (show es.size < scanBound by omega)
  refine wpAny_bind (wpAny_newList (show _ from ?_) len)
  have g2 : (s1.heap.push (seqObj "list" vs.toArray 0)).get? s1.heap.objs.size = some (seqObj "list" vs.toArray 0) := Heap.get?_push_size _ rfl
  refine wpAny_bind (wpAny_holding (wpAny_call_entry slot_list_sort ⟨_, g2, rfl⟩ entry_list_sort (list_sort_treeKAny intKind_oneLt g2 v5.keysOfInt (fun x y r e => keyKind_ints (by rw [← e]; exact v5)) len fun st' a1 a2 => ⟨_, rfl, ?_⟩) (args_list_sort _)))
  obtain ⟨ms, m1, m2, m3⟩ := sorted_out v5 a1 (sortedTo_of_int a2)
  obtain ⟨c, hc⟩ := sortedHeap_at (vs := vs) (out := (arrOf st').map (·.2)) g2
  have nn : ns.Nodup := by
    refine List.pairwise_iff_getElem.mpr fun i j hi hj ij e => ?_
    have li : ns.length = vs.length := by have := v5.length; omega
    obtain ⟨k, e1, q1⟩ := v6 i vs[i] (List.getElem?_eq_getElem (by omega))
    obtain ⟨k2, e2, q2⟩ := v6 j vs[j] (List.getElem?_eq_getElem (by omega))
    rw [List.getElem?_eq_getElem hi] at e1
    rw [List.getElem?_eq_getElem hj] at e2
    cases e1
    cases e2
    rw [← e] at q2
    exact List.pairwise_iff_getElem.mp v2 i j (by omega) (by omega) ij _ q1 q2
  have nm : ∀ k, k ∈ ns ↔ k ∈ ks := fun k => by
    rw [v3 k]
    have li : ns.length = vs.length := by have := v5.length; omega
    constructor
    · intro hk
      obtain ⟨i, hi, rfl⟩ := List.mem_iff_getElem.mp hk
      obtain ⟨k, e1, q1⟩ := v6 i vs[i] (List.getElem?_eq_getElem (by omega))
      rw [List.getElem?_eq_getElem hi] at e1
      cases e1
      exact ⟨vs[i], List.getElem_mem _, q1⟩
    · rintro ⟨v, hv, q⟩
      obtain ⟨i, hi, rfl⟩ := List.mem_iff_getElem.mp hv
      obtain ⟨k', e1, q1⟩ := v6 i vs[i] (List.getElem?_eq_getElem (by omega))
      have : k = k' := (PySem.intKind P w).inj _ _ _ q q1
      subst this
      exact List.mem_of_getElem? e1
  refine wpAny_pure ⟨_, rfl, hQ _ s1.heap.objs.size _ c ms (fun b u e => ?_) g1 o1 sz hc m1 (m2.nodup_iff.mpr nn) (fun k => m2.mem_iff.trans (nm k)) m3⟩
  have q := kp b u e
  have lt := Heap.lt_size q
  show (sortedHeap _ s1.heap.objs.size vs _).get? b = some u
  rw [sortedHeap_old (Nat.ne_of_lt lt) (by rw [size_push']; exact Nat.lt_succ_of_lt lt)]
  exact Heap.get?_push_of_some _ q
end
/-! ### sorted(set(xs)), len(set(xs)) -/
def asSeq : D → Option (List D)
  | .lst xs => some xs
  | .tup xs => some xs
  | _ => none
def setOr (f : List Tx → D) (g : List Int → D) (d : D) : R D := match asSeq d with
  | none => .no
  | some xs => if xs.length < 4000 then match asTxs xs with
    | some ks => .ok (f ks.eraseDups)
    | none => match asInts xs with
      | some ns => .ok (g ns.eraseDups)
      | none => .no
    else .no
def dSortSet : D → R D := setOr (fun ks => .lst ((sortT ks).map D.str)) (fun ns => .lst ((sortI ns).map D.int))
def SqE (K : PySem.W.Frag) (H : Hp) (l : Addr) (vs : List V) : Prop := SqL K H l vs ∨ SqT K H l vs
def tSS (K : PySem.W.Frag) (q1 : List Str → Hp → VK → Prop) (q2 : List Int → Hp → VK → Prop) (ta : TE) : TE := fun σ H Q => ta σ H fun x H1 => ∃ l, x = .ref l ∧
  ((∃ ks : List Str, SqE K H1 l (ks.map V.str) ∧ ks.length < 4000 ∧ q1 ks H1 Q) ∨ ∃ ns : List Int, SqE K H1 l (ns.map V.int) ∧ ns.length < 4000 ∧ q2 ns H1 Q)
def q1S : List Str → Hp → VK → Prop := fun ks H Q => ∀ (ms : List Str) (p : Addr), ms.Nodup → (∀ k, k ∈ ms ↔ k ∈ ks) → sortedS ms = true → H p = none → Q (.ref p) (upd H p (.lst (ms.map V.str)))
def q2S : List Int → Hp → VK → Prop := fun ks H Q => ∀ (ms : List Int) (p : Addr), ms.Nodup → (∀ k, k ∈ ms ↔ k ∈ ks) → ms.Pairwise (· ≤ ·) → H p = none → Q (.ref p) (upd H p (.lst (ms.map V.int)))
section
variable {X : Cx} {a : Expr} {ta : TE} {p p2 q pos : Pos}
theorem str_at {ks : List Str} {us : List Value} (r : Vals (ks.map V.str) us) (i : Nat) (v : Value) (h : us[i]? = some v) : ∃ k, ks[i]? = some k ∧ (PySem.strKind X.prog X.w).is k v = true ∧ v.scannable = true := by
  induction ks generalizing us i with
  | nil => cases r; simp at h
  | cons k ks ih =>
    cases r with
    | cons r1 r2 =>
      cases i with
      | zero =>
        simp at h; subst h
        obtain ⟨tk, rfl⟩ := r1
        refine ⟨k, rfl, ?_, rfl⟩
        show Value.isStrOf k (.str k tk) = true
        simp [Value.isStrOf]
      | succ i => simp at h ⊢; exact ih r2 i h
theorem int_at {ks : List Int} {us : List Value} (r : Vals (ks.map V.int) us) (i : Nat) (v : Value) (h : us[i]? = some v) : ∃ k, ks[i]? = some k ∧ (PySem.intKind X.prog X.w).is k v = true ∧ v.scannable = true := by
  induction ks generalizing us i with
  | nil => cases r; simp at h
  | cons k ks ih =>
    cases r with
    | cons r1 r2 =>
      cases i with
      | zero =>
        simp at h; subst h
        obtain ⟨tk, rfl⟩ := r1
        refine ⟨k, rfl, ?_, rfl⟩
        show Value.isInt k (.int k tk) = true
        simp [Value.isInt]
      | succ i => simp at h ⊢; exact ih r2 i h
theorem made_set {pins : List (Addr × Obj)} {σ : L2.St} {H : Hp} {s : Shared} {l : Addr} {E : Value → Shared → Prop} {Q : Value → Shared → Prop} (hc : X.calm = true) (I : Inv X pins σ H s) {κ : Type} [DecidableEq κ] {knd : PySem.KeyKind X.prog X.w κ} {ks : List κ} {f : κ → V}
    (hl : SqE X.K H l (ks.map f)) (room : ks.length < 4000) (at_ : ∀ (us : List Value), Vals (ks.map f) us → ∀ (i : Nat) (v : Value), us[i]? = some v → ∃ k, ks[i]? = some k ∧ knd.is k v = true ∧ v.scannable = true)
    (hQ : ∀ h' tk, GSet knd h' s.heap.objs.size ks → Inv X pins σ H { s with heap := h', toks := tk } → Q (.ref s.heap.objs.size) { s with heap := h', toks := tk }) : wpAny (model X.prog X.w) X.A (call (.type "set") [.ref l]) Q E s := by
  have sb : ks.length + 1 < scanBound := by unfold scanBound; omega
  rcases hl with hl | hl
  · obtain ⟨its, r, pl, hz⟩ := I.list hl
    exact gCall_list (knd := knd) ks (I.ok.hd hc) pl.isList (by rw [List.size_toArray, ← r.length, List.length_map]) (fun i v e => at_ its r i v (by simpa using e)) sb fun h' tk G kp => hQ h' tk G (I.kept kp)
  · obtain ⟨its, r, pl, hz⟩ := I.tuple hl
    exact gCall_tuple (knd := knd) ks (I.ok.hd hc) pl (by rw [List.size_toArray, ← r.length, List.length_map]) (fun i v e => at_ its r i v (by simpa using e)) sb fun h' tk G kp => hQ h' tk G (I.kept kp)
theorem laid_list {pins : List (Addr × Obj)} {σ : L2.St} {H : Hp} {s s' : Shared} {p : Addr} {vs : List V} {out : Array Value} {c : Nat} (I : Inv X pins σ H s) (k : ∀ b o, s.heap.get? b = some o → s'.heap.get? b = some o) (g : s'.gens = s.gens) (o : s'.os = s.os)
    (hp : s.heap.objs.size ≤ p) (at_ : s'.heap.get? p = some (seqObj "list" out c)) (r : Vals vs out.toList) (len : vs.length ≤ sizeLine) : Inv X pins σ (upd H p (.lst vs)) s' ∧ H p = none :=
  ⟨I.call' (ch := []) o (Un.laid k hp (I.hok.fresh hp)) (I.hok.laid k hp ⟨len, out.toList, c, r, at_⟩) (by rw [g]; exact I.bare) (fun _ z => nomatch z), I.hok.fresh hp⟩
theorem nd_len {κ : Type} {ms ks : List κ} (nd : ms.Nodup) (h : ∀ k, k ∈ ms ↔ k ∈ ks) : ms.length ≤ ks.length := List.Nodup.length_le_of_subset nd fun k hk => (h k).mp hk
theorem pe_sortset (hc : X.calm = true) (hm : X.mg "sorted" = none) (hm2 : X.mg "set" = none) (ha : PE X a ta) (hg : Gl X "sorted" := by rfl) (hg2 : Gl X "set" := by rfl)
    (na : starEach [a] X.env = (false, eval a X.env) :: starEach [] X.env := by rfl) : PE X (.Call (.Name "sorted" p) [.Call (.Name "set" p2) [a] [] q] [] pos) (tSS X.K q1S q2S ta) := by
  refine ⟨fun pins s σ H Q I h => Call_ (ld_blt I hg hm PyProof.Rows.boot_sorted (PyProof.Rows.callWith_builtin1 (PyProof.Rows.args_cons (Call_ (ld_blt I hg2 hm2 PyProof.Rows.boot_set
    (PyProof.Rows.callWith_type1 (PyProof.Rows.args_cons (thn (ha.run pins s σ H _ I h) fun v s1 ⟨x, H1, I1, r1, q1⟩ => PyProof.Rows.args_nil ?_) na) na rfl))) rfl) rfl rfl))⟩
  obtain ⟨l, rfl, q1⟩ := q1
  cases r1
  rcases q1 with ⟨ks, hl, room, q1⟩ | ⟨ks, hl, room, q1⟩
  · refine made_set (knd := PySem.strKind X.prog X.w) hc I1 hl room (fun us r => str_at r) fun h' tk G I2 => PyProof.Rows.args_nil (gSortedS G (I2.ok.hd hc) (by unfold scanBound; omega) fun s' p out c ms k g o hp hg r nd mem so => ?_)
    obtain ⟨I3, hn⟩ := laid_list I2 k g o hp hg (vals_of_strs r) (by rw [List.length_map]; exact Nat.le_trans (nd_len nd mem) (fits_of_scanBound (by unfold scanBound; omega)))
    exact ⟨.ref p, _, I3, rfl, q1 ms p nd mem so hn⟩
  · refine made_set (knd := PySem.intKind X.prog X.w) hc I1 hl room (fun us r => int_at r) fun h' tk G I2 => PyProof.Rows.args_nil (gSortedI G (I2.ok.hd hc) (by unfold scanBound; omega) fun s' p out c ms k g o hp hg r nd mem so => ?_)
    obtain ⟨I3, hn⟩ := laid_list I2 k g o hp hg (vals_of_ints r) (by rw [List.length_map]; exact Nat.le_trans (nd_len nd mem) (fits_of_scanBound (by unfold scanBound; omega)))
    exact ⟨.ref p, _, I3, rfl, q1 ms p nd mem so hn⟩
theorem asSeq_of {K : PySem.W.Frag} {F H : Hp} (e : Emb F H) {d : D} {xs : List D} (h : asSeq d = some xs) {v : V} (r : Rep1 K F H d v) : ∃ l vs, v = .ref l ∧ SqE K H l vs ∧ Reps K F xs vs := by
  cases d <;> simp only [asSeq] at h <;> first | (cases h; done) | skip
  · cases h
    obtain ⟨a, vs, rfl, s, p⟩ := r.lst e
    exact ⟨a, vs, rfl, .inl s, p⟩
  · cases h
    obtain ⟨a, vs, rfl, s, p⟩ := r.tup e
    exact ⟨a, vs, rfl, .inr s, p⟩
theorem erase_nd {κ : Type} [BEq κ] [LawfulBEq κ] : ∀ (n : Nat) (ks : List κ), ks.length ≤ n → ks.eraseDups.Nodup
  | _, [], _ => by simp
  | n + 1, a :: ks, h => by
    rw [List.eraseDups_cons, List.nodup_cons]
    refine ⟨fun z => ?_, erase_nd n _ (Nat.le_trans (List.length_filter_le _ _) (by simpa using h))⟩
    have := (List.mem_filter.mp (List.mem_eraseDups.mp z)).2
    simp at this
theorem nd_erase {κ : Type} [BEq κ] [LawfulBEq κ] {ms ks : List κ} (nd : ms.Nodup) (h : ∀ k, k ∈ ms ↔ k ∈ ks) : ms.Perm ks.eraseDups := by
  refine (List.perm_ext_iff_of_nodup nd (erase_nd _ ks (Nat.le_refl _))).mpr fun k => ?_
  rw [h k, List.mem_eraseDups]
theorem of_set {K : PySem.W.Frag} {W : WN} {fa : Ga → R D} {f : List Tx → D} {g : List Int → D} {q1 : List Str → Hp → VK → Prop} {q2 : List Int → Hp → VK → Prop} {P : Hp → Hp → D → VK → Prop} {σ : L2.St} {H F : Hp} {γ : Ga} {Q : VK} (r : RS K F γ σ H)
    (o : Out (P F H) F H (fun c H' => W c σ H') (b1 (setOr f g) fa γ) Q)
    (h1 : ∀ (ks : List Tx) F1 H1, Nxt F H F1 H1 → P F H (f ks.eraseDups) Q → q1 (ks.map toS) H1 Q) (h2 : ∀ (ns : List Int) F1 H1, Nxt F H F1 H1 → P F H (g ns.eraseDups) Q → q2 ns H1 Q) : tSS K q1 q2 (rdR K W fa) σ H Q := by
  refine go1 (Z := fun z => Out (P F H) F H (fun c H' => W c σ H') z Q) r o (fun _ z => z) (fun z => z) fun dx x F1 H1 n1 r1 p1 o1 => ?_
  unfold setOr at o1
  split at o1
  · exact o1.elim
  · rename_i xs hxs
    obtain ⟨l, vs, rfl, s, rp⟩ := asSeq_of r1.emb hxs p1
    refine ⟨l, rfl, ?_⟩
    split at o1
    · rename_i hl
      split at o1
      · rename_i ks hk
        have := asTxs_of hk
        subst this
        rw [rp.txs] at s
        exact .inl ⟨ks.map toS, s, by simpa using hl, h1 ks F1 H1 n1 o1⟩
      · split at o1
        · rename_i ns hn
          have := asInts_of hn
          subst this
          rw [rp.ints] at s
          exact .inr ⟨ns, s, by simpa using hl, h2 ns F1 H1 n1 o1⟩
        · exact o1.elim
    · exact o1.elim
theorem back_toS {ms : List Str} {ks : List Tx} (h : ∀ k, k ∈ ms ↔ k ∈ ks.map toS) (nd : ms.Nodup) : ∃ zs : List Tx, ms = zs.map toS ∧ zs.Perm ks.eraseDups := by
  have e : (ms.map fun y => y.cps.toList).map toS = ms := by
    rw [List.map_map]
    have : (toS ∘ fun y : Str => y.cps.toList) = id := by funext y; exact toS_tl y
    rw [this, List.map_id]
  refine ⟨ms.map fun y => y.cps.toList, e.symm, nd_erase ?_ fun k => ?_⟩
  · rw [← e] at nd
    exact (List.pairwise_map.mp nd).imp fun h z => h (by rw [z])
  · constructor
    · intro hk
      obtain ⟨y, hy, rfl⟩ := List.mem_map.mp hk
      obtain ⟨z, hz, q⟩ := List.mem_map.mp ((h y).mp hy)
      subst q
      simpa [toS] using hz
    · intro hk
      exact List.mem_map.mpr ⟨toS k, (h _).mpr (List.mem_map.mpr ⟨k, hk, rfl⟩), by simp [toS]⟩
variable {W : WN} {fa : Ga → R D}
theorem jf_sortset (hc : X.calm = true) (hm : X.mg "sorted" = none) (hm2 : X.mg "set" = none) (ha : JR X W fa a) (hg : Gl X "sorted" := by rfl) (hg2 : Gl X "set" := by rfl)
    (na : starEach [a] X.env = (false, eval a X.env) :: starEach [] X.env := by rfl) : JF X W (b1 dSortSet fa) (.Call (.Name "sorted" p) [.Call (.Name "set" p2) [a] [] q] [] pos) :=
  ⟨PE.imp (pe_sortset hc hm hm2 ha.pe hg hg2 na) fun σ H Q ⟨F, γ, r, o⟩ => of_set (P := PF X.K) r o (fun ks F1 H1 n1 o1 ms p nd mem so hn => by
    obtain ⟨zs, rfl, pz⟩ := back_toS mem nd
    rw [sortT_of pz so]
    exact (PF.next (Q := Q) o1 n1).newTx n1.emb p hn) fun ns F1 H1 n1 o1 ms p nd mem so hn => by
    rw [sortI_of (nd_erase nd mem) so]
    exact (PF.next (Q := Q) o1 n1).newL n1.emb (reps_ints _) p hn⟩
end
end KN
/-! KnT: a list display told over -/
/-! KnN: dicts of dicts, filled and counted in place -/
/-! KnX: raise, try, what is told of a caught error -/
namespace KN
open PySem PySem.Spec PyProof.Rows L2
/-! ### raise -/
/-- an error class of the program's own, over ValueError -/
structure ExR (K : PySem.W.Frag) (mg : Str → Option Value) (x : Str) (C : Addr) : Prop where
  g : mg x = some (.ref C)
  q : PySem.W.excIn K C [.type "ValueError", .type "Exception", .type "BaseException", .type "object"] "ValueError.__new__" = true
  k : PySem.W.keepIn K (.ref C) = true
  b : PySem.W.subIn K (.ref C) (.type "BaseException") = some true
  t : PySem.W.typeIn K (.ref C) = some (.type "type")
def fRaise (c : Nat) : Ga → R Fl := fun _ => .ex c
theorem js_raise {X : Cx} {W : WN} {cl : Cl} {c : Nat} {C : Addr} {x m : Str} {j : Nat} {p p2 pos pos' : Pos} (hcl : cl c = .ref C) (E : ExR X.K X.mg x C) (hc : X.calm = true) (tk : Takes X (VW cl W)) (hg : Gl X x := by rfl)
    (hdb : (x == ("__debug__" : Str)) = false := by decide) : JS X W (fRaise c) (.Raise (some (.Call (.Name x p) [.Constant (.str m) j p2] [] pos)) none pos') :=
  ⟨PS.imp (ps_raise hc tk (pmk_own PySem.F.excBase_ValueError E.q E.g E.k (raises_own E.b E.t) hg hdb)) fun E' σ H ⟨B, F, γ, r, o⟩ => ⟨c, hcl.symm, rfl, o σ F H r.fi⟩⟩
/-! ### a def that is told a caught error -/
/-! ### isinstance of the error -/
/-! ### xs.count(b), xs.index(b), of truths -/
end KN
namespace KN
open PySem PySem.Spec PyProof.Rows L2
/-! ### the program's errors -/
structure ErrOne (K : PySem.W.Frag) (x : Str) (C L : Addr) : Prop where
  n : PySem.W.nsIn K mainGlobals x = some (some (.ref C))
  q : PySem.W.excIn K C [.type "ValueError", .type "Exception", .type "BaseException", .type "object"] "ValueError.__new__" = true
  k : PySem.W.keepIn K (.ref C) = true
  b : PySem.W.subIn K (.ref C) (.type "BaseException") = some true
  v : PySem.W.subIn K (.ref C) (.type "ValueError") = some true
  l : PySem.W.subIn K (.ref C) (.ref L) = some true
  t : PySem.W.typeIn K (.ref C) = some (.type "type")
  hg : PySem.W.findIn K (.ref C) "__getattribute__" = some (some (.builtin "BaseException.__getattribute__"))
  hk : PySem.W.findIn K (.ref C) "__getattr__" = some none
  hd : PySem.W.hasDictIn K C = true
  ha : PySem.W.findIn K (.ref C) "__class__" = some (some (.builtin "object.__class__"))
  hn : PySem.W.specialIn K (.builtin "object.__class__") "__get__" = some (some (.builtin "getset_descriptor.__get__"))
  ht : PySem.W.takesIn K (.builtin "object.__class__") = some true
  hm : PySem.W.mroIn K C (.type "object") = some true
structure ErrL (K : PySem.W.Frag) (L : Addr) : Prop where
  n : PySem.W.nsIn K mainGlobals "LikeError" = some (some (.ref L))
  b : PySem.W.subIn K (.ref L) (.type "BaseException") = some true
  t : PySem.W.typeIn K (.ref L) = some (.type "type")
  hd : PySem.W.hasDictIn K L = true
def errName : Nat → Str
  | 0 => "NoBook"
  | 1 => "NoOrder"
  | 2 => "NoName"
  | 3 => "NoWish"
  | 4 => "NoNumber"
  | 5 => "NotMade"
  | 6 => "TooShort"
  | 7 => "Nothing"
  | 8 => "NoText"
  | _ => "LikeError"
theorem ErrOne.x {K : PySem.W.Frag} {x : Str} {C L : Addr} {h : Heap} {mg : Str → Option Value} (E : ErrOne K x C L) (X : K.In h) (G : h.Ns mainGlobals mg) : ExR K mg x C := ⟨PySem.W.mg_of X G E.n, E.q, E.k, E.b, E.t⟩
theorem ErrOne.c {K : PySem.W.Frag} {x : Str} {C L : Addr} (E : ErrOne K x C L) : ExcC K C := ⟨E.hg, E.hk, E.b, E.hd, E.ha, E.hn, E.ht, E.hm⟩
theorem isSome_cls {K : PySem.W.Frag} {C : Addr} (h : PySem.W.hasDictIn K C = true) : (PySem.W.clsIn K C).isSome = true := by
  obtain ⟨cd, hc, _⟩ := PySem.W.any_some h
  rw [hc]; rfl
theorem kit_cls {K : PySem.W.Frag} {C D : Addr} {b : Bool} (hd : PySem.W.hasDictIn K D = true) (ht : PySem.W.typeIn K (.ref D) = some (.type "type")) (s : PySem.W.subIn K (.ref C) (.ref D) = some b) (s2 : PySem.W.subIn K (.ref D) (.ref D) = some true) :
    PySem.W.kitOne K (.ref C) (.ref D) = some b := by
  unfold PySem.W.kitOne
  split
  · rename_i h
    have e : C = D := Value.ref.inj (beq_iff_eq.mp h)
    subst e
    rw [s2] at s
    exact s
  · unfold PySem.W.kitCls
    have e2 : ((PySem.W.clsIn K D).isSome && PySem.W.typeIn K (.ref D) == some (.type "type")) = true := by rw [isSome_cls hd, ht]; rfl
    simp only [e2, if_true]
    exact s
theorem kit_val {K : PySem.W.Frag} {C : Addr} (s : PySem.W.subIn K (.ref C) (.type "ValueError") = some true) : PySem.W.kitOne K (.ref C) (.type "ValueError") = some true := by
  unfold PySem.W.kitOne
  split
  · rfl
  · unfold PySem.W.kitCls
    have e2 : PySem.W.kitMeta "ValueError" = true := by decide
    simp only [e2, if_true]
    exact s
structure Errs (hs : List Nat) (K : PySem.W.Frag) (mg : Str → Option Value) where
  e : Nat → Addr
  L : Addr
  g : mg "LikeError" = some (.ref L)
  x : ∀ c, c ∈ hs → ExR K mg (errName c) (e c)
  c : ∀ c, c ∈ hs → ExcC K (e c)
  kit : ∀ c i, c ∈ hs → i ∈ hs → PySem.W.kitOne K (.ref (e c)) (.ref (e i)) = some (decide (c = i))
  val : ∀ c, c ∈ hs → PySem.W.kitOne K (.ref (e c)) (.type "ValueError") = some true
  exm : ∀ c, c ∈ hs → PySem.W.exmOne K (.ref (e c)) (.ref L) = some true
  exo : ∀ c i, c ∈ hs → i ∈ hs → PySem.W.exmOne K (.ref (e c)) (.ref (e i)) = some (decide (c = i))
/-- the classes by their numbers -/
def clE {hs : List Nat} {K : PySem.W.Frag} {mg : Str → Option Value} (T : Errs hs K mg) : Cl := fun c => .ref (T.e c)
/-- what is promised of a law: it tells, and raises nothing -/
def spOk (K : PySem.W.Frag) (n : Nat) (g : List D → R D) : Sp := fun vs H Q E => ∃ F ds d, vs.length = n ∧ Emb F H ∧ Reps K F ds vs ∧ g ds = .ok d ∧ PV K F H d Q
theorem spOk_D {K : PySem.W.Frag} {cl : Cl} {n : Nat} {g : List D → R D} : ∀ vs H Q E, spOk K n g vs H Q E → spD K cl n g vs H Q E := fun vs H Q E ⟨F, ds, d, a, b, c, e, q⟩ => ⟨F, ds, a, b, c, by rw [e]; exact q⟩
theorem law_endX {K : PySem.W.Frag} {H : Hp} {a : Addr} {ns : List Int} {n : Nat} {g : List D → R D} (h : ∀ ns : List Int, ns.length ≤ n → g [.lst (ns.map .int)] = .ok (.bl true)) (hl : ns.length ≤ n) (hS : SqL K H a (ns.map V.int)) :
    spOk K 1 g [.ref a] H (fun v _ => v = .bl true) fun _ _ _ => False := by
  have gen : ∀ F : Hp, Emb F H → SqL K F a (ns.map V.int) → spOk K 1 g [.ref a] H (fun v _ => v = .bl true) fun _ _ _ => False := fun F e s => by
    refine ⟨F, [.lst (ns.map .int)], _, rfl, e, .cons (.lst s (reps_ints ns)) .nil, h ns hl, ?_⟩
    intro v F' H' _ r
    cases r; rfl
  rcases hS with (h1 | ⟨o, h1⟩) | h1
  · exact gen (upd (fun _ => none) a (.lst (ns.map V.int))) (fun b o z => by
      by_cases q : b = a
      · subst q; rw [upd_same] at z; cases z; exact .inl h1
      · rw [upd_ne q] at z; cases z) (.inl (.inl upd_same))
  · exact gen (upd (fun _ => none) a (.frz o (.lst (ns.map V.int)))) (fun b o z => by
      by_cases q : b = a
      · subst q; rw [upd_same] at z; cases z; exact .inl h1
      · rw [upd_ne q] at z; cases z) (.inl (.inr ⟨o, upd_same⟩))
  · exact gen _ Emb.none (.inr h1)
end KN
/-! KnU: a text or a tuple times a number -/
/-! KnV: sorted(d.items()) -/
namespace KN
open PySem PySem.Spec PyProof.Rows L2
open PyProof.Rows.G (tupKeyC tupKindC isTupObj)
abbrev itK (e : Tx × Int) : List Ik := [.inr e.1, .inl e.2]
def shI (i : Nat) : Bool := i == 0
def TI (h : Heap) (Z : Addr → List V → Prop) (k : List Ik) (u : Value) : Prop := ∃ (a : Addr) (e : Tx × Int) (x y : Value), u = .ref a ∧ Z a [.str (toS e.1), .int e.2] ∧ k = itK e ∧ RelV (.str (toS e.1)) x ∧ RelV (.int e.2) y ∧ h.get? a = some { cls := .type "tuple", data := .seq #[x, y] }
theorem TI.key {h : Heap} {Z : Addr → List V → Prop} {k : List Ik} {u : Value} (t : TI h Z k u) : tupKeyC h shI u = some k := by
  obtain ⟨a, e, x, y, rfl, _, rfl, r1, r2, hg⟩ := t
  unfold tupKeyC
  have e1 : isTupObj h (.ref a) = true := by simp [isTupObj, hg]
  rw [if_pos e1]
  simp only [tupKey, hg]
  refine items_of (itK e) 0 _ (by
    show Vals [V.str (toS e.1), V.int e.2] [x, y]
    exact .cons r1 (.cons r2 .nil)) fun j z hz => ?_
  cases j with
  | zero => cases hz; rfl
  | succ j =>
    cases j with
    | zero => cases hz; rfl
    | succ j => simp [itK] at hz
theorem TI.tup {h : Heap} {Z : Addr → List V → Prop} {k : List Ik} {u : Value} (t : TI h Z k u) : ∃ f, TupOf h shI u f := by
  obtain ⟨a, e, x, y, rfl, _, rfl, r1, r2, hg⟩ := t
  refine ⟨x, a, _, _, _, rfl, hg, rfl, rfl, rfl, (fun z => nomatch z), fun _ => ?_⟩
  obtain ⟨tk, rfl⟩ := r1
  exact ⟨_, _, rfl⟩
theorem TI.keep {h h' : Heap} {Z : Addr → List V → Prop} {k : List Ik} {u : Value} (t : TI h Z k u) (q : ∀ b o, h.get? b = some o → h'.get? b = some o) : TI h' Z k u := by
  obtain ⟨a, e, x, y, e1, e2, e3, r1, r2, hg⟩ := t
  exact ⟨a, e, x, y, e1, e2, e3, r1, r2, q _ _ hg⟩
end KN
/-! KnW: [f, g, ..][i](..) -/
/-! KnY: sorted lists of pairs of an int and a list of ints -/
/-! KnO: calls without arguments -/
set_option maxHeartbeats 1000000
/-! KnQ: chains of three comparisons, as tests -/
set_option maxHeartbeats 1000000
/-! KnP: zip of a list and a tuple, by the library's zip over anything that draws -/
set_option maxHeartbeats 1000000
/-! KnR: objects that are read: arguments, calls, fields -/
namespace KN
open PySem PySem.Spec PyProof.Rows L2
/-! ### data that holds no erased thing -/
/-- what data stands on -/
def isDt : HO → Bool
  | .lst _ => true
  | .tup _ => true
  | .dK _ => true
  | .frz _ _ => true
  | _ => false
theorem rd_sub {F F' : Hp} (h : ∀ b o, F b = some o → isDt o = true → F' b = some o) {a : Addr} {o : HO} (hd : isDt o = true) (k : Rd F a o) : Rd F' a o := by
  rcases k with k | ⟨ob, k⟩
  · exact .inl (h _ _ k hd)
  · exact .inr ⟨ob, h _ _ k rfl⟩
theorem sql_sub {K : PySem.W.Frag} {F F' : Hp} (h : ∀ b o, F b = some o → isDt o = true → F' b = some o) {a : Addr} {xs : List V} (k : SqL K F a xs) : SqL K F' a xs := by
  rcases k with k | k
  · exact .inl (rd_sub h rfl k)
  · exact .inr k
theorem sqt_sub {K : PySem.W.Frag} {F F' : Hp} (h : ∀ b o, F b = some o → isDt o = true → F' b = some o) {a : Addr} {xs : List V} (k : SqT K F a xs) : SqT K F' a xs := by
  rcases k with k | k
  · exact .inl (rd_sub h rfl k)
  · exact .inr k
section
variable {K : PySem.W.Frag} {F F' : Hp}
theorem Rep.sub (h : ∀ b o, F b = some o → isDt o = true → F' b = some o) {d : D} {v : V} (r : Rep K F d v) : Rep K F' d v :=
  Rep.rec (motive_1 := fun d v _ => Rep K F' d v) (motive_2 := fun ds vs _ => Reps K F' ds vs) (motive_3 := fun es kvs _ => RepK K F' es kvs)
    .non .bl .int .str (fun h1 _ i => .lst (sql_sub h h1) i) (fun h1 _ i => .tup (sqt_sub h h1) i) (fun h1 _ i => .dic (h _ _ h1 rfl) i)
    .nil (fun _ _ i j => .cons i j) .nil (fun _ _ i j => .cons i j) r
theorem Reps.sub (h : ∀ b o, F b = some o → isDt o = true → F' b = some o) : ∀ {ds : List D} {vs : List V}, Reps K F ds vs → Reps K F' ds vs
  | _, _, .nil => .nil
  | _, _, .cons a b => .cons (a.sub h) (Reps.sub h b)
end
/-! ### arguments -/
inductive ArgsOk (K : PySem.W.Frag) (F : Hp) : List Sl → List V → Prop
  | nil : ArgsOk K F [] []
  | d {d : D} {v : V} {as : List Sl} {vs : List V} : Rep K F d v → ArgsOk K F as vs → ArgsOk K F (.va d :: as) (v :: vs)
  | o {c : Nat} {fs : List Fd} {a dx C : Addr} {kvs : List (Str × V)} {as : List Sl} {vs : List V} : RfAt K F c fs a dx C kvs → ArgsOk K F as vs → ArgsOk K F (.rf c fs :: as) (.ref a :: vs)
theorem ArgsOk.length {K : PySem.W.Frag} {F : Hp} : ∀ {as : List Sl} {vs : List V}, ArgsOk K F as vs → as.length = vs.length
  | _, _, .nil => rfl
  | _, _, .d _ h => by simp [h.length]
  | _, _, .o _ h => by simp [h.length]
theorem ArgsOk.get {K : PySem.W.Frag} {F : Hp} : ∀ {as : List Sl} {vs : List V}, ArgsOk K F as vs → ∀ {i : Nat} {s : Sl}, as[i]? = some s → ∃ v, vs[i]? = some v ∧ (∀ H, SlOk K F H s (some (some v))) ∧ ∀ H x b, ¬ Inn H s x b
  | _, _, .nil, _, _, h => by simp at h
  | _, _, .d p r, 0, _, h => by cases h; exact ⟨_, rfl, fun H => ⟨_, rfl, p⟩, fun _ _ _ z => z⟩
  | _, _, .o p r, 0, _, h => by cases h; exact ⟨_, rfl, fun H => ⟨_, _, _, _, rfl, p⟩, fun _ _ _ z => z⟩
  | _, _, .d p r, i + 1, _, h => r.get (i := i) (by simpa using h)
  | _, _, .o p r, i + 1, _, h => r.get (i := i) (by simpa using h)
/-! ### a def that reads objects -/
/-! ### the caller's arguments -/
def isOb : Sl → Bool
  | .ob _ _ _ => true
  | .rf _ _ => true
  | _ => false
def frz : Sl → Sl
  | .ob _ c fs => .rf c fs
  | s => s
inductive ArgsE (K : PySem.W.Frag) (F : Hp) (γ : Ga) (σ : L2.St) : List Sl → List V → Prop
  | nil : ArgsE K F γ σ [] []
  | d {d : D} {v : V} {as : List Sl} {vs : List V} : Rep K F d v → ArgsE K F γ σ as vs → ArgsE K F γ σ (.va d :: as) (v :: vs)
  | o {s : Sl} {v : V} {as : List Sl} {vs : List V} (j : Nat) : γ[j]? = some s → isOb s = true → σ[j]? = some (some v) → ArgsE K F γ σ as vs → ArgsE K F γ σ (s :: as) (v :: vs)
theorem ArgsE.mono {K : PySem.W.Frag} {F F' : Hp} {γ : Ga} {σ : L2.St} (f : Same F F') : ∀ {as : List Sl} {vs : List V}, ArgsE K F γ σ as vs → ArgsE K F' γ σ as vs
  | _, _, .nil => .nil
  | _, _, .d p r => .d (p.mono f) (r.mono f)
  | _, _, .o j a b c r => .o j a b c (r.mono f)
theorem ArgsE.length {K : PySem.W.Frag} {F : Hp} {γ : Ga} {σ : L2.St} : ∀ {as : List Sl} {vs : List V}, ArgsE K F γ σ as vs → as.length = vs.length
  | _, _, .nil => rfl
  | _, _, .d _ h => by simp [h.length]
  | _, _, .o _ _ _ _ h => by simp [h.length]
/-! ### objects of one's own, frozen for a call -/
def Owd (as : List Sl) (γ : Ga) (σ : L2.St) (H : Hp) (b : Addr) : Prop := ∃ (j : Nat) (h : Bool) (c : Nat) (fs : List Fd), Sl.ob h c fs ∈ as ∧ γ[j]? = some (Sl.ob h c fs) ∧ Inn H (Sl.ob h c fs) σ[j]? b
section
variable {K : PySem.W.Frag} {F H : Hp} {γ : Ga} {σ : L2.St} {as : List Sl}
theorem Owd.free (r : RS K F γ σ H) {b : Addr} (h : Owd as γ σ H b) : F b = none ∧ ∃ u, H b = some u := by
  obtain ⟨j, h0, c, fs, _, e, i⟩ := h
  exact i.have (r.sl j _ e)
theorem FdsOk.frz {F1 : Hp} {a : Addr} (f : Same F F1) : ∀ {fs : List Fd} {vs : List V}, FdsOk K F H a fs vs → (∀ b, OwF fs vs b → F1 b = H b) → Reps K F1 (fs.map (·.2)) vs
  | [], [], _, _ => .nil
  | (false, _) :: fs, v :: vs, h, k => .cons (h.1.mono f) (FdsOk.frz f h.2 k)
  | (true, d) :: fs, v :: vs, h, k => by
    obtain ⟨b, e1, e2, e3, e4, e5⟩ := h.1
    subst e1
    have kb := k b (.inl rfl)
    refine .cons ?_ (FdsOk.frz f h.2 fun b o => k b (.inr o))
    cases d <;> simp only [Own] at e4
    · obtain ⟨xs, q1, q2⟩ := e4; exact .lst (.inl (.inl (kb.trans q1))) (q2.mono f)
    · obtain ⟨xs, q1, q2⟩ := e4; exact .dic (kb.trans q1) (q2.mono f)
  | [], _ :: _, h, _ => h.elim
  | (false, _) :: _, [], h, _ => h.elim
  | (true, _) :: _, [], h, _ => h.elim
theorem ObAt.frz {F1 : Hp} {c : Nat} {fs : List Fd} {a dx C : Addr} {kvs : List (Str × V)} (o : ObAt K F H c fs a dx C kvs) (f : Same F F1) (h : ∀ b, (b = a ∨ b = dx ∨ OwF fs (kvs.map (·.2)) b) → F1 b = H b) : RfAt K F1 c fs a dx C kvs :=
  ⟨o.ne, (h a (.inl rfl)).trans o.ha, (h dx (.inr (.inl rfl))).trans o.hd, o.cl, o.nm, o.le, o.ok.frz f fun b z => h b (.inr (.inr z))⟩
end
/-! ### a call that reads objects -/
/-! ### fields -/
theorem FdsOk.get {K : PySem.W.Frag} {F H : Hp} {a : Addr} : ∀ {fs : List Fd} {vs : List V} {k : Nat} {fl : Bool} {d : D}, FdsOk K F H a fs vs → fs[k]? = some (fl, d) → ∃ v, vs[k]? = some v ∧ (fl = false → Rep K F d v) ∧ Rep1 K F H d v
  | [], _, _, _, _, _, e => by simp at e
  | (false, d') :: fs, v :: vs, 0, _, _, h, e => by cases e; exact ⟨v, rfl, fun _ => h.1, .inl h.1⟩
  | (true, d') :: fs, v :: vs, 0, _, _, h, e => by
    cases e
    obtain ⟨b, e1, _, _, e4, _⟩ := h.1
    exact ⟨v, rfl, fun z => (nomatch z), .inr ⟨b, e1, e4⟩⟩
  | (false, _) :: fs, v :: vs, k + 1, _, _, h, e => FdsOk.get (vs := vs) (k := k) h.2 (by simpa using e)
  | (true, _) :: fs, v :: vs, k + 1, _, _, h, e => FdsOk.get (vs := vs) (k := k) h.2 (by simpa using e)
  | (false, _) :: _, [], _, _, _, h, _ => h.elim
  | (true, _) :: _, [], _, _, _, h, _ => h.elim
/-! ### methods that read -/
end KN
set_option maxHeartbeats 1000000
/-! KnR1: objects that are changed: defs that change one, calls of them -/
namespace KN
open PySem PySem.Spec PyProof.Rows L2
/-! ### behind a change of what O owns -/
abbrev OwnB (H : Hp) (s : Sl) (a : Addr) (b : Addr) : Prop := Inn H s (some (some (.ref a))) b
/-! ### what such a def promises -/
/-! ### the start of its run -/
theorem SlOk.va {K : PySem.W.Frag} {F F' H H' : Hp} {d : D} {x : Option (Option V)} (f : Same F F') (k : SlOk K F H (.va d) x) : SlOk K F' H' (.va d) x := by
  obtain ⟨v, e, p⟩ := k; exact ⟨v, e, p.mono f⟩
theorem rem_at {F : Hp} {a dx b : Addr} (h : b = a ∨ b = dx) : rem F a dx b = none := by unfold rem; rw [if_pos h]
theorem rem_no {F : Hp} {a dx b : Addr} (h : ¬ (b = a ∨ b = dx)) : rem F a dx b = F b := by unfold rem; rw [if_neg h]
theorem rem_some {F : Hp} {a dx b : Addr} {o : HO} (h : rem F a dx b = some o) : F b = some o ∧ ¬ (b = a ∨ b = dx) := by
  by_cases z : b = a ∨ b = dx
  · rw [rem_at z] at h; cases h
  · rw [rem_no z] at h; exact ⟨h, z⟩
theorem rem_free {F : Hp} {a dx b : Addr} (h : F b = none) : rem F a dx b = none := by
  by_cases z : b = a ∨ b = dx
  · exact rem_at z
  · rw [rem_no z]; exact h
theorem Bs.sub_of {B : Bs} {a dx : Addr} (h : B.ob = some (a, dx)) : B.sub = ⟨rem B.F0 a dx, rem B.H0 a dx, B.S, some (a, dx)⟩ := by
  unfold Bs.sub; rw [h]
/-- what is known of a base is known of it without the object -/
theorem RB.sub {K : PySem.W.Frag} {B : Bs} {F H : Hp} {γ : Ga} {σ : L2.St} (r : RB K B F γ σ H) : RB K B.sub F γ σ H := by
  cases e : B.ob with
  | none =>
    have : B.sub = B := by unfold Bs.sub; rw [e]
    rw [this]; exact r
  | some p =>
    obtain ⟨a, dx⟩ := p
    rw [Bs.sub_of e]
    refine ⟨r.rs, ⟨fun b o h => r.fi.f0 b o (rem_some h).1, fun b o h => ?_, r.fi.emb, fun b o h => r.fi.h0 b o (rem_some h).1, r.fi.sS⟩, fun i s b h1 h2 => rem_free (r.ow i s b h1 h2), fun j s a' dx' h1 h2 h3 => r.lk j s a' dx' h1 h2 (by rw [e]; exact h3)⟩
    by_cases z : b = a ∨ b = dx
    · exact .inr (rem_at z)
    · rcases r.fi.fn b o h with y | y
      · exact .inl ((rem_no z).trans y)
      · exact .inr (rem_free y)
/-! ### data without an object -/
section
variable {K : PySem.W.Frag} {F F' H : Hp}
theorem RepK.sub (h : ∀ b o, F b = some o → isDt o = true → F' b = some o) : ∀ {es : List (Tx × D)} {kvs : List (Key × V)}, RepK K F es kvs → RepK K F' es kvs
  | _, _, .nil => .nil
  | _, _, .cons a b => .cons (a.sub h) (RepK.sub h b)
theorem Own.sub (h : ∀ b o, F b = some o → isDt o = true → F' b = some o) {d : D} {a : Addr} (o : Own K F H d a) : Own K F' H d a := by
  cases d <;> simp only [Own] at o ⊢
  · obtain ⟨vs, e, r⟩ := o; exact ⟨vs, e, r.sub h⟩
  · obtain ⟨vs, e, r⟩ := o; exact ⟨vs, e, r.sub h⟩
theorem OwK.sub (h : ∀ b o, F b = some o → isDt o = true → F' b = some o) (hn : ∀ b, F b = none → F' b = none) {a : Addr} : ∀ {es : List (Tx × List (Tx × D))} {kvs : List (Key × V)}, OwK K F H a es kvs → OwK K F' H a es kvs
  | [], [], _ => trivial
  | (k, row) :: es, (k', v) :: kvs, ⟨e, ⟨r, kv, e1, e2, e3, e4, e5, e6⟩, o⟩ => ⟨e, ⟨r, kv, e1, e2, hn _ e3, e4, e5.sub h, e6⟩, OwK.sub h hn o⟩
  | [], _ :: _, h => h.elim
  | _ :: _, [], h => h.elim
theorem FdsOk.sub (h : ∀ b o, F b = some o → isDt o = true → F' b = some o) (hn : ∀ b, F b = none → F' b = none) {a : Addr} : ∀ {fs : List Fd} {vs : List V}, FdsOk K F H a fs vs → FdsOk K F' H a fs vs
  | [], [], _ => trivial
  | (false, _) :: fs, v :: vs, k => ⟨k.1.sub h, FdsOk.sub h hn k.2⟩
  | (true, d) :: fs, v :: vs, k => by
    obtain ⟨b, e1, e2, e3, e4, e5⟩ := k.1
    exact ⟨⟨b, e1, e2, hn _ e3, e4.sub h, e5⟩, FdsOk.sub h hn k.2⟩
  | [], _ :: _, h => h.elim
  | (false, _) :: _, [], h => h.elim
  | (true, _) :: _, [], h => h.elim
theorem OwO.sub {c : Nat} (h : ∀ b o, F b = some o → isDt o = true → F' b = some o) (hn : ∀ b, F b = none → F' b = none) : ∀ {os : List (List Fd)} {vs : List V}, OwO K F H c os vs → OwO K F' H c os vs
  | [], [], _ => trivial
  | fs :: os, v :: vs, ⟨⟨b1, dx, C, kvs, e, p, o, n⟩, k⟩ => ⟨⟨b1, dx, C, kvs, e, p, ⟨hn _ o.fa, hn _ o.fd, o.ne, o.ha, o.hd, o.cl, o.nm, o.le, o.ok.sub h hn⟩, n⟩, OwO.sub h hn k⟩
  | [], _ :: _, k => k.elim
  | _ :: _, [], k => k.elim
/-- all but what is read alone -/
theorem SlOk.sub (h : ∀ b o, F b = some o → isDt o = true → F' b = some o) (hn : ∀ b, F b = none → F' b = none) {s : Sl} {x : Option (Option V)} (nr : isRf s = false) (k : SlOk K F H s x) : SlOk K F' H s x := by
  cases s with
  | xc a => exact k
  | rf c fs => cases nr
  | obs c os => obtain ⟨a, vs, e1, e2, e3, e4⟩ := k; exact ⟨a, vs, e1, hn _ e2, e3, e4.sub h hn⟩
  | un => trivial
  | va d => obtain ⟨v, e, p⟩ := k; exact ⟨v, e, p.sub h⟩
  | ow d => obtain ⟨a, e1, e2, e3⟩ := k; exact ⟨a, e1, hn _ e2, e3.sub h⟩
  | nd es => obtain ⟨a, kvs, e1, e2, e3, e4⟩ := k; exact ⟨a, kvs, e1, hn _ e2, e3, e4.sub h hn⟩
  | ob hh c fs =>
    obtain ⟨a, dx, C, kvs, e, o⟩ := k
    exact ⟨a, dx, C, kvs, e, hn _ o.fa, hn _ o.fd, o.ne, o.ha, o.hd, o.cl, o.nm, o.le, o.ok.sub h hn⟩
end
/-! ### the object is opened to be changed -/
end KN
set_option maxHeartbeats 1000000
/-! KnR2: defs that change an object -/
set_option maxHeartbeats 1000000
/-! KnR3: calls that change an object; expressions with an effect -/
namespace KN
open PySem PySem.Spec PyProof.Rows L2
/-! ### arguments with an object among them -/
def insS : Nat → Sl → List D → List Sl
  | 0, s, ds => s :: ds.map .va
  | i + 1, s, d :: ds => .va d :: insS i s ds
  | _ + 1, _, [] => []
inductive ArgsM (K : PySem.W.Frag) (F : Hp) (a : Addr) : Nat → List D → List V → Prop
  | here {ds : List D} {vs : List V} : Reps K F ds vs → ArgsM K F a 0 ds (.ref a :: vs)
  | there {i : Nat} {d : D} {v : V} {ds : List D} {vs : List V} : Rep K F d v → ArgsM K F a i ds vs → ArgsM K F a (i + 1) (d :: ds) (v :: vs)
section
variable {K : PySem.W.Frag} {F F' : Hp} {a : Addr}
theorem ArgsM.mono (f : Same F F') : ∀ {i : Nat} {ds : List D} {vs : List V}, ArgsM K F a i ds vs → ArgsM K F' a i ds vs
  | _, _, _, .here p => .here (p.mono f)
  | _, _, _, .there p q => .there (p.mono f) (q.mono f)
theorem ArgsM.sub (h : ∀ b o, F b = some o → isDt o = true → F' b = some o) : ∀ {i : Nat} {ds : List D} {vs : List V}, ArgsM K F a i ds vs → ArgsM K F' a i ds vs
  | _, _, _, .here p => .here (p.sub h)
  | _, _, _, .there p q => .there (p.sub h) (q.sub h)
theorem ArgsM.len {i : Nat} {ds : List D} {vs : List V} (h : ArgsM K F a i ds vs) : vs.length = ds.length + 1 := by
  induction h with
  | here p => simp [p.length]
  | there _ _ ih => simp [ih]
theorem ArgsM.at {i : Nat} {ds : List D} {vs : List V} (h : ArgsM K F a i ds vs) (s : Sl) : vs[i]? = some (.ref a) ∧ (insS i s ds)[i]? = some s ∧ (insS i s ds).length = vs.length := by
  induction h with
  | here p => exact ⟨rfl, rfl, by simp [insS, p.length]⟩
  | there _ _ ih => exact ⟨ih.1, ih.2.1, by simp [insS, ih.2.2]⟩
theorem ArgsM.get {i : Nat} {ds : List D} {vs : List V} (h : ArgsM K F a i ds vs) (s : Sl) : ∀ {j : Nat} {t : Sl}, (insS i s ds)[j]? = some t → j ≠ i → ∃ d v, t = .va d ∧ vs[j]? = some v ∧ Rep K F d v := by
  induction h with
  | @here ds vs p =>
    intro j t e nj
    cases j with
    | zero => exact absurd rfl nj
    | succ j =>
      simp only [insS, List.getElem?_cons_succ, List.getElem?_map, Option.map_eq_some_iff] at e
      obtain ⟨d, e1, rfl⟩ := e
      obtain ⟨v, h1, h2⟩ := p.get e1
      exact ⟨d, v, rfl, by simpa using h1, h2⟩
  | @there i d v ds vs p q ih =>
    intro j t e nj
    cases j with
    | zero => simp only [insS, List.getElem?_cons_zero, Option.some.injEq] at e; exact ⟨d, v, e.symm, rfl, p⟩
    | succ j => exact ih (by simpa [insS] using e) (fun z => nj (by rw [z]))
theorem ArgsM.rs {H : Hp} {i : Nat} {ds : List D} {vs : List V} {c : Nat} {fs : List Fd} (h : ArgsM K F a i ds vs) (e : Emb F H) (k : SlOk K F H (.ob true c fs) (some (some (.ref a)))) : RS K F (insS i (.ob true c fs) ds) (vs.map some) H := by
  obtain ⟨h1, h2, h3⟩ := h.at (.ob true c fs)
  refine ⟨e, by simpa using h3, fun j s g => ?_, fun j j' s s' b g1 g2 i1 i2 => ?_⟩
  · by_cases nj : j = i
    · subst nj; rw [h2] at g; cases g; rw [List.getElem?_map, h1]; exact k
    · obtain ⟨d, v, rfl, q1, q2⟩ := h.get _ g nj
      rw [List.getElem?_map, q1]; exact ⟨v, rfl, q2⟩
  · have one : ∀ {j s}, (insS i (.ob true c fs) ds)[j]? = some s → Inn H s (vs.map some)[j]? b → j = i := fun {j s} g z => by
      by_cases nj : j = i
      · exact nj
      · obtain ⟨d, v, rfl, _⟩ := h.get _ g nj; exact z.elim
    rw [one g1 i1, one g2 i2]
end
/-! ### the arguments' expressions -/
/-! ### expressions with an effect on objects -/
def OutE (K : PySem.W.Frag) (B : Bs) (F : Hp) (σ : L2.St) (r : R (D × Ga)) (Q : VK) : Prop := match r with
  | .ok (d, γ') => ∀ v F' H', RB K B F' γ' σ H' → Same F F' → Rep K F' d v → Q v H'
  | _ => False
def rdEf (K : PySem.W.Frag) (f : Ga → R (D × Ga)) : TE := fun σ H Q => ∃ B F γ, RB K B F γ σ H ∧ OutE K B F σ (f γ) Q
structure JE (X : Cx) (f : Ga → R (D × Ga)) (e : Expr) : Prop where
  pe : PE X e (rdEf X.K f)
end KN
set_option maxHeartbeats 1000000
/-! KnR4: effects in comparisons, tests and statements; fields that are set; new objects -/
namespace KN
open PySem PySem.Spec PyProof.Rows L2
/-! ### comparisons, tests -/
def OutET (K : PySem.W.Frag) (B : Bs) (σ : L2.St) (r : R (Bool × Ga)) (Q : Bool → Hp → Prop) : Prop := match r with
  | .ok (b, γ') => ∀ F' H', RB K B F' γ' σ H' → Q b H'
  | _ => False
def rdTE (K : PySem.W.Frag) (f : Ga → R (Bool × Ga)) : TT := fun σ H Q => ∃ B F γ, RB K B F γ σ H ∧ OutET K B σ (f γ) Q
structure JTE (X : Cx) (f : Ga → R (Bool × Ga)) (e : Expr) : Prop where
  pt : PT X e (rdTE X.K f)
structure JWE (X : Cx) (f : Ga → R (Bool × Ga)) (e : Expr) : Prop where
  pw : PW X e (rdTE X.K f)
section
variable {X : Cx} {W : WN} {fa fb f : Ga → R (D × Ga)} {p q : Ga → R (Bool × Ga)} {a b e : Expr} {rest : List Expr} {pos : Pos}
theorem JWE.t (h : JWE X p e) : JTE X p e := ⟨h.pw.pt⟩
end
/-! ### statements -/
section
variable {X : Cx} {W : WN} {f : Ga → R (D × Ga)} {p : Ga → R (Bool × Ga)} {ft fe : Ga → R Fl} {e : Expr} {pos pos' apos cpos p1 : Pos}
/-- what is raised by an effect is nothing that is told -/
def nx {α : Type} (f : Ga → R α) : Ga → R α := fun γ => (f γ).noex
theorem JE.nx (h : JE X f e) : JE X (nx f) e := ⟨PE.imp h.pe fun σ H Q ⟨B, F, γ, r, o⟩ => ⟨B, F, γ, r, by
  unfold KN.nx at o
  cases e1 : f γ with
  | ok x => rw [e1] at o; exact o
  | ex c => rw [e1] at o; exact o.elim
  | no => rw [e1] at o; exact o⟩⟩
end
end KN
set_option maxHeartbeats 1000000
/-! KnR5: fields that are set, lists of an object, new objects -/
set_option maxHeartbeats 1000000
/-! KnR6: lists of an object, new objects, what is passed on -/
set_option maxHeartbeats 1000000
/-! KnR7: what is passed on unchanged or raises; defs that tell a new object -/
namespace KN
open PySem PySem.Spec PyProof.Rows L2
/-! ### a call that changes what was handed in, or raises -/
/-! ### defs that tell a new object, or data -/
def OutN (K : PySem.W.Frag) (F H : Hp) (W : Nat → Hp → Prop) (r : R Sl) (Q : VK) : Prop := match r with
  | .ok (.va d) => PV K F H d Q
  | .ok (.ob _ c fs) => ∀ a F' H', Nxt F H F' H' → SlOk K F' H' (.ob false c fs) (some (some (.ref a))) → (∀ b, OwnB H' (.ob false c fs) a b → H b = none) → Q (.ref a) H'
  | .ok _ => False
  | .ex c => ∀ F' H', Nxt F H F' H' → W c H'
  | .no => False
section
variable {X : Cx} {W : WN} {cl : Cl} {fs : Ga → R (List Sl)} {k n : Nat} {f C : Addr} {fd : FuncData} {ps : List Str} {g : List Sl → R Sl} {x y m : Str} {e : Expr} {es : List Expr} {p pos pos' pos2 apos : Pos}
theorem OutN.next {K : PySem.W.Frag} {F H F1 H1 : Hp} {W : Nat → Hp → Prop} {s : R Sl} {Q : VK} (o : OutN K F H W s Q) (n : Nxt F H F1 H1) : OutN K F1 H1 W s Q := by
  cases s with
  | ok s =>
    cases s <;> first | exact o | skip
    · exact PV.next (Q := Q) o n
    · exact fun a F' H' m sk ow => o a F' H' (n.trans m) sk fun b z => n.h.free (ow b z)
  | ex c => exact fun F' H' m => o F' H' (n.trans m)
  | no => exact o
end
end KN
set_option maxHeartbeats 1000000
/-! KnR8: small things for what is printed -/
set_option maxHeartbeats 1000000
/-! KnR9: derivations for the meanings of KnR8 -/
namespace KN
open PySem PySem.Spec PyProof.Rows L2
/-! ### sorted of a tuple of texts -/
/-! ### texts the other way -/
/-! ### a comprehension over a list of one's own -/
/-! ### int(a truth) -/
/-! ### a comprehension whose element changes an object -/
/-! ### a comprehension whose element changes an object -/
/-! ### a list's display, its items changing objects -/
/-! ### range(a, b, -1) -/
/-! ### d.pop(k), d a dict of one's own -/
theorem RepK.drop {K : PySem.W.Frag} {F : Hp} (k : Tx) {es : List (Tx × D)} {kvs : List (Key × V)} (h : RepK K F es kvs) : RepK K F (es.filter fun e => !(e.1 == k)) (dropK kvs (Sum.inr (toS k))) := by
  unfold dropK
  induction es generalizing kvs with
  | nil => cases h; exact .nil
  | cons e es ih =>
    obtain ⟨k', d'⟩ := e
    cases h with
    | cons h1 h2 =>
      by_cases q : k' = k
      · subst q
        rw [List.filter_cons_of_neg (by simp), List.filter_cons_of_neg (by simp)]
        exact ih h2
      · have q2 : (toS k' == toS k) = false := by rw [toS_beq]; simpa using q
        rw [List.filter_cons_of_pos (by simpa using q), List.filter_cons_of_pos (by
          have : toS k' ≠ toS k := fun e => by rw [e] at q2; simp at q2
          simpa using fun e => this e)]
        exact .cons h1 (ih h2)
/-! ### enumerate(a text) -/
/-! ### list(a text) -/
/-! ### dict(a dict) -/
/-! ### a list that is compared with the empty one -/
/-! ### list.remove of what is compared by its items -/
/-! ### a loop over a list of one's own, which stands while it is walked -/
/-! statements that leave some names as they are -/
end KN
set_option maxHeartbeats 1000000
/-! KnSP: sets of a few unlike tuples of texts and ints; sorted -/
namespace KN
open PySem PySem.Spec PyProof.Rows L2
section
variable {P : Program} {w : World} {A : Around} {E : Value → Shared → Prop} {s : Shared}
abbrev TIq (P : Program) (w : World) (h : Heap) (k : List Key) (b : Addr) : Prop := IsTupleKey (mixKind P w) h k b
abbrev TH (P : Program) (w : World) (k : List Key) : Int := tupleKeyHash (mixKind P w) k
theorem mix_mem {k : List Key} {vs : List Value} (h : ItemsAre (mixKind P w) k vs) : ∀ v ∈ vs, (∃ i t, v = Value.int i t) ∨ ∃ x t, v = Value.str x t := by
  induction h with
  | nil => exact fun v z => nomatch z
  | cons h1 _ ih =>
    intro v z
    rcases List.mem_cons.mp z with rfl | z
    · rcases keyIs_shape h1 with ⟨i, t, _, e⟩ | ⟨x, t, _, e⟩
      · exact .inl ⟨i, t, e⟩
      · exact .inr ⟨x, t, e⟩
    · exact ih v z
/-- whether its hash is by value: one way or the other -/
theorem mix_hash {k : List Key} {b : Addr} {Q : Bool → Shared → Prop} (hk : TIq P w s.heap k b) (h : ∀ c, Q c s) : wpAny (model P w) A (hashByValue 8 (.ref b)) Q E s := by
  have ty := hk.typeIs
  obtain ⟨o, its, n, ho, _, hd, hi⟩ := hk
  unfold hashByValue
  refine wpAny_bind (wpAny_specialOf ty F.slot_tuple_hash.lookup (show wpAny _ _ (seqItems? (.ref b) >>= _) _ _ s from wpAny_bind (wpAny_seqItems ho hd (wpAny_bind ?_))))
  show wpAny _ _ (forIn its _ _) _ _ s
  rw [← Array.forIn_toList]
  refine wpAny_forIn_list _ (fun rest r s' => s' = s ∧ ∀ v ∈ rest, (∃ i t, v = Value.int i t) ∨ ∃ x t, v = Value.str x t) _ (fun v rest r s' z => ?_) (fun r s' z => ?_) _ _ ⟨rfl, mix_mem hi⟩
  · obtain ⟨rfl, all⟩ := z
    have rs : ∀ u ∈ rest, (∃ i t, u = Value.int i t) ∨ ∃ x t, u = Value.str x t := fun u hu => all u (List.mem_cons_of_mem _ hu)
    rcases all v List.mem_cons_self with ⟨i, t, rfl⟩ | ⟨x, t, rfl⟩
    · exact wpAny_bind (wpAny_pure (wpAny_pure ⟨rfl, rs⟩))
    · exact wpAny_bind (wpAny_pure (wpAny_pure (wpAny_pure (h _))))
  · obtain ⟨r1, r2⟩ := r
    obtain ⟨rfl, _⟩ := z
    cases r1 with
    | none => exact wpAny_pure (h _)
    | some c => exact wpAny_pure (h _)
/-- none of its members is of a class statement -/
theorem mix_class {k : List Key} {b : Addr} {Q : Bool → Shared → Prop} (hk : TIq P w s.heap k b) (h : Q false s) : wpAny (model P w) A (ofAClassStatement 8 (.ref b)) Q E s := by
  have ty := hk.typeIs
  obtain ⟨o, its, n, ho, _, hd, hi⟩ := hk
  unfold ofAClassStatement
  refine wpAny_bind (wpAny_typeOf ty ?_)
  dsimp only
  rw [if_pos (show (("tuple" : String) == "tuple") = true by decide)]
  refine wpAny_bind (wpAny_pure ?_)
  rw [if_neg (show ¬ ((!true) = true) by decide)]
  refine wpAny_bind (m := seqItems? (.ref b)) (wpAny_seqItems ho hd (wpAny_bind ?_))
  show wpAny _ _ (forIn its _ _) _ _ s
  rw [← Array.forIn_toList]
  refine wpAny_forIn_list _ (fun rest r s' => (r.1 = none ∧ s' = s) ∧ ∀ v ∈ rest, (∃ i t, v = Value.int i t) ∨ ∃ x t, v = Value.str x t) _ (fun v rest r s' z => ?_) (fun r s' z => ?_) _ _ ⟨⟨rfl, rfl⟩, mix_mem hi⟩
  · obtain ⟨⟨hr, rfl⟩, all⟩ := z
    have rs : ∀ u ∈ rest, (∃ i t, u = Value.int i t) ∨ ∃ x t, u = Value.str x t := fun u hu => all u (List.mem_cons_of_mem _ hu)
    rcases all v List.mem_cons_self with ⟨i, t, rfl⟩ | ⟨x, t, rfl⟩
    · exact wpAny_bind (wpAny_pure (wpAny_pure ⟨⟨rfl, rfl⟩, rs⟩))
    · exact wpAny_bind (wpAny_pure (wpAny_pure ⟨⟨rfl, rfl⟩, rs⟩))
  · obtain ⟨r1, r2⟩ := r
    obtain ⟨⟨hr, rfl⟩, _⟩ := z
    simp only at hr
    subst hr
    exact wpAny_pure h
/-- a search among them shows nothing -/
theorem mix_seen {k : List Key} {b : Addr} {Q : Bool → Shared → Prop} (hk : TIq P w s.heap k b) {ys : List Value} (hy : ∀ y ∈ ys, ∃ k' c, y = Value.ref c ∧ TIq P w s.heap k' c) (h : Q false s) :
    wpAny (model P w) A (searchCouldBeSeen (.ref b) ys) Q E s := by
  unfold searchCouldBeSeen
  refine wpAny_bind (wpAny_forIn_list _ (fun rest r s' => (r.1 = none ∧ s' = s) ∧ ∀ y ∈ rest, ∃ k' c, y = Value.ref c ∧ TIq P w s.heap k' c) _ (fun y rest r s' z => ?_) (fun r s' z => ?_) _ _ ⟨⟨rfl, rfl⟩, hy⟩)
  · obtain ⟨⟨hr, rfl⟩, all⟩ := z
    obtain ⟨k', c, rfl, hc⟩ := all y List.mem_cons_self
    have rs : ∀ y ∈ rest, ∃ k' c, y = Value.ref c ∧ TIq P w s'.heap k' c := fun u hu => all u (List.mem_cons_of_mem _ hu)
    dsimp only
    split
    · exact wpAny_pure ⟨⟨rfl, rfl⟩, rs⟩
    · refine wpAny_bind (wpAny_eqIsQuiet_tuple hk ?_)
      rw [if_neg (show ¬ ((!true) = true) by decide)]
      refine wpAny_bind (wpAny_eqIsQuiet_tuple hc ?_)
      rw [if_neg (show ¬ ((!true) = true) by decide)]
      refine wpAny_bind (mix_class hk ?_)
      rw [if_neg Bool.false_ne_true]
      refine wpAny_bind (mix_class hc ?_)
      rw [if_neg Bool.false_ne_true]
      exact wpAny_pure ⟨⟨rfl, rfl⟩, rs⟩
  · obtain ⟨r1, r2⟩ := r
    obtain ⟨⟨hr, rfl⟩, _⟩ := z
    simp only at hr
    subst hr
    exact wpAny_pure h
/-! ### the table of a few of them -/
variable {a x : Addr} {k : List Key} {L : List (Addr × List Key)} {es : Array (Int × Value)} {ep : Nat} {t : SetTable} {o : Obj}
def rowH (P : Program) (w : World) (p : Addr × List Key) : Int × Value := (TH P w p.2, Value.ref p.1)
structure HTab (P : Program) (w : World) (es : Array (Int × Value)) (t : SetTable) (L : List (Addr × List Key)) : Prop where
  rows : es.toList = L.map (rowH P w)
  tab : TabOk t (L.map fun p => TH P w p.2)
  m7 : t.mask = 7
  led : w.params.followText "set-order" = true ∨ t.led = true
theorem HTab.size (G : HTab P w es t L) : es.size = L.length := by rw [← Array.length_toList, G.rows, List.length_map]
theorem HTab.place (G : HTab P w es t L) : t.place.size = L.length := by rw [G.tab.sz, List.length_map]
theorem HTab.fits (G : HTab P w es t L) (few : L.length ≤ 7) : t.fits es.size = true := by
  unfold SetTable.fits SetTable.fill
  rw [G.tab.dm, G.place, G.size, G.m7, Bool.and_eq_true, beq_iff_eq, decide_eq_true_eq]
  exact ⟨rfl, few⟩
theorem HTab.at (G : HTab P w es t L) {i : Nat} {p : Addr × List Key} (h : L[i]? = some p) : es[i]? = some (rowH P w p) := by
  rw [← Array.getElem?_toList, G.rows, List.getElem?_map, h]; rfl
abbrev st0 (m : Nat) (h : Int) : SetTable.Probe := runAt m (SetTable.bits h % (m + 1)) (SetTable.bits h)
theorem nth_dummy (m : Nat) : ∀ (n : Nat) (p : SetTable.Probe), p.dummy = none → (nth m p n).dummy = none
  | 0, _, h => h
  | n + 1, p, h => nth_dummy m n (adv m p) (by unfold adv; split <;> exact h)
/-- what isn't there is sought: the first free place of its way is told -/
theorem hFind (ho : s.heap.get? a = some o) (hd : o.data = .set es ep t) (G : HTab P w es t L) (few : L.length ≤ 7) (tup : ∀ p ∈ L, TIq P w s.heap p.2 p.1) (hx : TIq P w s.heap k x) (hu : A.units < cLine) (new : k ∉ L.map (·.2)) {n : Nat}
    (hn : way t.mask (TH P w k) n ∉ t.place.toList) (hb : ∀ c, c < n → way t.mask (TH P w k) c ∈ t.place.toList) (hl : n < 10 * SetTable.turns t.mask) {Q : SetFound → Shared → Prop} (hQ : Q (.free (way t.mask (TH P w k) n) false) s) :
    ∀ (f c : Nat) (sd : Option SetTable.Probe), sd.getD (t.probeStart (TH P w k)) = nth t.mask (st0 t.mask (TH P w k)) c → c ≤ n → n < c + f → wpAny (model P w) A (setSearchFrom a (.ref x) (TH P w k) true f sd) Q E s
  | 0, c, _, _, h1, h2 => absurd h2 (by omega)
  | f + 1, c, sd, hs, h1, h2 => by
    have fit := G.fits few
    have shift : ∀ q, (nth t.mask (nth t.mask (st0 t.mask (TH P w k)) c) q).j = way t.mask (TH P w k) (c + q) := fun q => congrArg SetTable.Probe.j (nth_add t.mask c _ q).symm
    rw [setSearchFrom_succ]
    refine wpAny_bind (wpAny_setState_of ho hd fit ?_)
    dsimp only
    refine wp_if_neg (by unfold SetTable.gaveWay; rw [G.m7]; decide) ?_
    try refine wpAny_bind (wpAny_pure ?_)
    have sp := go_spec t G.tab.ris G.tab.dm (fun i => (es[i]?.map (·.1)).getD 0) (TH P w k) (10 * SetTable.turns t.mask) (n - c) (nth t.mask (st0 t.mask (TH P w k)) c) (nth_dummy _ _ _ rfl) (by omega)
      (fun q hq => by rw [shift]; exact hb _ (by omega)) (by rw [shift, show c + (n - c) = n by omega]; exact hn)
    rcases sp with ⟨q, i, hq, hi, _, _, pr⟩ | ⟨_, pr⟩
    · rw [shift] at hi pr
      have pr2 : t.probe (fun i => (es[i]?.map (·.1)).getD 0) (TH P w k) (sd.getD (t.probeStart (TH P w k))) = some (.candidate (way t.mask (TH P w k) (c + q)) i (nth t.mask (st0 t.mask (TH P w k)) (c + (q + 1)))) := by
        rw [hs, nth_add t.mask c]
        exact pr
      rw [pr2]
      dsimp only
      have il : i < L.length := by
        have h3 := (List.getElem?_eq_some_iff.mp hi).1
        rw [Array.length_toList, G.place] at h3
        exact h3
      obtain ⟨p, hp⟩ : ∃ p, L[i]? = some p := ⟨_, List.getElem?_eq_getElem il⟩
      have pm := List.mem_of_getElem? hp
      have ne : p.2 ≠ k := fun z => new (List.mem_map.mpr ⟨p, pm, z⟩)
      have go : wpAny (model P w) A (searchRest a (.ref x) (TH P w k) true f es t (way t.mask (TH P w k) (c + q)) i (nth t.mask (st0 t.mask (TH P w k)) (c + (q + 1)))) Q E s := by
        unfold searchRest
        rw [G.at hp]
        dsimp only [rowH]
        refine wpAny_bind (wpAny_holding (wpAny_eqBool_tuple hu (tup p pm) hx (wpAny_bind (wpAny_setState_of ho hd fit ?_))))
        dsimp only
        refine wp_if_neg (by simp [ne]) ?_
        try refine wpAny_bind (wpAny_pure ?_)
        have sl : t.slot (way t.mask (TH P w k) (c + q)) = .live i := slot_live G.tab.ris hi
        rw [sameMem]
        simp only [if_true, sl, G.at hp, rowH]
        refine wpAny_bind (wpAny_isSame_ref_self (wpAny_bind (wpAny_pure ?_)))
        simp only [if_true]
        refine wp_if_neg (by simp [ne]) ?_
        exact hFind ho hd G few tup hx hu new hn hb hl hQ f (c + (q + 1)) _ rfl (by omega) (by omega)
      by_cases ld : t.led = true
      · refine wp_if_neg (by simp [ld]) ?_
        try refine wpAny_bind (wpAny_pure ?_)
        exact go
      · refine wp_if_pos (by simp [ld]) (wpAny_bind (mix_seen hx (fun y hy => ?_) ?_))
        · obtain ⟨e, he, rfl⟩ := List.mem_map.mp hy
          have he : e ∈ es.toList := by
            have : e ∈ es ∧ e.1 = TH P w k := by simpa using he
            simpa using this.1
          rw [G.rows] at he
          obtain ⟨p2, hp2, rfl⟩ := List.mem_map.mp he
          exact ⟨p2.2, p2.1, rfl, tup p2 hp2⟩
        · refine wp_if_neg Bool.false_ne_true ?_
          try refine wpAny_bind (wpAny_pure ?_)
          exact go
    · rw [shift, show c + (n - c) = n by omega] at pr
      have pr2 : t.probe (fun i => (es[i]?.map (·.1)).getD 0) (TH P w k) (sd.getD (t.probeStart (TH P w k))) = some (.empty (way t.mask (TH P w k) n) none) := by
        rw [hs]
        exact pr
      rw [pr2]
      dsimp only
      exact wpAny_pure hQ
/-! ### one more -/
def HSet (P : Program) (w : World) (h : Heap) (a : Addr) (L : List (Addr × List Key)) : Prop := ∃ o es ep t, h.get? a = some o ∧ o.ExactSet ∧ o.data = .set es ep t ∧ HTab P w es t L
theorem HSet.at {h h' : Heap} (G : HSet P w h a L) (q : ∀ o, h.get? a = some o → h'.get? a = some o) : HSet P w h' a L := by
  obtain ⟨o, es, ep, t, g1, g2⟩ := G
  exact ⟨o, es, ep, t, q o g1, g2⟩
theorem tab_off {hs : List Int} (T : TabOk t hs) : TabOk { t with plain := false } hs := ⟨T.ris, T.dm, T.sz, T.mok, T.bd, T.reach⟩
theorem hAdd (G : HSet P w s.heap a L) (few : L.length ≤ 3) (tup : ∀ p ∈ L, TIq P w s.heap p.2 p.1) (hx : TIq P w s.heap k x) (hu : A.units < cLine) (new : k ∉ L.map (·.2)) {Q : Bool → Shared → Prop}
    (hQ : ∀ h' L', Heap.SameBut a s.heap h' → HSet P w h' a L' → L'.Perm ((x, k) :: L) → Q true { s with heap := h' }) : wpAny (model P w) A (setAddHashed a (.ref x) (TH P w k)) Q E s := by
  obtain ⟨o, es, ep, t, ho, hex, hd, G⟩ := G
  have fit := G.fits (by omega)
  obtain ⟨n, hl, hn, hb⟩ := G.tab.first (by rw [List.length_map, G.m7]; omega) (TH P w k)
  have big : n < 100000 := by
    rw [G.m7] at hl
    unfold SetTable.turns at hl
    omega
  unfold setAddHashed
  refine wpAny_holding ?_
  rw [show (100000 : Nat) = 99999 + 1 from rfl, setAddHashedIn_succ]
  refine wpAny_bind (wpAny_setState_of ho hd fit ?_)
  dsimp only
  refine wp_if_neg (by simp [byScan, Value.scannable]) ?_
  try refine wpAny_bind (wpAny_pure ?_)
  unfold setSearch
  refine wpAny_bind (hFind ho hd G (by omega) tup hx hu new hn hb hl ?_ 100000 0 none rfl (Nat.zero_le _) (by omega))
  dsimp only
  refine wpAny_bind (wpAny_setState_of ho hd fit ?_)
  dsimp only
  obtain ⟨q1, q2, q3, q4, q5, q6, _, _, q9⟩ := G.tab.put hn hb
  generalize t.put (way t.mask (TH P w k) n) = pt at q1 q3 q4 q5 q6 q9 ⊢
  obtain ⟨t1, p⟩ := pt
  dsimp only at q1 q3 q4 q5 q6 q9 ⊢
  subst q1
  generalize SetTable.below t.place (way t.mask (TH P w k) n) = p at q2 q3 ⊢
  rw [List.length_map] at q2 q9
  have rw1 : (SetTable.insertAt es p (TH P w k, Value.ref x)).toList = (L.take p ++ (x, k) :: L.drop p).map (rowH P w) := by
    rw [SetTable.toList_insertAt, G.rows, List.map_append, List.map_cons, List.map_take, List.map_drop]; rfl
  rw [← List.map_take, ← List.map_drop, show TH P w k :: List.map (fun p => TH P w p.2) (L.drop p) = List.map (fun p : Addr × List Key => TH P w p.2) ((x, k) :: L.drop p) from rfl, ← List.map_append] at q3
  have pm : (L.take p ++ (x, k) :: L.drop p).Perm ((x, k) :: L) := put_perm L p (x, k)
  generalize L.take p ++ (x, k) :: L.drop p = L1 at rw1 q3 pm
  have sz : (SetTable.insertAt es p (TH P w k, Value.ref x)).size = L.length + 1 := by
    rw [← Array.length_toList, rw1, List.length_map, pm.length_eq]; rfl
  generalize SetTable.insertAt es p (TH P w k, Value.ref x) = es1 at rw1 sz ⊢
  have G1 : HTab P w es1 t1 L1 := ⟨rw1, q3, q4.trans G.m7, by rw [q5]; exact G.led⟩
  have tail : ∀ t2 : SetTable, HTab P w es1 t2 L1 → t2.fill = L.length + 1 → wpAny (model P w) A (do
      storeSet a es1 t2
      if !false && t2.tooFull then setRelay a (SetTable.grown (es.size + 1))
      return true) Q E s := fun t2 G2 fl => by
    refine wpAny_bind (wpAny_storeSet_of ho hd ?_ (by rw [sz, sizeLine_eq]; omega))
    refine wp_if_neg ?_ ?_
    · unfold SetTable.tooFull
      rw [fl, G2.m7]
      simp; omega
    · try refine wpAny_bind (wpAny_pure ?_)
      exact wpAny_pure (hQ _ L1 (Heap.SameBut.update s.heap a _) ⟨_, es1, _, t2, store_at ho hd, ⟨hex.1, hex.2.1, hex.2.2⟩, rfl, G2⟩ pm)
  have off : HTab P w es1 { t1 with plain := false } L1 := ⟨G1.rows, tab_off G1.tab, G1.m7, G1.led⟩
  by_cases hp : t1.plain = true
  · refine wp_if_pos hp (wpAny_bind (mix_hash hx fun c => ?_))
    cases c with
    | true => exact tail t1 G1 q9
    | false => exact tail _ off q9
  · refine wp_if_neg hp (wpAny_bind (wpAny_pure ?_))
    exact tail t1 G1 q9
end
end KN
set_option maxHeartbeats 1000000
/-! KnSQ: sorted(set(t)), t a tuple of a few unlike tuples of texts and ints -/
namespace KN
open PySem PySem.Spec PyProof.Rows L2
open PyProof.Rows.G (tupKeyC tupKindC isTupObj)
/-! ### what sorting needs of a tuple -/
def Tk (K : PySem.W.Frag) (F : Hp) (h : Heap) (shape : Nat → Bool) (k : List Ik) (u : Value) : Prop := ∃ p, u = .ref p ∧ SqT K F p (k.map vIt) ∧ tupKeyC h shape u = some k ∧ ∃ f, TupOf h shape u f
section
variable {K : PySem.W.Frag} {F : Hp} {h h' : Heap} {shape : Nat → Bool}
theorem Tk.keep {k : List Ik} {u : Value} (x : Tk K F h shape k u) (kp : ∀ b o, h.get? b = some o → h'.get? b = some o) : Tk K F h' shape k u := by
  obtain ⟨p, rfl, q, e, f, p', o, xs, n, e2, ho, hc, hd, r⟩ := x
  cases e2
  refine ⟨p, rfl, q, ?_, f, p, o, xs, n, rfl, kp _ _ ho, hc, hd, r⟩
  simp only [tupKeyC, isTupObj, tupKey, ho] at e
  simp only [tupKeyC, isTupObj, tupKey, kp _ _ ho]
  exact e
theorem tks_keep {ks : List (List Ik)} {its : List Value} (x : Paired (Tk K F h shape) ks its) (kp : ∀ b o, h.get? b = some o → h'.get? b = some o) : Paired (Tk K F h' shape) ks its := by
  induction x with
  | nil => exact .nil
  | cons h1 _ ih => exact .cons (h1.keep kp) ih
theorem tks_tups {ks : List (List Ik)} {its : List Value} (x : Paired (Tk K F h shape) ks its) : (∃ fs, TupsOf h shape its fs) ∧ ∀ v ∈ its, ∃ l, tupKeyC h shape v = some l := by
  induction x with
  | nil => exact ⟨⟨[], .nil⟩, fun v z => nomatch z⟩
  | cons h1 _ ih =>
    obtain ⟨⟨fs, i1⟩, i2⟩ := ih
    obtain ⟨_, _, _, e, f, hf⟩ := h1
    refine ⟨⟨f :: fs, .cons hf i1⟩, fun v z => ?_⟩
    rcases List.mem_cons.mp z with rfl | z
    · exact ⟨_, e⟩
    · exact i2 v z
/-- what sorting leaves -/
theorem sort_out {vs : List Value} {ks : List (List Ik)} {st' : SortSt} (h1 : (arrOf st').Perm (pairsOf vs)) (h2 : SortedToK (tupKindC h shape) (arrOf st') (pairsOf vs).size) (hT : Paired (Tk K F h shape) ks vs) :
    ∃ ys, Vals ys ((arrOf st').map (·.2)).toList ∧ Reps K F ((sortK ks).map unT) ys ∧ ys.length = vs.length := by
  have hp : ((arrOf st').map (·.2)).toList.Perm vs := by
    have e := Array.perm_iff_toList_perm.mp h1
    rw [pairsOf_toList] at e
    have := e.map (·.2)
    rw [Array.toList_map]
    refine this.trans ?_
    rw [show (vs.zip vs).map (·.2) = vs from by
      rw [← List.unzip_snd, List.unzip_zip (Eq.refl _)]]
  have hself : ∀ x ∈ (arrOf st').toList, x.1 = x.2 := fun x hx => by
    have e := Array.perm_iff_toList_perm.mp h1
    rw [pairsOf_toList] at e
    exact (mem_zip_self (e.mem_iff.mp hx)).1
  obtain ⟨ks', kp, hT'⟩ := paired_perm hp hT
  have hks : ks' = sortK ks := by
    refine sorted_uniq (fun _ _ => leK_anti) (kp.trans (sortK_perm ks).symm) ?_ (sortK_pw ks)
    have hlen : ks'.length = (arrOf st').size := by rw [hT'.length]; simp
    have at_ : ∀ i (hi : i < ks'.length), (KK (tupKindC h shape) (arrOf st') i : List Ik) = ks'[i] := fun i hi => by
      obtain ⟨u, hu, hTu⟩ := paired_get hT' (List.getElem?_eq_getElem hi)
      rw [Array.toList_map, List.getElem?_map] at hu
      have hi' : i < (arrOf st').size := by rw [← hlen]; exact hi
      have hx : (arrOf st')[i]? = some (arrOf st')[i] := Array.getElem?_eq_getElem hi'
      rw [Array.getElem?_toList, hx] at hu
      cases hu
      unfold KK
      rw [hx]
      obtain ⟨_, _, _, hk, _⟩ := hTu
      have hs := hself (arrOf st')[i] (by simp)
      show (tupKeyC h shape (arrOf st')[i].1).getD [] = _
      rw [hs, hk]; rfl
    rw [List.pairwise_iff_getElem]
    intro i j hi hj hij
    have hsz : (pairsOf vs).size = (arrOf st').size := h1.size_eq.symm
    have := h2 i j (Nat.le_of_lt hij) (by rw [hsz, ← hlen]; exact hj)
    rw [at_ i hi, at_ j hj] at this
    have this : lexLt itemOrd ks'[j] ks'[i] = false := this
    unfold leK
    rw [this]; rfl
  have back : ∀ {ks' : List (List Ik)} {us : List Value}, Paired (Tk K F h shape) ks' us → ∃ ys, Vals ys us ∧ Reps K F (ks'.map unT) ys := by
    intro ks' us x
    induction x with
    | nil => exact ⟨[], .nil, .nil⟩
    | cons h1 _ ih =>
      obtain ⟨ys, a, b⟩ := ih
      obtain ⟨p, rfl, hq, _⟩ := h1
      exact ⟨.ref p :: ys, .cons rfl a, .cons (.tup hq (reps_its _)) b⟩
  obtain ⟨ys, vy, ry⟩ := back hT'
  rw [hks] at ry
  exact ⟨ys, vy, ry, by rw [vy.length, hp.length_eq]⟩
end
section
variable {P : Program} {w : World} {A : Around} {E : Value → Shared → Prop} {s : Shared}
theorem ti_keep {h h' : Heap} {k : List Key} {b : Addr} (x : TIq P w h k b) (kp : ∀ c o, h.get? c = some o → h'.get? c = some o) : TIq P w h' k b := by
  obtain ⟨o, its, n, ho, r⟩ := x
  exact ⟨o, its, n, kp b o ho, r⟩
/-! ### set.update over what is walked -/
theorem hUpdate {I : Addr} {fp wr : List Addr} {Gn : Array GenState → Array GenState → Prop} {n : Nat} {Pv : Nat → Value → Prop} {St : Nat → Shared → Prop} {R : Result → Shared → Prop} (Wk : WalksS P w A.in1 I fp wr Gn n Pv St) (S : Addr) (out : S ∉ fp)
    (ks : List (Addr × List Key)) (hn : n = ks.length) (few : ks.length ≤ 4) (nd : (ks.map (·.2)).Nodup) (hv : ∀ i v, Pv i v → ∃ p, ks[i]? = some p ∧ v = .ref p.1) (h0 : Heap) (hk : ∀ p ∈ ks, TIq P w h0 p.2 p.1) (hS : h0.get? S = none) (hw : ∀ b ∈ wr, h0.get? b = none) (hu : A.in1.units < cLine) :
    ∀ (m i : Nat) (s : Shared), n - i = m → i ≤ n → St i s → (∀ b o, h0.get? b = some o → s.heap.get? b = some o) → (∃ L, HSet P w s.heap S L ∧ L.Perm (ks.take i)) →
      (∀ s' L, Moved (S :: wr) Gn s s' → HSet P w s'.heap S L → L.Perm ks → R (.ok (.ret .none)) s') → codeAny (model P w) A (.builtin "set.update.loop" ⟨[.ref S, .ref I], []⟩) R s := by
  have nw : S ∉ wr := fun z => out (Wk.sub _ z)
  have up : ∀ b ∈ wr, b ∈ S :: wr := fun b z => List.mem_cons_of_mem _ z
  have mk : ∀ {s s' : Shared}, Moved wr Gn s s' → (∀ b o, h0.get? b = some o → s.heap.get? b = some o) → ∀ b o, h0.get? b = some o → s'.heap.get? b = some o := fun mv kp b o e => mv.heap b o (fun z => by rw [hw b z] at e; cases e) (kp b o e)
  intro m
  induction m with
  | zero =>
    intro i s hm hi st kp ⟨L, G, pm⟩ hR
    have : i = n := by omega
    subst this
    refine codeAny_builtin F.entry_set_update_loop (show _ from ?_)
    rw [Around.under_plainId F.plain_set_update_loop _]
    refine wpAny_bind (m := pyNext (.ref I)) (Wk.done s _ _ st fun s' mv => ?_)
    have e : ks.take i = ks := List.take_of_length_le (by omega)
    rw [e] at pm
    exact wpAny_pure (hR s' L (mv.mono up) (G.at fun o z => mv.heap S o nw z) pm)
  | succ m ih =>
    intro i s hm hi st kp ⟨L, G, pm⟩ hR
    have lt : i < n := by omega
    refine codeAny_builtin F.entry_set_update_loop (show _ from ?_)
    rw [Around.under_plainId F.plain_set_update_loop _]
    refine wpAny_bind (m := pyNext (.ref I)) (Wk.item i s _ _ lt st fun v s' hP st' mv => ?_)
    obtain ⟨p, ep, rfl⟩ := hv i v hP
    have G' : HSet P w s'.heap S L := G.at fun o z => mv.heap S o nw z
    have kp' := mk mv kp
    have tl : L.length ≤ 3 := by
      rw [pm.length_eq, List.length_take]
      have := (List.getElem?_eq_some_iff.mp ep).1
      omega
    have tup : ∀ q ∈ L, TIq P w s'.heap q.2 q.1 := fun q hq => ti_keep (hk q (List.mem_of_mem_take (pm.mem_iff.mp hq))) kp'
    have hx : TIq P w s'.heap p.2 p.1 := ti_keep (hk p (List.mem_of_getElem? ep)) kp'
    have new : p.2 ∉ L.map (·.2) := fun z => by
      have z := (pm.map (·.2)).mem_iff.mp z
      rw [List.map_take] at z
      obtain ⟨j, hj, e⟩ := List.getElem_of_mem z
      rw [List.length_take] at hj
      rw [List.getElem_take] at e
      have e2 : (ks.map (·.2))[i]? = some p.2 := by rw [List.getElem?_map, ep]; rfl
      obtain ⟨li, e3⟩ := List.getElem?_eq_some_iff.mp e2
      have := (List.getElem_inj nd).mp (e.trans e3.symm)
      omega
    refine wpAny_bind (m := holding [Value.ref p.1] (setAdd S (.ref p.1))) (wpAny_holding (show wpAny _ _ (setAdd S (.ref p.1)) _ _ _ from ?_))
    unfold setAdd
    refine wpAny_holding (wpAny_bind (wpAny_pyHash_tuple hu hx (hAdd (s := { s' with toks := s'.toks + (p.2.length + 1) }) G' tl tup hx hu new fun h' L' sb G2 pm2 => ?_)))
    have kp2 : ∀ b o, h0.get? b = some o → h'.get? b = some o := fun b o e => (sb.2 b (fun z => by rw [z, hS] at e; cases e)).trans (kp' b o e)
    have pm3 : L'.Perm (ks.take (i + 1)) := by
      rw [List.take_add_one, ep]
      exact (pm2.trans (pm.cons p)).trans (List.perm_append_singleton _ _).symm
    refine wpAny_pure ⟨plainId_quiet F.plain_set_update_loop _, ih (i + 1) _ (by omega) lt (Wk.frame _ s' _ _ st' (Nat.le_add_right _ _) fun b hb o e => ?_) kp2 ⟨L', G2, pm3⟩ fun s'' L2 mv2 G4 pm4 => hR s'' L2 (Moved.trans Wk.gtrans ((mv.mono up).then_heap (Nat.le_add_right _ _) fun b o hb e => ?_) mv2) G4 pm4⟩
    · rw [sb.2 b (fun z : b = S => out (by rw [← z]; exact hb))]; exact e
    · rw [sb.2 b (fun z : b = S => hb (by rw [z]; exact List.mem_cons_self))]; exact e
theorem hNew {h : Heap} {a : Addr} (ho : h.get? a = some { cls := .type "set", dict := none, data := .set #[] 0 (.fresh 0 0 (!w.params.followText "set-order")) }) : HSet P w h a [] := by
  refine ⟨_, #[], 0, _, ho, ⟨rfl, rfl, rfl⟩, rfl, rfl, ⟨List.Pairwise.nil, rfl, rfl, .inl rfl, (fun x hx => by cases hx), (fun i h j hi => by simp at hi)⟩, rfl, ?_⟩
  show _ ∨ (!w.params.followText "set-order") = true
  cases w.params.followText "set-order"
  · exact .inr rfl
  · exact .inl rfl
set_option maxRecDepth 100000 in
set_option maxHeartbeats 3200000 in
theorem hCall_tuple {l : Addr} {its : Array Value} (ks : List (Addr × List Key)) {Q : Value → Shared → Prop} (cl : A.handled = none) (hl : s.heap.IsTuple l its) (hit : its.toList = ks.map fun p => Value.ref p.1) (hk : ∀ p ∈ ks, TIq P w s.heap p.2 p.1) (few : ks.length ≤ 4) (nd : (ks.map (·.2)).Nodup) (hu : A.units + 3 < cLine)
    (hQ : ∀ (h' : Heap) (tk : Nat) L, HSet P w h' s.heap.objs.size L → L.Perm ks → (∀ b o, s.heap.get? b = some o → h'.get? b = some o) → Q (.ref s.heap.objs.size) { s with heap := h', toks := tk }) :
    wpAny (model P w) A (call (.type "set") [.ref l]) Q E s := by
  obtain ⟨mc, mt, em⟩ := F.called_set.mro
  have c1 := F.called_set.made
  have c2 := F.called_set.sub
  have hn : its.size = ks.length := by rw [← Array.length_toList, hit, List.length_map]
  have hv : ∀ (i : Nat) (v : Value), its[i]? = some v → ∃ p, ks[i]? = some p ∧ v = .ref p.1 := fun i v e => by
    rw [← Array.getElem?_toList, hit, List.getElem?_map] at e
    obtain ⟨p, h1, h2⟩ := Option.map_eq_some_iff.mp e
    exact ⟨p, h1, h2.symm⟩
  refine wpAny_call (codeAny_of_tree (show wpAny _ _ (callAny (.type "set") _) _ _ _ from wpAny_pure ⟨Code.quiet_builtin _ (by decide +kernel), codeAny_builtin F.entry_type_call ?_⟩))
  rw [Around.under_plain (weight_type_call_type "set" [.ref l] []) rfl]
  have c3 := F.called_set.notType
  have c4 := F.called_set.canCreate
  have c5 := F.typeCall_set_1 (.ref l)
  repeat (any_goals (first | assumption | wp_step))
  let o0 : Obj := { cls := .type "set", dict := none, data := .set #[] 0 (.fresh 0 0 (!w.params.followText "set-order")) }
  refine codeAny_mono (code_set_led1 (.ref l) (E := E) (Q₁ := fun obj s₁ => obj = .ref s.heap.objs.size ∧ s₁ = { s with heap := s.heap.push o0 }) ⟨rfl, rfl⟩) fun r s₁ hr => ?_
  cases r with
  | error e => exact hr
  | ok fl =>
   cases fl with
   | ret ob =>
    obtain ⟨rfl, rfl⟩ := hr
    have g0 : (s.heap.push o0).get? s.heap.objs.size = some o0 := Heap.get?_push_size _ rfl
    have ty : Shared.TypeIs { s with heap := s.heap.push o0 } (.ref s.heap.objs.size) "set" := ⟨_, g0, rfl⟩
    have c6 := F.called_set.init.lookup
    have c7 := F.called_set.init.bind (.ref s.heap.objs.size)
    repeat (any_goals (first | assumption | wp_step))
    refine codeAny_mono (codeAny_call_builtin (R := wants (fun r s₂ => r = .none ∧ ∃ h' tk L, s₂ = { s with heap := h', toks := tk } ∧ HSet P w h' s.heap.objs.size L ∧ L.Perm ks ∧ (∀ b o, s.heap.get? b = some o → h'.get? b = some o)) E) F.called_set.init.plain F.entry_set_init (check_set_init_1 ty ?_)) fun r₂ s₂ h2 => ?_
    · obtain ⟨ol, gl, cl1, nl, dl⟩ := hl
      obtain ⟨oc, od, oa, os1⟩ := ol
      simp only at cl1 dl
      subst cl1 dl
      have gl1 : (s.heap.push o0).get? l = some { cls := .type "tuple", dict := od, data := .seq its nl, slots := os1 } := Heap.get?_push_of_some _ gl
      have c8 := F.sub_tuple_set
      have c9 := F.sub_tuple_frozenset
      have c10 : (Value.type "tuple" == Value.type "dict") = false := (by decide)
      have is1 : (s.heap.push o0).IsTuple l its := ⟨_, gl1, rfl, nl, rfl⟩
      unfold Builtin.«set.__init__» noKeywords Builtin.Frozenset.updateFrom
      generalize ePI : pyIter = PI
      wp_walk
      subst ePI
      refine wpAny_pyIter_tuple is1 (wpAny_bind (wpAny_runValue ?_))
      have lt : l < s.heap.objs.size := Heap.lt_size gl
      have cl3 : A.in1.in1.in1.handled = none := (by simp [cl])
      have ne1 : l ≠ (s.heap.push o0).objs.size := (by rw [Heap.size_push]; exact Nat.ne_of_lt (Nat.lt_succ_of_lt lt))
      have out : s.heap.objs.size ∉ [(s.heap.push o0).objs.size, l] := by
        rw [Heap.size_push]
        intro z
        rcases List.mem_cons.mp z with z | z
        · exact absurd z (Nat.ne_of_lt (Nat.lt_succ_self _))
        · exact absurd (List.mem_singleton.mp z).symm (Nat.ne_of_lt lt)
      have nn : ∀ b, s.heap.objs.size ≤ b → s.heap.get? b = none := fun b hb => by
        cases q : s.heap.get? b with
        | none => rfl
        | some o => exact absurd (Nat.lt_of_lt_of_le (Heap.lt_size q) hb) (Nat.lt_irrefl _)
      refine hUpdate ((Walks.tuple cl3 _ l ne1 its).toS) s.heap.objs.size out ks hn few nd hv s.heap hk (nn _ (Nat.le_refl _)) (fun b hb => nn _ (by rw [List.mem_singleton.mp hb, Heap.size_push]; exact Nat.le_succ _)) hu (its.size - 0) 0 _ (by omega) (Nat.zero_le _) ⟨⟨_, Heap.get?_push_size _ rfl, rfl, rfl⟩, is1.push _⟩
        (fun b o e => Heap.get?_push_of_some _ (Heap.get?_push_of_some _ e)) ?h0 ?hR
      case h0 => exact ⟨[], hNew (Heap.get?_push_of_some _ g0), .refl _⟩
      case hR =>
        intro s' L mv G pm
        obtain ⟨h', g2, d', tk', os'⟩ := s'
        have e1 : g2 = s.gens := mv.gens
        have e2 : d' = s.drawn := mv.drawn
        have e3 : os' = s.os := mv.os
        subst e1 e2 e3
        refine (show wpAny _ _ _ _ _ _ from wpAny_pure (show wpAny _ _ (ret Value.none) _ _ _ from wpAny_pure ⟨rfl, h', tk', L, rfl, G, pm, fun b o e => ?_⟩))
        have lb : b < s.heap.objs.size := Heap.lt_size e
        refine mv.heap b o (fun z => ?_) (Heap.get?_push_of_some _ (Heap.get?_push_of_some _ e))
        rw [Heap.size_push] at z
        rcases List.mem_cons.mp z with z | z
        · exact absurd z (Nat.ne_of_lt lb)
        · exact absurd (List.mem_singleton.mp z) (Nat.ne_of_lt (Nat.lt_succ_of_lt lb))
    · cases r₂ with
      | error e => exact h2
      | ok f2 =>
       cases f2 with
       | ret v =>
        obtain ⟨rfl, h', tk, L, rfl, G, pm, kp⟩ := h2
        repeat (any_goals (first | assumption | wp_step))
        exact hQ _ _ L G pm kp
       | _ => exact h2.elim
   | _ => exact hr.elim
/-! ### sorted -/
theorem sortK_congr {ks ks' : List (List Ik)} (p : ks'.Perm ks) : sortK ks' = sortK ks :=
  sorted_uniq (fun _ _ => leK_anti) (((sortK_perm ks').trans p).trans (sortK_perm ks).symm) (sortK_pw ks') (sortK_pw ks)
theorem hSorted {K : PySem.W.Frag} {F : Hp} {shape : Nat → Bool} {its : List Value} {ks : List (List Ik)} {a : Addr} {L : List (Addr × List Key)} {Q : Value → Shared → Prop} (G : HSet P w s.heap a L) (few : L.length ≤ 4) (cl : A.handled = none) (pl : (L.map fun p => Value.ref p.1).Perm its)
    (hT : Paired (Tk K F s.heap shape) ks its)
    (hQ : ∀ s' p (out : Array Value) (c : Nat) ys, (∀ b o, s.heap.get? b = some o → s'.heap.get? b = some o) → s'.gens = s.gens → s'.os = s.os → s.heap.objs.size ≤ p → s'.heap.get? p = some (seqObj "list" out c) → Vals ys out.toList → Reps K F ((sortK ks).map unT) ys → ys.length ≤ 4 → Q (.ref p) s') :
    wpAny (model P w) A (call (.builtin "sorted") [.ref a]) Q E s := by
  obtain ⟨o, es, ep, t, ho, hex, hd, G⟩ := G
  have fit := G.fits (by omega)
  have sz0 := G.size
  refine Calls.call_function_entry kind_sorted plain_sorted entry_sorted (args_sorted1 _) (show _ from ?_)
  unfold Builtin.«sorted»
  refine wpAny_bind (m := checkCount "sorted" 1 1 _) (wpAny_pure (wpAny_bind (collect_set (A := A.in1) cl ⟨o, ho, hex.1, hd⟩ fit (by unfold scanBound; omega) G.tab.ris G.led fun s1 vs kp sz g1 o1 pm => ?_)))
  have er : es.toList.map (·.2) = L.map fun p => Value.ref p.1 := by
    rw [G.rows, List.map_map]; rfl
  rw [er] at pm
  obtain ⟨ks', kp', hT'⟩ := paired_perm (pm.trans pl) hT
  have lv : vs.length ≤ 4 := by rw [pm.length_eq, List.length_map]; exact few
  have len : vs.length ≤ sizeLine := by rw [sizeLine_eq]; omega
  refine wpAny_bind (wpAny_newList (show _ from ?_) len)
  have g2 : (s1.heap.push (seqObj "list" vs.toArray 0)).get? s1.heap.objs.size = some (seqObj "list" vs.toArray 0) := Heap.get?_push_size _ rfl
  have hT2 : Paired (Tk K F (s1.heap.push (seqObj "list" vs.toArray 0)) shape) ks' vs := tks_keep hT' fun b u e => Heap.get?_push_of_some _ (kp b u e)
  obtain ⟨⟨fs, hf⟩, hk⟩ := tks_tups hT2
  refine wpAny_bind (wpAny_holding (wpAny_call_entry slot_list_sort ⟨_, g2, rfl⟩ entry_list_sort (PyProof.Rows.G.list_sort_tups g2 hf hk len fun st' a1 a2 _ => ⟨_, rfl, ?_⟩) (args_list_sort _)))
  obtain ⟨ys, m1, m2, m3⟩ := sort_out a1 a2 hT2
  rw [sortK_congr kp'] at m2
  obtain ⟨c, hc⟩ := sortedHeap_at (vs := vs) (out := (arrOf st').map (·.2)) g2
  refine wpAny_pure ⟨_, rfl, hQ _ s1.heap.objs.size _ c ys (fun b u e => ?_) g1 o1 sz hc m1 m2 (by omega)⟩
  have q := kp b u e
  have lt := Heap.lt_size q
  show (sortedHeap _ s1.heap.objs.size vs _).get? b = some u
  rw [sortedHeap_old (Nat.ne_of_lt lt) (by rw [size_push']; exact Nat.lt_succ_of_lt lt)]
  exact Heap.get?_push_of_some _ q
end
/-! ### sorted(set(t)) -/
def kOf : Ik → Key
  | .inl i => .inl i
  | .inr x => .inr (toS x)
theorem kOf_inj : ∀ {a b : Ik}, kOf a = kOf b → a = b
  | .inl _, .inl _, h => by cases h; rfl
  | .inr _, .inr _, h => by rw [toS_inj.mp (Sum.inr.inj h)]
  | .inl _, .inr _, h => nomatch h
  | .inr _, .inl _, h => nomatch h
theorem kOfs_inj : ∀ {a b : List Ik}, a.map kOf = b.map kOf → a = b
  | [], [], _ => rfl
  | x :: a, y :: b, h => by
    rw [List.map_cons, List.map_cons] at h
    injection h with h1 h2
    rw [kOf_inj h1, kOfs_inj h2]
  | [], _ :: _, h => nomatch h
  | _ :: _, [], h => nomatch h
theorem items_mix {P : Program} {w : World} : ∀ (k : List Ik) (us : List Value), Vals (k.map vIt) us → ItemsAre (mixKind P w) (k.map kOf) us
  | [], _, r => by cases r; exact .nil
  | .inl i :: k, _, r => by
    cases r with
    | cons r1 r2 => obtain ⟨t, rfl⟩ := r1; exact .cons (mixKind_int P w i t) (items_mix k _ r2)
  | .inr x :: k, _, r => by
    cases r with
    | cons r1 r2 => obtain ⟨t, rfl⟩ := r1; exact .cons (mixKind_str P w (toS x) t) (items_mix k _ r2)
section
variable {X : Cx} {W : WN} {fa : Ga → R D} {a : Expr} {ta : TE} {p p2 q pos : Pos}
def tSP (K : PySem.W.Frag) (ta : TE) : TE := fun σ H Q => ta σ H fun x H1 => ∃ (l : Addr) (F : Hp) (vs : List V) (ks : List (List Ik)), x = .ref l ∧ SqT K H1 l vs ∧ Emb F H1 ∧ Reps K F (ks.map unT) vs ∧ okK ks = true ∧ ks.Nodup ∧ ks.length ≤ 4 ∧
  ∀ ys p, Reps K F ((sortK ks).map unT) ys → H1 p = none → Q (.ref p) (upd H1 p (.lst ys))
theorem shape_of {ks : List (List Ik)} (h : okK ks = true) : ∀ k ∈ ks, k ≠ [] ∧ ∀ j x, k[j]? = some x → shp (ks.headD []) (0 + j) = x.isRight := by
  intro k hk
  cases ks with
  | nil => cases hk
  | cons k0 ks =>
    simp only [okK, Bool.and_eq_true, Bool.not_eq_true', List.all_eq_true, beq_iff_eq] at h
    obtain ⟨h0, h1⟩ := h
    have e : k.map Sum.isRight = k0.map Sum.isRight := by
      rcases List.mem_cons.mp hk with rfl | hk
      · rfl
      · exact h1 k hk
    refine ⟨?_, fun j x hx => ?_⟩
    · rintro rfl
      cases k0 with
      | nil => cases h0
      | cons _ _ => cases e
    · show shp k0 (0 + j) = _
      unfold shp
      rw [Nat.zero_add, ← e, List.getElem?_map, hx]; rfl
/-- one tuple, as the state shows it -/
theorem tk_one {pins : List (Addr × Obj)} {σ : L2.St} {H F : Hp} {s : Shared} (I : Inv X pins σ H s) (em : Emb F H) {shape : Nat → Bool} {k : List Ik} (hne : k ≠ []) (hs0 : ∀ j x, k[j]? = some x → shape (0 + j) = x.isRight) {v : V} {u : Value} (r1 : Rep X.K F (unT k) v) (r2 : RelV v u) :
    ∃ b, u = .ref b ∧ TIq X.prog X.w s.heap (k.map kOf) b ∧ Tk X.K F s.heap shape k u := by
  cases r1 with
  | tup t1 t2 =>
    rename_i b vs
    have ev := Reps.its t2
    subst ev
    cases r2
    obtain ⟨jts, rj, ⟨o, ho, hc, n, hd⟩, _⟩ := I.tuple (em.sqt t1)
    refine ⟨b, rfl, ⟨o, _, n, ho, hc, hd, by simpa using items_mix k jts rj⟩, b, rfl, t1, ?_, ?_⟩
    · unfold tupKeyC
      have e1 : isTupObj s.heap (.ref b) = true := by simp [isTupObj, ho, hc]
      rw [if_pos e1]
      simp only [tupKey, ho, hd]
      exact items_of k 0 _ (by simpa using rj) hs0
    · cases k with
      | nil => exact absurd rfl hne
      | cons x k =>
        cases rj with
        | cons r3 r4 =>
          rename_i f jts
          refine ⟨f, b, o, _, n, rfl, ho, hc, hd, rfl, fun z => ?_, fun z => ?_⟩
          · have := hs0 0 x rfl
            rw [show shape (0 + 0) = shape 0 from rfl, z] at this
            cases x with
            | inl i => exact ⟨i, r3⟩
            | inr s => cases this
          · have := hs0 0 x rfl
            rw [show shape (0 + 0) = shape 0 from rfl, z] at this
            cases x with
            | inl i => cases this
            | inr s => exact ⟨_, r3⟩
theorem tk_all {pins : List (Addr × Obj)} {σ : L2.St} {H F : Hp} {s : Shared} (I : Inv X pins σ H s) (em : Emb F H) {shape : Nat → Bool} : ∀ {ks : List (List Ik)} {vs : List V} {its : List Value}, (∀ k ∈ ks, k ≠ [] ∧ ∀ j x, k[j]? = some x → shape (0 + j) = x.isRight) → Reps X.K F (ks.map unT) vs → Vals vs its →
    ∃ bs : List (Addr × List Key), its = bs.map (fun p => Value.ref p.1) ∧ bs.map (·.2) = ks.map (List.map kOf) ∧ (∀ p ∈ bs, TIq X.prog X.w s.heap p.2 p.1) ∧ Paired (Tk X.K F s.heap shape) ks its
  | [], _, _, _, h1, h2 => by cases h1; cases h2; exact ⟨[], rfl, rfl, (fun p z => by cases z), .nil⟩
  | k :: ks, _, _, hm, h1, h2 => by
    cases h1 with
    | cons h3 h4 =>
      cases h2 with
      | cons h5 h6 =>
        obtain ⟨bs, e1, e2, e3, e4⟩ := tk_all I em (fun k hk => hm k (List.mem_cons_of_mem _ hk)) h4 h6
        obtain ⟨b, rfl, e5, e6⟩ := tk_one I em (hm k List.mem_cons_self).1 (hm k List.mem_cons_self).2 h3 h5
        refine ⟨(b, k.map kOf) :: bs, by rw [e1]; rfl, by rw [List.map_cons, e2]; rfl, fun p z => ?_, .cons e6 e4⟩
        rcases List.mem_cons.mp z with rfl | z
        · exact e5
        · exact e3 p z
theorem pe_sortsetP (hc : X.calm = true) (hu : X.A.units + 64 < cLine) (hm : X.mg "sorted" = none) (hm2 : X.mg "set" = none) (ha : PE X a ta) (hg : Gl X "sorted" := by rfl) (hg2 : Gl X "set" := by rfl)
    (na : starEach [a] X.env = (false, eval a X.env) :: starEach [] X.env := by rfl) : PE X (.Call (.Name "sorted" p) [.Call (.Name "set" p2) [a] [] q] [] pos) (tSP X.K ta) := by
  refine ⟨fun pins s σ H Q I h => Call_ (ld_blt I hg hm PyProof.Rows.boot_sorted (PyProof.Rows.callWith_builtin1 (PyProof.Rows.args_cons (Call_ (ld_blt I hg2 hm2 PyProof.Rows.boot_set
    (PyProof.Rows.callWith_type1 (PyProof.Rows.args_cons (thn (ha.run pins s σ H _ I h) fun v s1 ⟨x, H1, I1, r1, q1⟩ => PyProof.Rows.args_nil ?_) na) na rfl))) rfl) rfl rfl))⟩
  obtain ⟨l, F, vs, ks, rfl, hl, em, rp, hok, nd, few, q1⟩ := q1
  cases r1
  obtain ⟨its, rv, pl, hz⟩ := I1.tuple hl
  obtain ⟨bs, e1, e2, e3, e4⟩ := tk_all I1 em (shape_of hok) rp rv
  have lb : bs.length ≤ 4 := by
    have := congrArg List.length e2
    rw [List.length_map, List.length_map] at this
    omega
  refine hCall_tuple bs (I1.ok.hd hc) pl (by simpa using e1) e3 lb (by rw [e2]; exact List.pairwise_map.mpr (nd.imp fun ne e => ne (kOfs_inj e))) (by omega) fun h' tk L G pm kp => ?_
  have I2 : Inv X pins σ H1 { s1 with heap := h', toks := tk } := I1.kept kp
  refine PyProof.Rows.args_nil (hSorted (s := { s1 with heap := h', toks := tk }) G (by rw [pm.length_eq]; exact lb) (I2.ok.hd hc) (by rw [e1]; exact pm.map _) (tks_keep e4 kp) fun s' p out c ys k g o hp hg r rr ly => ?_)
  obtain ⟨I3, hn⟩ := laid_list I2 k g o hp hg r (by rw [sizeLine_eq]; omega)
  exact ⟨.ref p, _, I3, rfl, q1 ys p rr hn⟩
def dSortSetP : D → R D
  | .tup xs => match asTs xs with
    | some ks => if okK ks = true ∧ ks.Nodup ∧ ks.length ≤ 4 then .ok (.lst ((sortK ks).map unT)) else .no
    | none => .no
  | _ => .no
theorem jf_sortsetP (hc : X.calm = true) (hu : X.A.units + 64 < cLine) (hm : X.mg "sorted" = none) (hm2 : X.mg "set" = none) (ha : JR X W fa a) (hg : Gl X "sorted" := by rfl) (hg2 : Gl X "set" := by rfl)
    (na : starEach [a] X.env = (false, eval a X.env) :: starEach [] X.env := by rfl) : JF X W (b1 dSortSetP fa) (.Call (.Name "sorted" p) [.Call (.Name "set" p2) [a] [] q] [] pos) :=
  ⟨PE.imp (pe_sortsetP hc hu hm hm2 ha.pe hg hg2 na) fun σ H Q ⟨F, γ, r, o⟩ => by
    refine ⟨F, γ, r, ?_⟩
    unfold b1 at o
    refine Out.bindR (P := PF X.K) (W := W) (σ := σ) (γ := γ) o fun dx x F1 H1 e0 n1 p1 o1 => ?_
    cases dx <;> first | (cases o1; done) | exact o1.elim | skip
    rename_i xs
    simp only [dSortSetP] at o1
    cases e : asTs xs with
    | none => rw [e] at o1; exact o1.elim
    | some ks =>
      rw [e] at o1
      simp only at o1
      by_cases hh : okK ks = true ∧ ks.Nodup ∧ ks.length ≤ 4
      case neg => rw [if_neg hh] at o1; exact o1.elim
      rw [if_pos hh] at o1
      obtain ⟨b, vs, rfl, s1, rp⟩ := p1.tup n1.emb
      have := asTs_of e
      subst this
      exact ⟨b, F1, vs, ks, rfl, s1, n1.emb, rp, hh.1, hh.2.1, hh.2.2, fun ys p hr hn => (PF.next (Q := Q) o1 n1).newL n1.emb hr p hn⟩⟩
end
end KN
set_option maxHeartbeats 1000000
/-! KnSR: dicts whose keys are pairs: dict(l), two of them held against each other -/
namespace KN
open PySem PySem.Spec PyProof.Rows L2
section
variable {prog : Program} {w : World} {κ : Type} [DecidableEq κ] {knd : HeapKind prog w κ} {A : Around} {E : Value → Shared → Prop} {s : Shared}
/-- alike: as many, each of the one's is the other's -/
theorem same_pairs {nm : String} {d e : Addr} {xs ys : List (κ × Addr × Value)} {Q : Bool → Shared → Prop} (nd : (d == sysModules) = false) (ne : (e == sysModules) = false) (dx : s.heap.DictOfH knd d xs) (dy : s.heap.DictOfH knd e ys) (hu : knd.room A) (len : xs.length = ys.length)
    (hit : ∀ p ∈ xs, ∃ n t b t', p.2.2 = Value.int n t ∧ (p.1, b, Value.int n t') ∈ ys) (h : Q true s) : wpAny (model prog w) A (Builtin.Dict.samePairs nm d e) Q E s := by
  obtain ⟨ox, ex, px, gx, _, hx, lx, ix, nx⟩ := dx
  obtain ⟨oy, ey, py, gy, _, hy, ly, iy, ny⟩ := dy
  have sx : ex.size = xs.length := size_of_entries lx
  have sy : ey.size = ys.length := size_of_entries ly
  unfold Builtin.Dict.samePairs Builtin.Dict.showsAll
  rw [if_neg (show ¬ (d == sysModules) = true by simp [nd]), if_neg (show ¬ (e == sysModules) = true by simp [ne])]
  refine wpAny_bind (wpAny_pure (wpAny_bind (wpAny_pure (wpAny_bind (wpAny_dictEntries gx hx ?_)))))
  dsimp only
  refine wpAny_bind (wpAny_dictEntries gy hy ?_)
  rw [if_neg (show ¬ (ex.size != ey.size) = true by rw [sx, sy, len]; simp)]
  refine wpAny_bind (wpAny_dictEpoch gx hx (wpAny_bind ?_))
  rw [Std.Legacy.Range.forIn_eq_forIn_range']
  simp only [Std.Legacy.Range.size, Nat.sub_zero, Nat.add_sub_cancel, Nat.div_one]
  refine wpAny_forIn_list _ (fun rest q s' => (s' = s ∧ q = (none, ())) ∧ ∃ i, rest = List.range' i (ex.size - i) ∧ i ≤ ex.size) _ (fun x rest q s' z => ?_) (fun q s' z => ?_) _ _ ⟨⟨rfl, rfl⟩, 0, by simp, Nat.zero_le _⟩
  · obtain ⟨⟨rfl, rfl⟩, i, hr, hi⟩ := z
    have lt : i < ex.size := by
      refine Nat.lt_of_not_le fun hh => ?_
      rw [Nat.sub_eq_zero_of_le hh] at hr
      simp at hr
    have er : x = i ∧ rest = List.range' (i + 1) (ex.size - (i + 1)) := by
      rw [show ex.size - i = (ex.size - (i + 1)) + 1 by omega, List.range'_succ] at hr
      injection hr with a1 a2
      exact ⟨a1, a2⟩
    obtain ⟨rfl, er⟩ := er
    obtain ⟨p, hp⟩ : ∃ p, xs[x]? = some p := ⟨_, List.getElem?_eq_getElem (by omega)⟩
    have pm := List.mem_of_getElem? hp
    obtain ⟨n, t, b, t', hv, hm⟩ := hit p pm
    obtain ⟨pk, pa, pv⟩ := p
    simp only at hv hm
    subst hv
    refine wpAny_bind (wpAny_dictEntries gx hx ?_)
    rw [entry_at lx, hp]
    show wpAny _ _ (holding [Value.ref pa, Value.int n t] _ >>= _) _ _ _
    refine wpAny_bind (wpAny_holding (wpAny_bind (wpAny_dictFind_heap hu (ix _ pm) gy hy ly iy ny (fun no => ?_) fun j r hj => ?_)))
    · obtain ⟨j, hj, ej⟩ := List.getElem_of_mem hm
      exact absurd (by rw [List.getElem?_eq_getElem hj, ej]) (no j (b, Value.int n t'))
    · have er2 : r = (b, Value.int n t') := by
        obtain ⟨j2, hj2, ej2⟩ := List.getElem_of_mem hm
        have e2 : ys[j2]? = some (pk, b, Value.int n t') := by rw [List.getElem?_eq_getElem hj2, ej2]
        have := idxH_unique ny hj e2
        subst this
        rw [hj] at e2
        cases e2; rfl
      subst er2
      refine wpAny_bind (wpAny_dictEntries gy hy ?_)
      rw [entry_at ly, hj]
      show wpAny _ _ (holding [Value.int n t'] (eqBool (.int n t) (.int n t'))) _ _ _
      refine wpAny_holding (wpAny_eqBool_int ?_)
      rw [beq_self_eq_true]
      rw [if_neg (show ¬ (!true) = true by decide)]
      refine wpAny_bind (wpAny_dictEpoch gx hx ?_)
      rw [if_neg (by simp)]
      exact wpAny_pure ⟨⟨rfl, rfl⟩, x + 1, er, lt⟩
  · obtain ⟨⟨rfl, rfl⟩, _⟩ := z
    exact wpAny_pure h
/-- .. then != is False -/
theorem ne_pairs {d e : Addr} {xs ys : List (κ × Addr × Value)} {Q : Value → Shared → Prop} (nd : (d == sysModules) = false) (ne : (e == sysModules) = false) (dx : s.heap.DictOfH knd d xs) (dy : s.heap.DictOfH knd e ys) (hu : A.units < cLine) (hr : knd.room A.in1) (len : xs.length = ys.length)
    (hit : ∀ p ∈ xs, ∃ n t b t', p.2.2 = Value.int n t ∧ (p.1, b, Value.int n t') ∈ ys) (h : Q (.bool false) s) : wpAny (model prog w) A (compareOp .NotEq (.ref d) (.ref e)) Q E s := by
  refine wpAny_richCompare_same_room (op := .NotEq) dx.typeIs dy.typeIs PySem.F.slot_dict_ne (wpAny_call_entry PySem.F.slot_dict_ne dx.typeIs PySem.F.entry_dict_ne (show wpAny _ _ (Builtin.Dict.dictSlotArgs "__ne__" ⟨[.ref d, .ref e], []⟩ >>= _) _ _ s from wpAny_bind ?_) (PySem.F.args_dict_ne_2 _ _)) hu
  unfold Builtin.Dict.dictSlotArgs
  refine wpAny_bind (wpAny_notOrdered_dict dx.typeIs (show wpAny _ _ (pure (Value.ref d, Value.ref e)) _ _ s from wpAny_pure (wpAny_bind (wpAny_isInstance (T := "dict") dy.typeIs PySem.F.sub_dict_dict ?_))))
  rw [if_neg (show ¬ (!true) = true by decide)]
  refine wpAny_bind (wpAny_pure (wpAny_bind (wpAny_pure (wpAny_bind (same_pairs nd ne dx dy hr len hit ?_)))))
  exact wpAny_pure ⟨_, rfl, (fun x => nomatch x), h⟩
end
/-! ### pairs of a key and a number -/
abbrev Kn := List Ik × Int
def prD (p : Kn) : D := .tup [unT p.1, .int p.2]
def kvOf (l : List Kn) : List (List Key × V) := l.map fun p => (p.1.map kOf, V.int p.2)
abbrev TKd (P : Program) (w : World) : HeapKind P w (List Key) := tupleKind (mixKind P w)
def XOk (K : PySem.W.Frag) (F : Hp) (p : Kn) (x : List Key × Addr × Value) : Prop := x.1 = p.1.map kOf ∧ SqT K F x.2.1 (p.1.map vIt) ∧ ∃ t, x.2.2 = Value.int p.2 t
def D2P (P : Program) (w : World) (a : Addr) (xs : List (List Key × Addr × Value)) (h : Heap) : Prop := (a == sysModules) = false ∧ (xs.map (·.1)).Nodup ∧ ∃ o es ep, h.get? a = some o ∧ o.ExactDict ∧ o.data = .dict es ep ∧ es.toList = xs.map (entryOfKey (TKd P w))
def D2O (P : Program) (w : World) (a : Addr) (xs : List (List Key × Addr × Value)) : HO := .ext (D2P P w a xs)
theorem stored_nd {κ : Type} [DecidableEq κ] : ∀ (ps xs : List (κ × Addr × Value)), ((xs ++ ps).map (·.1)).Nodup → storedAllH xs ps = xs ++ ps
  | [], xs, _ => by simp [storedAllH]
  | p :: ps, xs, h => by
    have h1 : atKey xs p.1 = none := atKey_none_of_get fun j q e => by
      rw [List.map_append, List.map_cons] at h
      have d := List.nodup_append.mp h
      exact d.2.2 p.1 (List.mem_map.mpr ⟨_, List.mem_of_getElem? e, rfl⟩) p.1 List.mem_cons_self rfl
    show storedAllH (storedH xs p.1 p.2.1 p.2.2) ps = _
    rw [storedH_new h1, stored_nd ps (xs ++ [(p.1, p.2.1, p.2.2)]) (by rw [List.append_assoc]; exact h), List.append_assoc]
    rfl
section
variable {X : Cx}
theorem pr_all {pins : List (Addr × Obj)} {σ : L2.St} {H F : Hp} {s : Shared} (I : Inv X pins σ H s) (em : Emb F H) : ∀ {ps : List Kn} {us : List V} {its : List Value}, Reps X.K F (ps.map prD) us → Vals us its →
    ∃ (ts : List Addr) (xs : List (List Key × Addr × Value)), its = ts.map Value.ref ∧ ts.length = ps.length ∧ Paired (XOk X.K F) ps xs ∧ (∀ x ∈ xs, TIq X.prog X.w s.heap x.1 x.2.1) ∧ ∀ (j : Nat) x, xs[j]? = some x → ∃ T, ts[j]? = some T ∧ s.heap.IsTuple T #[.ref x.2.1, x.2.2]
  | [], _, _, h1, h2 => by cases h1; cases h2; exact ⟨[], [], rfl, rfl, .nil, (fun x z => by cases z), (fun j x e => by simp at e)⟩
  | p :: ps, _, _, h1, h2 => by
    cases h1 with
    | cons h3 h4 =>
      cases h2 with
      | cons h5 h6 =>
        obtain ⟨ts, xs, e1, e2, e3, e4, e5⟩ := pr_all I em h4 h6
        cases h3 with
        | tup t1 t2 =>
          rename_i T vs
          cases h5
          cases t2 with
          | cons t3 t4 =>
            cases t4 with
            | cons t5 t6 =>
              cases t5
              cases t6
              cases t3 with
              | tup b1 b2 =>
                rename_i b ws
                have ew := Reps.its b2
                subst ew
                obtain ⟨jts, rj, hT, _⟩ := I.tuple (em.sqt t1)
                obtain ⟨kts, rk, ⟨o, ho, hc, n, hd⟩, _⟩ := I.tuple (em.sqt b1)
                obtain ⟨u1, u2, ej, r1, r2⟩ := vals2 rj
                subst ej
                obtain rfl : u1 = Value.ref b := r1
                obtain ⟨tk, rfl⟩ := r2
                refine ⟨T :: ts, (p.1.map kOf, b, .int p.2 tk) :: xs, by rw [e1]; rfl, by simp [e2], .cons ⟨rfl, b1, tk, rfl⟩ e3, fun x z => ?_, fun j x e => ?_⟩
                · rcases List.mem_cons.mp z with rfl | z
                  · exact ⟨o, _, n, ho, hc, hd, by simpa using items_mix p.1 kts rk⟩
                  · exact e4 x z
                · cases j with
                  | zero => simp at e; subst e; exact ⟨T, rfl, hT⟩
                  | succ j => simp at e ⊢; exact e5 j x e
def rDictP (K : PySem.W.Frag) (P : Program) (w : World) : List V → Hp → VK → Prop := fun vs H Q => ∃ (l : Addr) (F : Hp) (us : List V) (ps : List Kn), vs = [.ref l] ∧ SqL K H l us ∧ Emb F H ∧ Reps K F (ps.map prD) us ∧ (ps.map (·.1)).Nodup ∧ ps.length ≤ 1000 ∧
  ∀ d xs, H d = none → Paired (XOk K F) ps xs → Q (.ref d) (upd H d (D2O P w d xs))
theorem xs_keys {K : PySem.W.Frag} {F : Hp} {ps : List Kn} {xs : List (List Key × Addr × Value)} (h : Paired (XOk K F) ps xs) : xs.map (·.1) = ps.map fun p => p.1.map kOf := by
  induction h with
  | nil => rfl
  | cons h1 _ ih => rw [List.map_cons, List.map_cons, ih, h1.1]
theorem cr_dictP (hc : X.calm = true) (hu : X.A.units + 64 < cLine) : CallR X (.type "dict") (rDictP X.K X.prog X.w) := by
  intro pins s σ H vs us Q I r h
  obtain ⟨l, F, ws, ps, rfl, hl, em, rp, nd, few, q⟩ := h
  obtain ⟨its, rv, pl, hz⟩ := I.list hl
  obtain ⟨u, rfl, ru⟩ := vals1 r
  cases ru
  obtain ⟨ts, xs, e1, e2, e3, e4, e5⟩ := pr_all I em rp rv
  have lx : xs.length = ps.length := e3.length.symm
  have ndx : (xs.map (·.1)).Nodup := by
    rw [xs_keys e3]
    have := List.pairwise_map.mp nd
    exact List.pairwise_map.mpr (this.imp fun ne e => ne (kOfs_inj e))
  have big := I.big
  have plain : PlainSeq "list" s.heap l its.toArray := pl
  refine call_dict_pairsH (knd := TKd X.prog X.w) (ps := xs) (PairArg.list l its.toArray (fun j => ts.getD j 0) (xs.map fun x => (Value.ref x.2.1, x.2.2))) (I.ok.hd hc) (show X.A.in1.in1.units < cLine from ?_) ⟨plain, ?_⟩ ⟨by simp, fun i key v e => ?_⟩ (fun h' hk x hx => ?_) (by rw [List.length_map, lx, sizeLine_eq]; omega) fun h' tk hd kp => ?_
  · show X.A.units + 1 + 1 < cLine
    omega
  · refine ⟨by simp [e1, e2, lx], fun j k v e => ?_⟩
    rw [List.getElem?_map] at e
    obtain ⟨x, hx, ex⟩ := Option.map_eq_some_iff.mp e
    cases ex
    obtain ⟨T, hT, hp⟩ := e5 j x hx
    refine ⟨?_, .inl ?_⟩
    · rw [e1]; simp [List.getElem?_map, hT, List.getD]
    · have : ts.getD j 0 = T := by simp [List.getD, hT]
      show s.heap.IsTuple (ts.getD j 0) _
      rw [this]
      exact hp
  · have e : (xs.map fun x => (Value.ref x.2.1, x.2.2))[i]? = some (key, v) := e
    rw [List.getElem?_map] at e
    obtain ⟨x, hx, ex⟩ := Option.map_eq_some_iff.mp e
    cases ex
    exact ⟨x.1, x.2.1, hx, rfl⟩
  · obtain ⟨o, jt, n, ho, r⟩ := e4 x hx
    exact ⟨o, jt, n, hk _ _ (Nat.ne_of_lt (Heap.lt_size ho)) (by simp) ho, r⟩
  · rw [stored_nd xs [] (by simpa using ndx), List.nil_append] at hd
    obtain ⟨o, es, ep, g1, g2, g3, g4, _, _⟩ := hd
    have hn : H s.heap.objs.size = none := I.hok.fresh (Nat.le_refl _)
    have nm : (s.heap.objs.size == sysModules) = false := by
      rw [beq_eq_false_iff_ne]
      exact Nat.ne_of_gt big
    refine ⟨.ref s.heap.objs.size, upd H s.heap.objs.size (D2O X.prog X.w s.heap.objs.size xs), I.laid (t' := tk) (fun b o e => kp b o (by simp) e) (Nat.le_refl _) ?_, rfl, q _ xs hn e3⟩
    refine ⟨⟨nm, ndx, o, es, ep, g1, g2, g3, g4⟩, ⟨o, g1⟩, fun h1 h2 x k => ?_⟩
    obtain ⟨x1, x2, o', es', ep', y1, y2⟩ := x
    exact ⟨x1, x2, o', es', ep', k _ y1, y2⟩
theorem ti_xs {pins : List (Addr × Obj)} {σ : L2.St} {H F : Hp} {s : Shared} (I : Inv X pins σ H s) (em : Emb F H) {ps : List Kn} {xs : List (List Key × Addr × Value)} (h : Paired (XOk X.K F) ps xs) : ∀ x ∈ xs, TIq X.prog X.w s.heap x.1 x.2.1 := by
  induction h with
  | nil => exact fun x z => by cases z
  | cons h1 _ ih =>
    intro x z
    rcases List.mem_cons.mp z with rfl | z
    · obtain ⟨kts, rk, ⟨o, ho, hc, n, hdd⟩, _⟩ := I.tuple (em.sqt h1.2.1)
      rw [h1.1]
      exact ⟨o, _, n, ho, hc, hdd, by simpa using items_mix _ kts rk⟩
    · exact ih x z
theorem paired_r {α β : Type} {R : α → β → Prop} {l : List α} {m : List β} (h : Paired R l m) {y : β} (hy : y ∈ m) : ∃ x ∈ l, R x y := by
  induction h with
  | nil => cases hy
  | cons h1 _ ih =>
    rcases List.mem_cons.mp hy with rfl | hy
    · exact ⟨_, List.mem_cons_self, h1⟩
    · obtain ⟨x, h2, h3⟩ := ih hy
      exact ⟨x, List.mem_cons_of_mem _ h2, h3⟩
theorem paired_l {α β : Type} {R : α → β → Prop} {l : List α} {m : List β} (h : Paired R l m) {x : α} (hx : x ∈ l) : ∃ y ∈ m, R x y := by
  induction h with
  | nil => cases hx
  | cons h1 _ ih =>
    rcases List.mem_cons.mp hx with rfl | hx
    · exact ⟨_, List.mem_cons_self, h1⟩
    · obtain ⟨y, h2, h3⟩ := ih hx
      exact ⟨y, List.mem_cons_of_mem _ h2, h3⟩
def rNeP (K : PySem.W.Frag) (P : Program) (w : World) : R2 := fun x y H Q => ∃ (d e : Addr) (F : Hp) (xs : List (List Key × Addr × Value)) (ps acc : List Kn), x = .ref d ∧ H d = some (.dT (kvOf acc)) ∧ y = .ref e ∧ H e = some (D2O P w e xs) ∧ Emb F H ∧ Paired (XOk K F) ps xs ∧ acc.length = ps.length ∧ (∀ p ∈ acc, p ∈ ps) ∧ Q (.bl false) H
theorem op_neP (hu : X.A.units + 64 < cLine) : OpR X (compareOp .NotEq) (rNeP X.K X.prog X.w) := by
  intro pins s σ H x y v u Q I rx ry ⟨d, e, F, xs, ps, acc, e1, hd, e2, he, em, hx, len, sub, q⟩
  subst e1 e2
  cases rx
  cases ry
  obtain ⟨_, nd, ys, kt, dd⟩ := dt_of I.hok hd
  obtain ⟨⟨ne, ndx, o, es, ep, g1, g2, g3, g4⟩, _⟩ := I.hok e _ he
  have ti := ti_xs I em hx
  have len2 : ys.length = xs.length := by
    have := kt.length
    rw [kvOf, List.length_map] at this
    rw [← this, len, hx.length]
  refine ne_pairs (knd := TKd X.prog X.w) nd ne dd ⟨o, es, ep, g1, g2, g3, g4, ti, ndx⟩ (show X.A.units < cLine by omega) (tupleKind_room_in1 (show X.A.units + 1 < cLine by omega)) len2 (fun yv hy => ?_) ⟨.bl false, H, I, rfl, q⟩
  obtain ⟨x2, hx2, r1, r2, r3⟩ := paired_r kt hy
  obtain ⟨a, ha, rfl⟩ := List.mem_map.mp hx2
  obtain ⟨x, hxm, q1, _, t', q2⟩ := paired_l hx (sub a ha)
  have r3 : L2.RelV (V.int a.2) yv.2.2 := r3
  obtain ⟨t, hv⟩ : ∃ t, yv.2.2 = Value.int a.2 t := by
    generalize yv.2.2 = z at r3
    unfold L2.RelV at r3
    exact r3
  refine ⟨_, t, x.2.1, t', hv, ?_⟩
  obtain ⟨xk, xa, xv⟩ := x
  simp only at q1 q2
  subst q2
  rw [← r1]
  show (a.1.map kOf, xa, _) ∈ xs
  rw [← q1]
  exact hxm
end
end KN
set_option maxHeartbeats 1000000
/-! KnSS: sums by pairs in a dict; held against dict(l) -/
namespace KN
open PySem PySem.Spec PyProof.Rows L2
/-! ### sums -/
def getP (acc : List Kn) (k : List Ik) : Int := ((acc.find? fun p => decide (p.1 = k)).map (·.2)).getD 0
def putP (acc : List Kn) (k : List Ik) (v : Int) : List Kn := if (acc.any fun p => decide (p.1 = k)) = true then acc.map (fun p => if p.1 = k then (p.1, v) else p) else acc ++ [(k, v)]
theorem kOfs_iff {a b : List Ik} : a.map kOf = b.map kOf ↔ a = b := ⟨kOfs_inj, fun e => by rw [e]⟩
theorem getP_val (k : List Ik) : ∀ acc : List Kn, ((valV (kvOf acc) (k.map kOf)).getD (.int 0)) = V.int (getP acc k)
  | [] => rfl
  | p :: acc => by
    have ih := getP_val k acc
    by_cases e : p.1 = k
    · have e1 : (valV (kvOf (p :: acc)) (k.map kOf)) = some (V.int p.2) := valV_pos (p := (p.1.map kOf, V.int p.2)) (by rw [e])
      have e2 : getP (p :: acc) k = p.2 := by simp [getP, e]
      rw [e1, e2]; rfl
    · have e1 : (valV (kvOf (p :: acc)) (k.map kOf)) = valV (kvOf acc) (k.map kOf) := valV_neg (p := (p.1.map kOf, V.int p.2)) (fun z => e (kOfs_inj z))
      have e2 : getP (p :: acc) k = getP acc k := by simp [getP, e]
      rw [e1, e2]; exact ih
theorem putP_val (acc : List Kn) (k : List Ik) (v : Int) : putK (kvOf acc) (k.map kOf) (V.int v) = kvOf (putP acc k v) := by
  unfold putK putP
  have e : ((kvOf acc).any fun kv => decide (kv.1 = k.map kOf)) = acc.any fun p => decide (p.1 = k) := by
    unfold kvOf
    rw [List.any_map]
    congr 1
    funext p
    exact decide_eq_decide.mpr kOfs_iff
  rw [e]
  by_cases h : (acc.any fun p => decide (p.1 = k)) = true
  · rw [if_pos h, if_pos h]
    unfold kvOf
    rw [List.map_map, List.map_map]
    refine List.map_congr_left fun p _ => ?_
    show (if p.1.map kOf = k.map kOf then (p.1.map kOf, V.int v) else (p.1.map kOf, V.int p.2)) = _
    by_cases q : p.1 = k
    · rw [if_pos (by rw [q])]
      simp [q]
    · rw [if_neg (fun z => q (kOfs_inj z))]
      simp [q]
  · rw [if_neg h, if_neg h]
    unfold kvOf
    rw [List.map_append]
    rfl
theorem kOf_kV (k : List Ik) : k.map vIt = (k.map kOf).map kV := by
  rw [List.map_map]
  exact List.map_congr_left fun x _ => by cases x <;> rfl
theorem kvOf_len (acc : List Kn) : (kvOf acc).length = acc.length := List.length_map ..
def asPr : List D → Option (List Kn)
  | [] => some []
  | .tup [.tup ys, .int n] :: r => (asI ys).bind fun k => (asPr r).map ((k, n) :: ·)
  | _ :: _ => none
theorem asPr_of : ∀ {xs : List D} {ps : List Kn}, asPr xs = some ps → xs = ps.map prD
  | [], _, h => by cases h; rfl
  | x :: xs, ps, h => by
    unfold asPr at h
    split at h
    · rename_i heq; cases heq
    · rename_i ys n r heq
      cases heq
      cases e : asI ys with
      | none => rw [e] at h; cases h
      | some k =>
        rw [e] at h
        cases e2 : asPr xs with
        | none => rw [e2] at h; cases h
        | some ms => rw [e2] at h; cases h; rw [asPr_of e2, asI_of e]; rfl
    · cases h
def sGo (is : List Nat) (ki mi : Nat) (fs : Ga → R (List D)) : List D → Ga → List Kn → R (Ga × List Kn)
  | [], γ, acc => .ok (γ, acc)
  | d :: ds, γ, acc => (bdT is d γ).bind fun γ1 => match fs γ1 with
    | .ok kd => match asI kd, γ1[mi]? with
      | some k, some (.va (.int m)) => if acc.length ≤ lim ∧ kd.length ≤ lim then sGo is ki mi fs ds (γ1.set ki (.va (.tup kd))) (putP acc k (getP acc k + m)) else .no
      | _, _ => .no
    | _ => .no
def fSums (is : List Nat) (xi di ki mi : Nat) (fs : Ga → R (List D)) (fl : Ga → R D) (rest : Ga → R Fl) : Ga → R Fl := fun γ =>
  if di < γ.length ∧ di ∉ is ∧ di ≠ ki ∧ mi ≠ ki ∧ xi ≠ di ∧ ki < γ.length then match γ[xi]? with
  | some (.va (.lst ds)) => match sGo is ki mi fs ds (γ.set di .un) [] with
    | .ok (γ1, acc) => match fl γ1 with
      | .ok (.lst qs) => match asPr qs with
        | some ps => if (ps.map (·.1)).Nodup ∧ ps.length ≤ 1000 ∧ acc.length = ps.length ∧ acc.all (fun p => ps.any fun q => decide (q.1 = p.1) && decide (q.2 = p.2)) = true then rest γ1 else .no
        | none => .no
      | _ => .no
    | _ => .no
  | _ => .no
  else .no
/-- no slot owns d -/
def NoIn (γ : Ga) (σ : L2.St) (H : Hp) (d : Addr) : Prop := ∀ (j : Nat) (s : Sl), γ[j]? = some s → ¬ Inn H s σ[j]? d
theorem NoIn.next {K : PySem.W.Frag} {F H H' : Hp} {γ : Ga} {σ : L2.St} {d : Addr} (no : NoIn γ σ H d) (r : RS K F γ σ H) (n : ∀ b u, H b = some u → H' b = some u) : NoIn γ σ H' d :=
  fun j s e i => no j s e (i.back (r.sl j s e) fun b u _ z => n b u z)
theorem NoIn.set {γ : Ga} {σ : L2.St} {H : Hp} {d : Addr} (no : NoIn γ σ H d) (i : Nat) (x : D) (v : Option V) : NoIn (γ.set i (.va x)) (σ.set i v) H d := fun j s e h => by
  rcases get_set e with ⟨_, rfl, _⟩ | ⟨n, e⟩
  · exact h
  · rw [List.getElem?_set_ne (Ne.symm n)] at h; exact no j s e h
theorem NoIn.un {γ : Ga} {σ : L2.St} {H : Hp} {d : Addr} (no : NoIn γ σ H d) (i : Nat) (v : Option V) : NoIn (γ.set i .un) (σ.set i v) H d := fun j s e h => by
  rcases get_set e with ⟨_, rfl, _⟩ | ⟨n, e⟩
  · exact h
  · rw [List.getElem?_set_ne (Ne.symm n)] at h; exact no j s e h
theorem NoIn.kp {is : List Nat} {γ γ' : Ga} {σ σ' : L2.St} {H : Hp} {d : Addr} (no : NoIn γ σ H d) (k : Kp is γ σ γ' σ') : NoIn γ' σ' H d := fun j s e h => by
  rcases k.ow j s e with ⟨x, rfl⟩ | ⟨e2, e3⟩
  · exact h
  · rw [e3] at h; exact no j s e2 h
theorem NoIn.new {K : PySem.W.Frag} {F H : Hp} {γ : Ga} {σ : L2.St} {d : Addr} (r : RS K F γ σ H) (h : H d = none) : NoIn γ σ H d := fun j s e i => by
  obtain ⟨_, u, hu⟩ := i.have (r.sl j s e)
  rw [h] at hu; cases hu
/-- an object that no slot owns is changed -/
theorem RB.priv {K : PySem.W.Frag} {B : Bs} {F H : Hp} {γ : Ga} {σ : L2.St} {d : Addr} (r : RB K B F γ σ H) (no : NoIn γ σ H d) (u : HO) (fa : F d = none) (h0 : B.H0 d = none) : RB K B F γ σ (upd H d u) ∧ NoIn γ σ (upd H d u) d := by
  have kp : ∀ (i : Nat) (s : Sl), γ[i]? = some s → ∀ b w, Inn H s σ[i]? b → H b = some w → (upd H d u) b = some w := fun i s e b w hb hw => by
    have ne : b ≠ d := fun z => no i s e (by rw [← z]; exact hb)
    rw [upd_ne ne]; exact hw
  have bk : ∀ (i : Nat) (s : Sl) (b : Addr), γ[i]? = some s → Inn (upd H d u) s σ[i]? b → Inn H s σ[i]? b := fun i s b e h => h.back (r.rs.sl i s e) (kp i s e)
  exact ⟨⟨⟨(r.fi.chg (u := u) fa h0).emb, r.rs.len, fun i s e => (r.rs.sl i s e).keep (.refl _) fun b w hb fb hw => ⟨kp i s e b w hb hw, fb⟩, fun i j s s' b e1 e2 h1 h2 => r.rs.apart i j s s' b e1 e2 (bk i s b e1 h1) (bk j s' b e2 h2)⟩, r.fi.chg fa h0, fun i s b e h => r.ow i s b e (bk i s b e h), r.lk⟩,
    fun j s e h => no j s e (bk j s d e h)⟩
section
variable {X : Cx} {W : WN} {fs : Ga → R (List D)} {is : List Nat} {ki mi di : Nat} {t : TG} {tg : Expr} {B : Bs} {d : Addr}
theorem sums_core {J : It} {F0 H0 : Hp} {ds : List D} {E : Ends} {γ : Ga} {σ : L2.St} {tb : TS} {out : Ga × List Kn} (hg : JG X is (bdT is) t tg)
    (htb : ∀ D σ H, tSeq (tAsg (tTup (rdA X.K W fs)) (gName ki)) (sDPut (tVar di) (tVar ki) (tOp (RD2 X.K dAdd) (tDGet2 (tVar di) (tVar ki) (tC (.int 0))) (tVar mi))) D σ H → tb D σ H)
    (gs : Goes X.K J F0 [] ds) (r : RB X.K B F0 γ σ H0) (pl : NoIn γ σ H0 d) (hdis : di ∉ is) (hdk : di ≠ ki) (hmk : mi ≠ ki) (hkl : ki < γ.length) (hd : σ[di]? = some (some (.ref d))) (hH : H0 d = some (.dT [])) (hF : F0 d = none) (hB : B.H0 d = none)
    (o : sGo is ki mi fs ds γ [] = .ok out)
    (fin : ∀ F σ H, RB X.K B F out.1 σ H → σ[di]? = some (some (.ref d)) → H d = some (.dT (kvOf out.2)) → F d = none → E.nx σ H) :
    ∃ Wi : Nat → Nat → L2.St → Hp → Prop, (∃ m, Wi 0 m σ H0) ∧ ∀ i m σ H, Wi i m σ H → (J.stop i H ∧ E.nx σ H) ∨
      (J.go i H ∧ ∃ N : L2.St → Hp → Prop, (∀ σ' H', N σ' H' → ∃ m', m' < m ∧ Wi (i + 1) m' σ' H') ∧ ∀ x H', J.yld i H x H' → t x σ H' fun σ2 H2 => tb { E with nx := N, ct := N, bk := E.nx } σ2 H2) := by
  refine ⟨fun i m σ H => ∃ F γ acc, Same F0 F ∧ RB X.K B F γ σ H ∧ NoIn γ σ H d ∧ ki < γ.length ∧ σ[di]? = some (some (.ref d)) ∧ H d = some (.dT (kvOf acc)) ∧ F d = none ∧ sGo is ki mi fs (ds.drop i) γ acc = .ok out ∧ m = ds.length - i ∧ i ≤ ds.length,
    ⟨ds.length, F0, γ, [], .refl _, r, pl, hkl, hd, hH, hF, o, rfl, Nat.zero_le _⟩, ?_⟩
  rintro i m σ1 H1 ⟨F1, γ1, acc, f1, r1, pl1, kl1, hd1, hH1, hF1, o1, rfl, hi⟩
  obtain ⟨g1, g2⟩ := gs F1 H1 i f1 r1.rs.emb fun p hp => nomatch hp
  by_cases hl : i < ds.length
  · have hdd : ds[i]? = some ds[i] := List.getElem?_eq_getElem hl
    obtain ⟨go, gy⟩ := g2 _ hdd
    refine .inr ⟨go, fun σ' H' => ∃ F γ acc, Same F0 F ∧ RB X.K B F γ σ' H' ∧ NoIn γ σ' H' d ∧ ki < γ.length ∧ σ'[di]? = some (some (.ref d)) ∧ H' d = some (.dT (kvOf acc)) ∧ F d = none ∧ sGo is ki mi fs (ds.drop (i + 1)) γ acc = .ok out,
      fun σ' H' ⟨F, γ', acc', a1, a2, a3, a4, a5, a6, a7, a8⟩ => ⟨ds.length - (i + 1), by omega, F, γ', acc', a1, a2, a3, a4, a5, a6, a7, a8, rfl, hl⟩, fun x H' hy => ?_⟩
    obtain ⟨F2, n2, p2⟩ := gy x H' hy
    have r2 := r1.next n2
    rw [List.drop_eq_getElem_cons hl] at o1
    simp only [sGo] at o1
    cases e1 : bdT is ds[i] γ1 with
    | ok γ2 =>
      simp only [e1, R.bind] at o1
      refine hg.go r2.rs p2 e1 fun σ2 rs2 k => ?_
      have r3 := r2.kp rs2 k
      have pl3 := (pl1.next r1.rs n2.h).kp k
      have hd3 : σ2[di]? = some (some (.ref d)) := (k.out di hdis).trans hd1
      have kl3 : ki < γ2.length := by
        rw [rs2.len, k.len, ← r1.rs.len]
        exact kl1
      cases e2 : fs γ2 with
      | ok kd =>
        simp only [e2] at o1
        split at o1
        · rename_i k0 m0 ek em
          split at o1
          case isFalse => cases o1
          rename_i hlen
          refine htb _ _ _ ?_
          show tAsg _ _ _ _ _
          refine ⟨F2, γ2, r3.rs, ?_⟩
          rw [e2]
          intro vs F5 H5 n5 p5
          refine ⟨by rw [← p5.length]; exact Nat.le_trans hlen.2 lim_line, fun b hb => ?_⟩
          have n6 := Nxt.new n5.emb hb (.tup vs)
          have n56 := n5.trans n6
          have hb6 : (upd H5 b (.tup vs)) b = some (.tup vs) := upd_same
          have rb6 : Rep X.K (upd F5 b (.tup vs)) (.tup kd) (.ref b) := .tup (.inl (.inl upd_same)) (p5.mono n6.f)
          have hd6 : (upd H5 b (.tup vs)) d = some (.dT (kvOf acc)) := n56.h _ _ (n2.h _ _ hH1)
          have fd6 : (upd F5 b (.tup vs)) d = none := n56.unf (n2.unf hF1 hH1) (n2.h _ _ hH1)
          generalize upd F5 b (.tup vs) = F6 at n56 n6 rb6 fd6
          have r6 := (r3.next n56).set ki rb6
          have pl6 := (pl3.next r3.rs n56.h).set ki (.tup kd) (some (.ref b))
          generalize upd H5 b (.tup vs) = H6 at n56 n6 hb6 hd6 r6 pl6 ⊢
          have ekd := asI_of ek
          subst ekd
          have ev := Reps.its p5
          subst ev
          rw [kOf_kV] at hb6
          have hk6 : (σ2.set ki (some (.ref b)))[ki]? = some (some (.ref b)) := List.getElem?_set_self (by rw [← rs2.len]; exact kl3)
          have hd7 : (σ2.set ki (some (.ref b)))[di]? = some (some (.ref d)) := (List.getElem?_set_ne (Ne.symm hdk)).trans hd3
          obtain ⟨vm, hm, rm⟩ := rs2.sl mi _ em
          cases rm
          have hm7 : (σ2.set ki (some (.ref b)))[mi]? = some (some (.int m0)) := (List.getElem?_set_ne (Ne.symm hmk)).trans hm
          show ∃ v, _ ∧ _
          refine ⟨_, hd7, d, rfl, .inr ⟨_, .inl hd6⟩, _, hk6, _, DGet.t hd6 hb6, _, hm7, F6, .int (getP acc k0), .int m0, .int (getP acc k0 + m0), r6.rs.emb, .inl ?_, .inl (.int _), rfl, fun v F7 H7 n7 p7 => ?_⟩
          · rw [getP_val]; exact .int _
          cases p7
          have r7 := r6.next n7
          have fd7 := n7.unf fd6 hd6
          have r8 := r7.priv (pl6.next r6.rs n7.h) (.dT (putK (kvOf acc) (k0.map kOf) (.int (getP acc k0 + m0)))) fd7 hB
          refine ⟨_, hd7, _, hk6, d, _, rfl, DPut.t (n7.h _ _ hd6) (n7.h _ _ hb6) ?_, F7, _, putP acc k0 (getP acc k0 + m0), ((f1.trans n2.f).trans n56.f).trans n7.f, r8.1, r8.2, by rw [List.length_set]; exact kl3, hd7, by rw [putP_val]; exact upd_same, fd7, o1⟩
          rw [kvOf_len]
          have : lim < sizeLine := by (rw [sizeLine_eq]; decide)
          omega
        · cases o1
      | ex c => simp only [e2] at o1; cases o1
      | no => simp only [e2] at o1; cases o1
    | ex c => simp only [e1, R.bind] at o1; cases o1
    | no => simp only [e1, R.bind] at o1; cases o1
  · have hi' : i = ds.length := by omega
    refine .inl ⟨g1 hi', ?_⟩
    rw [List.drop_eq_nil_of_le (by omega)] at o1
    simp only [sGo] at o1
    cases o1
    exact fin F1 σ1 H1 r1 hd1 hH1 hF1
end
section
variable {X : Cx} {W : WN} {fs : Ga → R (List D)} {fl : Ga → R D} {rest : Ga → R Fl} {is : List Nat} {xi ki mi di : Nat} {t : TG} {tg tx ex : Expr} {key : List Expr} {rs : List Stmt} {y z m : Str} {q0 q1 q2 q3 q4 q5 q6 q7 q8 q9 q10 q11 q12 q13 q14 q15 q16 q17 q18 q19 q20 : Pos} {kc k1 : Nat} {kt : Nat}
theorem jss_sums (hp : PassesOwn (model X.prog X.w) X.A X.env X.xe) (hc : X.calm = true) (hN : X.N.Nodup) (hu : X.A.units + 64 < cLine) (hmd : X.mg "dict" = none) (hg : JG X is (bdT is) t tg) (hk : JA X W fs key) (hl : JF X W fl ex) (hrs : JSs X W rest rs)
    (hi : X.N[di]? = some y := by rfl) (hx : Loc X.env.scope y := by first | exact .inl rfl | exact .inr rfl) (hf : X.fn y = true ∨ X.env.scope.names.lookup y = some .local := by first | exact .inl rfl | exact .inr rfl)
    (hv : Vis X.env.scope y := by first | exact Or.inl rfl | exact Or.inr (Or.inl rfl) | exact Or.inr (Or.inr rfl)) (hd : (y == ("__debug__" : Str)) = false := by decide) (hcd : (y == ("__classdict__" : Str)) = false := by decide)
    (hi2 : X.N[ki]? = some z := by rfl) (hx2 : Loc X.env.scope z := by first | exact .inl rfl | exact .inr rfl) (hf2 : X.fn z = true ∨ X.env.scope.names.lookup z = some .local := by first | exact .inl rfl | exact .inr rfl)
    (hv2 : Vis X.env.scope z := by first | exact Or.inl rfl | exact Or.inr (Or.inl rfl) | exact Or.inr (Or.inr rfl)) (hd2 : (z == ("__debug__" : Str)) = false := by decide) (hcd2 : (z == ("__classdict__" : Str)) = false := by decide)
    {xn : Str} (hi3 : X.N[xi]? = some xn := by rfl) (hv3 : Vis X.env.scope xn := by first | exact Or.inl rfl | exact Or.inr (Or.inl rfl) | exact Or.inr (Or.inr rfl)) (hd3 : (xn == ("__debug__" : Str)) = false := by decide) (hcd3 : (xn == ("__classdict__" : Str)) = false := by decide)
    (hi4 : X.N[mi]? = some m := by rfl) (hv4 : Vis X.env.scope m := by first | exact Or.inl rfl | exact Or.inr (Or.inl rfl) | exact Or.inr (Or.inr rfl)) (hd4 : (m == ("__debug__" : Str)) = false := by decide) (hcd4 : (m == ("__classdict__" : Str)) = false := by decide)
    (hs1 : swapsWith (.Dict [] [] q1) (some (.Name y q2)) q3.line X.env = pure false := by rfl)
    (hs2 : swapsWith (.Tuple key kt q7) (some (.Name z q8)) q9.line X.env = pure false := by rfl)
    (hs3 : swapsWith (.BinOp (.Call (.Attribute (.Name y q10) "get" q11) [.Name z q12, .Constant (.int 0) kc q13] [] q14) .Add (.Name m q15) q16) (some (.Subscript (.Name y q17) (.Name z q18) q19)) q20.line X.env = pure false := by rfl)
    (hm2 : M2 X (.Name y q10) "get" q11 (.Name z q12) (.Constant (.int 0) kc q13) q14 := by first | exact ⟨rfl, rfl, rfl, rfl⟩ | exact ⟨rfl, rfl, rfl⟩)
    {pf pg pt pc pn pm pr ps : Pos} {kb : Nat}
    (hgd : Gl X "dict" := by rfl) (he : starEach [ex] X.env = (false, eval ex X.env) :: starEach [] X.env := by rfl) (hpl : (backTo pm (starEach [] X.env)).any (·.1) = false := by rfl)
    (hmk : behindInMarks .NotEq (.Call (.Name "dict" pn) [ex] [] pm) = false := by first | exact nomark _ | rfl)
    (hsf : ∀ q, foldedSetIterable (.Name xn pf) X.env q = pure q := by intro _; rfl) :
    JSs X W (fSums is xi di ki mi fs fl rest) (.Assign [.Name y q2] (.Dict [] [] q1) q3 :: .For tg (.Name xn pf) [.Assign [.Name z q8] (.Tuple key kt q7) q9,
      .Assign [.Subscript (.Name y q17) (.Name z q18) q19] (.BinOp (.Call (.Attribute (.Name y q10) "get" q11) [.Name z q12, .Constant (.int 0) kc q13] [] q14) .Add (.Name m q15) q16) q20] [] pg ::
      .If (.Compare (.Name y pt) [.NotEq] [.Call (.Name "dict" pn) [ex] [] pm] pc) [.Return (some (.Constant (.bool false) kb pr)) ps] [] q0 :: rs) :=
  ⟨PSs.imp (pss_cons (ps_set hN hi hx pe_dnewT hs1 hf) (pss_cons (ps_for hp hc (pi_list (pe_var hi3 hv3 hd3 hcd3)) hg.pg
      (pss_cons (ps_set hN hi2 hx2 (pe_tup hk.pa) hs2 hf2) (pss_one (ps_dput (by omega) (pe_var hi hv hd hcd) (pe_var hi2 hv2 hd2 hcd2) (pe_op o_add.run (pe_dget2 (by omega) (pe_var hi hv hd hcd) (pe_var hi2 hv2 hd2 hcd2) pe_int hm2) (pe_var hi4 hv4 hd4 hcd4)) hs3))) hsf)
    (pss_cons (ps_if (pt_cmpR (op_neP hu) (pe_var hi hv hd hcd) (pe_callTy (cr_dictP hc hu) hgd hmd PyProof.Rows.boot_dict (pa_cons hl.pe pa_nil he) (by decide) (by decide) he hpl) hmk) (pss_one (ps_ret pe_bl)) pss_nil) hrs.pss))) fun E σ H ⟨B, F, γ, r, o⟩ => by
    unfold fSums at o
    split at o
    case isFalse => exact o.elim
    rename_i hh
    obtain ⟨hdl, hdis, hdk, hmk', hxd, hkl⟩ := hh
    split at o
    case h_2 => exact o.elim
    rename_i ds ex5
    show ∀ p, H p = none → _
    intro d hd0
    have n1 : Nxt F H F (upd H d (.dT [])) := .laid r.rs.emb hd0 _
    have r1 : RB X.K B F (γ.set di .un) (σ.set di (some (.ref d))) (upd H d (.dT [])) := (r.next n1).un di (some (.ref d))
    have fd : F d = none := r.rs.emb.free hd0
    have bd := r.fi.free hd0
    have hH1 : (upd H d (.dT [])) d = some (.dT []) := upd_same
    have pl1 : NoIn (γ.set di .un) (σ.set di (some (.ref d))) (upd H d (.dT [])) d := ((NoIn.new r.rs hd0).next r.rs n1.h).un di _
    generalize upd H d (.dT []) = H1 at n1 r1 hH1 pl1
    have gd : (σ.set di (some (.ref d)))[di]? = some (some (.ref d)) := List.getElem?_set_self (by rw [← r.rs.len]; exact hdl)
    obtain ⟨v5, h5, rp5⟩ := r.rs.sl xi _ ex5
    have h5' : (σ.set di (some (.ref d)))[xi]? = some (some v5) := (List.getElem?_set_ne (Ne.symm hxd)).trans h5
    split at o
    case h_2 => exact o.elim
    rename_i γ1 acc esg
    split at o
    case h_2 => exact o.elim
    rename_i qs efl
    split at o
    case h_2 => exact o.elim
    rename_i ps eps
    split at o
    case isFalse => exact o.elim
    rename_i hps
    obtain ⟨nd, few, len, sub⟩ := hps
    cases rp5 with
    | lst s5 ri5 =>
    rename_i l5 vs5
    show ∃ v, _ ∧ _
    refine ⟨_, h5', l5, rfl, ⟨vs5, r1.rs.emb.sql s5⟩, ?_⟩
    refine sums_core (out := (γ1, acc)) (W := W) hg (fun _ _ _ h => h) (goes_list s5 ri5) r1 pl1 hdis hdk hmk' (by rw [List.length_set]; exact hkl) gd hH1 fd bd esg fun F2 σ2 H2 r2 gd2 hH2 fd2 => ?_
    refine ⟨_, gd2, F2, γ1, r2.rs, ?_⟩
    rw [efl]
    intro a F8 H8 n8 ha fa ⟨vs8, hv8, rp8⟩
    have := asPr_of eps
    subst this
    refine ⟨a, F8, vs8, ps, rfl, .inl (.inl hv8), n8.emb, rp8, nd, few, fun e xs he8 hx8 => ?_⟩
    have hd8 := n8.h _ _ hH2
    have n9 : Nxt F8 H8 F8 (upd H8 e (D2O X.prog X.w e xs)) := .laid n8.emb he8 _
    refine ⟨d, e, F8, xs, ps, acc, rfl, n9.h _ _ hd8, rfl, upd_same, n9.emb, hx8, len, (fun p m => by
      have z := List.all_eq_true.mp sub p m
      obtain ⟨q, mq, e⟩ := List.any_eq_true.mp z
      rw [Bool.and_eq_true, decide_eq_true_iff, decide_eq_true_iff] at e
      have : q = p := Prod.ext e.1 e.2
      rw [← this]; exact mq), false, rfl, ?_⟩
    exact ⟨B, F8, γ1, (r2.next n8).next n9, o⟩⟩
end
end KN
/-! KnM: the meanings of the defs that stand in more than one law (printed by wip/shared.py) -/
namespace KN
open PySem PySem.Spec PyProof.Rows L2
noncomputable section
def m_is_number : Ga → R Fl := fRet (bAnd (b1 (dIsi .int) (bVar 0)) (bAnd (b1 dNot (b1 (dIsi .bool) (bVar 0))) (bCh dLe dLe (bVar 1) (bVar 0) (bVar 2))))
def g_is_number : List D → R D := fnD 3 m_is_number
def m_is_name : Ga → R Fl := fRet (bAnd (b1 (dIsi .str) (bVar 0)) (bAnd (bCh dLe dLe (bC (.int 1)) (bN dLen (bCons (bVar 0) (bNil))) (bC (.int 8))) (bN dAll (bCons (bLcE (bVar 0) [1] (bdN 1) yes (b2 dIn (bVar 1) (bC (.str [97, 98, 99, 100, 101, 102, 103, 104, 105, 106, 107, 108, 109, 110, 111, 112, 113, 114, 115, 116, 117, 118, 119, 120, 121, 122])))) (bNil)))))
def g_is_name : List D → R D := fnD 2 m_is_name
def m_is_book : Ga → R Fl := fRet (bAnd (b1 (dIsi .tup) (bVar 0)) (bAnd (bCh dLe dLe (bC (.int 1)) (bN dLen (bCons (bVar 0) (bNil))) (bC (.int 8))) (bN dAll (bCons (bLcE (bVar 0) [1] (bdN 1) yes (bCall g_is_name (bCons (bVar 1) (bNil)))) (bNil)))))
def g_is_book : List D → R D := fnD 2 m_is_book
def m_need_book : Ga → R Fl := fIf (tNot (tVal (bCall g_is_book (bCons (bVar 0) (bNil))))) (fRaise 0) (fNil)
def g_need_book : List D → R D := fnD 1 m_need_book
def m_need_order : Ga → R Fl := fIf (tNot (tVal (bCall g_is_number (bCons (bVar 0) (bCons (bC (.int 1)) (bCons (bC (.int 3)) (bNil))))))) (fRaise 1) (fNil)
def g_need_order : List D → R D := fnD 1 m_need_order
def m_need_name : Ga → R Fl := fIf (tNot (tVal (bCall g_is_name (bCons (bVar 0) (bNil))))) (fRaise 2) (fNil)
def g_need_name : List D → R D := fnD 1 m_need_name
def m_end_of : Ga → R Fl := fRet (bSl (bVar 1) (pSo (bN dMax (bCons (bC (.int 0)) (bCons (b2 dSub (bN dLen (bCons (bVar 1) (bNil))) (bVar 0)) (bNil))))) (pNo))
def g_end_of : List D → R D := fnD 2 m_end_of
def m_counted : Ga → R Fl := fSeq (fNd0 2) (fSeq (fForE (bVar 0) (bdN 3) (fForI (iR1 (b2 dAdd (bN dLen (bCons (bVar 3) (bNil))) (bC (.int 1)))) (bdN 4) (fSeq (fSet 5 (bCall g_end_of (bCons (bVar 1) (bCons (bSl (bVar 3) (pNo) (pSo (bVar 4))) (bNil))))) (fSeq (fSet 6 (bSl (bVar 3) (pSo (bVar 4)) (pSo (b2 dAdd (bVar 4) (bC (.int 1)))))) (fBump 2 7 5 6))))) (fFz 2 (fRet (bVar 2))))
def g_counted : List D → R D := fnD 8 m_counted
def m_listed : Ga → R Fl := fRet (bN dTuple (bCons (bLcE (bN dSort (bCons (bVar 0) (bNil))) [1] (bdN 1) yes (bTup (bCons (bVar 1) (bCons (b2 dIx (bVar 0) (bVar 1)) (bNil))))) (bNil)))
def g_listed : List D → R D := fnD 2 m_listed
def m_table : Ga → R Fl := fSeq (fExpr (bCall g_need_book (bCons (bVar 0) (bNil)))) (fSeq (fExpr (bCall g_need_order (bCons (bVar 1) (bNil)))) (fSeq (fSet 2 (bCall g_counted (bCons (bVar 0) (bCons (bVar 1) (bNil))))) (fRet (bLcE (bN dSort (bCons (bVar 2) (bNil))) [3] (bdN 3) yes (bTup (bCons (bVar 3) (bCons (bCall g_listed (bCons (b2 dIx (bVar 2) (bVar 3)) (bNil))) (bNil))))))))
def g_table : List D → R D := fnD 4 m_table
def m_behind : Ga → R Fl := fSeq (fExpr (bCall g_need_book (bCons (bVar 0) (bNil)))) (fSeq (fExpr (bCall g_need_order (bCons (bVar 1) (bNil)))) (fSeq (fIf (tVal (b2 dNe (bVar 2) (bC (.str [])))) (fExpr (bCall g_need_name (bCons (bVar 2) (bNil)))) (fNil)) (fRet (bN dList (bCons (bCall g_listed (bCons (bGet (bCall g_counted (bCons (bVar 0) (bCons (bVar 1) (bNil)))) (bCall g_end_of (bCons (bVar 1) (bCons (bVar 2) (bNil)))) (bC (.dic []))) (bNil))) (bNil))))))
def g_behind : List D → R D := fnD 3 m_behind
def m__law_cell : Ga → R Fl := fSeq (fIf (tVal (b2 dEq (bVar 0) (bLst (bNil)))) (fRet (b2 dMul (bC (.int 7)) (bVar 1))) (fNil)) (fRet (b2 dAdd (b2 dIx (bVar 0) (b2 dMod (bVar 1) (bN dLen (bCons (bVar 0) (bNil))))) (b2 dMul (bC (.int 6553)) (b2 dDiv (bVar 1) (bN dLen (bCons (bVar 0) (bNil)))))))
def g__law_cell : List D → R D := fnD 2 m__law_cell
def m__law_drawn : Ga → R Fl := fSeq (fSet 3 (b2 dMod (b2 dAdd (b2 dMul (b2 dMod (bCall g__law_cell (bCons (bVar 0) (bCons (bVar 1) (bNil)))) (bC (.int 2147483563))) (bC (.int 69069))) (b2 dMul (bC (.int 104723)) (b2 dAdd (bVar 1) (bC (.int 1))))) (bC (.int 2147483563)))) (fSeq (fSet 3 (b2 dMod (b2 dAdd (b2 dMul (bVar 3) (bVar 3)) (b2 dDiv (bVar 3) (bC (.int 3)))) (bC (.int 2147483399)))) (fRet (b2 dMod (b2 dDiv (b2 dMod (b2 dAdd (b2 dMul (bVar 3) (bVar 3)) (b2 dDiv (bVar 3) (bC (.int 7)))) (bC (.int 2147483647))) (bC (.int 11))) (bVar 2))))
def g__law_drawn : List D → R D := fnD 4 m__law_drawn
def m__law_name : Ga → R Fl := fSeq (fSet 3 (b2 dAdd (bC (.int 1)) (bCall g__law_drawn (bCons (bVar 0) (bCons (bVar 1) (bCons (bVar 2) (bNil))))))) (fSeq (fSet 4 (b2 dIx (bLst (bCons (bC (.str [97, 98])) (bCons (bC (.str [97, 98])) (bCons (bC (.str [97, 98, 122])) (bNil))))) (bCall g__law_drawn (bCons (bVar 0) (bCons (b2 dAdd (bVar 1) (bC (.int 9))) (bCons (bC (.int 3)) (bNil))))))) (fRet (b2s dJoin (bC (.str [])) (bLcI (iR1 (bVar 3)) [5] (bdN 5) yes (b2 dIx (bVar 4) (bCall g__law_drawn (bCons (bVar 0) (bCons (b2 dAdd (b2 dAdd (bVar 1) (bC (.int 1))) (bVar 5)) (bCons (bN dLen (bCons (bVar 4) (bNil))) (bNil))))))))))
def g__law_name : List D → R D := fnD 6 m__law_name
def m__law_book : Ga → R Fl := fSeq (fSet 4 (bTup (bNil))) (fSeq (fForI (iR1 (b2 dAdd (bC (.int 1)) (bCall g__law_drawn (bCons (bVar 0) (bCons (bVar 1) (bCons (bVar 2) (bNil))))))) (bdN 5) (fSet 4 (b2 dAdd (bVar 4) (bTup (bCons (bCall g__law_name (bCons (bVar 0) (bCons (b2 dAdd (b2 dAdd (bVar 1) (bC (.int 1))) (b2 dMul (bC (.int 10)) (bVar 5))) (bCons (bVar 3) (bNil))))) (bNil)))))) (fRet (bVar 4)))
def g__law_book : List D → R D := fnD 6 m__law_book
end
end KN
/-! KnZ: a law's end -/
namespace KN
open PySem PySem.Spec PyProof.Rows L2
theorem cx_end {P : Program} {w : World} {outer : List Env} {H : Hp} {s s' : Shared} {e : Value} (h : L2.CX P w outer H s (fun _ _ _ => False) e s') : False := by
  obtain ⟨_, _, _, _, _, _, _, _, _, _, _, _, h⟩ := h
  exact h
end KN
/-! PA: how meanings are computed; the small defs of every law -/
namespace KN
open PySem PySem.Spec PyProof.Rows L2
noncomputable section
section
variable {f g : Ga → R Fl} {fa fb fc : Ga → R D} {γ : Ga} {p q : Ga → R Bool}
@[simp] theorem fSeq_e : fSeq f g γ = match f γ with | .ok (.nx γ') => g γ' | .ok (.rx (.rm none _)) => .no | r => r := rfl
@[simp] theorem fSet_e {i} : fSet i fa γ = (fa γ).bind fun d => .ok (.nx (γ.set i (.va d))) := rfl
@[simp] theorem fOwn_e {i} : fOwn i fa γ = (fa γ).bind fun d => .ok (.nx (γ.set i (.ow d))) := rfl
@[simp] theorem fNd0_e {i} : fNd0 i γ = .ok (.nx (γ.set i (.nd []))) := rfl
@[simp] theorem fExpr_e : fExpr fa γ = (fa γ).bind fun _ => .ok (.nx γ) := rfl
@[simp] theorem fRet_e : fRet fa γ = (fa γ).bind fun d => .ok (.rt d) := rfl
@[simp] theorem fRetN_e : fRetN γ = .ok (.rt .non) := rfl
@[simp] theorem fNil_e : fNil γ = .ok (.nx γ) := rfl
@[simp] theorem fIf_e : fIf p f g γ = (p γ).bind fun b => if b = true then f γ else g γ := rfl
@[simp] theorem fFz_e {i} : fFz i f γ = match γ[i]? with
  | some (.ow d) => f (γ.set i (.va d))
  | some (.nd es) => f (γ.set i (.va (.dic (es.map fun e => (e.1, .dic e.2)))))
  | _ => .no := rfl
@[simp] theorem bVar_e {i} : bVar i γ = match γ[i]? with | some (.va d) => .ok d | _ => .no := rfl
@[simp] theorem bRd_e {i} : bRd i γ = match γ[i]? with | some (.ow d) => .ok d | _ => .no := rfl
@[simp] theorem bC_e {d} : bC d γ = .ok d := rfl
@[simp] theorem b1_e {h} : b1 h fa γ = (fa γ).bind h := rfl
@[simp] theorem b2_e {h} : b2 h fa fb γ = (fa γ).bind fun x => (fb γ).bind fun y => h x y := rfl
@[simp] theorem bNil_e : bNil γ = .ok [] := rfl
@[simp] theorem bCons_e {fs} : bCons fa fs γ = (fa γ).bind fun x => (fs γ).bind fun xs => .ok (x :: xs) := rfl
@[simp] theorem bN_e {h fs} : bN h fs γ = (fs γ).bind h := rfl
@[simp] theorem bCall_e {h fs} : bCall h fs γ = (fs γ).bind h := rfl
@[simp] theorem bIf_e : bIf p fa fb γ = (p γ).bind fun b => if b = true then fa γ else fb γ := rfl
@[simp] theorem tVal_e : tVal fa γ = (fa γ).bind tB := rfl
@[simp] theorem tB_e {b} : tB (.bl b) = .ok b := rfl
@[simp] theorem tAnd_e : tAnd p q γ = (p γ).bind fun b => if b = true then q γ else .ok false := rfl
@[simp] theorem tOr_e : tOr p q γ = (p γ).bind fun b => if b = true then .ok true else q γ := rfl
@[simp] theorem tNot_e : tNot p γ = (p γ).bind fun b => .ok (!b) := rfl
@[simp] theorem bTup_e {fs} : bTup fs γ = (fs γ).bind fun xs => if xs.length ≤ lim then .ok (.tup xs) else .no := rfl
@[simp] theorem bLst_e {fs} : bLst fs γ = (fs γ).bind fun xs => if xs.length ≤ lim then .ok (.lst xs) else .no := rfl
@[simp] theorem fnD_e {n body ds} : fnD n body ds = match body (ds.map .va ++ List.replicate (n - ds.length) .un) with
  | .ok (.rt d) => .ok d
  | .ok (.nx _) => .ok .non
  | .ex c => .ex c
  | _ => .no := rfl
end
@[simp] theorem dAdd_i {i j} : dAdd (.int i) (.int j) = .ok (.int (i + j)) := rfl
@[simp] theorem dSub_i {i j} : dSub (.int i) (.int j) = .ok (.int (i - j)) := rfl
@[simp] theorem dLt_i {i j} : dLt (.int i) (.int j) = .ok (.bl (decide (i < j))) := rfl
@[simp] theorem dLe_i {i j} : dLe (.int i) (.int j) = .ok (.bl (decide (i ≤ j))) := rfl
@[simp] theorem dGt_i {i j} : dGt (.int i) (.int j) = .ok (.bl (decide (j < i))) := rfl
@[simp] theorem dGe_i {i j} : dGe (.int i) (.int j) = .ok (.bl (decide (j ≤ i))) := rfl
@[simp] theorem dLen_l {xs} : dLen [.lst xs] = .ok (.int xs.length) := rfl
@[simp] theorem dLen_t {xs} : dLen [.tup xs] = .ok (.int xs.length) := rfl
@[simp] theorem dLen_d {xs} : dLen [.dic xs] = .ok (.int xs.length) := rfl
theorem lim_val : lim = 1000000 := rfl
theorem log_s {n : Nat} (hn : n < 2 ^ 100) : n.log2 ≤ 100 := by
  rcases Nat.eq_zero_or_pos n with rfl | hp
  · decide
  · have := (Nat.log2_lt (by omega)).mpr hn; omega
theorem dMul_i {i j : Int} : dMul (.int i) (.int j) = if i.natAbs.log2 + j.natAbs.log2 < 1000000 then .ok (.int (i * j)) else .no := rfl
theorem dDiv_i {i j : Int} : dDiv (.int i) (.int j) = if 0 < j ∧ j.natAbs.log2 < 9000 then .ok (.int (i / j)) else .no := rfl
theorem dMod_i {i j : Int} : dMod (.int i) (.int j) = if 0 < j then .ok (.int (i % j)) else .no := rfl
theorem dMul_s {i j : Int} (h : i.natAbs < 2 ^ 100) (k : j.natAbs < 2 ^ 100) : dMul (.int i) (.int j) = .ok (.int (i * j)) := by
  have h1 := log_s h
  have h2 := log_s k
  rw [dMul_i, if_pos (by omega)]
theorem dDiv_s {i j : Int} (h : 0 < j) (k : j.natAbs < 2 ^ 100) : dDiv (.int i) (.int j) = .ok (.int (i / j)) := by
  have h2 := log_s k
  rw [dDiv_i, if_pos ⟨h, by omega⟩]
theorem dMod_s {i j : Int} (h : 0 < j) : dMod (.int i) (.int j) = .ok (.int (i % j)) := by rw [dMod_i, if_pos h]
def Lk (ns : List Int) : D := .lst (ns.map .int)
theorem at_nat {α : Type} {xs : List α} {i : Int} (h0 : 0 ≤ i) (h1 : i < xs.length) : ∃ x, atI xs i = some x ∧ xs[i.toNat]? = some x := by
  obtain ⟨n, rfl⟩ := Int.eq_ofNat_of_zero_le h0
  have hn : n < xs.length := by omega
  exact ⟨xs[n], L2.atI_nat (List.getElem?_eq_getElem hn), List.getElem?_eq_getElem hn⟩
@[simp] theorem dIx_l {xs i} : dIx (.lst xs) (.int i) = o2r (L2.atI xs i) := rfl
@[simp] theorem dIx_t {xs i} : dIx (.tup xs) (.int i) = o2r (L2.atI xs i) := rfl
@[simp] theorem dIx_d {es k} : dIx (.dic es) (.str k) = o2r (lookK es k) := rfl
@[simp] theorem o2r_some {α : Type} {a : α} : o2r (some a) = .ok a := rfl
theorem pl_lst (n : Nat) (xs : List D) : pl (n + 1) (.lst xs) = xs.all (pl n) := rfl
theorem pl_tup (n : Nat) (xs : List D) : pl (n + 1) (.tup xs) = xs.all (pl n) := rfl
@[simp] theorem pl_int (n : Nat) (i : Int) : pl n (.int i) = true := by cases n <;> rfl
@[simp] theorem pl_bl (n : Nat) (i : Bool) : pl n (.bl i) = true := by cases n <;> rfl
@[simp] theorem pl_non (n : Nat) : pl n .non = true := by cases n <;> rfl
@[simp] theorem pl_str (n : Nat) (s : Tx) : pl n (.str s) = s.all (· < 0x110000) := by cases n <;> rfl
@[simp] theorem eqv_int (n : Nat) (i j : Int) : eqv n (.int i) (.int j) = (i == j) := by cases n <;> rfl
@[simp] theorem eqv_str (n : Nat) (i j : Tx) : eqv n (.str i) (.str j) = (i == j) := by cases n <;> rfl
theorem eqv_lst (n : Nat) (xs ys : List D) : eqv (n + 1) (.lst xs) (.lst ys) = eqvL (eqv n) xs ys := rfl
theorem eqv_tup (n : Nat) (xs ys : List D) : eqv (n + 1) (.tup xs) (.tup ys) = eqvL (eqv n) xs ys := rfl
theorem dEq_p {d e : D} (h : pl 20 d = true) (k : pl 20 e = true) : dEq d e = .ok (.bl (eqv 20 d e)) := by unfold dEq; rw [if_pos ⟨h, k⟩]
theorem dNe_p {d e : D} (h : pl 20 d = true) (k : pl 20 e = true) : dNe d e = .ok (.bl (!eqv 20 d e)) := by unfold dNe; rw [if_pos ⟨h, k⟩]
theorem i2n_i {i : Int} (h : -(2 ^ 60) ≤ i ∧ i < 2 ^ 60) : i2n (.int i) = .ok i := by simp only [i2n]; rw [if_pos (by omega)]
theorem cell_ok {ns : List Int} (hns : ns.length ≤ 63) {k : Int} (h0 : 0 ≤ k) (h1 : k < 2 ^ 90) : ∃ i, g__law_cell [Lk ns, .int k] = .ok (.int i) := by
  unfold g__law_cell Lk
  rw [fnD_e]
  cases ns with
  | nil =>
    refine ⟨7 * k, ?_⟩
    have e7 : (7 : Int).natAbs < 2 ^ 100 := by decide
    have e : dMul (.int 7) (.int k) = .ok (.int (7 * k)) := dMul_s e7 (by omega)
    simp [m__law_cell, dEq, pl, eqv, eqvL, e]
  | cons n ns =>
    have hl : (0 : Int) < (((n :: ns).length : Nat) : Int) := by simp only [List.length_cons]; omega
    have e1 : dEq (.lst ((n :: ns).map D.int)) (.lst []) = .ok (.bl false) := by
      simp [dEq, pl, eqv, eqvL]
    have hm1 := Int.emod_nonneg k (show (((n :: ns).length : Nat) : Int) ≠ 0 by omega)
    have hm2 := Int.emod_lt_of_pos k hl
    obtain ⟨x, hx, hx1⟩ := at_nat (xs := (n :: ns).map D.int) hm1 (by rw [List.length_map]; exact hm2)
    have hx2 : ∃ j, x = .int j := by
      have := List.mem_of_getElem? hx1
      rw [List.mem_map] at this
      obtain ⟨j, _, rfl⟩ := this
      exact ⟨j, rfl⟩
    obtain ⟨j, rfl⟩ := hx2
    refine ⟨j + 6553 * (k / (((n :: ns).length : Nat) : Int)), ?_⟩
    have e2 : dMod (.int k) (.int (((n :: ns).map D.int).length : Nat)) = .ok (.int (k % (((n :: ns).length : Nat) : Int))) := by rw [List.length_map]; exact dMod_s hl
    have e3 : dDiv (.int k) (.int (((n :: ns).map D.int).length : Nat)) = .ok (.int (k / (((n :: ns).length : Nat) : Int))) := by
      rw [List.length_map]
      exact dDiv_s hl (by omega)
    have hq1 : 0 ≤ k / (((n :: ns).length : Nat) : Int) := Int.ediv_nonneg h0 (by omega)
    have hq2 : k / (((n :: ns).length : Nat) : Int) ≤ k := Int.ediv_le_self _ h0
    have e4 : dMul (.int 6553) (.int (k / (((n :: ns).length : Nat) : Int))) = .ok (.int (6553 * (k / (((n :: ns).length : Nat) : Int)))) := dMul_s (by omega) (by omega)
    generalize (List.map D.int (n :: ns)) = L at *
    generalize (((n :: ns).length : Nat) : Int) = m at *
    simp [m__law_cell, lim_val, e1, e2, e3, e4, hx]
def drawnF (ns : List Int) (k m : Int) : Int := match g__law_drawn [Lk ns, .int k, .int m] with
  | .ok (.int i) => i
  | _ => 0
theorem drawn_ok {ns : List Int} (hns : ns.length ≤ 63) {k m : Int} (h0 : 0 ≤ k) (h1 : k < 2 ^ 60) (hm : 0 < m) : g__law_drawn [Lk ns, .int k, .int m] = .ok (.int (drawnF ns k m)) ∧ 0 ≤ drawnF ns k m ∧ drawnF ns k m < m := by
  have key : ∃ i, g__law_drawn [Lk ns, .int k, .int m] = .ok (.int (i % m)) := by
    obtain ⟨c, hc⟩ := cell_ok hns h0 (show k < 2 ^ 90 by omega)
    have b1 := Int.emod_nonneg c (show (2147483563 : Int) ≠ 0 by decide)
    have b2 := Int.emod_lt_of_pos c (show (0 : Int) < 2147483563 by decide)
    have e1 : dMul (.int (c % 2147483563)) (.int 69069) = .ok (.int (c % 2147483563 * 69069)) := dMul_s (by omega) (by omega)
    have e2 : dMul (.int 104723) (.int (k + 1)) = .ok (.int (104723 * (k + 1))) := dMul_s (by omega) (by omega)
    obtain ⟨x, hx⟩ : ∃ x, x = (c % 2147483563 * 69069 + 104723 * (k + 1)) % 2147483563 := ⟨_, rfl⟩
    have x1 : 0 ≤ x := by rw [hx]; exact Int.emod_nonneg _ (by decide)
    have x2 : x < 2147483563 := by rw [hx]; exact Int.emod_lt_of_pos _ (by decide)
    have e3 : dMul (.int x) (.int x) = .ok (.int (x * x)) := dMul_s (by omega) (by omega)
    obtain ⟨y, hy⟩ : ∃ y, y = (x * x + x / 3) % 2147483399 := ⟨_, rfl⟩
    have y1 : 0 ≤ y := by rw [hy]; exact Int.emod_nonneg _ (by decide)
    have y2 : y < 2147483399 := by rw [hy]; exact Int.emod_lt_of_pos _ (by decide)
    have e4 : dMul (.int y) (.int y) = .ok (.int (y * y)) := dMul_s (by omega) (by omega)
    have md : ∀ {a b : Int}, 0 < b → dMod (.int a) (.int b) = .ok (.int (a % b)) := fun h => dMod_s h
    have dv : ∀ {a b : Int}, 0 < b → b < 1000 → dDiv (.int a) (.int b) = .ok (.int (a / b)) := fun h k => dDiv_s h (by omega)
    refine ⟨(y * y + y / 7) % 2147483647 / 11, ?_⟩
    unfold g__law_drawn
    rw [fnD_e]
    simp [m__law_drawn, hc, md, dv, e1, e2, hm, ← hx, e3, ← hy, e4]
  obtain ⟨i, hi⟩ := key
  have : drawnF ns k m = i % m := by unfold drawnF; rw [hi]
  rw [this]
  exact ⟨hi, Int.emod_nonneg _ (by omega), Int.emod_lt_of_pos _ hm⟩
/-! ### comprehensions, loops -/
section
variable {bd : D → Ga → R Ga} {ifs : Ga → R Bool} {elt : Ga → R D} {γ : Ga}
theorem lcGo_fil {α : Type} {inj : α → D} {p : α → Bool} {f : α → D} : ∀ {l : List α}, (∀ a ∈ l, ∃ γ1, bd (inj a) γ = .ok γ1 ∧ ifs γ1 = .ok (p a) ∧ (p a = true → elt γ1 = .ok (f a))) → lcGo bd ifs elt γ (l.map inj) = .ok ((l.filter p).map f)
  | [], _ => rfl
  | a :: l, h => by
    obtain ⟨γ1, h1, h2, h3⟩ := h a List.mem_cons_self
    have ih := lcGo_fil (l := l) fun b hb => h b (List.mem_cons_of_mem _ hb)
    rw [List.map_cons]
    unfold lcGo
    cases hp : p a with
    | true => simp [h1, h2, hp, h3 hp, ih]
    | false => simp [h1, h2, hp, ih]
theorem lcGo_map {α : Type} {inj f : α → D} {l : List α} (h : ∀ a ∈ l, ∃ γ1, bd (inj a) γ = .ok γ1 ∧ elt γ1 = .ok (f a)) : lcGo bd yes elt γ (l.map inj) = .ok (l.map f) := by
  have := lcGo_fil (bd := bd) (ifs := yes) (elt := elt) (γ := γ) (inj := inj) (p := fun _ => true) (f := f) (l := l) fun a ha => by
    obtain ⟨γ1, h1, h2⟩ := h a ha
    exact ⟨γ1, h1, rfl, fun _ => h2⟩
  rw [this]
  congr 2
  exact List.filter_eq_self.mpr fun _ _ => rfl
theorem lcGo_ex {α : Type} {inj : α → D} {P : D → Prop} : ∀ {l : List α}, (∀ a ∈ l, ∃ γ1 d, bd (inj a) γ = .ok γ1 ∧ elt γ1 = .ok d ∧ P d) → ∃ ds, lcGo bd yes elt γ (l.map inj) = .ok ds ∧ ds.length = l.length ∧ ∀ d ∈ ds, P d
  | [], _ => ⟨[], rfl, rfl, fun _ h => nomatch h⟩
  | a :: l, h => by
    obtain ⟨γ1, d, h1, h2, h3⟩ := h a List.mem_cons_self
    obtain ⟨ds, i1, i2, i3⟩ := lcGo_ex (l := l) fun b hb => h b (List.mem_cons_of_mem _ hb)
    refine ⟨d :: ds, ?_, by simp [i2], fun e he => ?_⟩
    · rw [List.map_cons]
      unfold lcGo
      simp [h1, h2, i1, yes]
    · rcases List.mem_cons.mp he with rfl | he
      · exact h3
      · exact i3 e he
theorem lcOut_e {vs : List Nat} {ds ys : List D} (h : lcGo bd ifs elt (wipeG γ vs) ds = .ok ys) (hl : ys.length ≤ lim) : lcOut bd ifs elt vs γ ds = .ok (.lst ys) := by
  unfold lcOut
  rw [h]
  simp [hl]
variable {body : Ga → R Fl}
/-- a loop that ends well, by an invariant -/
theorem forGo_inv {α : Type} {inj : α → D} {I : List α → Ga → Prop} {l0 : List α} {γ : Ga} (step : ∀ done a rest γ, l0 = done ++ a :: rest → I done γ → ∃ γ1, bd (inj a) γ = .ok γ1 ∧ ∃ γ2, (body γ1 = .ok (.nx γ2) ∨ body γ1 = .ok (.ct γ2)) ∧ I (done ++ [a]) γ2) (h0 : I [] γ) : ∃ γ', forGo bd body (l0.map inj) γ = .ok (.nx γ') ∧ I l0 γ' := by
  have aux : ∀ (l done : List α) (γ : Ga), l0 = done ++ l → I done γ → ∃ γ', forGo bd body (l.map inj) γ = .ok (.nx γ') ∧ I l0 γ' := by
    intro l
    induction l with
    | nil => intro done γ e h; exact ⟨γ, rfl, by rw [e]; simpa using h⟩
    | cons a l ih =>
      intro done γ e h
      obtain ⟨γ1, h1, γ2, h2, h3⟩ := step done a l γ e h
      obtain ⟨γ', i1, i2⟩ := ih (done ++ [a]) γ2 (by rw [e]; simp) h3
      refine ⟨γ', ?_, i2⟩
      rw [List.map_cons]
      unfold forGo
      rcases h2 with h2 | h2 <;> simp [h1, h2, i1]
  exact aux l0 [] γ rfl h0
theorem range_split {n i : Nat} {done rest : List Nat} (h : List.range n = done ++ i :: rest) : i = done.length ∧ done.length < n := by
  have e : (List.range n)[done.length]? = some i := by rw [h]; simp
  have l : done.length < n := by
    have := congrArg List.length h
    simp at this; omega
  rw [List.getElem?_range l] at e
  cases e; exact ⟨rfl, l⟩
end
theorem joinT_nil : ∀ ts : List Tx, joinT [] ts = ts.flatten
  | [] => rfl
  | [x] => by simp [joinT]
  | x :: y :: r => by rw [joinT, joinT_nil (y :: r)]; simp
theorem rng_e {n : Nat} {lo : Int} : rngD lo n = (List.range n).map fun i => .int (lo + (i : Nat)) := rfl
/-- letters of the laws' names -/
def ltr (c : Nat) : Prop := c = 97 ∨ c = 98 ∨ c = 122
def nameF (ns : List Int) (at_ most : Int) : Tx := match g__law_name [Lk ns, .int at_, .int most] with
  | .ok (.str s) => s
  | _ => []
theorem one_letters : ∀ {ds : List D}, (∀ d ∈ ds, ∃ c, ltr c ∧ d = .str [c]) → ∃ cs : List Nat, ds = cs.map (fun c => .str [c]) ∧ ∀ c ∈ cs, ltr c
  | [], _ => ⟨[], rfl, fun _ h => nomatch h⟩
  | d :: ds, h => by
    obtain ⟨c, hc, rfl⟩ := h d List.mem_cons_self
    obtain ⟨cs, rfl, h2⟩ := one_letters (ds := ds) fun e he => h e (List.mem_cons_of_mem _ he)
    exact ⟨c :: cs, rfl, fun e he => by
      rcases List.mem_cons.mp he with rfl | he
      · exact hc
      · exact h2 e he⟩
theorem asTxs_one (cs : List Nat) : asTxs (cs.map fun c => D.str [c]) = some (cs.map fun c => [c]) := by
  induction cs with
  | nil => rfl
  | cons c cs ih => simp [asTxs, ih]
theorem flat_one (cs : List Nat) : (cs.map fun c => [c]).flatten = cs := by
  induction cs with
  | nil => rfl
  | cons c cs ih => simp [ih]
theorem sum_one (cs : List Nat) : ((cs.map fun c => [c]).map List.length).sum = cs.length := by
  induction cs with
  | nil => rfl
  | cons c cs ih => rw [List.map_cons, List.map_cons, List.sum_cons, ih, List.length_cons]; simp; omega
theorem join_one {cs : List Nat} (h : cs.length ≤ lim) : dJoin [] (.lst (cs.map fun c => .str [c])) = .ok (.str cs) := by
  show ((o2r (asTxs (cs.map fun c => D.str [c]))).bind fun ts => if (ts.map (·.length)).sum + ts.length * ([] : Tx).length ≤ lim then R.ok (D.str (joinT [] ts)) else R.no) = _
  rw [asTxs_one, o2r_some]
  show (if ((cs.map fun c => [c]).map List.length).sum + _ ≤ lim then _ else _) = _
  rw [sum_one, joinT_nil, flat_one, if_pos (by simpa using h)]
theorem name_ok {ns : List Int} (hns : ns.length ≤ 63) {k m : Int} (h0 : 0 ≤ k) (h1 : k < 2 ^ 50) (hm : 0 < m) (hm2 : m < 1000) : g__law_name [Lk ns, .int k, .int m] = .ok (.str (nameF ns k m)) ∧ 0 < (nameF ns k m).length ∧ ((nameF ns k m).length : Int) ≤ m ∧ ∀ c ∈ nameF ns k m, ltr c := by
  have key : ∃ cs : Tx, g__law_name [Lk ns, .int k, .int m] = .ok (.str cs) ∧ 0 < cs.length ∧ (cs.length : Int) ≤ m ∧ ∀ c ∈ cs, ltr c := by
    obtain ⟨d1, d2, d3⟩ := drawn_ok hns h0 (show k < 2 ^ 60 by omega) hm
    obtain ⟨e1, e2, e3⟩ := drawn_ok hns (show 0 ≤ k + 9 by omega) (show k + 9 < 2 ^ 60 by omega) (show (0 : Int) < 3 by decide)
    generalize drawnF ns k m = n at *
    generalize drawnF ns (k + 9) 3 = j at *
    obtain ⟨L, hL, hLl, hLc⟩ : ∃ L : Tx, L2.atI [D.str [97, 98], D.str [97, 98], D.str [97, 98, 122]] j = some (.str L) ∧ (L.length = 2 ∨ L.length = 3) ∧ ∀ c ∈ L, ltr c := by
      have : j = 0 ∨ j = 1 ∨ j = 2 := by omega
      rcases this with rfl | rfl | rfl
      · exact ⟨[97, 98], rfl, .inl rfl, by simp [ltr]⟩
      · exact ⟨[97, 98], rfl, .inl rfl, by simp [ltr]⟩
      · exact ⟨[97, 98, 122], rfl, .inr rfl, by simp [ltr]⟩
    have hn : -(2 ^ 60) ≤ 1 + n ∧ 1 + n < 2 ^ 60 := by omega
    have comp : ∃ ds, lcGo (bdN 5) yes (b2 dIx (bVar 4) (bCall g__law_drawn (bCons (bVar 0) (bCons (b2 dAdd (b2 dAdd (bVar 1) (bC (.int 1))) (bVar 5)) (bCons (bN dLen (bCons (bVar 4) (bNil))) (bNil)))))) (wipeG [.va (Lk ns), .va (.int k), .va (.int m), .va (.int (1 + n)), .va (.str L), .un] [5]) ((List.range (1 + n).toNat).map fun i => .int (0 + (i : Nat))) = .ok ds ∧ ds.length = (List.range (1 + n).toNat).length ∧ ∀ d ∈ ds, ∃ c, ltr c ∧ d = .str [c] := by
      refine lcGo_ex fun i hi => ?_
      have hi := List.mem_range.mp hi
      have hLL : ((L.length : Nat) : Int) ≤ 3 := by omega
      obtain ⟨f1, f2, f3⟩ := drawn_ok hns (show 0 ≤ k + 1 + (0 + (i : Nat)) by omega) (show k + 1 + (0 + (i : Nat)) < 2 ^ 60 by omega) (show (0 : Int) < (L.length : Nat) by omega)
      obtain ⟨c, hc1, hc2⟩ := at_nat (xs := L) f2 f3
      refine ⟨_, .str [c], rfl, ?_, c, hLc c (List.mem_of_getElem? hc2), rfl⟩
      have l1 : L.length ≤ lim := by rw [lim_val]; omega
      simp [wipeG, dLen, dIx, l1, f1, hc1] at f1 hc1 ⊢
      simp [f1, hc1]
      exact l1
    obtain ⟨ds, c1, c2, c3⟩ := comp
    obtain ⟨cs, rfl, c4⟩ := one_letters c3
    rw [List.length_map, List.length_range] at c2
    have c5 := lcOut_e c1 (by rw [lim_val, List.length_map]; omega)
    refine ⟨cs, ?_, by omega, by omega, c4⟩
    have j1 : dJoin [] (.lst (cs.map fun c => .str [c])) = .ok (.str cs) := join_one (by rw [lim_val]; omega)
    unfold g__law_name
    rw [fnD_e]
    have c6 : bLcI (iR1 (bVar 3)) [5] (bdN 5) yes (b2 dIx (bVar 4) (bCall g__law_drawn (bCons (bVar 0) (bCons (b2 dAdd (b2 dAdd (bVar 1) (bC (.int 1))) (bVar 5)) (bCons (bN dLen (bCons (bVar 4) (bNil))) (bNil)))))) [.va (Lk ns), .va (.int k), .va (.int m), .va (.int (1 + n)), .va (.str L), .un] = .ok (.lst (cs.map fun c => .str [c])) := by
      unfold bLcI iR1
      simp [i2n_i hn, rng_e]
      simpa using c5
    simp [m__law_name, d1, e1, hL, lim_val, b2s, c6, j1]
  obtain ⟨cs, h⟩ := key
  have : nameF ns k m = cs := by unfold nameF; rw [h.1]
  rw [this]
  exact h
/-- a book -/
def bkD (b : List Tx) : D := .tup (b.map .str)
def goodN (m : Int) (x : Tx) : Prop := 0 < x.length ∧ (x.length : Int) ≤ m ∧ ∀ c ∈ x, ltr c
def bookF (ns : List Int) (at_ many most : Int) : List Tx := match g__law_book [Lk ns, .int at_, .int many, .int most] with
  | .ok (.tup xs) => (asTxs xs).getD []
  | _ => []
theorem book_ok {ns : List Int} (hns : ns.length ≤ 63) {k many m : Int} (h0 : 0 ≤ k) (h1 : k < 2 ^ 40) (hmy : 0 < many) (hmy2 : many < 1000) (hm : 0 < m) (hm2 : m < 1000) :
    g__law_book [Lk ns, .int k, .int many, .int m] = .ok (bkD (bookF ns k many m)) ∧ 0 < (bookF ns k many m).length ∧ ((bookF ns k many m).length : Int) ≤ many ∧ ∀ x ∈ bookF ns k many m, goodN m x := by
  have key : ∃ b : List Tx, g__law_book [Lk ns, .int k, .int many, .int m] = .ok (bkD b) ∧ 0 < b.length ∧ (b.length : Int) ≤ many ∧ ∀ x ∈ b, goodN m x := by
    obtain ⟨d1, d2, d3⟩ := drawn_ok hns h0 (show k < 2 ^ 60 by omega) hmy
    generalize drawnF ns k many = n at *
    have hn : -(2 ^ 60) ≤ 1 + n ∧ 1 + n < 2 ^ 60 := by omega
    have loop := forGo_inv (bd := bdN 5) (body := fSet 4 (b2 dAdd (bVar 4) (bTup (bCons (bCall g__law_name (bCons (bVar 0) (bCons (b2 dAdd (b2 dAdd (bVar 1) (bC (.int 1))) (b2 dMul (bC (.int 10)) (bVar 5))) (bCons (bVar 3) (bNil))))) (bNil)))))
      (inj := fun i : Nat => D.int (0 + (i : Nat))) (l0 := List.range (1 + n).toNat)
      (I := fun done γ => ∃ b s5, γ = [.va (Lk ns), .va (.int k), .va (.int many), .va (.int m), .va (bkD b), s5] ∧ b.length = done.length ∧ ∀ x ∈ b, goodN m x)
      (γ := [.va (Lk ns), .va (.int k), .va (.int many), .va (.int m), .va (.tup []), .un]) (fun done i rest γ hr hI => by
        obtain ⟨hi1, hi⟩ := range_split hr
        obtain ⟨b, s5, rfl, hb, hg⟩ := hI
        have e1 : dMul (.int 10) (.int (i : Nat)) = .ok (.int (10 * (i : Nat))) := dMul_s (by decide) (by omega)
        obtain ⟨f1, f2, f3, f4⟩ := name_ok hns (show 0 ≤ k + 1 + 10 * (i : Nat) by omega) (show k + 1 + 10 * (i : Nat) < 2 ^ 50 by omega) hm hm2
        refine ⟨_, rfl, [.va (Lk ns), .va (.int k), .va (.int many), .va (.int m), .va (bkD (b ++ [nameF ns (k + 1 + 10 * (i : Nat)) m])), .va (.int (i : Nat))], .inl ?_, _, _, rfl, ?_, ?_⟩
        · have e2 : dAdd (bkD b) (.tup [.str (nameF ns (k + 1 + 10 * (i : Nat)) m)]) = .ok (bkD (b ++ [nameF ns (k + 1 + 10 * (i : Nat)) m])) := by
            unfold bkD dAdd
            simp only
            rw [if_pos (by rw [lim_val]; simp; omega)]
            simp
          simp [e1, f1, lim_val, e2]
        · simp [hb]
        · intro x hx
          rcases List.mem_append.mp hx with hx | hx
          · exact hg x hx
          · rw [List.mem_singleton.mp hx]; exact ⟨f2, f3, f4⟩) ⟨[], _, rfl, rfl, fun _ h => nomatch h⟩
    obtain ⟨γ', l1, l2⟩ := loop
    obtain ⟨b, s5, rfl, hb, hg⟩ := l2
    have hb' : b.length = (1 + n).toNat := by simpa using hb
    refine ⟨b, ?_, by omega, by omega, hg⟩
    unfold g__law_book
    rw [fnD_e]
    simp [m__law_book, d1, lim_val, fForI, iR1, i2n_i hn, rng_e]
    simp at l1
    simp [l1]
  obtain ⟨b, h⟩ := key
  have : bookF ns k many m = b := by unfold bookF; rw [h.1]; simp [bkD]
  rw [this]
  exact h
end
end KN
/-! PB: association lists, tables of counts, no program in sight -/
namespace KN
open PySem PySem.Spec PyProof.Rows L2
/-! ### association lists -/
section
variable {α β : Type}
def lk : List (Tx × α) → Tx → Option α
  | [], _ => none
  | (k, r) :: es, x => if k = x then some r else lk es x
def pt : List (Tx × α) → Tx → α → List (Tx × α)
  | [], x, r => [(x, r)]
  | (k, r0) :: es, x, r => if k = x then (k, r) :: es else (k, r0) :: pt es x r
def ks (r : List (Tx × α)) : List Tx := r.map (·.1)
theorem lk_pt (r : List (Tx × α)) (x y : Tx) (v : α) : lk (pt r x v) y = if x = y then some v else lk r y := by
  induction r with
  | nil => simp [pt, lk]
  | cons e r ih =>
    obtain ⟨k, r0⟩ := e
    unfold pt
    by_cases h : k = x
    · subst h
      by_cases h2 : k = y <;> simp [lk, h2]
    · by_cases h2 : k = y
      · subst h2
        have : ¬ x = k := fun z => h z.symm
        simp [h, lk, this]
      · simp [h, lk, h2, ih]
theorem lk_none {r : List (Tx × α)} {x : Tx} : lk r x = none ↔ x ∉ ks r := by
  induction r with
  | nil => simp [lk, ks]
  | cons e r ih =>
    obtain ⟨k, r0⟩ := e
    unfold lk
    by_cases h : k = x
    · subst h; simp [ks]
    · have h' : ¬ x = k := fun z => h z.symm
      simp only [h, if_false, ih, ks, List.map_cons, List.mem_cons, h', false_or]
theorem lk_mem {r : List (Tx × α)} {x : Tx} {v : α} (h : lk r x = some v) : (x, v) ∈ r := by
  induction r with
  | nil => cases h
  | cons e r ih =>
    obtain ⟨k, r0⟩ := e
    unfold lk at h
    split at h
    · rename_i q; subst q; cases h; exact List.mem_cons_self
    · exact List.mem_cons_of_mem _ (ih h)
theorem mem_lk {r : List (Tx × α)} (nd : (ks r).Nodup) {x : Tx} {v : α} (h : (x, v) ∈ r) : lk r x = some v := by
  induction r with
  | nil => cases h
  | cons e r ih =>
    obtain ⟨k, r0⟩ := e
    unfold lk
    rw [ks, List.map_cons, List.nodup_cons] at nd
    rcases List.mem_cons.mp h with h | h
    · cases h; simp
    · have : k ≠ x := by rintro rfl; exact nd.1 (List.mem_map.mpr ⟨_, h, rfl⟩)
      rw [if_neg this]; exact ih nd.2 h
theorem ks_pt (r : List (Tx × α)) (x : Tx) (v : α) : ks (pt r x v) = if x ∈ ks r then ks r else ks r ++ [x] := by
  induction r with
  | nil => simp [pt, ks]
  | cons e r ih =>
    obtain ⟨k, r0⟩ := e
    unfold pt
    by_cases h : k = x
    · subst h; simp [ks]
    · have h' : ¬ x = k := fun z => h z.symm
      rw [if_neg h]
      show k :: ks (pt r x v) = _
      rw [ih]
      by_cases m : x ∈ ks r
      · have : x ∈ ks ((k, r0) :: r) := List.mem_cons_of_mem _ m
        rw [if_pos m, if_pos this]; rfl
      · have : x ∉ ks ((k, r0) :: r) := fun z => by
          rcases List.mem_cons.mp z with z | z
          · exact h' z
          · exact m z
        rw [if_neg m, if_neg this]; rfl
theorem nd_pt {r : List (Tx × α)} (nd : (ks r).Nodup) (x : Tx) (v : α) : (ks (pt r x v)).Nodup := by
  rw [ks_pt]
  split
  · exact nd
  · rename_i h
    rw [List.nodup_append]
    exact ⟨nd, by simp, fun a ha b hb => by rw [List.mem_singleton.mp hb]; rintro rfl; exact h ha⟩
theorem len_pt (r : List (Tx × α)) (x : Tx) (v : α) : (pt r x v).length ≤ r.length + 1 := by
  have := congrArg List.length (ks_pt r x v)
  have e1 : (pt r x v).length = (ks (pt r x v)).length := by simp [ks]
  have e2 : (ks r).length = r.length := by simp [ks]
  rw [e1, this]
  split <;> simp [e2]
theorem lk_map (f : α → β) (r : List (Tx × α)) (x : Tx) : lk (r.map fun e => (e.1, f e.2)) x = (lk r x).map f := by
  induction r with
  | nil => rfl
  | cons e r ih =>
    obtain ⟨k, r0⟩ := e
    simp only [List.map_cons, lk]
    split
    · rfl
    · exact ih
theorem pt_map (f : α → β) (r : List (Tx × α)) (x : Tx) (v : α) : (pt r x v).map (fun e => (e.1, f e.2)) = pt (r.map fun e => (e.1, f e.2)) x (f v) := by
  induction r with
  | nil => rfl
  | cons e r ih =>
    obtain ⟨k, r0⟩ := e
    simp only [List.map_cons, pt]
    split
    · rfl
    · rw [List.map_cons, ih]
theorem ks_map (f : α → β) (r : List (Tx × α)) : ks (r.map fun e => (e.1, f e.2)) = ks r := by
  simp [ks]
/-- sorted by keys -/
def lst (d : α) (r : List (Tx × α)) : List (Tx × α) := (sortT (ks r)).map fun l => (l, (lk r l).getD d)
/-- strictly rising keys -/
def SS (r : List (Tx × α)) : Prop := (ks r).Pairwise (· < ·)
theorem SS.nd {r : List (Tx × α)} (h : SS r) : (ks r).Nodup := List.Pairwise.imp (R := fun a b : Tx => a < b) (S := fun a b : Tx => a ≠ b) (fun {a b} h e => by subst e; exact List.lt_irrefl _ h) h
theorem le_lt {a b : Tx} (h : leT a b = true) (n : a ≠ b) : a < b := by
  unfold leT at h
  simp only [Bool.not_eq_true', decide_eq_false_iff_not, List.not_lt] at h
  rcases Decidable.em (a < b) with h2 | h2
  · exact h2
  · exact absurd (List.le_antisymm h (List.not_lt.mp h2)) n
theorem lt_le {a b : Tx} (h : a < b) : leT a b = true := by
  unfold leT
  have : ¬ b < a := List.lt_asymm h
  simp [this]
theorem ks_lst (d : α) (r : List (Tx × α)) : ks (lst d r) = sortT (ks r) := by
  unfold lst ks
  rw [List.map_map]
  exact List.map_id _
theorem lst_ss (d : α) {r : List (Tx × α)} (nd : (ks r).Nodup) : SS (lst d r) := by
  unfold SS
  rw [ks_lst]
  have n2 : (sortT (ks r)).Nodup := (sortT_perm _).nodup_iff.mpr nd
  exact ((sortT_pw (ks r)).and n2).imp fun h => le_lt h.1 h.2
theorem lk_lst (d : α) {r : List (Tx × α)} (nd : (ks r).Nodup) (x : Tx) : lk (lst d r) x = lk r x := by
  cases e : lk r x with
  | none =>
    rw [lk_none] at e ⊢
    rw [ks_lst]
    exact fun h => e ((sortT_perm _).mem_iff.mp h)
  | some v =>
    refine mem_lk (lst_ss d nd).nd ?_
    unfold lst
    refine List.mem_map.mpr ⟨x, (sortT_perm _).mem_iff.mpr ?_, by rw [e]; rfl⟩
    exact List.mem_map.mpr ⟨_, lk_mem e, rfl⟩
theorem self_map (d : α) {r : List (Tx × α)} (nd : (ks r).Nodup) : r = (ks r).map fun l => (l, (lk r l).getD d) := by
  unfold ks
  rw [List.map_map]
  conv => lhs; rw [← List.map_id r]
  refine List.map_congr_left fun e he => ?_
  have := mem_lk nd (show (e.1, e.2) ∈ r from he)
  simp [this]
theorem ss_ext {r s : List (Tx × α)} (hr : SS r) (hs : SS s) (h : ∀ x, lk r x = lk s x) : r = s := by
  have hm : ∀ x, x ∈ ks r ↔ x ∈ ks s := fun x => by
    have := h x
    rw [← Decidable.not_iff_not, ← lk_none, ← lk_none, this]
  have hp : (ks r).Perm (ks s) := (List.perm_ext_iff_of_nodup hr.nd hs.nd).mpr hm
  have hk : ks r = ks s := sorted_uniq (fun _ _ => leT_anti) hp (hr.imp lt_le) (hs.imp lt_le)
  cases r with
  | nil =>
    cases s with
    | nil => rfl
    | cons _ _ => cases hk
  | cons e r =>
    rw [self_map e.2 hr.nd, self_map e.2 hs.nd, hk]
    exact List.map_congr_left fun x _ => by rw [h x]
end
/-! ### tables of counts -/
abbrev Rw := List (Tx × Int)
abbrev Tt := List (Tx × Rw)
abbrev Ev := Tx × Tx
def bump (t : Tt) (e : Ev) : Tt := pt t e.1 (pt ((lk t e.1).getD []) e.2 ((lk ((lk t e.1).getD []) e.2).getD 0 + 1))
def rowOf (t : Tt) (c : Tx) : Rw := (lk t c).getD []
def tabOf (es : List Ev) : Tt := es.foldl bump []
/-- the row of what a context was followed by -/
structure TabOk (t : Tt) (es : List Ev) : Prop where
  nd : (ks t).Nodup
  rnd : ∀ c, (ks (rowOf t c)).Nodup
  len : t.length ≤ es.length
  rlen : ∀ c, (rowOf t c).length ≤ es.length
  key : ∀ c, lk t c = none ↔ ∀ l, (c, l) ∉ es
  val : ∀ c l, lk (rowOf t c) l = if es.count (c, l) = 0 then none else some (es.count (c, l) : Int)
theorem rowOf_bump (t : Tt) (e : Ev) (c : Tx) : rowOf (bump t e) c = if e.1 = c then pt (rowOf t c) e.2 ((lk (rowOf t c) e.2).getD 0 + 1) else rowOf t c := by
  unfold rowOf bump
  rw [lk_pt]
  split
  · rename_i h; subst h; rfl
  · rfl
theorem TabOk.step {t : Tt} {es : List Ev} (h : TabOk t es) (e : Ev) : TabOk (bump t e) (es ++ [e]) := by
  refine ⟨nd_pt h.nd _ _, fun c => ?_, ?_, fun c => ?_, fun c => ?_, fun c l => ?_⟩
  · rw [rowOf_bump]
    split
    · exact nd_pt (h.rnd c) _ _
    · exact h.rnd c
  · refine Nat.le_trans (len_pt _ _ _) ?_
    have := h.len; simp; omega
  · rw [rowOf_bump]
    have := h.rlen c
    split
    · refine Nat.le_trans (len_pt _ _ _) ?_
      simp; omega
    · simp; omega
  · unfold bump
    rw [lk_pt]
    by_cases q : e.1 = c
    · subst q
      simp only [if_pos, reduceCtorEq, false_iff]
      intro z
      exact z e.2 (by simp)
    · rw [if_neg q, h.key c]
      constructor
      · intro z l m
        rcases List.mem_append.mp m with m | m
        · exact z l m
        · rw [← List.mem_singleton.mp m] at q; exact q rfl
      · intro z l m
        exact z l (List.mem_append_left _ m)
  · rw [rowOf_bump, List.count_append]
    by_cases q : e.1 = c
    · subst q
      rw [if_pos rfl, lk_pt, h.val]
      by_cases q2 : e.2 = l
      · subst q2
        have : List.count (e.1, e.2) [e] = 1 := by simp
        rw [if_pos rfl, this]
        by_cases z : es.count (e.1, e.2) = 0
        · simp [z]
        · simp [z]
      · have : List.count (e.1, l) [e] = 0 := by
          rw [List.count_eq_zero]
          intro m
          have := List.mem_singleton.mp m
          exact q2 (by rw [← this])
        rw [if_neg q2, this, Nat.add_zero, h.val]
    · have : List.count (c, l) [e] = 0 := by
        rw [List.count_eq_zero]
        intro m
        have := List.mem_singleton.mp m
        exact q (by rw [← this])
      rw [if_neg q, this, Nat.add_zero, h.val]
theorem tabOk (es : List Ev) : TabOk (tabOf es) es := by
  have aux : ∀ (es done : List Ev) (t : Tt), TabOk t done → TabOk (es.foldl bump t) (done ++ es) := by
    intro es
    induction es with
    | nil => intro done t h; simpa using h
    | cons e es ih =>
      intro done t h
      have := ih (done ++ [e]) (bump t e) (h.step e)
      simpa using this
  have := aux es [] [] ⟨by simp [ks], fun c => by simp [rowOf, lk, ks], by simp, fun c => by simp [rowOf, lk], fun c => by simp [lk], fun c l => by simp [rowOf, lk]⟩
  simpa [tabOf] using this
/-- what follows c, with its counts, by rising letters -/
def rowL (es : List Ev) (c : Tx) : Rw := lst 0 (rowOf (tabOf es) c)
theorem rowL_ss (es : List Ev) (c : Tx) : SS (rowL es c) := lst_ss 0 ((tabOk es).rnd c)
theorem rowL_lk (es : List Ev) (c l : Tx) : lk (rowL es c) l = if es.count (c, l) = 0 then none else some (es.count (c, l) : Int) := by
  unfold rowL
  rw [lk_lst 0 ((tabOk es).rnd c), (tabOk es).val]
theorem rowL_uniq {es : List Ev} {c : Tx} {r : Rw} (h : SS r) (v : ∀ l, lk r l = if es.count (c, l) = 0 then none else some (es.count (c, l) : Int)) : r = rowL es c :=
  ss_ext h (rowL_ss es c) fun l => by rw [v, rowL_lk]
end KN
/-! PC: names, books, contexts, counts: what the defs answer -/
namespace KN
open PySem PySem.Spec PyProof.Rows L2
noncomputable section
def rowD (r : Rw) : List (Tx × D) := r.map fun e => (e.1, .int e.2)
def tabD (t : Tt) : Tb := t.map fun e => (e.1, rowD e.2)
theorem lookN_lk (es : Tb) (c : Tx) : lookN es c = lk es c := by
  induction es with
  | nil => rfl
  | cons e es ih => obtain ⟨k, r⟩ := e; simp only [lookN, lk, ih]
theorem putN_pt (es : Tb) (c : Tx) (r : List (Tx × D)) : putN es c r = pt es c r := by
  induction es with
  | nil => rfl
  | cons e es ih => obtain ⟨k, r⟩ := e; simp only [putN, pt, ih]
theorem lookK_lk (es : List (Tx × D)) (c : Tx) : lookK es c = lk es c := by
  unfold lookK
  induction es with
  | nil => rfl
  | cons e es ih =>
    obtain ⟨k, r⟩ := e
    rw [List.find?_cons]
    unfold lk
    by_cases h : k = c
    · subst h; simp
    · have : (k == c) = false := by simp [h]
      simp only [this, h, if_false]; exact ih
theorem putD_pt {es : List (Tx × D)} (nd : (ks es).Nodup) (c : Tx) (d : D) : putD es c d = pt es c d := by
  unfold putD
  induction es with
  | nil => rfl
  | cons e es ih =>
    obtain ⟨k, r⟩ := e
    rw [ks, List.map_cons, List.nodup_cons] at nd
    unfold pt
    by_cases h : k = c
    · subst h
      rw [if_pos (by simp), if_pos rfl, List.map_cons]
      simp only [beq_self_eq_true, if_true]
      congr 1
      conv => rhs; rw [← List.map_id es]
      refine List.map_congr_left fun e he => ?_
      have : e.1 ≠ k := by rintro rfl; exact nd.1 (List.mem_map.mpr ⟨_, he, rfl⟩)
      simp [this]
    · have hk : (k == c) = false := by simp [h]
      rw [if_neg h, List.any_cons]
      simp only [hk, Bool.false_or]
      rw [← ih nd.2]
      split
      · rw [List.map_cons]
        simp only [hk, Bool.false_eq_true, if_false]
      · rfl
theorem lk_rowD (r : Rw) (l : Tx) : lk (rowD r) l = (lk r l).map .int := lk_map D.int r l
theorem pt_rowD (r : Rw) (l : Tx) (n : Int) : pt (rowD r) l (.int n) = rowD (pt r l n) := (pt_map D.int r l n).symm
theorem lk_tabD (t : Tt) (c : Tx) : lk (tabD t) c = (lk t c).map rowD := lk_map rowD t c
theorem pt_tabD (t : Tt) (c : Tx) (r : Rw) : pt (tabD t) c (rowD r) = tabD (pt t c r) := (pt_map rowD t c r).symm
theorem ks_rowD (r : Rw) : ks (rowD r) = ks r := ks_map D.int r
theorem len_rowD (r : Rw) : (rowD r).length = r.length := by simp [rowD]
theorem len_tabD (t : Tt) : (tabD t).length = t.length := by simp [tabD]
theorem look_tabD (t : Tt) (c : Tx) : (lookN (tabD t) c).getD [] = rowD (rowOf t c) := by
  rw [lookN_lk, lk_tabD]
  unfold rowOf
  cases lk t c <;> rfl
theorem fBump_ok {i r c l : Nat} {γ : Ga} {t : Tt} {es : List Ev} (h : TabOk t es) (hl : es.length < 1000) {ck lt : Tx} (h1 : γ[i]? = some (.nd (tabD t))) (h2 : γ[c]? = some (.va (.str ck))) (h3 : γ[l]? = some (.va (.str lt))) (h4 : r < γ.length) :
    fBump i r c l γ = .ok (.nx ((γ.set i (.nd (tabD (bump t (ck, lt))))).set r .un)) := by
  unfold fBump
  rw [h1, h2, h3]
  simp only [look_tabD]
  have e1 : (lookK (rowD (rowOf t ck)) lt).getD (.int 0) = .int ((lk (rowOf t ck) lt).getD 0) := by
    rw [lookK_lk, lk_rowD]
    cases lk (rowOf t ck) lt <;> rfl
  rw [e1]
  simp only
  have l1 := h.len
  have l2 := h.rlen ck
  rw [if_pos ⟨⟨by rw [len_tabD, lim_val]; omega, by rw [len_rowD, lim_val]; omega⟩, h4⟩]
  have e2 : putD (rowD (rowOf t ck)) lt (.int ((lk (rowOf t ck) lt).getD 0 + 1)) = rowD (pt (rowOf t ck) lt ((lk (rowOf t ck) lt).getD 0 + 1)) := by
    rw [putD_pt (by rw [ks_rowD]; exact h.rnd ck), pt_rowD]
  rw [e2, putN_pt, pt_tabD]
  rfl
/-! ### contexts -/
def endT (o : Nat) (t : Tx) : Tx := t.drop (t.length - o)
theorem cut_from {α : Type} (xs : List α) (k : Nat) : cutL xs (some (k : Int)) none = xs.drop k := by
  unfold cutL
  rw [HT.sIx_nat, HT.sIx_none]
  rcases Nat.le_total k xs.length with h | h
  · rw [Nat.min_eq_left h]
    exact List.take_of_length_le (by simp)
  · rw [Nat.min_eq_right h, List.drop_eq_nil_of_le h]; simp
theorem cut_to {α : Type} (xs : List α) (k : Nat) : cutL xs none (some (k : Int)) = xs.take k := by
  unfold cutL
  rw [HT.sIx_nat, HT.sIx_none]
  rcases Nat.le_total k xs.length with h | h
  · rw [Nat.min_eq_left h]; simp
  · rw [Nat.min_eq_right h, List.take_of_length_le h]; simp
theorem cut_mid {α : Type} (xs : List α) (i j : Nat) : cutL xs (some (i : Int)) (some (j : Int)) = (xs.drop i).take (j - i) := by
  unfold cutL
  rw [HT.sIx_nat, HT.sIx_nat]
  rcases Nat.le_total i xs.length with h | h
  · rw [Nat.min_eq_left h]
    rcases Nat.le_total j xs.length with h2 | h2
    · rw [Nat.min_eq_left h2]
    · rw [Nat.min_eq_right h2, List.take_of_length_le (by simp), List.take_of_length_le (by simp; omega)]
  · rw [Nat.min_eq_right h, List.drop_eq_nil_of_le h]; simp
theorem end_ok (o : Nat) {t : Tx} (h : t.length ≤ 1000) : g_end_of [.int o, .str t] = .ok (.str (endT o t)) := by
  have hl : t.length ≤ lim := by rw [lim_val]; omega
  unfold g_end_of
  rw [fnD_e]
  have e : max (0 : Int) ((t.length : Nat) - (o : Nat)) = ((t.length - o : Nat) : Int) := by omega
  simp [m_end_of, bSl, pSo, pNo, dLen, hl, dMax, toI, e, dSl, cut_from, endT]
/-- what a name tells -/
def evs (o : Nat) (x : Tx) : List Ev := (List.range (x.length + 1)).map fun i => (endT o (x.take i), (x.drop i).take 1)
def evB (o : Nat) (b : List Tx) : List Ev := b.flatMap (evs o)
theorem evs_len (o : Nat) (x : Tx) : (evs o x).length = x.length + 1 := by simp [evs]
/-- at most 8 names, of at most 8 letters -/
def smallB (b : List Tx) : Prop := b.length ≤ 8 ∧ ∀ x ∈ b, x.length ≤ 8
theorem evB_len {o : Nat} : ∀ {b : List Tx}, (∀ x ∈ b, x.length ≤ 8) → (evB o b).length ≤ 9 * b.length
  | [], _ => by simp [evB]
  | x :: b, h => by
    have := evB_len (o := o) (b := b) fun y hy => h y (List.mem_cons_of_mem _ hy)
    have h0 := h x List.mem_cons_self
    unfold evB at this ⊢
    rw [List.flatMap_cons, List.length_append, evs_len, List.length_cons]
    omega
theorem tab_app (es fs : List Ev) : tabOf (es ++ fs) = fs.foldl bump (tabOf es) := by simp [tabOf]
def tblD (t : Tt) : D := .dic (t.map fun e => (e.1, .dic (rowD e.2)))
def cStep (x : Tx) (o : Nat) : Nat → Ev := fun i => (endT o (x.take i), (x.drop i).take 1)
theorem evs_e (o : Nat) (x : Tx) : evs o x = (List.range (x.length + 1)).map (cStep x o) := rfl
theorem tab_snoc (es : List Ev) (e : Ev) : tabOf (es ++ [e]) = bump (tabOf es) e := by
  rw [tab_app, List.foldl_cons, List.foldl_nil]
theorem cut1 {x : Tx} (lx : x.length ≤ lim) (i : Nat) : dSl (.str x) none (some (i : Int)) = .ok (.str (x.take i)) := by
  show (if x.length ≤ lim then R.ok (D.str (cutL x none (some (i : Int)))) else .no) = _
  rw [if_pos lx, cut_to]
theorem cut2 {x : Tx} (lx : x.length ≤ lim) (i : Nat) : dSl (.str x) (some (i : Int)) (some ((i : Int) + 1)) = .ok (.str ((x.drop i).take 1)) := by
  have : (i : Int) + 1 = ((i + 1 : Nat) : Int) := by omega
  show (if x.length ≤ lim then R.ok (D.str (cutL x (some (i : Int)) (some ((i : Int) + 1)))) else .no) = _
  rw [if_pos lx, this, cut_mid, Nat.add_sub_cancel_left]
def cIn : Ga → R Fl := fSeq (fSet 5 (bCall g_end_of (bCons (bVar 1) (bCons (bSl (bVar 3) (pNo) (pSo (bVar 4))) (bNil))))) (fSeq (fSet 6 (bSl (bVar 3) (pSo (bVar 4)) (pSo (b2 dAdd (bVar 4) (bC (.int 1)))))) (fBump 2 7 5 6))
def cOut : Ga → R Fl := fForI (iR1 (b2 dAdd (bN dLen (bCons (bVar 3) (bNil))) (bC (.int 1)))) (bdN 4) cIn
theorem m_counted_e : m_counted = fSeq (fNd0 2) (fSeq (fForE (bVar 0) (bdN 3) cOut) (fFz 2 (fRet (bVar 2)))) := rfl
theorem cIn_ok {B : D} {o : Nat} {x : Tx} {es : List Ev} {i : Nat} {s5 s6 s7 : Sl} (hes : es.length < 1000) (hx : x.length ≤ 8) :
    cIn [.va B, .va (.int o), .nd (tabD (tabOf es)), .va (.str x), .va (.int (i : Nat)), s5, s6, s7] = .ok (.nx [.va B, .va (.int o), .nd (tabD (tabOf (es ++ [cStep x o i]))), .va (.str x), .va (.int (i : Nat)), .va (.str (endT o (x.take i))), .va (.str ((x.drop i).take 1)), .un]) := by
  have lx : x.length ≤ lim := by rw [lim_val]; omega
  have c1 := cut1 lx i
  have c2 := cut2 lx i
  have c3 := end_ok o (t := x.take i) (by simp; omega)
  have fb := fBump_ok (i := 2) (r := 7) (c := 5) (l := 6) (tabOk es) hes (ck := endT o (x.take i)) (lt := (x.drop i).take 1) (γ := [.va B, .va (.int o), .nd (tabD (tabOf es)), .va (.str x), .va (.int (i : Nat)), .va (.str (endT o (x.take i))), .va (.str ((x.drop i).take 1)), s7]) rfl rfl rfl (by simp)
  rw [tab_snoc]
  unfold cStep
  generalize endT o (x.take i) = ck at *
  generalize (x.drop i).take 1 = lt at *
  simp at fb
  simp [cIn, bSl, pNo, pSo, toI, c1, c2, c3, fb]
theorem cOut_ok {B : D} {o : Nat} {x : Tx} {es : List Ev} {s4 s5 s6 s7 : Sl} (hes : es.length < 900) (hx : x.length ≤ 8) :
    ∃ s4' s5' s6' s7', cOut [.va B, .va (.int o), .nd (tabD (tabOf es)), .va (.str x), s4, s5, s6, s7] = .ok (.nx [.va B, .va (.int o), .nd (tabD (tabOf (es ++ evs o x))), .va (.str x), s4', s5', s6', s7']) := by
  have inner := forGo_inv (bd := bdN 4) (inj := fun i : Nat => D.int (0 + (i : Nat))) (l0 := List.range (x.length + 1)) (body := cIn)
    (I := fun dn γ => ∃ s4 s5 s6 s7, γ = [.va B, .va (.int o), .nd (tabD (tabOf (es ++ dn.map (cStep x o)))), .va (.str x), s4, s5, s6, s7])
    (γ := [.va B, .va (.int o), .nd (tabD (tabOf es)), .va (.str x), s4, s5, s6, s7]) (fun dn i rest γ hr hI => by
      obtain ⟨s4, s5, s6, s7, rfl⟩ := hI
      obtain ⟨hi1, hi2⟩ := range_split hr
      have st := cIn_ok (B := B) (o := o) (x := x) (es := es ++ dn.map (cStep x o)) (i := i) (s5 := s5) (s6 := s6) (s7 := s7) (by simp; omega) hx
      refine ⟨_, rfl, [.va B, .va (.int o), .nd (tabD (tabOf (es ++ dn.map (cStep x o) ++ [cStep x o i]))), .va (.str x), .va (.int (i : Nat)), .va (.str (endT o (x.take i))), .va (.str ((x.drop i).take 1)), .un], .inl ?_, ?_⟩
      · rw [← st]; simp
      · exact ⟨_, _, _, _, by rw [List.map_append, List.append_assoc, List.map_cons, List.map_nil]⟩) ⟨s4, s5, s6, s7, by simp⟩
  obtain ⟨γ', i1, s4', s5', s6', s7', rfl⟩ := inner
  refine ⟨s4', s5', s6', s7', ?_⟩
  have lx : x.length ≤ lim := by rw [lim_val]; omega
  have e5 : i2n (.int ((x.length : Int) + 1)) = .ok ((x.length : Int) + 1) := i2n_i (by omega)
  have e6 : ((x.length : Int) + 1).toNat = x.length + 1 := by omega
  rw [← evs_e] at i1
  simp at i1
  simp [cOut, fForI, iR1, dLen, lx, e5, e6, rng_e, i1]
theorem counted_ok {b : List Tx} (hb : smallB b) (o : Nat) : g_counted [bkD b, .int o] = .ok (tblD (tabOf (evB o b))) := by
  have outer := forGo_inv (bd := bdN 3) (inj := D.str) (l0 := b) (body := cOut)
    (I := fun done γ => ∃ s3 s4 s5 s6 s7, γ = [.va (bkD b), .va (.int o), .nd (tabD (tabOf (evB o done))), s3, s4, s5, s6, s7])
    (γ := [.va (bkD b), .va (.int o), .nd [], .un, .un, .un, .un, .un]) (fun done x rest γ hx hI => by
      obtain ⟨s3, s4, s5, s6, s7, rfl⟩ := hI
      have hxl : x.length ≤ 8 := hb.2 x (by rw [hx]; simp)
      have hdl : (evB o done).length ≤ 72 := by
        have := evB_len (o := o) (b := done) fun y hy => hb.2 y (by rw [hx]; simp [hy])
        have h8 := hb.1
        rw [hx] at h8
        simp at h8
        omega
      obtain ⟨s4', s5', s6', s7', st⟩ := cOut_ok (B := bkD b) (o := o) (x := x) (es := evB o done) (s4 := s4) (s5 := s5) (s6 := s6) (s7 := s7) (by omega) hxl
      refine ⟨_, rfl, _, .inl st, .va (.str x), s4', s5', s6', s7', ?_⟩
      rw [show evB o (done ++ [x]) = evB o done ++ evs o x by unfold evB; rw [List.flatMap_append]; simp]) ⟨.un, .un, .un, .un, .un, rfl⟩
  obtain ⟨γ', o1, s3, s4, s5, s6, s7, rfl⟩ := outer
  unfold g_counted
  rw [fnD_e, m_counted_e]
  unfold bkD at o1 ⊢
  simp [fForE, items]
  simp [o1, tblD, tabD]
/-! ### names and books -/
def nameOk (s : Tx) : Prop := 1 ≤ s.length ∧ s.length ≤ 8 ∧ ∀ c ∈ s, 97 ≤ c ∧ c ≤ 122
def bookOk (b : List Tx) : Prop := 1 ≤ b.length ∧ b.length ≤ 8 ∧ ∀ x ∈ b, nameOk x
theorem bookOk.small {b : List Tx} (h : bookOk b) : smallB b := ⟨h.2.1, fun x hx => (h.2.2 x hx).2.1⟩
theorem letter_in {c : Nat} (h : 97 ≤ c ∧ c ≤ 122) : dIn (.str [c]) (.str [97, 98, 99, 100, 101, 102, 103, 104, 105, 106, 107, 108, 109, 110, 111, 112, 113, 114, 115, 116, 117, 118, 119, 120, 121, 122]) = .ok (.bl true) := by
  have : c ∈ (List.range' 97 26) := by rw [List.mem_range'_1]; omega
  have all : ∀ c ∈ List.range' 97 26, subT [c] [97, 98, 99, 100, 101, 102, 103, 104, 105, 106, 107, 108, 109, 110, 111, 112, 113, 114, 115, 116, 117, 118, 119, 120, 121, 122] = true := by decide
  unfold dIn dInB
  simp [all c this]
theorem all_true {α : Type} (l : List α) : dAll [.lst (l.map fun _ => D.bl true)] = .ok (.bl true) := by
  have e : (l.map fun _ => D.bl true) = (l.map fun _ => true).map D.bl := by rw [List.map_map]; rfl
  rw [e]
  generalize hz : (l.map fun _ => true) = z
  have hz2 : z.all id = true := by rw [← hz]; simp
  show ((o2r (asBls (z.map D.bl))).bind fun ns => R.ok (D.bl (ns.all id))) = _
  rw [asBls_map, o2r_some]
  show R.ok (D.bl (z.all id)) = _
  rw [hz2]
theorem isName_ok {s : Tx} (h : nameOk s) : g_is_name [.str s] = .ok (.bl true) := by
  obtain ⟨h1, h2, h3⟩ := h
  have hl : s.length ≤ lim := by rw [lim_val]; omega
  have h1' : (1 : Int) ≤ s.length := by omega
  have h2' : (s.length : Int) ≤ 8 := by omega
  unfold g_is_name
  rw [fnD_e]
  have comp := lcGo_map (bd := bdN 1) (elt := b2 dIn (bVar 1) (bC (.str [97, 98, 99, 100, 101, 102, 103, 104, 105, 106, 107, 108, 109, 110, 111, 112, 113, 114, 115, 116, 117, 118, 119, 120, 121, 122]))) (γ := wipeG [.va (.str s), .un] [1]) (inj := fun c : Nat => D.str [c]) (f := fun _ => .bl true) (l := s) fun c hc => ⟨_, rfl, by
    have := letter_in (h3 c hc)
    simp [wipeG, this]⟩
  have c2 := lcOut_e comp (by rw [List.length_map]; exact hl)
  have a1 := all_true s
  simp [m_is_name, bAnd, dIsi, isT, bCh, dLen, hl, h1', h2', bLcE, items, sgn, c2, a1]
theorem isBook_ok {b : List Tx} (h : bookOk b) : g_is_book [bkD b] = .ok (.bl true) := by
  obtain ⟨h1, h2, h3⟩ := h
  have hl : b.length ≤ lim := by rw [lim_val]; omega
  have h1' : (1 : Int) ≤ b.length := by omega
  have h2' : (b.length : Int) ≤ 8 := by omega
  unfold g_is_book
  rw [fnD_e]
  have comp := lcGo_map (bd := bdN 1) (elt := bCall g_is_name (bCons (bVar 1) (bNil))) (γ := wipeG [.va (bkD b), .un] [1]) (inj := D.str) (f := fun _ => .bl true) (l := b) fun c hc => ⟨_, rfl, by
    have := isName_ok (h3 c hc)
    simp [wipeG, this]⟩
  have c2 := lcOut_e comp (by rw [List.length_map]; exact hl)
  have a1 := all_true b
  unfold bkD at c2 ⊢
  simp [m_is_book, bAnd, dIsi, isT, bCh, h1', h2', bLcE, items, c2, a1]
theorem needBook_ok {b : List Tx} (h : bookOk b) : g_need_book [bkD b] = .ok .non := by
  have := isBook_ok h
  unfold g_need_book
  rw [fnD_e]
  simp [m_need_book, this]
theorem needName_ok {s : Tx} (h : nameOk s) : g_need_name [.str s] = .ok .non := by
  have := isName_ok h
  unfold g_need_name
  rw [fnD_e]
  simp [m_need_name, this]
theorem isNumber_ok {i lo hi : Int} : g_is_number [.int i, .int lo, .int hi] = .ok (.bl (decide (lo ≤ i ∧ i ≤ hi))) := by
  unfold g_is_number
  rw [fnD_e]
  by_cases h : lo ≤ i <;> simp [m_is_number, bAnd, dIsi, isT, bCh, dNot, h]
theorem needOrder_ok {o : Nat} (h : 1 ≤ o ∧ o ≤ 3) : g_need_order [.int o] = .ok .non := by
  have := isNumber_ok (i := (o : Int)) (lo := 1) (hi := 3)
  unfold g_need_order
  rw [fnD_e]
  have e : decide ((1 : Int) ≤ o ∧ (o : Int) ≤ 3) = true := by simp; omega
  rw [e] at this
  simp [m_need_order, this]
/-! ### rows -/
def rowT (r : Rw) : List D := r.map fun e => .tup [.str e.1, .int e.2]
theorem listed_ok {r : Rw} (nd : (ks r).Nodup) (hl : r.length < 64) : g_listed [.dic (rowD r)] = .ok (.tup (rowT (lst 0 r))) := by
  unfold g_listed
  rw [fnD_e]
  have e1 : (rowD r).map (·.1) = ks r := ks_rowD r
  have s1 : dSort [.dic (rowD r)] = .ok (.lst ((sortT (ks r)).map D.str)) := by
    unfold dSort dSorted
    simp [len_rowD, hl, e1]
  have comp := lcGo_map (bd := bdN 1) (elt := bTup (bCons (bVar 1) (bCons (b2 dIx (bVar 0) (bVar 1)) (bNil)))) (γ := wipeG [.va (.dic (rowD r)), .un] [1]) (inj := D.str) (f := fun l => .tup [.str l, .int ((lk r l).getD 0)]) (l := sortT (ks r)) fun l hl => ⟨_, rfl, by
    have hm : l ∈ ks r := (sortT_perm _).mem_iff.mp hl
    have : ∃ n, lk r l = some n := by
      cases z : lk r l with
      | none => exact absurd hm (lk_none.mp z)
      | some n => exact ⟨n, rfl⟩
    obtain ⟨n, hn⟩ := this
    have lk1 : lookK (rowD r) l = some (.int n) := by rw [lookK_lk, lk_rowD, hn]; rfl
    simp [wipeG, lk1, hn, lim_val]⟩
  have hln : (sortT (ks r)).length = r.length := by rw [(sortT_perm _).length_eq]; simp [ks]
  have c2 := lcOut_e comp (by rw [List.length_map, lim_val]; omega)
  have e2 : rowT (lst 0 r) = (sortT (ks r)).map fun l => .tup [.str l, .int ((lk r l).getD 0)] := by
    unfold rowT lst; rw [List.map_map]; rfl
  rw [e2]
  simp [m_listed, s1, bLcE, items, c2, dTuple]
end
end KN
/-! PD: behind and table -/
namespace KN
open PySem PySem.Spec PyProof.Rows L2
noncomputable section
theorem look_tbl (t : Tt) (c : Tx) : lookK (t.map fun e => (e.1, D.dic (rowD e.2))) c = (lk t c).map fun r => .dic (rowD r) := by
  rw [lookK_lk]
  exact lk_map (fun r => D.dic (rowD r)) t c
theorem get_tbl (t : Tt) (c : Tx) : (lookK (t.map fun e => (e.1, D.dic (rowD e.2))) c).getD (.dic []) = .dic (rowD (rowOf t c)) := by
  rw [look_tbl]
  unfold rowOf
  cases lk t c <;> rfl
theorem nameOk.pl {s : Tx} (h : nameOk s) : s.all (· < 0x110000) = true := by
  rw [List.all_eq_true]
  intro c hc
  have := (h.2.2 c hc).2
  simp; omega
/-- letters of a row: at most 27 differ -/
theorem behind_ok {b : List Tx} (hb : bookOk b) {o : Nat} (ho : 1 ≤ o ∧ o ≤ 3) {t : Tx} (ht : t = [] ∨ nameOk t) (hr : (rowOf (tabOf (evB o b)) (endT o t)).length < 64) :
    g_behind [bkD b, .int o, .str t] = .ok (.lst (rowT (rowL (evB o b) (endT o t)))) := by
  have h1 := needBook_ok hb
  have h2 := needOrder_ok ho
  have h3 := counted_ok hb.small o
  have hp : t.all (· < 0x110000) = true := by
    rcases ht with rfl | h
    · rfl
    · exact h.pl
  have h4 := end_ok o (t := t) (by rcases ht with rfl | h; · simp
                                   · have := h.2.1; omega)
  have h5 := listed_ok ((tabOk (evB o b)).rnd (endT o t)) hr
  have h6 : dNe (.str t) (.str []) = .ok (.bl (!(t == []))) := by
    rw [dNe_p (by rw [pl_str]; exact hp) (by simp), eqv_str]
  unfold g_behind
  rw [fnD_e]
  unfold tblD at h3
  unfold rowL
  rcases ht with rfl | ht
  · have h6' : dNe (.str []) (.str []) = .ok (.bl false) := h6
    simp [m_behind, h1, h2, h3, h4, h6', bGet, get_tbl, h5, dList]
  · have h7 := needName_ok ht
    have h6' : dNe (.str t) (.str []) = .ok (.bl true) := by
      rw [h6]
      cases t with
      | nil => exact absurd ht.1 (by simp)
      | cons _ _ => rfl
    simp [m_behind, h1, h2, h3, h4, h6', h7, bGet, get_tbl, h5, dList]
/-- the table -/
def tableD (es : List Ev) : D := .lst ((sortT (ks (tabOf es))).map fun c => .tup [.str c, .tup (rowT (rowL es c))])
theorem ks_tbl (t : Tt) : (t.map fun e => (e.1, D.dic (rowD e.2))).map (·.1) = ks t := by simp [ks]
theorem table_ok {b : List Tx} (hb : bookOk b) {o : Nat} (ho : 1 ≤ o ∧ o ≤ 3) (hr : (evB o b).length < 64) : g_table [bkD b, .int o] = .ok (tableD (evB o b)) := by
  have h1 := needBook_ok hb
  have h2 := needOrder_ok ho
  have h3 := counted_ok hb.small o
  have T := tabOk (evB o b)
  have hl : (tabOf (evB o b)).length < 64 := Nat.lt_of_le_of_lt T.len hr
  unfold g_table
  rw [fnD_e]
  unfold tblD at h3
  have s1 : dSort [.dic ((tabOf (evB o b)).map fun e => (e.1, D.dic (rowD e.2)))] = .ok (.lst ((sortT (ks (tabOf (evB o b)))).map D.str)) := by
    unfold dSort dSorted
    simp only [List.length_map, hl, if_true, ks_tbl]
  have comp := lcGo_map (bd := bdN 3) (elt := bTup (bCons (bVar 3) (bCons (bCall g_listed (bCons (b2 dIx (bVar 2) (bVar 3)) (bNil))) (bNil)))) (γ := wipeG [.va (bkD b), .va (.int o), .va (.dic ((tabOf (evB o b)).map fun e => (e.1, D.dic (rowD e.2)))), .un] [3])
    (inj := D.str) (f := fun c => .tup [.str c, .tup (rowT (rowL (evB o b) c))]) (l := sortT (ks (tabOf (evB o b)))) fun c hc => ⟨_, rfl, by
      have hm : c ∈ ks (tabOf (evB o b)) := (sortT_perm _).mem_iff.mp hc
      have h5 := listed_ok (T.rnd c) (Nat.lt_of_le_of_lt (T.rlen c) hr)
      have e1 : lookK ((tabOf (evB o b)).map fun e => (e.1, D.dic (rowD e.2))) c = some (.dic (rowD (rowOf (tabOf (evB o b)) c))) := by
        rw [look_tbl]
        unfold rowOf
        cases z : lk (tabOf (evB o b)) c with
        | none => exact absurd hm (lk_none.mp z)
        | some r => rfl
      simp [wipeG, e1, h5, lim_val, rowL]⟩
  have c2 := lcOut_e comp (by
    rw [List.length_map, (sortT_perm _).length_eq, lim_val]
    have : (ks (tabOf (evB o b))).length = (tabOf (evB o b)).length := by simp [ks]
    omega)
  simp [m_table, h1, h2, h3, s1, bLcE, items, c2, tableD]
end
end KN
/-! PE1: laws about rows, contexts, events -/
namespace KN
open PySem PySem.Spec PyProof.Rows L2
noncomputable section
/-! ### equal to itself -/
theorem eqvL_refl {f : D → D → Bool} : ∀ {xs : List D}, (∀ x ∈ xs, f x x = true) → eqvL f xs xs = true
  | [], _ => rfl
  | x :: xs, h => by
    show (f x x && eqvL f xs xs) = true
    rw [h x List.mem_cons_self, eqvL_refl fun y hy => h y (List.mem_cons_of_mem _ hy)]; rfl
theorem eqv_refl : ∀ (n : Nat) (d : D), pl n d = true → eqv n d d = true
  | n, .non, _ => by cases n <;> rfl
  | n, .bl b, _ => by cases n <;> simp [eqv]
  | n, .int i, _ => by simp
  | n, .str s, _ => by simp
  | 0, .lst _, h => nomatch h
  | 0, .tup _, h => nomatch h
  | n + 1, .lst xs, h => by
    rw [eqv_lst]
    rw [pl_lst, List.all_eq_true] at h
    exact eqvL_refl fun x hx => eqv_refl n x (h x hx)
  | n + 1, .tup xs, h => by
    rw [eqv_tup]
    rw [pl_tup, List.all_eq_true] at h
    exact eqvL_refl fun x hx => eqv_refl n x (h x hx)
  | n, .dic _, h => by cases n <;> exact nomatch h
theorem dNe_self {d : D} (h : pl 20 d = true) : dNe d d = .ok (.bl false) := by rw [dNe_p h h, eqv_refl 20 d h]; rfl
theorem dEq_self {d : D} (h : pl 20 d = true) : dEq d d = .ok (.bl true) := by rw [dEq_p h h, eqv_refl 20 d h]
def chs (s : Tx) : Prop := ∀ c ∈ s, c < 0x110000
theorem chs.all {s : Tx} (h : chs s) : s.all (· < 0x110000) = true := by
  rw [List.all_eq_true]; intro c hc; simpa using h c hc
theorem pl_row {r : Rw} (h : ∀ l ∈ ks r, chs l) (n : Nat) : (rowT r).all (pl (n + 1)) = true := by
  unfold rowT
  rw [List.all_eq_true]
  intro d hd
  obtain ⟨e, he, rfl⟩ := List.mem_map.mp hd
  rw [pl_tup]
  have := (h e.1 (List.mem_map.mpr ⟨e, he, rfl⟩)).all
  simp only [List.all_cons, List.all_nil, pl_str, pl_int, this]; rfl
theorem pl_rowL {r : Rw} (h : ∀ l ∈ ks r, chs l) : pl 20 (.lst (rowT r)) = true := by
  rw [pl_lst]; exact pl_row h 18
/-! ### contexts -/
theorem endT_idem (o : Nat) (t : Tx) : endT o (endT o t) = endT o t := by
  unfold endT
  rw [List.length_drop, List.drop_drop]
  congr 1; omega
theorem endT_nil (o : Nat) : endT o [] = [] := by simp [endT]
theorem endT_mem {o : Nat} {t : Tx} {c : Nat} (h : c ∈ endT o t) : c ∈ t := List.mem_of_mem_drop h
theorem endT_len (o : Nat) (t : Tx) : (endT o t).length ≤ t.length := by simp [endT]
theorem endT_eq_nil {o : Nat} (ho : 1 ≤ o) {t : Tx} : endT o t = [] ↔ t = [] := by
  unfold endT
  rw [List.drop_eq_nil_iff]
  constructor
  · intro h
    rw [← List.length_eq_zero_iff]; omega
  · rintro rfl; simp
/-- nothing, or a name -/
def txtOk (t : Tx) : Prop := t = [] ∨ nameOk t
theorem txtOk.chs {t : Tx} (h : txtOk t) : chs t := by
  intro c hc
  rcases h with rfl | h
  · cases hc
  · have := (h.2.2 c hc).2; omega
theorem txtOk.len {t : Tx} (h : txtOk t) : t.length ≤ 8 := by
  rcases h with rfl | h
  · simp
  · exact h.2.1
theorem txtOk_of {t : Tx} (h : t.length ≤ 8) (k : ∀ c ∈ t, 97 ≤ c ∧ c ≤ 122) : txtOk t := by
  cases t with
  | nil => exact .inl rfl
  | cons c t => exact .inr ⟨by simp, h, k⟩
theorem txtOk.let {t : Tx} (h : txtOk t) : ∀ c ∈ t, 97 ≤ c ∧ c ≤ 122 := by
  intro c hc
  rcases h with rfl | h
  · cases hc
  · exact h.2.2 c hc
theorem txtOk.end {t : Tx} (h : txtOk t) (o : Nat) : txtOk (endT o t) := txtOk_of (Nat.le_trans (endT_len o t) h.len) fun c hc => h.let c (endT_mem hc)
theorem slice_end (o : Nat) {t : Tx} (h : t.length ≤ 1000) : dSl (.str t) (some (max (0 : Int) ((t.length : Nat) - (o : Nat)))) none = .ok (.str (endT o t)) := by
  have e : max (0 : Int) ((t.length : Nat) - (o : Nat)) = ((t.length - o : Nat) : Int) := by omega
  show (if t.length ≤ lim then R.ok (D.str (cutL t _ none)) else .no) = _
  rw [if_pos (by rw [lim_val]; omega), e, cut_from]
  rfl
/-! ### events -/
theorem evB_append (o : Nat) (b c : List Tx) : evB o (b ++ c) = evB o b ++ evB o c := by unfold evB; rw [List.flatMap_append]
theorem evB_perm (o : Nat) {b c : List Tx} (h : b.Perm c) : (evB o b).Perm (evB o c) := h.flatMap_right _
theorem evB_mem {o : Nat} {b : List Tx} {e : Ev} (h : e ∈ evB o b) : ∃ x ∈ b, ∃ i, i ≤ x.length ∧ e = (endT o (x.take i), (x.drop i).take 1) := by
  unfold evB at h
  obtain ⟨x, hx, h⟩ := List.mem_flatMap.mp h
  unfold evs at h
  obtain ⟨i, hi, rfl⟩ := List.mem_map.mp h
  exact ⟨x, hx, i, by have := List.mem_range.mp hi; omega, rfl⟩
theorem ev_ctx {o : Nat} {b : List Tx} (hb : ∀ x ∈ b, nameOk x) {e : Ev} (h : e ∈ evB o b) : txtOk e.1 ∧ endT o e.1 = e.1 ∧ chs e.2 := by
  obtain ⟨x, hx, i, hi, rfl⟩ := evB_mem h
  have hn := hb x hx
  refine ⟨txtOk.end (txtOk_of ?_ ?_) o, endT_idem o _, fun c hc => ?_⟩
  · have := hn.2.1; simp; omega
  · exact fun c hc => hn.2.2 c (List.mem_of_mem_take hc)
  · have := (hn.2.2 c (List.mem_of_mem_drop (List.mem_of_mem_take hc))).2; omega
theorem evB_count_len (o : Nat) (b : List Tx) : (evB o b).length = (b.map fun x => x.length + 1).sum := by
  unfold evB
  rw [List.length_flatMap]
  congr 1
  exact List.map_congr_left fun x _ => evs_len o x
theorem row_mem {es : List Ev} {c l : Tx} (h : l ∈ ks (rowL es c)) : (c, l) ∈ es := by
  have : lk (rowL es c) l ≠ none := fun z => lk_none.mp z h
  rw [rowL_lk] at this
  split at this
  · exact absurd rfl this
  · rename_i z
    exact Decidable.byContradiction fun y => z (List.count_eq_zero.mpr y)
theorem rowL_congr {es fs : List Ev} (h : ∀ e, es.count e = fs.count e) (c : Tx) : rowL es c = rowL fs c :=
  rowL_uniq (rowL_ss es c) fun l => by rw [rowL_lk, h]
theorem rowL_pl {o : Nat} {b : List Tx} (hb : ∀ x ∈ b, nameOk x) (c : Tx) : pl 20 (.lst (rowT (rowL (evB o b) c))) = true :=
  pl_rowL fun l hl => (ev_ctx hb (row_mem hl)).2.2
/-! ### sorted rows are sorted -/
theorem rowT_un (r : Rw) : rowT r = (r.map fun e => [Sum.inr e.1, Sum.inl e.2]).map unT := by
  unfold rowT; rw [List.map_map]; rfl
theorem leK_fst {a b : Tx} {m n : Int} (h : a < b) : leK [.inr a, .inl m] [.inr b, .inl n] = true := by
  have h1 : strKind.blt b a = false := by
    show decide (b < a) = false
    simpa using List.le_of_lt h
  have h2 : strKind.blt a b = true := by
    show decide (a < b) = true
    simpa using h
  unfold leK
  have : lexLt itemOrd [Sum.inr b, Sum.inl n] [Sum.inr a, Sum.inl m] = false := by
    rw [lex_false]
    exact ⟨h1, .inl h2⟩
  rw [this]; rfl
/-! ### sums -/
theorem perm_sum {l m : List Int} (p : l.Perm m) : l.sum = m.sum := by
  induction p with
  | nil => rfl
  | cons x _ ih => simp [ih]
  | swap x y l => simp; omega
  | trans _ _ h1 h2 => exact h1.trans h2
def rsum (r : Rw) : Int := (r.map (·.2)).sum
theorem rsum_pt (r : Rw) (nd : (ks r).Nodup) (l : Tx) (n : Int) : rsum (pt r l n) = rsum r - (lk r l).getD 0 + n := by
  induction r with
  | nil => simp [rsum, pt, lk]
  | cons e r ih =>
    obtain ⟨k, m⟩ := e
    rw [ks, List.map_cons, List.nodup_cons] at nd
    have ih := ih nd.2
    unfold rsum at ih ⊢
    unfold pt lk
    by_cases h : k = l
    · simp [h]; omega
    · simp [h, ih]; omega
theorem rsum_lst {r : Rw} (nd : (ks r).Nodup) : rsum (lst 0 r) = rsum r := by
  unfold rsum lst
  rw [List.map_map]
  conv => rhs; rw [self_map 0 nd, List.map_map]
  exact perm_sum ((sortT_perm _).map _)
theorem rowsum (es : List Ev) (c : Tx) : rsum (rowL es c) = (es.countP fun e => e.1 == c : Nat) := by
  unfold rowL
  rw [rsum_lst ((tabOk es).rnd c)]
  have aux : ∀ (fs done : List Ev), rsum (rowOf (tabOf done) c) = (done.countP fun e => e.1 == c : Nat) → rsum (rowOf (tabOf (done ++ fs)) c) = ((done ++ fs).countP fun e => e.1 == c : Nat) := by
    intro fs
    induction fs with
    | nil => intro done h; simpa using h
    | cons f fs ih =>
      intro done h
      have := ih (done ++ [f]) (by
        rw [tab_snoc, rowOf_bump, List.countP_append]
        by_cases z : f.1 = c
        · rw [if_pos z, rsum_pt _ ((tabOk done).rnd c), h]
          simp [z]; omega
        · rw [if_neg z, h]; simp [z])
      simpa using this
  have := aux es [] (by simp [rowOf, tabOf, lk, rsum])
  simpa using this
theorem count_start {o : Nat} (ho : 1 ≤ o) : ∀ b : List Tx, (evB o b).countP (fun e => e.1 == []) = b.length
  | [] => rfl
  | x :: b => by
    have ih := count_start ho b
    unfold evB at ih ⊢
    rw [List.flatMap_cons, List.countP_append, ih]
    have : (evs o x).countP (fun e => e.1 == []) = 1 := by
      unfold evs
      rw [List.range_succ_eq_map, List.map_cons, List.countP_cons, List.map_map, List.countP_map]
      have h0 : endT o (x.take 0) = [] := by simp [endT_nil]
      have h1 : List.countP ((fun e : Ev => e.1 == []) ∘ ((fun i => (endT o (x.take i), (x.drop i).take 1)) ∘ Nat.succ)) (List.range x.length) = 0 := by
        rw [List.countP_eq_zero]
        intro i hi
        have hi := List.mem_range.mp hi
        simp only [Function.comp, beq_iff_eq]
        intro z
        rw [endT_eq_nil ho] at z
        have := congrArg List.length z
        rw [List.length_take] at this
        simp only [List.length_nil] at this
        omega
      rw [h1, h0]; simp
    rw [this, List.length_cons]; omega
end
end KN
/-! PF: fractions -/
namespace KN
open PySem PySem.Spec PyProof.Rows L2
noncomputable section
/-- neither part is long -/
def sz (n : Nat) (q : Rat) : Prop := 0 ≤ q.num ∧ q.num < 2 ^ n ∧ q.den < 2 ^ n
end
end KN
/-! PG: shares of names -/
/-! PH: steps through a body, frames; more about shares -/
namespace KN
open PySem PySem.Spec PyProof.Rows L2
noncomputable section
section
variable {f g : Ga → R Fl} {γ γ' : Ga} {p : Ga → R Bool} {d : D} {i : Nat}
theorem seq_nx (h : f γ = .ok (.nx γ')) : fSeq f g γ = g γ' := by rw [fSeq_e, h]
theorem if_f (h : p γ = .ok false) : fIf p f fNil γ = .ok (.nx γ) := by rw [fIf_e, h]; rfl
theorem fn_rt {n : Nat} {ds : List D} (h : f (ds.map .va ++ List.replicate (n - ds.length) .un) = .ok (.rt d)) : fnD n f ds = .ok d := by rw [fnD_e, h]
theorem set_e {fa : Ga → R D} (h : fa γ = .ok d) : fSet i fa γ = .ok (.nx (γ.set i (.va d))) := by rw [fSet_e, h]; rfl
theorem ret_e {fa : Ga → R D} (h : fa γ = .ok d) : fRet fa γ = .ok (.rt d) := by rw [fRet_e, h]; rfl
theorem forE_e {fe : Ga → R D} {bd : D → Ga → R Ga} {ds : List D} {r : R Fl} (h : fe γ = .ok d) (hd : items d = .ok ds) (hn : ∀ es, d ≠ .dic es) (k : forGo bd g ds γ = r) : fForE fe bd g γ = r := by
  unfold fForE
  rw [h]
  cases d <;> first | exact absurd rfl (hn _) | (simp only [R.bind]; rw [hd]; exact k)
theorem lcE_e {fe elt : Ga → R D} {vs : List Nat} {bd : D → Ga → R Ga} {ifs : Ga → R Bool} {ds ys : List D} (h : fe γ = .ok d) (hd : items d = .ok ds) (k : lcGo bd ifs elt (wipeG γ vs) ds = .ok ys) (hl : ys.length ≤ lim) : bLcE fe vs bd ifs elt γ = .ok (.lst ys) := by
  unfold bLcE
  rw [h]
  simp only [R.bind]
  rw [hd]
  exact lcOut_e k hl
/-- a slot that holds d -/
abbrev At (γ : Ga) (i : Nat) (d : D) : Prop := γ[i]? = some (.va d)
theorem At.v (h : At γ i d) : bVar i γ = .ok d := by
  unfold At at h
  rw [bVar_e, h]
theorem At.set {s : Sl} {j : Nat} (h : At γ i d) (n : j ≠ i) : At (γ.set j s) i d := by
  unfold At at h ⊢
  rw [List.getElem?_set_ne n]; exact h
theorem At.new (h : i < γ.length) : At (γ.set i (.va d)) i d := by
  unfold At
  rw [List.getElem?_set_self h]
theorem At.wipe {vs : List Nat} (h : At γ i d) (n : i ∉ vs) : At (wipeG γ vs) i d := by
  induction vs with
  | nil => exact h
  | cons v vs ih =>
    simp only [List.mem_cons, not_or] at n
    exact (ih n.2).set (fun e => n.1 e.symm)
end
/-! ### shares -/
end
end KN
set_option maxHeartbeats 8000000
namespace KN
open PySem PySem.Spec PyProof.Rows L2
noncomputable section
abbrev erH : List Nat := [0, 1, 2]
structure ErrSub (K : PySem.W.Frag) (e0 e1 e2 : Addr) : Prop where
  s00 : PySem.W.subIn K (.ref e0) (.ref e0) = some true
  s01 : PySem.W.subIn K (.ref e0) (.ref e1) = some false
  s02 : PySem.W.subIn K (.ref e0) (.ref e2) = some false
  s10 : PySem.W.subIn K (.ref e1) (.ref e0) = some false
  s11 : PySem.W.subIn K (.ref e1) (.ref e1) = some true
  s12 : PySem.W.subIn K (.ref e1) (.ref e2) = some false
  s20 : PySem.W.subIn K (.ref e2) (.ref e0) = some false
  s21 : PySem.W.subIn K (.ref e2) (.ref e1) = some false
  s22 : PySem.W.subIn K (.ref e2) (.ref e2) = some true
def errs_mk {K : PySem.W.Frag} {h : Heap} {mg : Str → Option Value} {e0 e1 e2 L : Addr} (X : K.In h) (G : h.Ns mainGlobals mg) (EL : ErrL K L) (E0 : ErrOne K "NoBook" e0 L) (E1 : ErrOne K "NoOrder" e1 L) (E2 : ErrOne K "NoName" e2 L) (S : ErrSub K e0 e1 e2) : Errs erH K mg where
  e := fun c => match c with
    | 0 => e0
    | 1 => e1
    | 2 => e2
    | _ => e0
  L := L
  g := PySem.W.mg_of X G EL.n
  x := fun c h => by
    simp only [erH, List.mem_cons, List.not_mem_nil, or_false] at h
    rcases h with rfl | rfl | rfl
    · exact E0.x X G
    · exact E1.x X G
    · exact E2.x X G
  c := fun c h => by
    simp only [erH, List.mem_cons, List.not_mem_nil, or_false] at h
    rcases h with rfl | rfl | rfl
    · exact E0.c
    · exact E1.c
    · exact E2.c
  val := fun c h => by
    simp only [erH, List.mem_cons, List.not_mem_nil, or_false] at h
    rcases h with rfl | rfl | rfl
    · exact kit_val E0.v
    · exact kit_val E1.v
    · exact kit_val E2.v
  exm := fun c h => by
    simp only [erH, List.mem_cons, List.not_mem_nil, or_false] at h
    rcases h with rfl | rfl | rfl
    · exact PySem.W.exm_ref EL.b EL.hd EL.t E0.l
    · exact PySem.W.exm_ref EL.b EL.hd EL.t E1.l
    · exact PySem.W.exm_ref EL.b EL.hd EL.t E2.l
  kit := fun c i h1 h2 => by
    simp only [erH, List.mem_cons, List.not_mem_nil, or_false] at h1 h2
    rcases h1 with rfl | rfl | rfl <;> rcases h2 with rfl | rfl | rfl
    · exact kit_cls E0.hd E0.t S.s00 S.s00
    · exact kit_cls E1.hd E1.t S.s01 S.s11
    · exact kit_cls E2.hd E2.t S.s02 S.s22
    · exact kit_cls E0.hd E0.t S.s10 S.s00
    · exact kit_cls E1.hd E1.t S.s11 S.s11
    · exact kit_cls E2.hd E2.t S.s12 S.s22
    · exact kit_cls E0.hd E0.t S.s20 S.s00
    · exact kit_cls E1.hd E1.t S.s21 S.s11
    · exact kit_cls E2.hd E2.t S.s22 S.s22
  exo := fun c i h1 h2 => by
    simp only [erH, List.mem_cons, List.not_mem_nil, or_false] at h1 h2
    rcases h1 with rfl | rfl | rfl <;> rcases h2 with rfl | rfl | rfl
    · exact PySem.W.exm_ref E0.b E0.hd E0.t S.s00
    · exact PySem.W.exm_ref E1.b E1.hd E1.t S.s01
    · exact PySem.W.exm_ref E2.b E2.hd E2.t S.s02
    · exact PySem.W.exm_ref E0.b E0.hd E0.t S.s10
    · exact PySem.W.exm_ref E1.b E1.hd E1.t S.s11
    · exact PySem.W.exm_ref E2.b E2.hd E2.t S.s12
    · exact PySem.W.exm_ref E0.b E0.hd E0.t S.s20
    · exact PySem.W.exm_ref E1.b E1.hd E1.t S.s21
    · exact PySem.W.exm_ref E2.b E2.hd E2.t S.s22
def topS (i : Nat) : Stmt := PySem.Challenge.pw_kinnames_k02_whole_tables.main.body.getD i (.Pass ⟨0, 0, 0, 0⟩)
set_option maxHeartbeats 8000000 in
structure Top (K : PySem.W.Frag) (mg : Str → Option Value) where
  er : Errs erH K mg
  f__law_cell : Addr
  fd__law_cell : FuncData
  F__law_cell : Fun K "_law_cell" "_law_cell" (topS 22) f__law_cell fd__law_cell
  b__law_cell : Binds K fd__law_cell ["_law_script", "_law_k"] []
  m__law_cell : mg "_law_cell" = some (.ref f__law_cell)
  f__law_drawn : Addr
  fd__law_drawn : FuncData
  F__law_drawn : Fun K "_law_drawn" "_law_drawn" (topS 23) f__law_drawn fd__law_drawn
  b__law_drawn : Binds K fd__law_drawn ["_law_script", "_law_k", "_law_many"] []
  m__law_drawn : mg "_law_drawn" = some (.ref f__law_drawn)
  f__law_name : Addr
  fd__law_name : FuncData
  F__law_name : Fun K "_law_name" "_law_name" (topS 24) f__law_name fd__law_name
  b__law_name : Binds K fd__law_name ["_law_script", "_law_at", "_law_most"] []
  m__law_name : mg "_law_name" = some (.ref f__law_name)
  f__law_book : Addr
  fd__law_book : FuncData
  F__law_book : Fun K "_law_book" "_law_book" (topS 25) f__law_book fd__law_book
  b__law_book : Binds K fd__law_book ["_law_script", "_law_at", "_law_many", "_law_most"] []
  m__law_book : mg "_law_book" = some (.ref f__law_book)
  f__law_pairs : Addr
  fd__law_pairs : FuncData
  F__law_pairs : Fun K "_law_pairs" "_law_pairs" (topS 26) f__law_pairs fd__law_pairs
  b__law_pairs : Binds K fd__law_pairs ["_law_rows"] []
  m__law_pairs : mg "_law_pairs" = some (.ref f__law_pairs)
  f_end_of : Addr
  fd_end_of : FuncData
  F_end_of : Fun K "end_of" "end_of" (topS 16) f_end_of fd_end_of
  b_end_of : Binds K fd_end_of ["order", "text"] []
  m_end_of : mg "end_of" = some (.ref f_end_of)
  f_counted : Addr
  fd_counted : FuncData
  F_counted : Fun K "counted" "counted" (topS 17) f_counted fd_counted
  b_counted : Binds K fd_counted ["book", "order"] []
  m_counted : mg "counted" = some (.ref f_counted)
  f_listed : Addr
  fd_listed : FuncData
  F_listed : Fun K "listed" "listed" (topS 18) f_listed fd_listed
  b_listed : Binds K fd_listed ["row"] []
  m_listed : mg "listed" = some (.ref f_listed)
  f_is_name : Addr
  fd_is_name : FuncData
  F_is_name : Fun K "is_name" "is_name" (topS 11) f_is_name fd_is_name
  b_is_name : Binds K fd_is_name ["thing"] []
  m_is_name : mg "is_name" = some (.ref f_is_name)
  f_is_book : Addr
  fd_is_book : FuncData
  F_is_book : Fun K "is_book" "is_book" (topS 12) f_is_book fd_is_book
  b_is_book : Binds K fd_is_book ["thing"] []
  m_is_book : mg "is_book" = some (.ref f_is_book)
  f_need_book : Addr
  fd_need_book : FuncData
  F_need_book : Fun K "need_book" "need_book" (topS 13) f_need_book fd_need_book
  b_need_book : Binds K fd_need_book ["book"] []
  m_need_book : mg "need_book" = some (.ref f_need_book)
  f_need_name : Addr
  fd_need_name : FuncData
  F_need_name : Fun K "need_name" "need_name" (topS 15) f_need_name fd_need_name
  b_need_name : Binds K fd_need_name ["name"] []
  m_need_name : mg "need_name" = some (.ref f_need_name)
  f_is_number : Addr
  fd_is_number : FuncData
  F_is_number : Fun K "is_number" "is_number" (topS 10) f_is_number fd_is_number
  b_is_number : Binds K fd_is_number ["thing", "low", "high"] []
  m_is_number : mg "is_number" = some (.ref f_is_number)
  f_need_order : Addr
  fd_need_order : FuncData
  F_need_order : Fun K "need_order" "need_order" (topS 14) f_need_order fd_need_order
  b_need_order : Binds K fd_need_order ["order"] []
  m_need_order : mg "need_order" = some (.ref f_need_order)
  f_behind : Addr
  fd_behind : FuncData
  F_behind : Fun K "behind" "behind" (topS 20) f_behind fd_behind
  b_behind : Binds K fd_behind ["book", "order", "text"] []
  m_behind : mg "behind" = some (.ref f_behind)
  f_table : Addr
  fd_table : FuncData
  F_table : Fun K "table" "table" (topS 19) f_table fd_table
  b_table : Binds K fd_table ["book", "order"] []
  m_table : mg "table" = some (.ref f_table)
  f_law : Addr
  fd_law : FuncData
  F_law : Fun K "law" "law" (topS 27) f_law fd_law
  b_law : Binds K fd_law ["_law_script"] []
  m_law : mg "law" = some (.ref f_law)
  z_all : mg "all" = none
  z_bool : mg "bool" = none
  z_dict : mg "dict" = none
  z_int : mg "int" = none
  z_isinstance : mg "isinstance" = none
  z_len : mg "len" = none
  z_list : mg "list" = none
  z_max : mg "max" = none
  z_range : mg "range" = none
  z_set : mg "set" = none
  z_sorted : mg "sorted" = none
  z_str : mg "str" = none
  z_sum : mg "sum" = none
  z_tuple : mg "tuple" = none
  g_LETTERS : ∃ t, mg "LETTERS" = some (.str (toS [97, 98, 99, 100, 101, 102, 103, 104, 105, 106, 107, 108, 109, 110, 111, 112, 113, 114, 115, 116, 117, 118, 119, 120, 121, 122]) t)
  g_MOST_LETTERS : ∃ t, mg "MOST_LETTERS" = some (.int 8 t)
  g_MOST_NAMES : ∃ t, mg "MOST_NAMES" = some (.int 8 t)
  g_MOST_ORDER : ∃ t, mg "MOST_ORDER" = some (.int 3 t)
def m__law_pairs : Ga → R Fl := fSeq (fSet 1 (bLst (bNil))) (fSeq (fForE (bVar 0) (bdT [2, 3]) (fSet 1 (b2 dAdd (bVar 1) (bLcE (bVar 3) [4, 5] (bdT [4, 5]) yes (bTup (bCons (bVar 2) (bCons (bVar 4) (bCons (bVar 5) (bNil))))))))) (fRet (bVar 1)))
def g__law_pairs : List D → R D := fnD 6 m__law_pairs
def m_law_k02 : Ga → R Fl := fSeq (fSet 1 (bCall g__law_book (bCons (bVar 0) (bCons (bC (.int 0)) (bCons (bC (.int 4)) (bCons (bC (.int 5)) (bNil))))))) (fSeq (fSet 2 (b2 dAdd (bC (.int 1)) (bCall g__law_drawn (bCons (bVar 0) (bCons (bC (.int 60)) (bCons (bC (.int 2)) (bNil))))))) (fSeq (fSet 3 (bCall g_table (bCons (bVar 1) (bCons (bVar 2) (bNil))))) (fSeq (fSet 4 (bCall g__law_pairs (bCons (bVar 3) (bNil)))) (fSeq (fIf (tVal (b2 dNe (bN dSum (bCons (bLcE (bCall g_behind (bCons (bVar 1) (bCons (bVar 2) (bCons (bC (.str [])) (bNil))))) [11, 12] (bdT [11, 12]) yes (bVar 12)) (bNil))) (bN dLen (bCons (bVar 1) (bNil))))) (fRet (bC (.bl false))) (fNil)) (fSeq (fIf (tVal (b2 dNe (bN dSum (bCons (bLcE (bVar 4) [10, 11, 12] (bdT [10, 11, 12]) (tVal (b2 dEq (bVar 11) (bC (.str [])))) (bVar 12)) (bNil))) (bN dLen (bCons (bVar 1) (bNil))))) (fRet (bC (.bl false))) (fNil)) (fSeq (fIf (tVal (b2 dNe (bN dSum (bCons (bLcE (bVar 4) [10, 11, 12] (bdT [10, 11, 12]) yes (bVar 12)) (bNil))) (bN dSum (bCons (bLcE (bVar 1) [15] (bdN 15) yes (b2 dAdd (bN dLen (bCons (bVar 15) (bNil))) (bC (.int 1)))) (bNil))))) (fRet (bC (.bl false))) (fNil)) (fSeq (fForE (bVar 4) (bdT [10, 11, 12]) (fSeq (fOwn 13 (bLcE (bVar 1) [15] (bdN 15) (tVal (b2 dIn (b2 dAdd (bVar 10) (bVar 11)) (bVar 15))) (bVar 15))) (fIf (tOr (tVal (b2 dEq (bRd 13) (bLst (bNil)))) (tOr (tVal (b2 dLt (bVar 12) (bC (.int 1)))) (tAnd (tVal (b2 dEq (bVar 11) (bC (.str [])))) (tVal (b2 dEq (bLcE (bVar 1) [15] (bdN 15) (tVal (b2s dEw (bVar 15) (bVar 10))) (bVar 15)) (bLst (bNil))))))) (fRet (bC (.bl false))) (fNil)))) (fSeq (fSet 5 (bCall g__law_pairs (bCons (bCall g_table (bCons (bVar 1) (bCons (b2 dAdd (bVar 2) (bC (.int 1))) (bNil)))) (bNil)))) (fSums [10, 11, 12] 5 6 14 12 (bCons (bSl (bVar 10) (pSo (bN dMax (bCons (bC (.int 0)) (bCons (b2 dSub (bN dLen (bCons (bVar 10) (bNil))) (bVar 2)) (bNil))))) (pNo)) (bCons (bVar 11) (bNil))) (bLcE (bVar 4) [10, 11, 12] (bdT [10, 11, 12]) yes (bTup (bCons (bTup (bCons (bVar 10) (bCons (bVar 11) (bNil)))) (bCons (bVar 12) (bNil))))) (fSeq (fSet 7 (bCall g__law_pairs (bCons (bCall g_table (bCons (b2 dAdd (bVar 1) (bVar 1)) (bCons (bVar 2) (bNil)))) (bNil)))) (fSeq (fOwn 8 (bLcE (bVar 4) [10, 11, 12] (bdT [10, 11, 12]) yes (bTup (bCons (bVar 10) (bCons (bVar 11) (bCons (b2 dMul (bC (.int 2)) (bVar 12)) (bNil))))))) (fSeq (fIf (tOr (tVal (b2 dNe (bVar 7) (bRd 8))) (tVal (b2 dNe (bCall g_table (bCons (b1 dRev (bVar 1)) (bCons (bVar 2) (bNil)))) (bVar 3)))) (fRet (bC (.bl false))) (fNil)) (fSeq (fOwn 9 (bLcE (bVar 3) [10, 16] (bdT [10, 16]) yes (bVar 10))) (fSeq (fIf (tOr (tVal (b2 dNe (bRd 9) (b1 dSortSet (bRd 9)))) (tVal (b2 dNe (bLcE (bVar 3) [10, 16] (bdT [10, 16]) (tVal (b2 dNe (bN dList (bCons (bVar 16) (bNil))) (b1 dSortSetP (bVar 16)))) (bVar 16)) (bLst (bNil))))) (fRet (bC (.bl false))) (fNil)) (fRet (b2 dEq (bLcE (bVar 3) [10, 16] (bdT [10, 16]) (tVal (b2 dNe (bCall g_behind (bCons (bVar 1) (bCons (bVar 2) (bCons (bVar 10) (bNil))))) (bN dList (bCons (bVar 16) (bNil))))) (bVar 10)) (bLst (bNil))))))))))))))))))
def g_law_k02 : List D → R D := fnD 17 m_law_k02
variable {P : Program} {w : World} {K : PySem.W.Frag} {mg : Str → Option Value} {base : Heap}
theorem sc__law_cell : FnScope ["_law_script", "_law_k"] ["_law_script", "_law_k"] (defScope (topS 22)) := ⟨rfl, rfl, rfl, by decide +kernel, rfl, by decide +kernel, by decide +kernel⟩
theorem ok__law_cell (T : Top K mg) : FnOk P w K mg base (L2.CX P w) 1 T.f__law_cell T.fd__law_cell ["_law_script", "_law_k"] (spD K (clE T.er) 2 g__law_cell) := by
  refine fok T.F__law_cell sc__law_cell rfl rfl fun cdv A outer s H E hr => ?_
  have nd := sc__law_cell.nd
  have hu64 := hr.units
  have hu65 := hu65_of hr
  have hu1 := hu_of hr
  exact js_cons (js_if (jt_cmp (o_eq hu64) (J.r (j_var 0)) (JF.r (jf_lst (ja_nil)))) (js_one (js_ret (j_op o_mul (J.r (j_int)) (J.r (j_var 1))))) (js_nil)) (js_one (js_ret (j_op o_add (J.r (j_ix hu1 (J.r (j_var 0)) (J.r (j_op o_mod (J.r (j_var 1)) (J.r (j_b c_len T.z_len PySem.boot_len (ja1_cons (J.r (j_var 0)) (ja1_nil)))))))) (J.r (j_op o_mul (J.r (j_int)) (J.r (j_op o_div (J.r (j_var 1)) (J.r (j_b c_len T.z_len PySem.boot_len (ja1_cons (J.r (j_var 0)) (ja1_nil)))))))))))
theorem sc__law_drawn : FnScope ["_law_script", "_law_k", "_law_many", "_law_cell_here"] ["_law_script", "_law_k", "_law_many"] (defScope (topS 23)) := ⟨rfl, rfl, rfl, by decide +kernel, rfl, by decide +kernel, by decide +kernel⟩
theorem ok__law_drawn (T : Top K mg) : FnOk P w K mg base (L2.CX P w) 2 T.f__law_drawn T.fd__law_drawn ["_law_script", "_law_k", "_law_many"] (spD K (clE T.er) 3 g__law_drawn) := by
  refine fok T.F__law_drawn sc__law_drawn rfl rfl fun cdv A outer s H E hr => ?_
  have nd := sc__law_drawn.nd
  have hu64 := hr.units
  have hu65 := hu65_of hr
  have hu1 := hu_of hr
  exact js_cons (js_set nd (j_op o_mod (J.r (j_op o_add (J.r (j_op o_mul (J.r (j_op o_mod (J.r (j_call (ok__law_cell T) (hr.mono (by decide)) T.m__law_cell T.F__law_cell.kp T.b__law_cell takes_D (ja_cons (j_var 0) (ja_cons (j_var 1) (ja_nil))) (bCons_len (bCons_len bNil_len)))) (J.r (j_int)))) (J.r (j_int)))) (J.r (j_op o_mul (J.r (j_int)) (J.r (j_op o_add (J.r (j_var 1)) (J.r (j_int)))))))) (J.r (j_int)))) (js_cons (js_set nd (j_op o_mod (J.r (j_op o_add (J.r (j_op o_mul (J.r (j_var 3)) (J.r (j_var 3)))) (J.r (j_op o_div (J.r (j_var 3)) (J.r (j_int)))))) (J.r (j_int)))) (js_one (js_ret (j_op o_mod (J.r (j_op o_div (J.r (j_op o_mod (J.r (j_op o_add (J.r (j_op o_mul (J.r (j_var 3)) (J.r (j_var 3)))) (J.r (j_op o_div (J.r (j_var 3)) (J.r (j_int)))))) (J.r (j_int)))) (J.r (j_int)))) (J.r (j_var 2))))))
theorem sc__law_name : FnScope ["_law_script", "_law_at", "_law_most", "_law_size", "_law_letters", "_law_k"] ["_law_script", "_law_at", "_law_most"] (defScope (topS 24)) := ⟨rfl, rfl, rfl, by decide +kernel, rfl, by decide +kernel, by decide +kernel⟩
theorem ok__law_name (T : Top K mg) : FnOk P w K mg base (L2.CX P w) 3 T.f__law_name T.fd__law_name ["_law_script", "_law_at", "_law_most"] (spD K (clE T.er) 3 g__law_name) := by
  refine fok T.F__law_name sc__law_name rfl rfl fun cdv A outer s H E hr => ?_
  have nd := sc__law_name.nd
  have hu64 := hr.units
  have hu65 := hu65_of hr
  have hu1 := hu_of hr
  exact js_cons (js_set nd (j_op o_add (J.r (j_int)) (J.r (j_call (ok__law_drawn T) (hr.mono (by decide)) T.m__law_drawn T.F__law_drawn.kp T.b__law_drawn takes_D (ja_cons (j_var 0) (ja_cons (j_var 1) (ja_cons (j_var 2) (ja_nil)))) (bCons_len (bCons_len (bCons_len bNil_len))))))) (js_cons (js_set nd (j_ix hu1 (JF.r (jf_lst (ja_cons (j_str) (ja_cons (j_str) (ja_cons (j_str) (ja_nil)))))) (J.r (j_call (ok__law_drawn T) (hr.mono (by decide)) T.m__law_drawn T.F__law_drawn.kp T.b__law_drawn takes_D (ja_cons (j_var 0) (ja_cons (j_op o_add (J.r (j_var 1)) (J.r (j_int))) (ja_cons (j_int) (ja_nil)))) (bCons_len (bCons_len (bCons_len bNil_len))))))) (js_one (js_ret (j_join (J.r (j_str)) (JF.r (jf_lcI (own := [("_law_k", 5)]) rfl nd (ji_r1 T.z_range (j_var 3)) ⟨blkOk_by (own := [("_law_k", 5)]) (by first | (show blkC ["_law_script", "_law_at", "_law_most", "_law_size", "_law_letters", "_law_k"] (defScope (topS 24)) _ _ = true; decide +kernel) | rfl), fun _ _ _ _ _ => jg_n nd, fun _ _ _ _ _ => jifs_nil, fun _ _ _ _ _ => j_ix hu1 (J.r (j_var 4)) (J.r (j_call (ok__law_drawn T) (hr.mono (by decide)) T.m__law_drawn T.F__law_drawn.kp T.b__law_drawn takes_W0 (ja_cons (j_var 0) (ja_cons (j_op o_add (J.r (j_op o_add (J.r (j_var 1)) (J.r (j_int)))) (J.r (j_var 5))) (ja_cons (j_b c_len T.z_len PySem.boot_len (ja1_cons (J.r (j_var 4)) (ja1_nil))) (ja_nil)))) (bCons_len (bCons_len (bCons_len bNil_len)))))⟩))))))
theorem sc__law_book : FnScope ["_law_script", "_law_at", "_law_many", "_law_most", "_law_found", "_law_k"] ["_law_script", "_law_at", "_law_many", "_law_most"] (defScope (topS 25)) := ⟨rfl, rfl, rfl, by decide +kernel, rfl, by decide +kernel, by decide +kernel⟩
theorem ok__law_book (T : Top K mg) : FnOk P w K mg base (L2.CX P w) 4 T.f__law_book T.fd__law_book ["_law_script", "_law_at", "_law_many", "_law_most"] (spD K (clE T.er) 4 g__law_book) := by
  refine fok T.F__law_book sc__law_book rfl rfl fun cdv A outer s H E hr => ?_
  have nd := sc__law_book.nd
  have hu64 := hr.units
  have hu65 := hu65_of hr
  have hu1 := hu_of hr
  exact js_cons (js_set nd (j_tup (ja_nil))) (js_cons (js_forI passes_D rfl bdN_ok (ji_r1 T.z_range (j_op o_add (J.r (j_int)) (J.r (j_call (ok__law_drawn T) (hr.mono (by decide)) T.m__law_drawn T.F__law_drawn.kp T.b__law_drawn takes_D (ja_cons (j_var 0) (ja_cons (j_var 1) (ja_cons (j_var 2) (ja_nil)))) (bCons_len (bCons_len (bCons_len bNil_len))))))) (jg_n nd) (js_one (js_set nd (j_op o_add (J.r (j_var 4)) (J.r (j_tup (ja_cons (j_call (ok__law_name T) (hr.mono (by decide)) T.m__law_name T.F__law_name.kp T.b__law_name takes_D (ja_cons (j_var 0) (ja_cons (j_op o_add (J.r (j_op o_add (J.r (j_var 1)) (J.r (j_int)))) (J.r (j_op o_mul (J.r (j_int)) (J.r (j_var 5))))) (ja_cons (j_var 3) (ja_nil)))) (bCons_len (bCons_len (bCons_len bNil_len)))) (ja_nil)))))))) (js_one (js_ret (j_var 4))))
theorem sc__law_pairs : FnScope ["_law_rows", "_law_found", "_law_end", "_law_row", "_law_letter", "_law_many"] ["_law_rows"] (defScope (topS 26)) := ⟨rfl, rfl, rfl, by decide +kernel, rfl, by decide +kernel, by decide +kernel⟩
theorem ok__law_pairs (T : Top K mg) : FnOk P w K mg base (L2.CX P w) 1 T.f__law_pairs T.fd__law_pairs ["_law_rows"] (spD K (clE T.er) 1 g__law_pairs) := by
  refine fok T.F__law_pairs sc__law_pairs rfl rfl fun cdv A outer s H E hr => ?_
  have nd := sc__law_pairs.nd
  have hu64 := hr.units
  have hu65 := hu65_of hr
  have hu1 := hu_of hr
  exact js_cons (js_set nd (JF.v (jf_lst (ja_nil)))) (js_cons (js_forE passes_D rfl bdT_ok (j_var 0) (jg_tK (K := K) rfl rfl (jgs_cons nd (jgs_cons nd (jgs_nil)))) (js_one (js_set nd (j_op o_add (J.r (j_var 1)) (JF.r (jf_lcE (own := [("_law_letter", 4), ("_law_many", 5)]) rfl nd (j_var 3) ⟨blkOk_by (own := [("_law_letter", 4), ("_law_many", 5)]) (by first | (show blkC ["_law_rows", "_law_found", "_law_end", "_law_row", "_law_letter", "_law_many"] (defScope (topS 26)) _ _ = true; decide +kernel) | rfl), fun _ _ _ _ _ => jg_tK (K := K) rfl rfl (jgs_cons nd (jgs_cons nd (jgs_nil))), fun _ _ _ _ _ => jifs_nil, fun _ _ _ _ _ => j_tup (ja_cons (j_var 2) (ja_cons (j_var 4) (ja_cons (j_var 5) (ja_nil))))⟩)))))) (js_one (js_ret (j_var 1))))
theorem sc_end_of : FnScope ["order", "text"] ["order", "text"] (defScope (topS 16)) := ⟨rfl, rfl, rfl, by decide +kernel, rfl, by decide +kernel, by decide +kernel⟩
theorem ok_end_of (T : Top K mg) : FnOk P w K mg base (L2.CX P w) 1 T.f_end_of T.fd_end_of ["order", "text"] (spD K (clE T.er) 2 g_end_of) := by
  refine fok T.F_end_of sc_end_of rfl rfl fun cdv A outer s H E hr => ?_
  have nd := sc_end_of.nd
  have hu64 := hr.units
  have hu65 := hu65_of hr
  have hu1 := hu_of hr
  exact js_one (js_ret (j_slice (J.r (j_var 1)) (jo_some (J.r (j_b (c_max rfl) T.z_max PyProof.Rows.boot_max (ja1_cons (J.r (j_int)) (ja1_cons (J.r (j_op o_sub (J.r (j_b c_len T.z_len PySem.boot_len (ja1_cons (J.r (j_var 1)) (ja1_nil)))) (J.r (j_var 0)))) (ja1_nil)))))) (jo_none)))
theorem sc_counted : FnScope ["book", "order", "found", "name", "size", "context", "letter", "row"] ["book", "order"] (defScope (topS 17)) := ⟨rfl, rfl, rfl, by decide +kernel, rfl, by decide +kernel, by decide +kernel⟩
theorem ok_counted (T : Top K mg) : FnOk P w K mg base (L2.CX P w) 2 T.f_counted T.fd_counted ["book", "order"] (spD K (clE T.er) 2 g_counted) := by
  refine fok T.F_counted sc_counted rfl rfl fun cdv A outer s H E hr => ?_
  have nd := sc_counted.nd
  have hu64 := hr.units
  have hu65 := hu65_of hr
  have hu1 := hu_of hr
  exact js_cons (js_nd0 2 nd) (js_cons (js_forE passes_D rfl bdN_ok (j_var 0) (jg_n nd) (js_one (js_forI passes_D rfl bdN_ok (ji_r1 T.z_range (j_op o_add (J.r (j_b c_len T.z_len PySem.boot_len (ja1_cons (J.r (j_var 3)) (ja1_nil)))) (J.r (j_int)))) (jg_n nd) (js_cons (js_set nd (j_call (ok_end_of T) (hr.mono (by decide)) T.m_end_of T.F_end_of.kp T.b_end_of takes_D (ja_cons (j_var 1) (ja_cons (j_slice (J.r (j_var 3)) (jo_none) (jo_some (J.r (j_var 4)))) (ja_nil))) (bCons_len (bCons_len bNil_len)))) (js_cons (js_set nd (j_slice (J.r (j_var 3)) (jo_some (J.r (j_var 4))) (jo_some (J.r (j_op o_add (J.r (j_var 4)) (J.r (j_int))))))) (jss_bump 2 7 5 6 nd hu1)))))) (jss_fz 2 (js_one (js_ret (j_var 2)))))
theorem sc_listed : FnScope ["row", "letter"] ["row"] (defScope (topS 18)) := ⟨rfl, rfl, rfl, by decide +kernel, rfl, by decide +kernel, by decide +kernel⟩
theorem ok_listed (T : Top K mg) : FnOk P w K mg base (L2.CX P w) 1 T.f_listed T.fd_listed ["row"] (spD K (clE T.er) 1 g_listed) := by
  refine fok T.F_listed sc_listed rfl rfl fun cdv A outer s H E hr => ?_
  have nd := sc_listed.nd
  have hu64 := hr.units
  have hu65 := hu65_of hr
  have hu1 := hu_of hr
  exact js_one (js_ret (j_ty c_tuple T.z_tuple PyProof.Rows.boot_tuple (ja1_cons (JF.r (jf_lcE (own := [("letter", 1)]) rfl nd (JF.v (jf_b (c_sort rfl) T.z_sorted PyProof.Rows.boot_sorted (ja1_cons (J.r (j_var 0)) (ja1_nil)))) ⟨blkOk_by (own := [("letter", 1)]) (by first | (show blkC ["row", "letter"] (defScope (topS 18)) _ _ = true; decide +kernel) | rfl), fun _ _ _ _ _ => jg_n nd, fun _ _ _ _ _ => jifs_nil, fun _ _ _ _ _ => j_tup (ja_cons (j_var 1) (ja_cons (j_ix hu1 (J.r (j_var 0)) (J.r (j_var 1))) (ja_nil)))⟩)) (ja1_nil))))
theorem sc_is_name : FnScope ["thing", "sign"] ["thing"] (defScope (topS 11)) := ⟨rfl, rfl, rfl, by decide +kernel, rfl, by decide +kernel, by decide +kernel⟩
theorem ok_is_name (T : Top K mg) : FnOk P w K mg base (L2.CX P w) 1 T.f_is_name T.fd_is_name ["thing"] (spD K (clE T.er) 1 g_is_name) := by
  refine fok T.F_is_name sc_is_name rfl rfl fun cdv A outer s H E hr => ?_
  have nd := sc_is_name.nd
  have hu64 := hr.units
  have hu65 := hu65_of hr
  have hu1 := hu_of hr
  exact js_one (js_ret (j_and (j_isi .str (J.r (j_var 0)) PyProof.Rows.boot_str T.z_isinstance T.z_str) (j_and (j_chain o_le o_le (J.r (j_int)) (J.r (j_b c_len T.z_len PySem.boot_len (ja1_cons (J.r (j_var 0)) (ja1_nil)))) (J.r (j_globI T.g_MOST_LETTERS))) (j_one (j_b (c_all rfl) T.z_all PyProof.Rows.boot_all (ja1_cons (JF.r (jf_lcE (own := [("sign", 1)]) rfl nd (j_var 0) ⟨blkOk_by (own := [("sign", 1)]) (by first | (show blkC ["thing", "sign"] (defScope (topS 11)) _ _ = true; decide +kernel) | rfl), fun _ _ _ _ _ => jg_n nd, fun _ _ _ _ _ => jifs_nil, fun _ _ _ _ _ => j_cmp (o_in hu65) (J.r (j_var 1)) (J.r (j_globS T.g_LETTERS))⟩)) (ja1_nil)))))))
theorem sc_is_book : FnScope ["thing", "one"] ["thing"] (defScope (topS 12)) := ⟨rfl, rfl, rfl, by decide +kernel, rfl, by decide +kernel, by decide +kernel⟩
theorem ok_is_book (T : Top K mg) : FnOk P w K mg base (L2.CX P w) 2 T.f_is_book T.fd_is_book ["thing"] (spD K (clE T.er) 1 g_is_book) := by
  refine fok T.F_is_book sc_is_book rfl rfl fun cdv A outer s H E hr => ?_
  have nd := sc_is_book.nd
  have hu64 := hr.units
  have hu65 := hu65_of hr
  have hu1 := hu_of hr
  exact js_one (js_ret (j_and (j_isi .tup (J.r (j_var 0)) PyProof.Rows.boot_tuple T.z_isinstance T.z_tuple) (j_and (j_chain o_le o_le (J.r (j_int)) (J.r (j_b c_len T.z_len PySem.boot_len (ja1_cons (J.r (j_var 0)) (ja1_nil)))) (J.r (j_globI T.g_MOST_NAMES))) (j_one (j_b (c_all rfl) T.z_all PyProof.Rows.boot_all (ja1_cons (JF.r (jf_lcE (own := [("one", 1)]) rfl nd (j_var 0) ⟨blkOk_by (own := [("one", 1)]) (by first | (show blkC ["thing", "one"] (defScope (topS 12)) _ _ = true; decide +kernel) | rfl), fun _ _ _ _ _ => jg_n nd, fun _ _ _ _ _ => jifs_nil, fun _ _ _ _ _ => j_call (ok_is_name T) (hr.mono (by decide)) T.m_is_name T.F_is_name.kp T.b_is_name takes_W0 (ja_cons (j_var 1) (ja_nil)) (bCons_len bNil_len)⟩)) (ja1_nil)))))))
theorem sc_need_book : FnScope ["book"] ["book"] (defScope (topS 13)) := ⟨rfl, rfl, rfl, by decide +kernel, rfl, by decide +kernel, by decide +kernel⟩
theorem ok_need_book (T : Top K mg) : FnOk P w K mg base (L2.CX P w) 3 T.f_need_book T.fd_need_book ["book"] (spD K (clE T.er) 1 g_need_book) := by
  refine fok T.F_need_book sc_need_book rfl rfl fun cdv A outer s H E hr => ?_
  have nd := sc_need_book.nd
  have hu64 := hr.units
  have hu65 := hu65_of hr
  have hu1 := hu_of hr
  exact js_one (js_if (jt_not (jt_val (j_call (ok_is_book T) (hr.mono (by decide)) T.m_is_book T.F_is_book.kp T.b_is_book takes_D (ja_cons (j_var 0) (ja_nil)) (bCons_len bNil_len)))) (js_one (js_raise (cl := clE T.er) (c := 0) (C := T.er.e 0) rfl (T.er.x 0 (by decide)) rfl takes_D)) (js_nil))
theorem sc_need_name : FnScope ["name"] ["name"] (defScope (topS 15)) := ⟨rfl, rfl, rfl, by decide +kernel, rfl, by decide +kernel, by decide +kernel⟩
theorem ok_need_name (T : Top K mg) : FnOk P w K mg base (L2.CX P w) 2 T.f_need_name T.fd_need_name ["name"] (spD K (clE T.er) 1 g_need_name) := by
  refine fok T.F_need_name sc_need_name rfl rfl fun cdv A outer s H E hr => ?_
  have nd := sc_need_name.nd
  have hu64 := hr.units
  have hu65 := hu65_of hr
  have hu1 := hu_of hr
  exact js_one (js_if (jt_not (jt_val (j_call (ok_is_name T) (hr.mono (by decide)) T.m_is_name T.F_is_name.kp T.b_is_name takes_D (ja_cons (j_var 0) (ja_nil)) (bCons_len bNil_len)))) (js_one (js_raise (cl := clE T.er) (c := 2) (C := T.er.e 2) rfl (T.er.x 2 (by decide)) rfl takes_D)) (js_nil))
theorem sc_is_number : FnScope ["thing", "low", "high"] ["thing", "low", "high"] (defScope (topS 10)) := ⟨rfl, rfl, rfl, by decide +kernel, rfl, by decide +kernel, by decide +kernel⟩
theorem ok_is_number (T : Top K mg) : FnOk P w K mg base (L2.CX P w) 1 T.f_is_number T.fd_is_number ["thing", "low", "high"] (spD K (clE T.er) 3 g_is_number) := by
  refine fok T.F_is_number sc_is_number rfl rfl fun cdv A outer s H E hr => ?_
  have nd := sc_is_number.nd
  have hu64 := hr.units
  have hu65 := hu65_of hr
  have hu1 := hu_of hr
  exact js_one (js_ret (j_and (j_isi .int (J.r (j_var 0)) PyProof.Rows.boot_int T.z_isinstance T.z_int) (j_and (j_not (J.r (j_isi .bool (J.r (j_var 0)) PyProof.Rows.boot_bool T.z_isinstance T.z_bool))) (j_one (j_chain o_le o_le (J.r (j_var 1)) (J.r (j_var 0)) (J.r (j_var 2)))))))
theorem sc_need_order : FnScope ["order"] ["order"] (defScope (topS 14)) := ⟨rfl, rfl, rfl, by decide +kernel, rfl, by decide +kernel, by decide +kernel⟩
theorem ok_need_order (T : Top K mg) : FnOk P w K mg base (L2.CX P w) 2 T.f_need_order T.fd_need_order ["order"] (spD K (clE T.er) 1 g_need_order) := by
  refine fok T.F_need_order sc_need_order rfl rfl fun cdv A outer s H E hr => ?_
  have nd := sc_need_order.nd
  have hu64 := hr.units
  have hu65 := hu65_of hr
  have hu1 := hu_of hr
  exact js_one (js_if (jt_not (jt_val (j_call (ok_is_number T) (hr.mono (by decide)) T.m_is_number T.F_is_number.kp T.b_is_number takes_D (ja_cons (j_var 0) (ja_cons (j_int) (ja_cons (j_globI T.g_MOST_ORDER) (ja_nil)))) (bCons_len (bCons_len (bCons_len bNil_len)))))) (js_one (js_raise (cl := clE T.er) (c := 1) (C := T.er.e 1) rfl (T.er.x 1 (by decide)) rfl takes_D)) (js_nil))
theorem sc_behind : FnScope ["book", "order", "text"] ["book", "order", "text"] (defScope (topS 20)) := ⟨rfl, rfl, rfl, by decide +kernel, rfl, by decide +kernel, by decide +kernel⟩
theorem ok_behind (T : Top K mg) : FnOk P w K mg base (L2.CX P w) 4 T.f_behind T.fd_behind ["book", "order", "text"] (spD K (clE T.er) 3 g_behind) := by
  refine fok T.F_behind sc_behind rfl rfl fun cdv A outer s H E hr => ?_
  have nd := sc_behind.nd
  have hu64 := hr.units
  have hu65 := hu65_of hr
  have hu1 := hu_of hr
  exact js_cons (js_expr (j_call (ok_need_book T) (hr.mono (by decide)) T.m_need_book T.F_need_book.kp T.b_need_book takes_D (ja_cons (j_var 0) (ja_nil)) (bCons_len bNil_len))) (js_cons (js_expr (j_call (ok_need_order T) (hr.mono (by decide)) T.m_need_order T.F_need_order.kp T.b_need_order takes_D (ja_cons (j_var 1) (ja_nil)) (bCons_len bNil_len))) (js_cons (js_if (jt_cmp (o_ne hu64) (J.r (j_var 2)) (J.r (j_str))) (js_one (js_expr (j_call (ok_need_name T) (hr.mono (by decide)) T.m_need_name T.F_need_name.kp T.b_need_name takes_D (ja_cons (j_var 2) (ja_nil)) (bCons_len bNil_len)))) (js_nil)) (js_one (js_ret (JF.v (jf_ty c_list T.z_list PyProof.Rows.boot_list (ja1_cons (J.r (j_call (ok_listed T) (hr.mono (by decide)) T.m_listed T.F_listed.kp T.b_listed takes_D (ja_cons (j_get hu1 (J.r (j_call (ok_counted T) (hr.mono (by decide)) T.m_counted T.F_counted.kp T.b_counted takes_D (ja_cons (j_var 0) (ja_cons (j_var 1) (ja_nil))) (bCons_len (bCons_len bNil_len)))) (j_call (ok_end_of T) (hr.mono (by decide)) T.m_end_of T.F_end_of.kp T.b_end_of takes_D (ja_cons (j_var 1) (ja_cons (j_var 2) (ja_nil))) (bCons_len (bCons_len bNil_len))) (JF.v (jf_dic0))) (ja_nil)) (bCons_len bNil_len))) (ja1_nil))))))))
theorem sc_table : FnScope ["book", "order", "found", "context"] ["book", "order"] (defScope (topS 19)) := ⟨rfl, rfl, rfl, by decide +kernel, rfl, by decide +kernel, by decide +kernel⟩
theorem ok_table (T : Top K mg) : FnOk P w K mg base (L2.CX P w) 4 T.f_table T.fd_table ["book", "order"] (spD K (clE T.er) 2 g_table) := by
  refine fok T.F_table sc_table rfl rfl fun cdv A outer s H E hr => ?_
  have nd := sc_table.nd
  have hu64 := hr.units
  have hu65 := hu65_of hr
  have hu1 := hu_of hr
  exact js_cons (js_expr (j_call (ok_need_book T) (hr.mono (by decide)) T.m_need_book T.F_need_book.kp T.b_need_book takes_D (ja_cons (j_var 0) (ja_nil)) (bCons_len bNil_len))) (js_cons (js_expr (j_call (ok_need_order T) (hr.mono (by decide)) T.m_need_order T.F_need_order.kp T.b_need_order takes_D (ja_cons (j_var 1) (ja_nil)) (bCons_len bNil_len))) (js_cons (js_set nd (j_call (ok_counted T) (hr.mono (by decide)) T.m_counted T.F_counted.kp T.b_counted takes_D (ja_cons (j_var 0) (ja_cons (j_var 1) (ja_nil))) (bCons_len (bCons_len bNil_len)))) (js_one (js_ret (JF.v (jf_lcE (own := [("context", 3)]) rfl nd (JF.v (jf_b (c_sort rfl) T.z_sorted PyProof.Rows.boot_sorted (ja1_cons (J.r (j_var 2)) (ja1_nil)))) ⟨blkOk_by (own := [("context", 3)]) (by first | (show blkC ["book", "order", "found", "context"] (defScope (topS 19)) _ _ = true; decide +kernel) | rfl), fun _ _ _ _ _ => jg_n nd, fun _ _ _ _ _ => jifs_nil, fun _ _ _ _ _ => j_tup (ja_cons (j_var 3) (ja_cons (j_call (ok_listed T) (hr.mono (by decide)) T.m_listed T.F_listed.kp T.b_listed takes_W0 (ja_cons (j_ix hu1 (J.r (j_var 2)) (J.r (j_var 3))) (ja_nil)) (bCons_len bNil_len)) (ja_nil)))⟩))))))
theorem sc_law : FnScope ["_law_script", "_law_book_here", "_law_order", "_law_rows", "_law_pairs_here", "_law_more", "_law_sums", "_law_twice", "_law_due", "_law_ends", "_law_end", "_law_letter", "_law_many", "_law_places", "_law_key", "_law_name_here", "_law_row"] ["_law_script"] (defScope (topS 27)) := ⟨rfl, rfl, rfl, by decide +kernel, rfl, by decide +kernel, by decide +kernel⟩
theorem ok_law (T : Top K mg) : FnOk P w K mg base (L2.CX P w) 5 T.f_law T.fd_law ["_law_script"] (spD K (clE T.er) 1 g_law_k02) := by
  refine fok T.F_law sc_law rfl rfl fun cdv A outer s H E hr => ?_
  have nd := sc_law.nd
  have hu64 := hr.units
  have hu65 := hu65_of hr
  have hu1 := hu_of hr
  exact js_cons (js_set nd (j_call (ok__law_book T) (hr.mono (by decide)) T.m__law_book T.F__law_book.kp T.b__law_book takes_D (ja_cons (j_var 0) (ja_cons (j_int) (ja_cons (j_int) (ja_cons (j_int) (ja_nil))))) (bCons_len (bCons_len (bCons_len (bCons_len bNil_len)))))) (js_cons (js_set nd (j_op o_add (J.r (j_int)) (J.r (j_call (ok__law_drawn T) (hr.mono (by decide)) T.m__law_drawn T.F__law_drawn.kp T.b__law_drawn takes_D (ja_cons (j_var 0) (ja_cons (j_int) (ja_cons (j_int) (ja_nil)))) (bCons_len (bCons_len (bCons_len bNil_len))))))) (js_cons (js_set nd (j_call (ok_table T) (hr.mono (by decide)) T.m_table T.F_table.kp T.b_table takes_D (ja_cons (j_var 1) (ja_cons (j_var 2) (ja_nil))) (bCons_len (bCons_len bNil_len)))) (js_cons (js_set nd (j_call (ok__law_pairs T) (hr.mono (by decide)) T.m__law_pairs T.F__law_pairs.kp T.b__law_pairs takes_D (ja_cons (j_var 3) (ja_nil)) (bCons_len bNil_len))) (js_cons (js_if (jt_cmp (o_ne hu64) (J.r (j_b (c_sum rfl) T.z_sum PyProof.Rows.boot_sum (ja1_cons (JF.r (jf_lcE (own := [("_law_letter", 11), ("_law_many", 12)]) rfl nd (j_call (ok_behind T) (hr.mono (by decide)) T.m_behind T.F_behind.kp T.b_behind takes_D (ja_cons (j_var 1) (ja_cons (j_var 2) (ja_cons (j_str) (ja_nil)))) (bCons_len (bCons_len (bCons_len bNil_len)))) ⟨blkOk_by (own := [("_law_letter", 11), ("_law_many", 12)]) (by first | (show blkC ["_law_script", "_law_book_here", "_law_order", "_law_rows", "_law_pairs_here", "_law_more", "_law_sums", "_law_twice", "_law_due", "_law_ends", "_law_end", "_law_letter", "_law_many", "_law_places", "_law_key", "_law_name_here", "_law_row"] (defScope (topS 27)) _ _ = true; decide +kernel) | rfl), fun _ _ _ _ _ => jg_tK (K := K) rfl rfl (jgs_cons nd (jgs_cons nd (jgs_nil))), fun _ _ _ _ _ => jifs_nil, fun _ _ _ _ _ => j_var 12⟩)) (ja1_nil)))) (J.r (j_b c_len T.z_len PySem.boot_len (ja1_cons (J.r (j_var 1)) (ja1_nil))))) (js_one (js_ret (j_bl))) (js_nil)) (js_cons (js_if (jt_cmp (o_ne hu64) (J.r (j_b (c_sum rfl) T.z_sum PyProof.Rows.boot_sum (ja1_cons (JF.r (jf_lcE (own := [("_law_end", 10), ("_law_letter", 11), ("_law_many", 12)]) rfl nd (j_var 4) ⟨blkOk_by (own := [("_law_end", 10), ("_law_letter", 11), ("_law_many", 12)]) (by first | (show blkC ["_law_script", "_law_book_here", "_law_order", "_law_rows", "_law_pairs_here", "_law_more", "_law_sums", "_law_twice", "_law_due", "_law_ends", "_law_end", "_law_letter", "_law_many", "_law_places", "_law_key", "_law_name_here", "_law_row"] (defScope (topS 27)) _ _ = true; decide +kernel) | rfl), fun _ _ _ _ _ => jg_tK (K := K) rfl rfl (jgs_cons nd (jgs_cons nd (jgs_cons nd (jgs_nil)))), fun _ _ _ _ _ => jifs_oneK (K := K) rfl (jt_cmp (o_eq hu64) (J.r (j_var 11)) (J.r (j_str))), fun _ _ _ _ _ => j_var 12⟩)) (ja1_nil)))) (J.r (j_b c_len T.z_len PySem.boot_len (ja1_cons (J.r (j_var 1)) (ja1_nil))))) (js_one (js_ret (j_bl))) (js_nil)) (js_cons (js_if (jt_cmp (o_ne hu64) (J.r (j_b (c_sum rfl) T.z_sum PyProof.Rows.boot_sum (ja1_cons (JF.r (jf_lcE (own := [("_law_end", 10), ("_law_letter", 11), ("_law_many", 12)]) rfl nd (j_var 4) ⟨blkOk_by (own := [("_law_end", 10), ("_law_letter", 11), ("_law_many", 12)]) (by first | (show blkC ["_law_script", "_law_book_here", "_law_order", "_law_rows", "_law_pairs_here", "_law_more", "_law_sums", "_law_twice", "_law_due", "_law_ends", "_law_end", "_law_letter", "_law_many", "_law_places", "_law_key", "_law_name_here", "_law_row"] (defScope (topS 27)) _ _ = true; decide +kernel) | rfl), fun _ _ _ _ _ => jg_tK (K := K) rfl rfl (jgs_cons nd (jgs_cons nd (jgs_cons nd (jgs_nil)))), fun _ _ _ _ _ => jifs_nil, fun _ _ _ _ _ => j_var 12⟩)) (ja1_nil)))) (J.r (j_b (c_sum rfl) T.z_sum PyProof.Rows.boot_sum (ja1_cons (JF.r (jf_lcE (own := [("_law_name_here", 15)]) rfl nd (j_var 1) ⟨blkOk_by (own := [("_law_name_here", 15)]) (by first | (show blkC ["_law_script", "_law_book_here", "_law_order", "_law_rows", "_law_pairs_here", "_law_more", "_law_sums", "_law_twice", "_law_due", "_law_ends", "_law_end", "_law_letter", "_law_many", "_law_places", "_law_key", "_law_name_here", "_law_row"] (defScope (topS 27)) _ _ = true; decide +kernel) | rfl), fun _ _ _ _ _ => jg_n nd, fun _ _ _ _ _ => jifs_nil, fun _ _ _ _ _ => j_op o_add (J.r (j_b c_len T.z_len PySem.boot_len (ja1_cons (J.r (j_var 15)) (ja1_nil)))) (J.r (j_int))⟩)) (ja1_nil))))) (js_one (js_ret (j_bl))) (js_nil)) (js_cons (js_forE passes_D rfl bdT_ok (j_var 4) (jg_tK (K := K) rfl rfl (jgs_cons nd (jgs_cons nd (jgs_cons nd (jgs_nil))))) (js_cons (js_lcE 13 (own := [("_law_name_here", 15)]) rfl nd (j_var 1) ⟨blkOk_by (own := [("_law_name_here", 15)]) (by first | (show blkC ["_law_script", "_law_book_here", "_law_order", "_law_rows", "_law_pairs_here", "_law_more", "_law_sums", "_law_twice", "_law_due", "_law_ends", "_law_end", "_law_letter", "_law_many", "_law_places", "_law_key", "_law_name_here", "_law_row"] (defScope (topS 27)) _ _ = true; decide +kernel) | rfl), fun _ _ _ _ _ => jg_n nd, fun _ _ _ _ _ => jifs_oneK (K := K) rfl (jt_cmp (o_in hu65) (J.r (j_op o_add (J.r (j_var 10)) (J.r (j_var 11)))) (J.r (j_var 15))), fun _ _ _ _ _ => j_var 15⟩) (js_one (js_if (JW.t (jw_or (jt_cmp (o_eq hu64) (jr_rd 13) (JF.r (jf_lst (ja_nil)))) (jw_or (jt_cmp o_lt (J.r (j_var 12)) (J.r (j_int))) (jw_or1 (JW.t (jw_and (jt_cmp (o_eq hu64) (J.r (j_var 11)) (J.r (j_str))) (jw_and1 (jt_cmp (o_eq hu64) (JF.r (jf_lcE (own := [("_law_name_here", 15)]) rfl nd (j_var 1) ⟨blkOk_by (own := [("_law_name_here", 15)]) (by first | (show blkC ["_law_script", "_law_book_here", "_law_order", "_law_rows", "_law_pairs_here", "_law_more", "_law_sums", "_law_twice", "_law_due", "_law_ends", "_law_end", "_law_letter", "_law_many", "_law_places", "_law_key", "_law_name_here", "_law_row"] (defScope (topS 27)) _ _ = true; decide +kernel) | rfl), fun _ _ _ _ _ => jg_n nd, fun _ _ _ _ _ => jifs_oneK (K := K) rfl (jt_val (j_ew (J.r (j_var 15)) (J.r (j_var 10)))), fun _ _ _ _ _ => j_var 15⟩)) (JF.r (jf_lst (ja_nil))))))))))) (js_one (js_ret (j_bl))) (js_nil))))) (js_cons (js_set nd (j_call (ok__law_pairs T) (hr.mono (by decide)) T.m__law_pairs T.F__law_pairs.kp T.b__law_pairs takes_D (ja_cons (j_call (ok_table T) (hr.mono (by decide)) T.m_table T.F_table.kp T.b_table takes_D (ja_cons (j_var 1) (ja_cons (j_op o_add (J.r (j_var 2)) (J.r (j_int))) (ja_nil))) (bCons_len (bCons_len bNil_len))) (ja_nil)) (bCons_len bNil_len))) (jss_sums passes_D rfl nd hu64 T.z_dict (jg_tK (K := K) rfl rfl (jgs_cons nd (jgs_cons nd (jgs_cons nd (jgs_nil))))) (ja_cons (j_slice (J.r (j_var 10)) (jo_some (J.r (j_b (c_max rfl) T.z_max PyProof.Rows.boot_max (ja1_cons (J.r (j_int)) (ja1_cons (J.r (j_op o_sub (J.r (j_b c_len T.z_len PySem.boot_len (ja1_cons (J.r (j_var 10)) (ja1_nil)))) (J.r (j_var 2)))) (ja1_nil)))))) (jo_none)) (ja_cons (j_var 11) (ja_nil))) (jf_lcE (own := [("_law_end", 10), ("_law_letter", 11), ("_law_many", 12)]) rfl nd (j_var 4) ⟨blkOk_by (own := [("_law_end", 10), ("_law_letter", 11), ("_law_many", 12)]) (by first | (show blkC ["_law_script", "_law_book_here", "_law_order", "_law_rows", "_law_pairs_here", "_law_more", "_law_sums", "_law_twice", "_law_due", "_law_ends", "_law_end", "_law_letter", "_law_many", "_law_places", "_law_key", "_law_name_here", "_law_row"] (defScope (topS 27)) _ _ = true; decide +kernel) | rfl), fun _ _ _ _ _ => jg_tK (K := K) rfl rfl (jgs_cons nd (jgs_cons nd (jgs_cons nd (jgs_nil)))), fun _ _ _ _ _ => jifs_nil, fun _ _ _ _ _ => j_tup (ja_cons (j_tup (ja_cons (j_var 10) (ja_cons (j_var 11) (ja_nil)))) (ja_cons (j_var 12) (ja_nil)))⟩) (js_cons (js_set nd (j_call (ok__law_pairs T) (hr.mono (by decide)) T.m__law_pairs T.F__law_pairs.kp T.b__law_pairs takes_D (ja_cons (j_call (ok_table T) (hr.mono (by decide)) T.m_table T.F_table.kp T.b_table takes_D (ja_cons (j_op o_add (J.r (j_var 1)) (J.r (j_var 1))) (ja_cons (j_var 2) (ja_nil))) (bCons_len (bCons_len bNil_len))) (ja_nil)) (bCons_len bNil_len))) (js_cons (js_lcE 8 (own := [("_law_end", 10), ("_law_letter", 11), ("_law_many", 12)]) rfl nd (j_var 4) ⟨blkOk_by (own := [("_law_end", 10), ("_law_letter", 11), ("_law_many", 12)]) (by first | (show blkC ["_law_script", "_law_book_here", "_law_order", "_law_rows", "_law_pairs_here", "_law_more", "_law_sums", "_law_twice", "_law_due", "_law_ends", "_law_end", "_law_letter", "_law_many", "_law_places", "_law_key", "_law_name_here", "_law_row"] (defScope (topS 27)) _ _ = true; decide +kernel) | rfl), fun _ _ _ _ _ => jg_tK (K := K) rfl rfl (jgs_cons nd (jgs_cons nd (jgs_cons nd (jgs_nil)))), fun _ _ _ _ _ => jifs_nil, fun _ _ _ _ _ => j_tup (ja_cons (j_var 10) (ja_cons (j_var 11) (ja_cons (j_op o_mul (J.r (j_int)) (J.r (j_var 12))) (ja_nil))))⟩) (js_cons (js_if (JW.t (jw_or (jt_cmp (o_ne hu64) (J.r (j_var 7)) (jr_rd 8)) (jw_or1 (jt_cmp (o_ne hu64) (J.r (j_call (ok_table T) (hr.mono (by decide)) T.m_table T.F_table.kp T.b_table takes_D (ja_cons (j_rev (J.r (j_var 1))) (ja_cons (j_var 2) (ja_nil))) (bCons_len (bCons_len bNil_len)))) (J.r (j_var 3)))))) (js_one (js_ret (j_bl))) (js_nil)) (js_cons (js_lcE 9 (own := [("_law_end", 10), ("_law_row", 16)]) rfl nd (j_var 3) ⟨blkOk_by (own := [("_law_end", 10), ("_law_row", 16)]) (by first | (show blkC ["_law_script", "_law_book_here", "_law_order", "_law_rows", "_law_pairs_here", "_law_more", "_law_sums", "_law_twice", "_law_due", "_law_ends", "_law_end", "_law_letter", "_law_many", "_law_places", "_law_key", "_law_name_here", "_law_row"] (defScope (topS 27)) _ _ = true; decide +kernel) | rfl), fun _ _ _ _ _ => jg_tK (K := K) rfl rfl (jgs_cons nd (jgs_cons nd (jgs_nil))), fun _ _ _ _ _ => jifs_nil, fun _ _ _ _ _ => j_var 10⟩) (js_cons (js_if (JW.t (jw_or (jt_cmp (o_ne hu64) (jr_rd 9) (JF.r (jf_sortset rfl T.z_sorted T.z_set (jr_rd 9)))) (jw_or1 (jt_cmp (o_ne hu64) (JF.r (jf_lcE (own := [("_law_end", 10), ("_law_row", 16)]) rfl nd (j_var 3) ⟨blkOk_by (own := [("_law_end", 10), ("_law_row", 16)]) (by first | (show blkC ["_law_script", "_law_book_here", "_law_order", "_law_rows", "_law_pairs_here", "_law_more", "_law_sums", "_law_twice", "_law_due", "_law_ends", "_law_end", "_law_letter", "_law_many", "_law_places", "_law_key", "_law_name_here", "_law_row"] (defScope (topS 27)) _ _ = true; decide +kernel) | rfl), fun _ _ _ _ _ => jg_tK (K := K) rfl rfl (jgs_cons nd (jgs_cons nd (jgs_nil))), fun _ _ _ _ _ => jifs_oneK (K := K) rfl (jt_cmp (o_ne hu64) (JF.r (jf_ty c_list T.z_list PyProof.Rows.boot_list (ja1_cons (J.r (j_var 16)) (ja1_nil)))) (JF.r (jf_sortsetP rfl hu64 T.z_sorted T.z_set (J.r (j_var 16))))), fun _ _ _ _ _ => j_var 16⟩)) (JF.r (jf_lst (ja_nil))))))) (js_one (js_ret (j_bl))) (js_nil)) (js_one (js_ret (j_cmp (o_eq hu64) (JF.r (jf_lcE (own := [("_law_end", 10), ("_law_row", 16)]) rfl nd (j_var 3) ⟨blkOk_by (own := [("_law_end", 10), ("_law_row", 16)]) (by first | (show blkC ["_law_script", "_law_book_here", "_law_order", "_law_rows", "_law_pairs_here", "_law_more", "_law_sums", "_law_twice", "_law_due", "_law_ends", "_law_end", "_law_letter", "_law_many", "_law_places", "_law_key", "_law_name_here", "_law_row"] (defScope (topS 27)) _ _ = true; decide +kernel) | rfl), fun _ _ _ _ _ => jg_tK (K := K) rfl rfl (jgs_cons nd (jgs_cons nd (jgs_nil))), fun _ _ _ _ _ => jifs_oneK (K := K) rfl (jt_cmp (o_ne hu64) (J.r (j_call (ok_behind T) (hr.mono (by decide)) T.m_behind T.F_behind.kp T.b_behind takes_W0 (ja_cons (j_var 1) (ja_cons (j_var 2) (ja_cons (j_var 10) (ja_nil)))) (bCons_len (bCons_len (bCons_len bNil_len))))) (JF.r (jf_ty c_list T.z_list PyProof.Rows.boot_list (ja1_cons (J.r (j_var 16)) (ja1_nil))))), fun _ _ _ _ _ => j_var 10⟩)) (JF.r (jf_lst (ja_nil))))))))))))))))))))
end
theorem all_mk {l : PySem.W.OpenLaw} {w : World} {K : PySem.W.Frag} {h : Heap} {mg : Str → Option Value} {fa : Addr} (X : K.In h) (G : h.Ns mainGlobals mg) (hfa : mg "law" = some (.ref fa))
    {f0 : Addr} {od0 an0 : Option Addr} {sl0 : Array (Option Value)} {oc0 kV0 dc0 pm0 cd0 ct0 : Value}
    (a0 : PySem.W.nsIn K mainGlobals "_law_cell" = some (some (.ref f0))) (l0 : K.lookup f0 = some ⟨oc0, od0, .func (PySem.W.fnOf "_law_cell" "_law_cell" (defArgs (topS 22)) (defBody (topS 22)) (defScope (topS 22)) .none kV0 dc0 pm0 an0 cd0 ct0), sl0⟩) (c0 : PySem.W.codeIn K cd0 "_law_cell" = true) (k0 : PySem.W.keepIn K (.ref f0) = true)
    {f1 : Addr} {od1 an1 : Option Addr} {sl1 : Array (Option Value)} {oc1 kV1 dc1 pm1 cd1 ct1 : Value}
    (a1 : PySem.W.nsIn K mainGlobals "_law_drawn" = some (some (.ref f1))) (l1 : K.lookup f1 = some ⟨oc1, od1, .func (PySem.W.fnOf "_law_drawn" "_law_drawn" (defArgs (topS 23)) (defBody (topS 23)) (defScope (topS 23)) .none kV1 dc1 pm1 an1 cd1 ct1), sl1⟩) (c1 : PySem.W.codeIn K cd1 "_law_drawn" = true) (k1 : PySem.W.keepIn K (.ref f1) = true)
    {f2 : Addr} {od2 an2 : Option Addr} {sl2 : Array (Option Value)} {oc2 kV2 dc2 pm2 cd2 ct2 : Value}
    (a2 : PySem.W.nsIn K mainGlobals "_law_name" = some (some (.ref f2))) (l2 : K.lookup f2 = some ⟨oc2, od2, .func (PySem.W.fnOf "_law_name" "_law_name" (defArgs (topS 24)) (defBody (topS 24)) (defScope (topS 24)) .none kV2 dc2 pm2 an2 cd2 ct2), sl2⟩) (c2 : PySem.W.codeIn K cd2 "_law_name" = true) (k2 : PySem.W.keepIn K (.ref f2) = true)
    {f3 : Addr} {od3 an3 : Option Addr} {sl3 : Array (Option Value)} {oc3 kV3 dc3 pm3 cd3 ct3 : Value}
    (a3 : PySem.W.nsIn K mainGlobals "_law_book" = some (some (.ref f3))) (l3 : K.lookup f3 = some ⟨oc3, od3, .func (PySem.W.fnOf "_law_book" "_law_book" (defArgs (topS 25)) (defBody (topS 25)) (defScope (topS 25)) .none kV3 dc3 pm3 an3 cd3 ct3), sl3⟩) (c3 : PySem.W.codeIn K cd3 "_law_book" = true) (k3 : PySem.W.keepIn K (.ref f3) = true)
    {f4 : Addr} {od4 an4 : Option Addr} {sl4 : Array (Option Value)} {oc4 kV4 dc4 pm4 cd4 ct4 : Value}
    (a4 : PySem.W.nsIn K mainGlobals "_law_pairs" = some (some (.ref f4))) (l4 : K.lookup f4 = some ⟨oc4, od4, .func (PySem.W.fnOf "_law_pairs" "_law_pairs" (defArgs (topS 26)) (defBody (topS 26)) (defScope (topS 26)) .none kV4 dc4 pm4 an4 cd4 ct4), sl4⟩) (c4 : PySem.W.codeIn K cd4 "_law_pairs" = true) (k4 : PySem.W.keepIn K (.ref f4) = true)
    {f5 : Addr} {od5 an5 : Option Addr} {sl5 : Array (Option Value)} {oc5 kV5 dc5 pm5 cd5 ct5 : Value}
    (a5 : PySem.W.nsIn K mainGlobals "end_of" = some (some (.ref f5))) (l5 : K.lookup f5 = some ⟨oc5, od5, .func (PySem.W.fnOf "end_of" "end_of" (defArgs (topS 16)) (defBody (topS 16)) (defScope (topS 16)) .none kV5 dc5 pm5 an5 cd5 ct5), sl5⟩) (c5 : PySem.W.codeIn K cd5 "end_of" = true) (k5 : PySem.W.keepIn K (.ref f5) = true)
    {f6 : Addr} {od6 an6 : Option Addr} {sl6 : Array (Option Value)} {oc6 kV6 dc6 pm6 cd6 ct6 : Value}
    (a6 : PySem.W.nsIn K mainGlobals "counted" = some (some (.ref f6))) (l6 : K.lookup f6 = some ⟨oc6, od6, .func (PySem.W.fnOf "counted" "counted" (defArgs (topS 17)) (defBody (topS 17)) (defScope (topS 17)) .none kV6 dc6 pm6 an6 cd6 ct6), sl6⟩) (c6 : PySem.W.codeIn K cd6 "counted" = true) (k6 : PySem.W.keepIn K (.ref f6) = true)
    {f7 : Addr} {od7 an7 : Option Addr} {sl7 : Array (Option Value)} {oc7 kV7 dc7 pm7 cd7 ct7 : Value}
    (a7 : PySem.W.nsIn K mainGlobals "listed" = some (some (.ref f7))) (l7 : K.lookup f7 = some ⟨oc7, od7, .func (PySem.W.fnOf "listed" "listed" (defArgs (topS 18)) (defBody (topS 18)) (defScope (topS 18)) .none kV7 dc7 pm7 an7 cd7 ct7), sl7⟩) (c7 : PySem.W.codeIn K cd7 "listed" = true) (k7 : PySem.W.keepIn K (.ref f7) = true)
    {f8 : Addr} {od8 an8 : Option Addr} {sl8 : Array (Option Value)} {oc8 kV8 dc8 pm8 cd8 ct8 : Value}
    (a8 : PySem.W.nsIn K mainGlobals "is_name" = some (some (.ref f8))) (l8 : K.lookup f8 = some ⟨oc8, od8, .func (PySem.W.fnOf "is_name" "is_name" (defArgs (topS 11)) (defBody (topS 11)) (defScope (topS 11)) .none kV8 dc8 pm8 an8 cd8 ct8), sl8⟩) (c8 : PySem.W.codeIn K cd8 "is_name" = true) (k8 : PySem.W.keepIn K (.ref f8) = true)
    {f9 : Addr} {od9 an9 : Option Addr} {sl9 : Array (Option Value)} {oc9 kV9 dc9 pm9 cd9 ct9 : Value}
    (a9 : PySem.W.nsIn K mainGlobals "is_book" = some (some (.ref f9))) (l9 : K.lookup f9 = some ⟨oc9, od9, .func (PySem.W.fnOf "is_book" "is_book" (defArgs (topS 12)) (defBody (topS 12)) (defScope (topS 12)) .none kV9 dc9 pm9 an9 cd9 ct9), sl9⟩) (c9 : PySem.W.codeIn K cd9 "is_book" = true) (k9 : PySem.W.keepIn K (.ref f9) = true)
    {f10 : Addr} {od10 an10 : Option Addr} {sl10 : Array (Option Value)} {oc10 kV10 dc10 pm10 cd10 ct10 : Value}
    (a10 : PySem.W.nsIn K mainGlobals "need_book" = some (some (.ref f10))) (l10 : K.lookup f10 = some ⟨oc10, od10, .func (PySem.W.fnOf "need_book" "need_book" (defArgs (topS 13)) (defBody (topS 13)) (defScope (topS 13)) .none kV10 dc10 pm10 an10 cd10 ct10), sl10⟩) (c10 : PySem.W.codeIn K cd10 "need_book" = true) (k10 : PySem.W.keepIn K (.ref f10) = true)
    {f11 : Addr} {od11 an11 : Option Addr} {sl11 : Array (Option Value)} {oc11 kV11 dc11 pm11 cd11 ct11 : Value}
    (a11 : PySem.W.nsIn K mainGlobals "need_name" = some (some (.ref f11))) (l11 : K.lookup f11 = some ⟨oc11, od11, .func (PySem.W.fnOf "need_name" "need_name" (defArgs (topS 15)) (defBody (topS 15)) (defScope (topS 15)) .none kV11 dc11 pm11 an11 cd11 ct11), sl11⟩) (c11 : PySem.W.codeIn K cd11 "need_name" = true) (k11 : PySem.W.keepIn K (.ref f11) = true)
    {f12 : Addr} {od12 an12 : Option Addr} {sl12 : Array (Option Value)} {oc12 kV12 dc12 pm12 cd12 ct12 : Value}
    (a12 : PySem.W.nsIn K mainGlobals "is_number" = some (some (.ref f12))) (l12 : K.lookup f12 = some ⟨oc12, od12, .func (PySem.W.fnOf "is_number" "is_number" (defArgs (topS 10)) (defBody (topS 10)) (defScope (topS 10)) .none kV12 dc12 pm12 an12 cd12 ct12), sl12⟩) (c12 : PySem.W.codeIn K cd12 "is_number" = true) (k12 : PySem.W.keepIn K (.ref f12) = true)
    {f13 : Addr} {od13 an13 : Option Addr} {sl13 : Array (Option Value)} {oc13 kV13 dc13 pm13 cd13 ct13 : Value}
    (a13 : PySem.W.nsIn K mainGlobals "need_order" = some (some (.ref f13))) (l13 : K.lookup f13 = some ⟨oc13, od13, .func (PySem.W.fnOf "need_order" "need_order" (defArgs (topS 14)) (defBody (topS 14)) (defScope (topS 14)) .none kV13 dc13 pm13 an13 cd13 ct13), sl13⟩) (c13 : PySem.W.codeIn K cd13 "need_order" = true) (k13 : PySem.W.keepIn K (.ref f13) = true)
    {f14 : Addr} {od14 an14 : Option Addr} {sl14 : Array (Option Value)} {oc14 kV14 dc14 pm14 cd14 ct14 : Value}
    (a14 : PySem.W.nsIn K mainGlobals "behind" = some (some (.ref f14))) (l14 : K.lookup f14 = some ⟨oc14, od14, .func (PySem.W.fnOf "behind" "behind" (defArgs (topS 20)) (defBody (topS 20)) (defScope (topS 20)) .none kV14 dc14 pm14 an14 cd14 ct14), sl14⟩) (c14 : PySem.W.codeIn K cd14 "behind" = true) (k14 : PySem.W.keepIn K (.ref f14) = true)
    {f15 : Addr} {od15 an15 : Option Addr} {sl15 : Array (Option Value)} {oc15 kV15 dc15 pm15 cd15 ct15 : Value}
    (a15 : PySem.W.nsIn K mainGlobals "table" = some (some (.ref f15))) (l15 : K.lookup f15 = some ⟨oc15, od15, .func (PySem.W.fnOf "table" "table" (defArgs (topS 19)) (defBody (topS 19)) (defScope (topS 19)) .none kV15 dc15 pm15 an15 cd15 ct15), sl15⟩) (c15 : PySem.W.codeIn K cd15 "table" = true) (k15 : PySem.W.keepIn K (.ref f15) = true)
    {f16 : Addr} {od16 an16 : Option Addr} {sl16 : Array (Option Value)} {oc16 kV16 dc16 pm16 cd16 ct16 : Value}
    (a16 : PySem.W.nsIn K mainGlobals "law" = some (some (.ref f16))) (l16 : K.lookup f16 = some ⟨oc16, od16, .func (PySem.W.fnOf "law" "law" (defArgs (topS 27)) (defBody (topS 27)) (defScope (topS 27)) .none kV16 dc16 pm16 an16 cd16 ct16), sl16⟩) (c16 : PySem.W.codeIn K cd16 "law" = true) (k16 : PySem.W.keepIn K (.ref f16) = true)
    (z_all : PySem.W.nsIn K mainGlobals "all" = some none)
    (z_bool : PySem.W.nsIn K mainGlobals "bool" = some none)
    (z_dict : PySem.W.nsIn K mainGlobals "dict" = some none)
    (z_int : PySem.W.nsIn K mainGlobals "int" = some none)
    (z_isinstance : PySem.W.nsIn K mainGlobals "isinstance" = some none)
    (z_len : PySem.W.nsIn K mainGlobals "len" = some none)
    (z_list : PySem.W.nsIn K mainGlobals "list" = some none)
    (z_max : PySem.W.nsIn K mainGlobals "max" = some none)
    (z_range : PySem.W.nsIn K mainGlobals "range" = some none)
    (z_set : PySem.W.nsIn K mainGlobals "set" = some none)
    (z_sorted : PySem.W.nsIn K mainGlobals "sorted" = some none)
    (z_str : PySem.W.nsIn K mainGlobals "str" = some none)
    (z_sum : PySem.W.nsIn K mainGlobals "sum" = some none)
    (z_tuple : PySem.W.nsIn K mainGlobals "tuple" = some none)
    {t_LETTERS : Tok} (g_LETTERS : PySem.W.nsIn K mainGlobals "LETTERS" = some (some (.str (toS [97, 98, 99, 100, 101, 102, 103, 104, 105, 106, 107, 108, 109, 110, 111, 112, 113, 114, 115, 116, 117, 118, 119, 120, 121, 122]) t_LETTERS)))
    {t_MOST_LETTERS : Tok} (g_MOST_LETTERS : PySem.W.nsIn K mainGlobals "MOST_LETTERS" = some (some (.int 8 t_MOST_LETTERS)))
    {t_MOST_NAMES : Tok} (g_MOST_NAMES : PySem.W.nsIn K mainGlobals "MOST_NAMES" = some (some (.int 8 t_MOST_NAMES)))
    {t_MOST_ORDER : Tok} (g_MOST_ORDER : PySem.W.nsIn K mainGlobals "MOST_ORDER" = some (some (.int 3 t_MOST_ORDER)))
    {e0 e1 e2 eL : Addr} (EL : ErrL K eL) (E0 : ErrOne K "NoBook" e0 eL) (E1 : ErrOne K "NoOrder" e1 eL) (E2 : ErrOne K "NoName" e2 eL) (ES : ErrSub K e0 e1 e2)
    : ∃ fd : FuncData, (∀ (s : Shared) (v : Value), BindsTo s fd ⟨[v], []⟩ [("_law_script", v)]) ∧ ∀ base : Heap, K.In base → base.Ns mainGlobals mg → FnOk l.prog w K mg base (L2.CX l.prog w) 5 fa fd ["_law_script"] (spOk K 1 g_law_k02) := by
  have e := hfa.symm.trans (PySem.W.mg_of X G a16)
  cases e
  have F0 := fun_mk (st := (topS 22)) l0 c0 k0
  have F1 := fun_mk (st := (topS 23)) l1 c1 k1
  have F2 := fun_mk (st := (topS 24)) l2 c2 k2
  have F3 := fun_mk (st := (topS 25)) l3 c3 k3
  have F4 := fun_mk (st := (topS 26)) l4 c4 k4
  have F5 := fun_mk (st := (topS 16)) l5 c5 k5
  have F6 := fun_mk (st := (topS 17)) l6 c6 k6
  have F7 := fun_mk (st := (topS 18)) l7 c7 k7
  have F8 := fun_mk (st := (topS 11)) l8 c8 k8
  have F9 := fun_mk (st := (topS 12)) l9 c9 k9
  have F10 := fun_mk (st := (topS 13)) l10 c10 k10
  have F11 := fun_mk (st := (topS 15)) l11 c11 k11
  have F12 := fun_mk (st := (topS 10)) l12 c12 k12
  have F13 := fun_mk (st := (topS 14)) l13 c13 k13
  have F14 := fun_mk (st := (topS 20)) l14 c14 k14
  have F15 := fun_mk (st := (topS 19)) l15 c15 k15
  have F16 := fun_mk (st := (topS 27)) l16 c16 k16
  refine ⟨_, fun s v => .of_eq rfl, fun base _ _ => (ok_law {
    er := errs_mk X G EL E0 E1 E2 ES,
    f__law_cell := f0,
    fd__law_cell := _,
    F__law_cell := F0,
    b__law_cell := (F0.binds (ps := ["_law_script", "_law_k"]) fun _ _ _ _ _ _ us hl => match us, hl with | [_, _], _ => rfl),
    m__law_cell := PySem.W.mg_of X G a0,
    f__law_drawn := f1,
    fd__law_drawn := _,
    F__law_drawn := F1,
    b__law_drawn := (F1.binds (ps := ["_law_script", "_law_k", "_law_many"]) fun _ _ _ _ _ _ us hl => match us, hl with | [_, _, _], _ => rfl),
    m__law_drawn := PySem.W.mg_of X G a1,
    f__law_name := f2,
    fd__law_name := _,
    F__law_name := F2,
    b__law_name := (F2.binds (ps := ["_law_script", "_law_at", "_law_most"]) fun _ _ _ _ _ _ us hl => match us, hl with | [_, _, _], _ => rfl),
    m__law_name := PySem.W.mg_of X G a2,
    f__law_book := f3,
    fd__law_book := _,
    F__law_book := F3,
    b__law_book := (F3.binds (ps := ["_law_script", "_law_at", "_law_many", "_law_most"]) fun _ _ _ _ _ _ us hl => match us, hl with | [_, _, _, _], _ => rfl),
    m__law_book := PySem.W.mg_of X G a3,
    f__law_pairs := f4,
    fd__law_pairs := _,
    F__law_pairs := F4,
    b__law_pairs := (F4.binds (ps := ["_law_rows"]) fun _ _ _ _ _ _ us hl => match us, hl with | [_], _ => rfl),
    m__law_pairs := PySem.W.mg_of X G a4,
    f_end_of := f5,
    fd_end_of := _,
    F_end_of := F5,
    b_end_of := (F5.binds (ps := ["order", "text"]) fun _ _ _ _ _ _ us hl => match us, hl with | [_, _], _ => rfl),
    m_end_of := PySem.W.mg_of X G a5,
    f_counted := f6,
    fd_counted := _,
    F_counted := F6,
    b_counted := (F6.binds (ps := ["book", "order"]) fun _ _ _ _ _ _ us hl => match us, hl with | [_, _], _ => rfl),
    m_counted := PySem.W.mg_of X G a6,
    f_listed := f7,
    fd_listed := _,
    F_listed := F7,
    b_listed := (F7.binds (ps := ["row"]) fun _ _ _ _ _ _ us hl => match us, hl with | [_], _ => rfl),
    m_listed := PySem.W.mg_of X G a7,
    f_is_name := f8,
    fd_is_name := _,
    F_is_name := F8,
    b_is_name := (F8.binds (ps := ["thing"]) fun _ _ _ _ _ _ us hl => match us, hl with | [_], _ => rfl),
    m_is_name := PySem.W.mg_of X G a8,
    f_is_book := f9,
    fd_is_book := _,
    F_is_book := F9,
    b_is_book := (F9.binds (ps := ["thing"]) fun _ _ _ _ _ _ us hl => match us, hl with | [_], _ => rfl),
    m_is_book := PySem.W.mg_of X G a9,
    f_need_book := f10,
    fd_need_book := _,
    F_need_book := F10,
    b_need_book := (F10.binds (ps := ["book"]) fun _ _ _ _ _ _ us hl => match us, hl with | [_], _ => rfl),
    m_need_book := PySem.W.mg_of X G a10,
    f_need_name := f11,
    fd_need_name := _,
    F_need_name := F11,
    b_need_name := (F11.binds (ps := ["name"]) fun _ _ _ _ _ _ us hl => match us, hl with | [_], _ => rfl),
    m_need_name := PySem.W.mg_of X G a11,
    f_is_number := f12,
    fd_is_number := _,
    F_is_number := F12,
    b_is_number := (F12.binds (ps := ["thing", "low", "high"]) fun _ _ _ _ _ _ us hl => match us, hl with | [_, _, _], _ => rfl),
    m_is_number := PySem.W.mg_of X G a12,
    f_need_order := f13,
    fd_need_order := _,
    F_need_order := F13,
    b_need_order := (F13.binds (ps := ["order"]) fun _ _ _ _ _ _ us hl => match us, hl with | [_], _ => rfl),
    m_need_order := PySem.W.mg_of X G a13,
    f_behind := f14,
    fd_behind := _,
    F_behind := F14,
    b_behind := (F14.binds (ps := ["book", "order", "text"]) fun _ _ _ _ _ _ us hl => match us, hl with | [_, _, _], _ => rfl),
    m_behind := PySem.W.mg_of X G a14,
    f_table := f15,
    fd_table := _,
    F_table := F15,
    b_table := (F15.binds (ps := ["book", "order"]) fun _ _ _ _ _ _ us hl => match us, hl with | [_, _], _ => rfl),
    m_table := PySem.W.mg_of X G a15,
    f_law := fa,
    fd_law := _,
    F_law := F16,
    b_law := (F16.binds (ps := ["_law_script"]) fun _ _ _ _ _ _ us hl => match us, hl with | [_], _ => rfl),
    m_law := PySem.W.mg_of X G a16,
    z_all := PySem.W.mg_none_of X G z_all,
    z_bool := PySem.W.mg_none_of X G z_bool,
    z_dict := PySem.W.mg_none_of X G z_dict,
    z_int := PySem.W.mg_none_of X G z_int,
    z_isinstance := PySem.W.mg_none_of X G z_isinstance,
    z_len := PySem.W.mg_none_of X G z_len,
    z_list := PySem.W.mg_none_of X G z_list,
    z_max := PySem.W.mg_none_of X G z_max,
    z_range := PySem.W.mg_none_of X G z_range,
    z_set := PySem.W.mg_none_of X G z_set,
    z_sorted := PySem.W.mg_none_of X G z_sorted,
    z_str := PySem.W.mg_none_of X G z_str,
    z_sum := PySem.W.mg_none_of X G z_sum,
    z_tuple := PySem.W.mg_none_of X G z_tuple,
    g_LETTERS := ⟨_, PySem.W.mg_of X G g_LETTERS⟩,
    g_MOST_LETTERS := ⟨_, PySem.W.mg_of X G g_MOST_LETTERS⟩,
    g_MOST_NAMES := ⟨_, PySem.W.mg_of X G g_MOST_NAMES⟩,
    g_MOST_ORDER := ⟨_, PySem.W.mg_of X G g_MOST_ORDER⟩ }).imp spOk_D⟩
end KN
set_option maxHeartbeats 1000000
/-! K02P: a table's rows laid end to end, their sums; no program in sight -/
namespace KN
open PySem PySem.Spec PyProof.Rows L2
noncomputable section
/-! ### the contexts of a table -/
def cxs (es : List Ev) : List Tx := sortT (ks (tabOf es))
theorem cxs_mem {es : List Ev} {c : Tx} : c ∈ cxs es ↔ ∃ l, (c, l) ∈ es := by
  unfold cxs
  rw [(sortT_perm _).mem_iff]
  constructor
  · intro h
    refine Classical.byContradiction fun z => ?_
    exact lk_none.mp (((tabOk es).key c).mpr fun l hl => z ⟨l, hl⟩) h
  · rintro ⟨l, hl⟩
    refine Classical.byContradiction fun z => ?_
    exact ((tabOk es).key c).mp (lk_none.mpr z) l hl
theorem cxs_nd (es : List Ev) : (cxs es).Nodup := (sortT_perm _).nodup_iff.mpr (tabOk es).nd
theorem cxs_pw (es : List Ev) : (cxs es).Pairwise (fun a b => leT a b = true) := sortT_pw _
theorem cxs_congr {es fs : List Ev} (h : ∀ e, e ∈ es ↔ e ∈ fs) : cxs es = cxs fs := by
  refine sorted_uniq (fun _ _ => leT_anti) ((List.perm_ext_iff_of_nodup (cxs_nd es) (cxs_nd fs)).mpr fun c => ?_) (cxs_pw es) (cxs_pw fs)
  rw [cxs_mem, cxs_mem]
  exact exists_congr fun l => h (c, l)
theorem cxs_len (es : List Ev) : (cxs es).length ≤ es.length := by
  unfold cxs
  rw [(sortT_perm _).length_eq]
  have h3 : (ks (tabOf es)).length = (tabOf es).length := by simp [ks]
  rw [h3]
  exact (tabOk es).len
theorem cxs_self (es : List Ev) : sortT (cxs es).eraseDups = cxs es := by
  have e : (cxs es).eraseDups = cxs es := by
    have nd := cxs_nd es
    generalize cxs es = l at nd
    induction l with
    | nil => rfl
    | cons a l ih =>
      rw [List.nodup_cons] at nd
      rw [List.eraseDups_cons]
      have : l.filter (fun b => !(b == a)) = l := List.filter_eq_self.mpr fun b hb => by
        have : b ≠ a := fun z => nd.1 (z ▸ hb)
        simpa using this
      rw [this, ih nd.2]
  rw [e]
  exact List.mergeSort_of_pairwise (cxs_pw es)
theorem tableD_cxs (es : List Ev) : tableD es = .lst ((cxs es).map fun c => .tup [.str c, .tup (rowT (rowL es c))]) := rfl
theorem tableD_congr {es fs : List Ev} (h : ∀ e, es.count e = fs.count e) : tableD es = tableD fs := by
  have hm : ∀ e, e ∈ es ↔ e ∈ fs := fun e => by
    have h1 : 0 < es.count e ↔ e ∈ es := List.count_pos_iff
    have h2 : 0 < fs.count e ↔ e ∈ fs := List.count_pos_iff
    rw [← h1, ← h2, h e]
  rw [tableD_cxs, tableD_cxs, cxs_congr hm]
  have hf : (fun c => D.tup [.str c, .tup (rowT (rowL es c))]) = fun c => D.tup [.str c, .tup (rowT (rowL fs c))] := by
    funext c
    rw [rowL_congr h c]
  rw [hf]
/-! ### all rows, end to end -/
theorem rowL_mem {es : List Ev} {c : Tx} {e : Tx × Int} : e ∈ rowL es c ↔ (c, e.1) ∈ es ∧ e.2 = (es.count (c, e.1) : Nat) := by
  have nd := (rowL_ss es c).nd
  constructor
  · intro h
    have := mem_lk nd (show (e.1, e.2) ∈ rowL es c from h)
    rw [rowL_lk] at this
    split at this
    · cases this
    · rename_i z
      exact ⟨List.count_pos_iff.mp (by omega), (Option.some.inj this).symm⟩
  · rintro ⟨h1, h2⟩
    have := List.count_pos_iff.mpr h1
    have : lk (rowL es c) e.1 = some e.2 := by rw [rowL_lk, if_neg (by omega), h2]
    exact lk_mem this
abbrev Tr := Ev × Int
def prs (es : List Ev) : List Tr := (cxs es).flatMap fun c => (rowL es c).map fun e => ((c, e.1), e.2)
theorem prs_mem {es : List Ev} {t : Tr} : t ∈ prs es ↔ t.1 ∈ es ∧ t.2 = (es.count t.1 : Nat) := by
  unfold prs
  rw [List.mem_flatMap]
  constructor
  · rintro ⟨c, hc, h⟩
    obtain ⟨e, he, rfl⟩ := List.mem_map.mp h
    exact rowL_mem.mp he
  · rintro ⟨h1, h2⟩
    exact ⟨t.1.1, cxs_mem.mpr ⟨t.1.2, h1⟩, List.mem_map.mpr ⟨(t.1.2, t.2), rowL_mem.mpr ⟨h1, h2⟩, rfl⟩⟩
theorem prs_nd (es : List Ev) : ((prs es).map (·.1)).Nodup := by
  unfold prs
  rw [List.map_flatMap]
  unfold List.Nodup
  rw [List.pairwise_flatMap]
  constructor
  · intro c _
    rw [List.map_map, List.pairwise_map]
    have := (rowL_ss es c).nd
    unfold ks at this
    exact (List.pairwise_map.mp this).imp fun h z => h (congrArg (·.2) z)
  · refine (cxs_nd es).imp fun {a b} h x hx y hy z => ?_
    rw [List.map_map] at hx hy
    obtain ⟨e, _, rfl⟩ := List.mem_map.mp hx
    obtain ⟨f, _, rfl⟩ := List.mem_map.mp hy
    exact h (congrArg (·.1) z)
/-- how often, by unlike things -/
theorem wsum {p : Ev → Bool} {K : List Ev} (nd : K.Nodup) : ∀ es : List Ev, (∀ e ∈ es, p e = true → e ∈ K) → ((K.filter p).map fun k => (es.count k : Int)).sum = (es.countP p : Nat)
  | [], _ => by
    have : ∀ l : List Ev, (l.map fun k => (([] : List Ev).count k : Int)).sum = 0 := by
      intro l
      induction l with
      | nil => rfl
      | cons a l ih => rw [List.map_cons, List.sum_cons, ih]; rfl
    rw [this]; rfl
  | e :: es, h => by
    have ih := wsum nd es fun f hf => h f (List.mem_cons_of_mem _ hf)
    have step : ∀ l : List Ev, l.Nodup → (l.map fun k => ((e :: es).count k : Int)).sum = (l.map fun k => (es.count k : Int)).sum + (if e ∈ l then 1 else 0) := by
      intro l
      induction l with
      | nil => intro _; rfl
      | cons a l ih =>
        intro nd
        rw [List.nodup_cons] at nd
        rw [List.map_cons, List.sum_cons, ih nd.2, List.map_cons, List.sum_cons, List.count_cons]
        by_cases q : e = a
        · subst q
          rw [if_neg nd.1]
          simp; omega
        · have q2 : (e == a) = false := by simpa using q
          rw [q2]
          by_cases z : e ∈ l
          · rw [if_pos z, if_pos (List.mem_cons_of_mem _ z)]; simp; omega
          · have z2 : ¬ e ∈ a :: l := fun y => (List.mem_cons.mp y).elim q z
            rw [if_neg z, if_neg z2]; simp
    rw [step _ (nd.filter p), ih, List.countP_cons]
    by_cases q : p e = true
    · have := h e List.mem_cons_self q
      rw [if_pos (List.mem_filter.mpr ⟨this, q⟩), if_pos q]; omega
    · rw [if_neg (fun z => q (List.mem_filter.mp z).2), if_neg q]; omega
theorem prs_sum (es : List Ev) (p : Ev → Bool) : (((prs es).filter fun t => p t.1).map (·.2)).sum = (es.countP p : Nat) := by
  rw [← wsum (p := p) (prs_nd es) es fun e he _ => List.mem_map.mpr ⟨(e, ((es.count e : Nat) : Int)), prs_mem.mpr ⟨he, rfl⟩, rfl⟩]
  rw [List.filter_map, List.map_map]
  congr 1
  refine List.map_congr_left fun t ht => ?_
  exact (prs_mem.mp (List.mem_filter.mp ht).1).2
theorem prs_total (es : List Ev) : ((prs es).map (·.2)).sum = (es.length : Nat) := by
  have := prs_sum es fun _ => true
  rw [show (prs es).filter (fun t => true) = prs es from List.filter_eq_self.mpr fun _ _ => rfl] at this
  rw [this]
  congr 1
  exact List.countP_eq_length.mpr fun _ _ => rfl
theorem prs_len (es : List Ev) : (prs es).length ≤ es.length := by
  have : ∀ l : List Int, (∀ x ∈ l, 1 ≤ x) → (l.length : Int) ≤ l.sum := by
    intro l
    induction l with
    | nil => intro _; exact Int.le_refl 0
    | cons a l ih =>
      intro h
      have h1 := ih fun x hx => h x (List.mem_cons_of_mem _ hx)
      have h2 := h a List.mem_cons_self
      rw [List.sum_cons, List.length_cons]; omega
  have h := this ((prs es).map (·.2)) fun x hx => by
    obtain ⟨t, ht, rfl⟩ := List.mem_map.mp hx
    have := prs_mem.mp ht
    have h2 := List.count_pos_iff.mpr this.1
    rw [this.2]; omega
  rw [prs_total, List.length_map] at h
  omega
theorem prs_dbl (es : List Ev) : prs (es ++ es) = (prs es).map fun t => (t.1, 2 * t.2) := by
  unfold prs
  rw [cxs_congr (fs := es) fun e => by rw [List.mem_append, or_self], List.map_flatMap]
  congr 1
  funext c
  rw [List.map_map]
  have : rowL (es ++ es) c = (rowL es c).map fun e => (e.1, 2 * e.2) := by
    refine (rowL_uniq (r := (rowL es c).map fun e => (e.1, 2 * e.2)) ?_ fun l => ?_).symm
    · have := rowL_ss es c
      unfold SS at this ⊢
      rw [ks_map (fun n : Int => 2 * n) (rowL es c)]
      exact this
    · rw [show lk ((rowL es c).map fun e => (e.1, 2 * e.2)) l = (lk (rowL es c) l).map (fun n => 2 * n) from lk_map (fun n : Int => 2 * n) _ l, rowL_lk, List.count_append]
      by_cases z : es.count (c, l) = 0
      · simp [z]
      · simp [z] <;> omega
  rw [this, List.map_map]; rfl
/-! ### sums by shorter ends -/
def keyT (o : Nat) (e : Ev) : List Ik := [.inr (endT o e.1), .inr e.2]
def addT (o : Nat) (acc : List Kn) (t : Tr) : List Kn := putP acc (keyT o t.1) (getP acc (keyT o t.1) + t.2)
def pK (t : Tr) : Kn := ([.inr t.1.1, .inr t.1.2], t.2)
theorem getP_put (acc : List Kn) (k j : List Ik) (v : Int) : getP (putP acc k v) j = if j = k then v else getP acc j := by
  have h := getP_val j (putP acc k v)
  rw [← putP_val, valV_put] at h
  by_cases q : j = k
  · subst q
    rw [if_pos rfl] at h ⊢
    have h : V.int v = V.int (getP (putP acc j v) j) := h
    exact (V.int.inj h).symm
  · rw [if_neg q]
    rw [if_neg (fun z => q (kOfs_inj z))] at h
    rw [getP_val] at h
    exact (V.int.inj h).symm
open Classical in
theorem keys_put (acc : List Kn) (k : List Ik) (v : Int) : (putP acc k v).map (·.1) = if k ∈ acc.map (·.1) then acc.map (·.1) else acc.map (·.1) ++ [k] := by
  unfold putP
  have e : (acc.any fun p => decide (p.1 = k)) = true ↔ k ∈ acc.map (·.1) := by
    rw [List.any_eq_true, List.mem_map]
    exact ⟨fun ⟨p, h1, h2⟩ => ⟨p, h1, of_decide_eq_true h2⟩, fun ⟨p, h1, h2⟩ => ⟨p, h1, decide_eq_true h2⟩⟩
  by_cases q : k ∈ acc.map (·.1)
  · rw [if_pos (e.mpr q), if_pos q, List.map_map]
    refine List.map_congr_left fun p _ => ?_
    show (if p.1 = k then (p.1, v) else p).1 = p.1
    split <;> rfl
  · rw [if_neg (fun z => q (e.mp z)), if_neg q, List.map_append]; rfl
theorem getP_mem {acc : List Kn} (nd : (acc.map (·.1)).Nodup) {p : Kn} (h : p ∈ acc) : getP acc p.1 = p.2 := by
  induction acc with
  | nil => cases h
  | cons a acc ih =>
    rw [List.map_cons, List.nodup_cons] at nd
    rcases List.mem_cons.mp h with rfl | h
    · simp [getP]
    · have ne : ¬ a.1 = p.1 := fun z => nd.1 (z ▸ List.mem_map.mpr ⟨p, h, rfl⟩)
      have := ih nd.2 h
      unfold getP at this ⊢
      rw [List.find?_cons_of_neg (by simpa using ne)]
      exact this
theorem sums_inv (o : Nat) : ∀ (ts done : List Tr) (acc : List Kn), ((acc.map (·.1)).Nodup ∧ (∀ k, k ∈ acc.map (·.1) ↔ ∃ t ∈ done, keyT o t.1 = k) ∧ ∀ k, getP acc k = ((done.filter fun t => decide (keyT o t.1 = k)).map (·.2)).sum) →
    (((ts.foldl (addT o) acc).map (·.1)).Nodup ∧ (∀ k, k ∈ (ts.foldl (addT o) acc).map (·.1) ↔ ∃ t ∈ done ++ ts, keyT o t.1 = k) ∧ ∀ k, getP (ts.foldl (addT o) acc) k = (((done ++ ts).filter fun t => decide (keyT o t.1 = k)).map (·.2)).sum)
  | [], done, acc, h => by rw [List.append_nil]; exact h
  | t :: ts, done, acc, ⟨h1, h2, h3⟩ => by
    rw [List.foldl_cons, show done ++ t :: ts = (done ++ [t]) ++ ts by simp]
    refine sums_inv o ts (done ++ [t]) _ ⟨?_, fun k => ?_, fun k => ?_⟩
    · unfold addT
      rw [keys_put]
      by_cases q : keyT o t.1 ∈ acc.map (·.1)
      · rw [if_pos q]; exact h1
      · rw [if_neg q, List.nodup_append]
        refine ⟨h1, by simp, fun a ha b hb z => ?_⟩
        rw [List.mem_singleton.mp hb] at z
        exact q (z ▸ ha)
    · unfold addT
      rw [keys_put]
      have : (∃ t' ∈ done ++ [t], keyT o t'.1 = k) ↔ (∃ t' ∈ done, keyT o t'.1 = k) ∨ keyT o t.1 = k := by
        constructor
        · rintro ⟨t', m, e⟩
          rcases List.mem_append.mp m with m | m
          · exact .inl ⟨t', m, e⟩
          · rw [List.mem_singleton.mp m] at e; exact .inr e
        · rintro (⟨t', m, e⟩ | e)
          · exact ⟨t', List.mem_append_left _ m, e⟩
          · exact ⟨t, by simp, e⟩
      rw [this, ← h2 k]
      by_cases q : keyT o t.1 ∈ acc.map (·.1)
      · rw [if_pos q]
        exact ⟨.inl, fun z => z.elim id fun e => e ▸ q⟩
      · rw [if_neg q, List.mem_append, List.mem_singleton]
        exact or_congr_right eq_comm
    · unfold addT
      rw [getP_put, List.filter_append, List.map_append, List.sum_append, ← h3 k]
      by_cases q : k = keyT o t.1
      · subst q
        simp
      · have : ¬ keyT o t.1 = k := fun z => q z.symm
        simp [q, this]
theorem key_inj {o : Nat} {e f : Ev} : keyT o e = keyT o f ↔ (endT o e.1, e.2) = (endT o f.1, f.2) := by
  unfold keyT
  constructor
  · intro h
    injection h with h1 h2
    injection h2 with h2 _
    rw [Sum.inr.inj h1, Sum.inr.inj h2]
  · intro h
    rw [show endT o e.1 = endT o f.1 from congrArg (·.1) h, show e.2 = f.2 from congrArg (·.2) h]
theorem sums_ok (o : Nat) {es fs : List Ev} (h : es = fs.map fun e => (endT o e.1, e.2)) :
    (((prs es).map pK).map (·.1)).Nodup ∧ ((prs fs).foldl (addT o) []).length = ((prs es).map pK).length ∧ ∀ p ∈ (prs fs).foldl (addT o) [], p ∈ (prs es).map pK := by
  obtain ⟨nd, mem, val⟩ := sums_inv o (prs fs) [] [] ⟨by simp, fun k => by simp, fun k => by simp [getP]⟩
  rw [List.nil_append] at mem val
  have ndP : (((prs es).map pK).map (·.1)).Nodup := by
    rw [List.map_map]
    refine List.pairwise_map.mpr ((List.pairwise_map.mp (prs_nd es)).imp fun {a b} ne z => ne ?_)
    have z : ([.inr a.1.1, .inr a.1.2] : List Ik) = [.inr b.1.1, .inr b.1.2] := z
    injection z with z1 z2
    injection z2 with z2 _
    exact Prod.ext (Sum.inr.inj z1) (Sum.inr.inj z2)
  have sub : ∀ p ∈ (prs fs).foldl (addT o) [], p ∈ (prs es).map pK := fun p hp => by
    have v := getP_mem nd hp
    obtain ⟨t, ht, ek⟩ := (mem p.1).mp (List.mem_map.mpr ⟨p, hp, rfl⟩)
    rw [val] at v
    have := prs_sum fs fun e => decide (keyT o e = p.1)
    rw [this] at v
    have hc : es.count (endT o t.1.1, t.1.2) = fs.countP fun e => decide (keyT o e = p.1) := by
      rw [h]
      unfold List.count
      rw [List.countP_map]
      congr 1
      funext e
      rw [← ek]
      show ((endT o e.1, e.2) == (endT o t.1.1, t.1.2)) = decide (keyT o e = keyT o t.1)
      rw [Bool.eq_iff_iff, beq_iff_eq, decide_eq_true_iff, key_inj]
    have hm := (prs_mem.mp ht).1
    refine List.mem_map.mpr ⟨((endT o t.1.1, t.1.2), p.2), prs_mem.mpr ⟨?_, ?_⟩, Prod.ext ek rfl⟩
    · rw [h]; exact List.mem_map.mpr ⟨t.1, hm, rfl⟩
    · show p.2 = _
      rw [hc, v]
  refine ⟨ndP, ?_, sub⟩
  have hk : ((prs fs).foldl (addT o) []).map (·.1) |>.Perm (((prs es).map pK).map (·.1)) := (List.perm_ext_iff_of_nodup nd ndP).mpr fun k => by
    constructor
    · intro hk
      obtain ⟨p, hp, rfl⟩ := List.mem_map.mp hk
      exact List.mem_map.mpr ⟨p, sub p hp, rfl⟩
    · intro hk
      rw [List.map_map] at hk
      obtain ⟨t, ht, rfl⟩ := List.mem_map.mp hk
      have hm := (prs_mem.mp ht).1
      rw [h] at hm
      obtain ⟨f, hf, ef⟩ := List.mem_map.mp hm
      refine (mem _).mpr ⟨(f, ((fs.count f : Nat) : Int)), prs_mem.mpr ⟨hf, rfl⟩, ?_⟩
      show [Sum.inr (endT o f.1), Sum.inr f.2] = [Sum.inr t.1.1, Sum.inr t.1.2]
      rw [← ef]
  have := hk.length_eq
  rw [List.length_map, List.length_map] at this
  exact this
theorem end_end {o : Nat} (t : Tx) : endT o (endT (o + 1) t) = endT o t := by
  unfold endT
  rw [List.length_drop, List.drop_drop]
  congr 1; omega
theorem evB_up (o : Nat) (b : List Tx) : evB o b = (evB (o + 1) b).map fun e => (endT o e.1, e.2) := by
  unfold evB
  rw [List.map_flatMap]
  congr 1
  funext x
  unfold evs
  rw [List.map_map]
  refine List.map_congr_left fun i _ => ?_
  show _ = (endT o (endT (o + 1) (x.take i)), _)
  rw [end_end]
/-! ### ends -/
theorem count_end (o : Nat) : ∀ b : List Tx, (evB o b).countP (fun e => e.2 == []) = b.length
  | [] => rfl
  | x :: b => by
    have ih := count_end o b
    unfold evB at ih ⊢
    rw [List.flatMap_cons, List.countP_append, ih]
    have : (evs o x).countP (fun e => e.2 == []) = 1 := by
      unfold evs
      rw [List.range_succ, List.map_append, List.countP_append, List.countP_map]
      have h1 : List.countP ((fun e : Ev => e.2 == []) ∘ fun i => (endT o (x.take i), (x.drop i).take 1)) (List.range x.length) = 0 := by
        rw [List.countP_eq_zero]
        intro i hi
        have hi := List.mem_range.mp hi
        simp only [Function.comp, beq_iff_eq]
        intro z
        have := congrArg List.length z
        rw [List.length_take, List.length_drop] at this
        simp only [List.length_nil] at this
        omega
      rw [h1]; simp
    rw [this, List.length_cons]; omega
theorem ev_in {o : Nat} {b : List Tx} {e : Ev} (h : e ∈ evB o b) : ∃ x ∈ b, subT (e.1 ++ e.2) x = true := by
  obtain ⟨x, hx, i, hi, rfl⟩ := evB_mem h
  refine ⟨x, hx, ?_⟩
  unfold subT
  rw [List.any_eq_true]
  refine ⟨i - o, List.mem_range.mpr (by omega), ?_⟩
  have e1 : endT o (x.take i) = (x.drop (i - o)).take (i - (i - o)) := by
    unfold endT
    rw [List.length_take, Nat.min_eq_left hi, List.drop_take]
  have l1 : (endT o (x.take i)).length = i - (i - o) := by
    rw [e1, List.length_take, List.length_drop]; omega
  have l2 : ((x.drop i).take 1).length = min 1 (x.length - i) := by rw [List.length_take, List.length_drop]
  rw [Bool.and_eq_true, decide_eq_true_iff, List.length_append, l1, l2]
  refine ⟨by omega, ?_⟩
  rw [beq_iff_eq]
  show (x.drop (i - o)).take (i - (i - o) + min 1 (x.length - i)) = endT o (x.take i) ++ (x.drop i).take 1
  rw [List.take_add, ← e1]
  congr 1
  rw [List.drop_drop, show i - o + (i - (i - o)) = i by omega]
  by_cases z : i = x.length
  · subst z; simp
  · rw [show min 1 (x.length - i) = 1 by omega]
theorem ev_fin {o : Nat} {b : List Tx} {e : Ev} (h : e ∈ evB o b) (he : e.2 = []) : ∃ x ∈ b, x.drop (x.length - e.1.length) = e.1 ∧ e.1.length ≤ x.length := by
  obtain ⟨x, hx, i, hi, rfl⟩ := evB_mem h
  have : i = x.length := by
    have := congrArg List.length he
    simp only [List.length_take, List.length_drop, List.length_nil] at this
    omega
  subst this
  refine ⟨x, hx, ?_⟩
  show x.drop (x.length - (endT o (x.take x.length)).length) = endT o (x.take x.length) ∧ (endT o (x.take x.length)).length ≤ x.length
  rw [List.take_length]
  unfold endT
  rw [List.length_drop]
  refine ⟨?_, by omega⟩
  congr 1; omega
end
end KN
set_option maxHeartbeats 1000000
/-! K02E: the law's statements, one by one -/
namespace KN
open PySem PySem.Spec PyProof.Rows L2
noncomputable section
theorem b2v {fa fb : Ga → R D} {γ : Ga} {x y : D} {g : D → D → R D} {r : R D} (h1 : fa γ = .ok x) (h2 : fb γ = .ok y) (h3 : g x y = r) : b2 g fa fb γ = r := by rw [b2_e, h1]; show (fb γ).bind _ = _; rw [h2]; exact h3
theorem ownE {fa : Ga → R D} {γ : Ga} {d : D} {i : Nat} (h : fa γ = .ok d) : fOwn i fa γ = .ok (.nx (γ.set i (.ow d))) := by rw [fOwn_e, h]; rfl
theorem tvE {fa : Ga → R D} {γ : Ga} {b : Bool} (h : fa γ = .ok (.bl b)) : tVal fa γ = .ok b := by rw [tVal_e, h]; rfl
theorem orF {p q : Ga → R Bool} {γ : Ga} (h : p γ = .ok false) (k : q γ = .ok false) : tOr p q γ = .ok false := by rw [tOr_e, h]; exact k
section
variable {α : Type} {fe elt : Ga → R D} {ifs : Ga → R Bool} {vs : List Nat} {bd : D → Ga → R Ga} {γ : Ga} {d : D} {inj : α → D} {p : α → Bool} {l : List α}
theorem lcL {f : α → D} (h : fe γ = .ok d) (hd : items d = .ok (l.map inj)) (k : ∀ a ∈ l, ∃ γ1, bd (inj a) (wipeG γ vs) = .ok γ1 ∧ ifs γ1 = .ok (p a) ∧ (p a = true → elt γ1 = .ok (f a))) (hl : l.length ≤ lim) :
    bLcE fe vs bd ifs elt γ = .ok (.lst ((l.filter p).map f)) := lcE_e h hd (lcGo_fil k) (by rw [List.length_map]; exact Nat.le_trans (List.length_filter_le _ _) hl)
theorem lcM {f : α → D} (h : fe γ = .ok d) (hd : items d = .ok (l.map inj)) (k : ∀ a ∈ l, ∃ γ1, bd (inj a) (wipeG γ vs) = .ok γ1 ∧ elt γ1 = .ok (f a)) (hl : l.length ≤ lim) :
    bLcE fe vs bd yes elt γ = .ok (.lst (l.map f)) := lcE_e h hd (lcGo_map k) (by rw [List.length_map]; exact hl)
theorem sumE {fa : Ga → R D} {ns : List Int} (h : fa γ = .ok (.lst (ns.map .int))) : bN dSum (bCons fa bNil) γ = .ok (.int ns.sum) := by
  rw [bN_e, bCons_e, h]
  show (o2r (asInts (ns.map D.int))).bind (fun ns => R.ok (D.int ns.sum)) = _
  rw [asInts_map, o2r_some]; rfl
theorem sumL {f : α → Int} (h : fe γ = .ok d) (hd : items d = .ok (l.map inj)) (k : ∀ a ∈ l, ∃ γ1, bd (inj a) (wipeG γ vs) = .ok γ1 ∧ ifs γ1 = .ok (p a) ∧ (p a = true → elt γ1 = .ok (.int (f a)))) (hl : l.length ≤ lim) :
    bN dSum (bCons (bLcE fe vs bd ifs elt) bNil) γ = .ok (.int ((l.filter p).map f).sum) :=
  sumE (by rw [lcL (f := fun a => .int (f a)) h hd k hl, List.map_map]; rfl)
theorem sumM {f : α → Int} (h : fe γ = .ok d) (hd : items d = .ok (l.map inj)) (k : ∀ a ∈ l, ∃ γ1, bd (inj a) (wipeG γ vs) = .ok γ1 ∧ elt γ1 = .ok (.int (f a))) (hl : l.length ≤ lim) :
    bN dSum (bCons (bLcE fe vs bd yes elt) bNil) γ = .ok (.int (l.map f).sum) :=
  sumE (by rw [lcM (f := fun a => .int (f a)) h hd k hl, List.map_map]; rfl)
end
/-! ### the rows laid end to end -/
def trD (t : Tr) : D := .tup [.str t.1.1, .str t.1.2, .int t.2]
def rwD (es : List Ev) (c : Tx) : D := .tup [.str c, .tup (rowT (rowL es c))]
def inE : Tx × Int → D := fun e => .tup [.str e.1, .int e.2]
def rowsOf (es : List Ev) (cs : List Tx) : List Tr := cs.flatMap fun c => (rowL es c).map fun e => ((c, e.1), e.2)
theorem rowLlen (es : List Ev) (c : Tx) : (rowL es c).length ≤ es.length := by
  have h1 : (rowL es c).length = (ks (rowL es c)).length := by simp [ks]
  rw [h1]
  unfold rowL
  rw [ks_lst, (sortT_perm _).length_eq]
  have h2 : (ks (rowOf (tabOf es) c)).length = (rowOf (tabOf es) c).length := by simp [ks]
  rw [h2]
  exact (tabOk es).rlen c
def lpIn : Ga → R Fl := fSet 1 (b2 dAdd (bVar 1) (bLcE (bVar 3) [4, 5] (bdT [4, 5]) yes (bTup (bCons (bVar 2) (bCons (bVar 4) (bCons (bVar 5) (bNil)))))))
theorem pairs_ok {es : List Ev} (h : es.length < 64) : g__law_pairs [tableD es] = .ok (.lst ((prs es).map trD)) := by
  have loop := forGo_inv (bd := bdT [2, 3]) (inj := rwD es) (l0 := cxs es) (body := lpIn)
    (I := fun done γ => ∃ s2 s3, γ = [.va (tableD es), .va (.lst ((rowsOf es done).map trD)), s2, s3, .un, .un])
    (γ := [.va (tableD es), .va (.lst []), .un, .un, .un, .un]) (fun done c rest γ hx hI => by
      obtain ⟨s2, s3, rfl⟩ := hI
      have hl := prs_len es
      have e0 : prs es = rowsOf es done ++ ((rowL es c).map (fun e => ((c, e.1), e.2)) ++ rowsOf es rest) := by
        unfold prs rowsOf
        rw [hx, List.flatMap_append, List.flatMap_cons]
      rw [e0, List.length_append, List.length_append] at hl
      have hr := rowLlen es c
      have e1 := lcM (fe := bVar 3) (elt := bTup (bCons (bVar 2) (bCons (bVar 4) (bCons (bVar 5) (bNil))))) (vs := [4, 5]) (bd := bdT [4, 5]) (γ := [.va (tableD es), .va (.lst ((rowsOf es done).map trD)), .va (.str c), .va (.tup (rowT (rowL es c))), .un, .un])
        (inj := inE) (l := rowL es c) (f := fun e => trD ((c, e.1), e.2)) rfl rfl (fun e _ => ⟨_, rfl, rfl⟩) (by rw [lim_val]; omega)
      have e2 : rowsOf es (done ++ [c]) = rowsOf es done ++ (rowL es c).map (fun e => ((c, e.1), e.2)) := by
        unfold rowsOf
        rw [List.flatMap_append, List.flatMap_cons, List.flatMap_nil, List.append_nil]
      refine ⟨_, rfl, [.va (tableD es), .va (.lst ((rowsOf es (done ++ [c])).map trD)), .va (.str c), .va (.tup (rowT (rowL es c))), .un, .un], .inl ?_, _, _, rfl⟩
      refine set_e (i := 1) (b2v rfl e1 ?_)
      show (if _ then _ else _) = _
      rw [if_pos (by rw [List.length_map, List.length_map, lim_val]; rw [List.length_map] at hl; omega), e2, List.map_append, List.map_map]
      rfl) ⟨.un, .un, rfl⟩
  obtain ⟨γ', l1, s2, s3, rfl⟩ := loop
  unfold g__law_pairs
  refine fn_rt ?_
  show m__law_pairs [.va (tableD es), .un, .un, .un, .un, .un] = _
  show fSeq _ (fSeq (fForE (bVar 0) (bdT [2, 3]) lpIn) _) _ = _
  rw [seq_nx (γ' := [.va (tableD es), .va (.lst []), .un, .un, .un, .un]) rfl, seq_nx (forE_e (d := tableD es) rfl rfl (by intro _ z; cases z) l1)]
  rfl
/-! ### the law's frame -/
section
variable {B L : D} {o : Nat} {s0 s3 s4 s5 s6 s7 s8 s9 s10 s11 s12 s13 s14 s15 s16 : Sl} {b : List Tx} {es : List Ev}
abbrev Fr (B : D) (o : Nat) (s0 s3 s4 s5 s6 s7 s8 s9 s10 s11 s12 s13 s14 s15 s16 : Sl) : Ga := [s0, .va B, .va (.int (o : Nat)), s3, s4, s5, s6, s7, s8, s9, s10, s11, s12, s13, s14, s15, s16]
def q5 : Ga → R Fl := fIf (tVal (b2 dNe (bN dSum (bCons (bLcE (bCall g_behind (bCons (bVar 1) (bCons (bVar 2) (bCons (bC (.str [])) bNil)))) [11, 12] (bdT [11, 12]) yes (bVar 12)) bNil)) (bN dLen (bCons (bVar 1) bNil)))) (fRet (bC (.bl false))) fNil
def q6 : Ga → R Fl := fIf (tVal (b2 dNe (bN dSum (bCons (bLcE (bVar 4) [10, 11, 12] (bdT [10, 11, 12]) (tVal (b2 dEq (bVar 11) (bC (.str [])))) (bVar 12)) bNil)) (bN dLen (bCons (bVar 1) bNil)))) (fRet (bC (.bl false))) fNil
def q7 : Ga → R Fl := fIf (tVal (b2 dNe (bN dSum (bCons (bLcE (bVar 4) [10, 11, 12] (bdT [10, 11, 12]) yes (bVar 12)) bNil)) (bN dSum (bCons (bLcE (bVar 1) [15] (bdN 15) yes (b2 dAdd (bN dLen (bCons (bVar 15) bNil)) (bC (.int 1)))) bNil)))) (fRet (bC (.bl false))) fNil
theorem neInt (i : Int) : dNe (.int i) (.int i) = .ok (.bl false) := dNe_self (by simp)
theorem len_bk' (b : List Tx) (γ : Ga) (h : bVar 1 γ = .ok (bkD b)) : bN dLen (bCons (bVar 1) bNil) γ = .ok (.int (b.length : Nat)) := by
  rw [bN_e, bCons_e, h]
  show R.ok (D.int ((b.map D.str).length : Nat)) = _
  rw [List.length_map]
theorem q5_ok (hb : bookOk b) (ho : 1 ≤ o ∧ o ≤ 3) (h : (evB o b).length < 64) : q5 (Fr (bkD b) o s0 s3 s4 s5 s6 s7 s8 s9 s10 s11 s12 s13 s14 s15 s16) = .ok (.nx (Fr (bkD b) o s0 s3 s4 s5 s6 s7 s8 s9 s10 s11 s12 s13 s14 s15 s16)) := by
  have p0 := behind_ok hb ho (.inl rfl : ([] : Tx) = [] ∨ nameOk []) (Nat.lt_of_le_of_lt ((tabOk _).rlen _) h)
  rw [endT_nil] at p0
  have p1 : bCall g_behind (bCons (bVar 1) (bCons (bVar 2) (bCons (bC (.str [])) bNil))) (Fr (bkD b) o s0 s3 s4 s5 s6 s7 s8 s9 s10 s11 s12 s13 s14 s15 s16) = .ok (.lst (rowT (rowL (evB o b) []))) := p0
  have e1 := sumM (elt := bVar 12) (vs := [11, 12]) (bd := bdT [11, 12]) (inj := inE) (l := rowL (evB o b) []) (f := fun e => e.2) p1 rfl (fun e _ => ⟨_, rfl, rfl⟩) (by have := rowLlen (evB o b) []; rw [lim_val]; omega)
  have e2 : ((rowL (evB o b) []).map fun e => e.2).sum = (b.length : Nat) := by
    have := rowsum (evB o b) []
    rw [count_start ho.1] at this
    exact this
  rw [e2] at e1
  exact if_f (tvE (b2v e1 (len_bk' b _ rfl) (neInt _)))
theorem eqE {l : Tx} (h : chs l) : dEq (.str l) (.str []) = .ok (.bl (l == [])) := by
  rw [dEq_p (by rw [pl_str]; exact h.all) (by rfl), eqv_str]
theorem q6_ok (hb : bookOk b) (hp : ∀ t ∈ prs (evB o b), chs t.1.2) (h : (evB o b).length < 64) : q6 (Fr (bkD b) o s0 s3 (.va (.lst ((prs (evB o b)).map trD))) s5 s6 s7 s8 s9 s10 s11 s12 s13 s14 s15 s16) = .ok (.nx (Fr (bkD b) o s0 s3 (.va (.lst ((prs (evB o b)).map trD))) s5 s6 s7 s8 s9 s10 s11 s12 s13 s14 s15 s16)) := by
  have e1 := sumL (fe := bVar 4) (elt := bVar 12) (ifs := tVal (b2 dEq (bVar 11) (bC (.str [])))) (vs := [10, 11, 12]) (bd := bdT [10, 11, 12]) (inj := trD) (p := fun t => t.1.2 == []) (l := prs (evB o b)) (f := fun t => t.2)
    (γ := Fr (bkD b) o s0 s3 (.va (.lst ((prs (evB o b)).map trD))) s5 s6 s7 s8 s9 s10 s11 s12 s13 s14 s15 s16) rfl rfl (fun t ht => ⟨_, rfl, tvE (b2v rfl rfl (eqE (hp t ht))), fun _ => rfl⟩) (by have := prs_len (evB o b); rw [lim_val]; omega)
  have e2 := prs_sum (evB o b) fun e => e.2 == []
  rw [count_end] at e2
  rw [e2] at e1
  exact if_f (tvE (b2v e1 (len_bk' b _ rfl) (neInt _)))
theorem q7_ok (hb : bookOk b) (h : (evB o b).length < 64) : q7 (Fr (bkD b) o s0 s3 (.va (.lst ((prs (evB o b)).map trD))) s5 s6 s7 s8 s9 s10 s11 s12 s13 s14 s15 s16) = .ok (.nx (Fr (bkD b) o s0 s3 (.va (.lst ((prs (evB o b)).map trD))) s5 s6 s7 s8 s9 s10 s11 s12 s13 s14 s15 s16)) := by
  have e1 := sumM (fe := bVar 4) (elt := bVar 12) (vs := [10, 11, 12]) (bd := bdT [10, 11, 12]) (inj := trD) (l := prs (evB o b)) (f := fun t => t.2)
    (γ := Fr (bkD b) o s0 s3 (.va (.lst ((prs (evB o b)).map trD))) s5 s6 s7 s8 s9 s10 s11 s12 s13 s14 s15 s16) rfl rfl (fun t ht => ⟨_, rfl, rfl⟩) (by have := prs_len (evB o b); rw [lim_val]; omega)
  rw [prs_total] at e1
  have e2 := sumM (fe := bVar 1) (elt := b2 dAdd (bN dLen (bCons (bVar 15) bNil)) (bC (.int 1))) (vs := [15]) (bd := bdN 15) (inj := D.str) (l := b) (f := fun x => ((x.length + 1 : Nat) : Int))
    (γ := Fr (bkD b) o s0 s3 (.va (.lst ((prs (evB o b)).map trD))) s5 s6 s7 s8 s9 s10 s11 s12 s13 s14 s15 s16) (d := bkD b) rfl rfl (fun x hx => ⟨_, rfl, by
      have dl : dLen [.str x] = .ok (.int x.length) := by
        show (if x.length ≤ lim then R.ok (D.int x.length) else .no) = _
        rw [if_pos (by have := (hb.2.2 x hx).2.1; rw [lim_val]; omega)]
      exact b2v (x := .int x.length) (y := .int 1) dl rfl rfl⟩) (by have := hb.2.1; rw [lim_val]; omega)
  have e3 : (b.map fun x => ((x.length + 1 : Nat) : Int)).sum = ((evB o b).length : Nat) := by
    rw [evB_count_len]
    clear e1 e2 hb h
    induction b with
    | nil => rfl
    | cons x b ih => rw [List.map_cons, List.sum_cons, List.map_cons, List.sum_cons, ih]; omega
  rw [e3] at e2
  exact if_f (tvE (b2v e1 e2 (neInt _)))
end
end
end KN
set_option maxHeartbeats 1000000
/-! K02F: the law's loops -/
namespace KN
open PySem PySem.Spec PyProof.Rows L2
noncomputable section
section
variable {B L : D} {o : Nat} {s0 s3 s4 s5 s6 s7 s8 s9 s10 s11 s12 s13 s14 s15 s16 : Sl} {b : List Tx} {es : List Ev}
def q8b1 : Ga → R Fl := fOwn 13 (bLcE (bVar 1) [15] (bdN 15) (tVal (b2 dIn (b2 dAdd (bVar 10) (bVar 11)) (bVar 15))) (bVar 15))
def q8b2 : Ga → R Fl := fIf (tOr (tVal (b2 dEq (bRd 13) (bLst bNil))) (tOr (tVal (b2 dLt (bVar 12) (bC (.int 1)))) (tAnd (tVal (b2 dEq (bVar 11) (bC (.str [])))) (tVal (b2 dEq (bLcE (bVar 1) [15] (bdN 15) (tVal (b2s dEw (bVar 15) (bVar 10))) (bVar 15)) (bLst bNil)))))) (fRet (bC (.bl false))) fNil
def q8 : Ga → R Fl := fForE (bVar 4) (bdT [10, 11, 12]) (fSeq q8b1 q8b2)
/-- what is told of a triple -/
structure Tok (b : List Tx) (t : Tr) : Prop where
  c : txtOk t.1.1
  ch : chs t.1.2
  l1 : t.1.2.length ≤ 1
  n1 : 1 ≤ t.2
  n2 : t.2 ≤ 64
  pl : ∃ x ∈ b, subT (t.1.1 ++ t.1.2) x = true
  fi : t.1.2 = [] → ∃ x ∈ b, x.drop (x.length - t.1.1.length) = t.1.1 ∧ t.1.1.length ≤ x.length
theorem tok_of (hb : bookOk b) (h : (evB o b).length < 64) : ∀ t ∈ prs (evB o b), Tok b t := fun t ht => by
  obtain ⟨h1, h2⟩ := prs_mem.mp ht
  obtain ⟨a1, a2, a3⟩ := ev_ctx hb.2.2 h1
  have h3 := List.count_pos_iff.mpr h1
  have h4 := List.count_le_length (a := t.1) (l := evB o b)
  refine ⟨a1, a3, ?_, by omega, by omega, ev_in h1, ev_fin h1⟩
  obtain ⟨x, hx, i, hi, e⟩ := evB_mem h1
  rw [e]
  exact List.length_take_le _ _
theorem eqNo {xs : List Tx} (h : xs ≠ []) (hc : ∀ x ∈ xs, chs x) : dEq (.lst (xs.map .str)) (.lst []) = .ok (.bl false) := by
  have hp : pl 20 (.lst (xs.map .str)) = true := by
    rw [pl_lst, List.all_map, List.all_eq_true]
    exact fun x hx => by
      show pl 19 (.str x) = true
      rw [pl_str]; exact (hc x hx).all
  rw [dEq_p hp rfl, eqv_lst]
  cases xs with
  | nil => exact absurd rfl h
  | cons x xs => rfl
theorem fil_ne {p : Tx → Bool} {x : Tx} (hx : x ∈ b) (h : p x = true) : b.filter p ≠ [] := fun z => by
  have : x ∈ b.filter p := List.mem_filter.mpr ⟨hx, h⟩
  rw [z] at this; cases this
theorem q8_ok (hb : bookOk b) {ts : List Tr} (ht : ∀ t ∈ ts, Tok b t) :
    ∃ t10 t11 t12 t13, q8 (Fr (bkD b) o s0 s3 (.va (.lst (ts.map trD))) s5 s6 s7 s8 s9 s10 s11 s12 s13 s14 s15 s16) = .ok (.nx (Fr (bkD b) o s0 s3 (.va (.lst (ts.map trD))) s5 s6 s7 s8 s9 t10 t11 t12 t13 s14 s15 s16)) := by
  have chB : ∀ x ∈ b, chs x := fun x hx c hc => by have := ((hb.2.2 x hx).2.2 c hc).2; omega
  have lb : b.length ≤ lim := by have := hb.2.1; rw [lim_val]; omega
  have loop := forGo_inv (bd := bdT [10, 11, 12]) (inj := trD) (l0 := ts) (body := fSeq q8b1 q8b2)
    (I := fun _ γ => ∃ t10 t11 t12 t13, γ = Fr (bkD b) o s0 s3 (.va (.lst (ts.map trD))) s5 s6 s7 s8 s9 t10 t11 t12 t13 s14 s15 s16)
    (γ := Fr (bkD b) o s0 s3 (.va (.lst (ts.map trD))) s5 s6 s7 s8 s9 s10 s11 s12 s13 s14 s15 s16) (fun done t rest γ hx hI => by
      obtain ⟨t10, t11, t12, t13, rfl⟩ := hI
      have T := ht t (by rw [hx]; simp)
      have e1 := lcL (fe := bVar 1) (elt := bVar 15) (ifs := tVal (b2 dIn (b2 dAdd (bVar 10) (bVar 11)) (bVar 15))) (vs := [15]) (bd := bdN 15) (inj := D.str) (p := fun x => subT (t.1.1 ++ t.1.2) x) (f := D.str) (l := b) (d := bkD b)
        (γ := Fr (bkD b) o s0 s3 (.va (.lst (ts.map trD))) s5 s6 s7 s8 s9 (.va (.str t.1.1)) (.va (.str t.1.2)) (.va (.int t.2)) t13 s14 s15 s16) rfl rfl (fun x hx => ⟨_, rfl, tvE (b2v (x := .str (t.1.1 ++ t.1.2)) (y := .str x) (b2v rfl rfl (by
          show (if _ then _ else _) = _
          have := T.c.len
          have := T.l1
          rw [if_pos (by rw [lim_val]; omega)])) rfl rfl), fun _ => rfl⟩) lb
      obtain ⟨x, hx1, hx2⟩ := T.pl
      have n1 := eqNo (fil_ne (p := fun x => subT (t.1.1 ++ t.1.2) x) hx1 hx2) fun y hy => chB y (List.mem_filter.mp hy).1
      have lt : decide (t.2 < 1) = false := decide_eq_false (by have := T.n1; omega)
      generalize b.filter (fun x => subT (t.1.1 ++ t.1.2) x) = PL at *
      refine ⟨_, rfl, Fr (bkD b) o s0 s3 (.va (.lst (ts.map trD))) s5 s6 s7 s8 s9 (.va (.str t.1.1)) (.va (.str t.1.2)) (.va (.int t.2)) (.ow (.lst (PL.map .str))) s14 s15 s16, .inl ?_, _, _, _, _, rfl⟩
      have o1 : q8b1 (Fr (bkD b) o s0 s3 (.va (.lst (ts.map trD))) s5 s6 s7 s8 s9 (.va (.str t.1.1)) (.va (.str t.1.2)) (.va (.int t.2)) t13 s14 s15 s16) = .ok (.nx (Fr (bkD b) o s0 s3 (.va (.lst (ts.map trD))) s5 s6 s7 s8 s9 (.va (.str t.1.1)) (.va (.str t.1.2)) (.va (.int t.2)) (.ow (.lst (PL.map .str))) s14 s15 s16)) := ownE e1
      show fSeq q8b1 q8b2 (Fr (bkD b) o s0 s3 (.va (.lst (ts.map trD))) s5 s6 s7 s8 s9 (.va (.str t.1.1)) (.va (.str t.1.2)) (.va (.int t.2)) t13 s14 s15 s16) = _
      rw [seq_nx o1]
      refine if_f (orF (tvE (b2v rfl rfl n1)) (orF (tvE (b2v (x := .int t.2) (y := .int 1) rfl rfl ?_)) ?_))
      · show R.ok (D.bl (decide (t.2 < 1))) = _
        rw [lt]
      · have e2 : tVal (b2 dEq (bVar 11) (bC (.str []))) (Fr (bkD b) o s0 s3 (.va (.lst (ts.map trD))) s5 s6 s7 s8 s9 (.va (.str t.1.1)) (.va (.str t.1.2)) (.va (.int t.2)) (.ow (.lst (PL.map .str))) s14 s15 s16) = .ok (t.1.2 == []) := tvE (b2v rfl rfl (eqE T.ch))
        show tAnd _ _ (Fr (bkD b) o s0 s3 (.va (.lst (ts.map trD))) s5 s6 s7 s8 s9 (.va (.str t.1.1)) (.va (.str t.1.2)) (.va (.int t.2)) (.ow (.lst (PL.map .str))) s14 s15 s16) = _
        rw [tAnd_e, e2]
        by_cases z : t.1.2 = []
        · obtain ⟨y, hy1, hy2, hy3⟩ := T.fi z
          have e3 := lcL (fe := bVar 1) (elt := bVar 15) (ifs := tVal (b2s dEw (bVar 15) (bVar 10))) (vs := [15]) (bd := bdN 15) (inj := D.str) (p := fun x => decide (t.1.1.length ≤ x.length) && (x.drop (x.length - t.1.1.length) == t.1.1)) (f := D.str) (l := b) (d := bkD b)
            (γ := Fr (bkD b) o s0 s3 (.va (.lst (ts.map trD))) s5 s6 s7 s8 s9 (.va (.str t.1.1)) (.va (.str t.1.2)) (.va (.int t.2)) (.ow (.lst (PL.map .str))) s14 s15 s16) rfl rfl (fun x hx => ⟨_, rfl, tvE rfl, fun _ => rfl⟩) lb
          have n2 := eqNo (fil_ne (p := fun x => decide (t.1.1.length ≤ x.length) && (x.drop (x.length - t.1.1.length) == t.1.1)) hy1 (by
            rw [Bool.and_eq_true, decide_eq_true_iff, beq_iff_eq]
            exact ⟨hy3, hy2⟩)) fun y hy => chB y (List.mem_filter.mp hy).1
          have zz : (t.1.2 == []) = true := by simpa using z
          rw [zz]
          exact tvE (b2v e3 rfl n2)
        · have : (t.1.2 == []) = false := by simpa using z
          rw [this]; rfl) ⟨_, _, _, _, rfl⟩
  obtain ⟨γ', l1, t10, t11, t12, t13, rfl⟩ := loop
  exact ⟨t10, t11, t12, t13, forE_e (d := .lst (ts.map trD)) rfl rfl (by intro _ z; cases z) l1⟩
/-! ### the sums -/
def kyE : Ga → R (List D) := bCons (bSl (bVar 10) (pSo (bN dMax (bCons (bC (.int 0)) (bCons (b2 dSub (bN dLen (bCons (bVar 10) bNil)) (bVar 2)) bNil)))) pNo) (bCons (bVar 11) bNil)
def prE : Ga → R D := bLcE (bVar 4) [10, 11, 12] (bdT [10, 11, 12]) yes (bTup (bCons (bTup (bCons (bVar 10) (bCons (bVar 11) bNil))) (bCons (bVar 12) bNil)))
theorem kyE_ok {c l : Tx} (hc : c.length ≤ 8) : kyE (Fr B o s0 s3 s4 s5 s6 s7 s8 s9 (.va (.str c)) (.va (.str l)) s12 s13 s14 s15 s16) = .ok [.str (endT o c), .str l] := by
  have hs := slice_end o (t := c) (by omega)
  have dl : dLen [.str c] = .ok (.int c.length) := by
    show (if c.length ≤ lim then R.ok (D.int c.length) else .no) = _
    rw [if_pos (by rw [lim_val]; omega)]
  have e1 : b2 dSub (bN dLen (bCons (bVar 10) bNil)) (bVar 2) (Fr B o s0 s3 s4 s5 s6 s7 s8 s9 (.va (.str c)) (.va (.str l)) s12 s13 s14 s15 s16) = .ok (.int ((c.length : Nat) - (o : Nat))) := b2v dl rfl rfl
  have e2 : bSl (bVar 10) (pSo (bN dMax (bCons (bC (.int 0)) (bCons (b2 dSub (bN dLen (bCons (bVar 10) bNil)) (bVar 2)) bNil)))) pNo (Fr B o s0 s3 s4 s5 s6 s7 s8 s9 (.va (.str c)) (.va (.str l)) s12 s13 s14 s15 s16) = .ok (.str (endT o c)) := by
    have e3 : pSo (bN dMax (bCons (bC (.int 0)) (bCons (b2 dSub (bN dLen (bCons (bVar 10) bNil)) (bVar 2)) bNil))) (Fr B o s0 s3 s4 s5 s6 s7 s8 s9 (.va (.str c)) (.va (.str l)) s12 s13 s14 s15 s16) = .ok (some (max 0 ((c.length : Nat) - (o : Nat) : Int))) := by
      unfold pSo
      rw [bN_e, bCons_e, bCons_e, e1]; rfl
    unfold bSl
    rw [e3]
    exact hs
  unfold kyE
  rw [bCons_e, e2]; rfl
theorem addT_len (o : Nat) (acc : List Kn) (t : Tr) : (addT o acc t).length ≤ acc.length + 1 := by
  have h := keys_put acc (keyT o t.1) (getP acc (keyT o t.1) + t.2)
  have := congrArg List.length h
  rw [List.length_map] at this
  unfold addT
  rw [this]
  split
  · rw [List.length_map]; omega
  · rw [List.length_append, List.length_map, List.length_singleton]; omega
theorem sGo_ok : ∀ (ts : List Tr) (acc : List Kn) (s10 s11 s12 s14 : Sl), (∀ t ∈ ts, t.1.1.length ≤ 8) → acc.length + ts.length ≤ 1000 →
    ∃ t10 t11 t12 t14, sGo [10, 11, 12] 14 12 kyE (ts.map trD) (Fr B o s0 s3 s4 s5 s6 s7 s8 s9 s10 s11 s12 s13 s14 s15 s16) acc = .ok (Fr B o s0 s3 s4 s5 s6 s7 s8 s9 t10 t11 t12 s13 t14 s15 s16, ts.foldl (addT o) acc)
  | [], acc, s10, s11, s12, s14, _, _ => ⟨_, _, _, _, rfl⟩
  | t :: ts, acc, s10, s11, s12, s14, h, hl => by
    have ha := addT_len o acc t
    obtain ⟨t10, t11, t12, t14, ih⟩ := sGo_ok ts (addT o acc t) (.va (.str t.1.1)) (.va (.str t.1.2)) (.va (.int t.2)) (.va (.tup [.str (endT o t.1.1), .str t.1.2])) (fun u hu => h u (List.mem_cons_of_mem _ hu)) (by
      rw [List.length_cons] at hl; omega)
    refine ⟨t10, t11, t12, t14, ?_⟩
    have k := kyE_ok (B := B) (o := o) (s0 := s0) (s3 := s3) (s4 := s4) (s5 := s5) (s6 := s6) (s7 := s7) (s8 := s8) (s9 := s9) (s12 := .va (.int t.2)) (s13 := s13) (s14 := s14) (s15 := s15) (s16 := s16) (c := t.1.1) (l := t.1.2) (h t List.mem_cons_self)
    rw [List.map_cons, List.foldl_cons]
    unfold sGo
    show R.bind (R.ok (Fr B o s0 s3 s4 s5 s6 s7 s8 s9 (.va (.str t.1.1)) (.va (.str t.1.2)) (.va (.int t.2)) s13 s14 s15 s16)) _ = _
    simp only [R.bind, k]
    show (if acc.length ≤ lim ∧ 2 ≤ lim then _ else _) = _
    rw [if_pos (by rw [lim_val]; omega)]
    exact ih
theorem prE_ok {ts : List Tr} (hl : ts.length ≤ 1000) : prE (Fr B o s0 s3 (.va (.lst (ts.map trD))) s5 s6 s7 s8 s9 s10 s11 s12 s13 s14 s15 s16) = .ok (.lst ((ts.map pK).map prD)) := by
  rw [List.map_map]
  exact lcM (fe := bVar 4) (inj := trD) (l := ts) (f := fun t => prD (pK t)) rfl rfl (fun t _ => ⟨_, rfl, rfl⟩) (by rw [lim_val]; omega)
theorem asPr_map (ps : List Kn) : asPr (ps.map prD) = some ps := by
  induction ps with
  | nil => rfl
  | cons p ps ih =>
    rw [List.map_cons]
    show (asI (p.1.map unI)).bind _ = _
    rw [asI_map]
    show (asPr (ps.map prD)).map _ = _
    rw [ih]; rfl
theorem q10_ok {rest : Ga → R Fl} {fs : List Ev} {r : R Fl} (hf : es = fs.map fun e => (endT o e.1, e.2)) (h1 : es.length < 64) (h2 : fs.length < 64) (hc : ∀ t ∈ prs fs, t.1.1.length ≤ 8)
    (k : ∀ t10 t11 t12 t14, rest (Fr B o s0 s3 (.va (.lst ((prs es).map trD))) (.va (.lst ((prs fs).map trD))) .un s7 s8 s9 t10 t11 t12 s13 t14 s15 s16) = r) :
    fSums [10, 11, 12] 5 6 14 12 kyE prE rest (Fr B o s0 s3 (.va (.lst ((prs es).map trD))) (.va (.lst ((prs fs).map trD))) s6 s7 s8 s9 s10 s11 s12 s13 s14 s15 s16) = r := by
  have l1 := prs_len es
  have l2 := prs_len fs
  obtain ⟨t10, t11, t12, t14, sg⟩ := sGo_ok (B := B) (o := o) (s0 := s0) (s3 := s3) (s4 := .va (.lst ((prs es).map trD))) (s5 := .va (.lst ((prs fs).map trD))) (s6 := .un) (s7 := s7) (s8 := s8) (s9 := s9) (s13 := s13) (s15 := s15) (s16 := s16) (prs fs) [] s10 s11 s12 s14 hc (by
    show 0 + _ ≤ 1000
    omega)
  have pe := prE_ok (B := B) (o := o) (s0 := s0) (s3 := s3) (s5 := .va (.lst ((prs fs).map trD))) (s6 := .un) (s7 := s7) (s8 := s8) (s9 := s9) (s10 := t10) (s11 := t11) (s12 := t12) (s13 := s13) (s14 := t14) (s15 := s15) (s16 := s16) (ts := prs es) (by omega)
  obtain ⟨nd, len, sub⟩ := sums_ok o hf
  have h0 : 6 < (Fr B o s0 s3 (.va (.lst ((prs es).map trD))) (.va (.lst ((prs fs).map trD))) s6 s7 s8 s9 s10 s11 s12 s13 s14 s15 s16).length ∧ 6 ∉ [10, 11, 12] ∧ 6 ≠ 14 ∧ 12 ≠ 14 ∧ 5 ≠ 6 ∧ 14 < (Fr B o s0 s3 (.va (.lst ((prs es).map trD))) (.va (.lst ((prs fs).map trD))) s6 s7 s8 s9 s10 s11 s12 s13 s14 s15 s16).length := by
    refine ⟨?_, by decide, by decide, by decide, by decide, ?_⟩
    · show 6 < 17; decide
    · show 14 < 17; decide
  have sg : sGo [10, 11, 12] 14 12 kyE ((prs fs).map trD) ((Fr B o s0 s3 (.va (.lst ((prs es).map trD))) (.va (.lst ((prs fs).map trD))) s6 s7 s8 s9 s10 s11 s12 s13 s14 s15 s16).set 6 .un) [] = _ := sg
  have g5 : (Fr B o s0 s3 (.va (.lst ((prs es).map trD))) (.va (.lst ((prs fs).map trD))) s6 s7 s8 s9 s10 s11 s12 s13 s14 s15 s16)[5]? = some (.va (.lst ((prs fs).map trD))) := rfl
  unfold fSums
  rw [if_pos h0, g5]
  simp only [sg, pe, asPr_map]
  rw [if_pos]
  · exact k t10 t11 t12 t14
  · refine ⟨nd, by rw [List.length_map]; omega, len, ?_⟩
    rw [List.all_eq_true]
    intro p hp
    rw [List.any_eq_true]
    exact ⟨p, sub p hp, by rw [Bool.and_eq_true, decide_eq_true_iff, decide_eq_true_iff]; exact ⟨rfl, rfl⟩⟩
end
end
end KN
set_option maxHeartbeats 1000000
/-! K02B: the law's answer -/
namespace KN
open PySem PySem.Spec PyProof.Rows L2
noncomputable section
/-! ### small books -/
theorem evB_le {o : Nat} {m : Nat} : ∀ {b : List Tx}, (∀ x ∈ b, x.length ≤ m) → (evB o b).length ≤ (m + 1) * b.length
  | [], _ => by simp [evB]
  | x :: b, h => by
    have := evB_le (o := o) (b := b) fun y hy => h y (List.mem_cons_of_mem _ hy)
    have h0 := h x List.mem_cons_self
    unfold evB at this ⊢
    rw [List.flatMap_cons, List.length_append, evs_len, List.length_cons, Nat.mul_add]
    omega
structure Bk (b : List Tx) : Prop where
  ok : bookOk b
  len : ∀ o, (evB o b).length < 64
  let3 : ∀ x ∈ b, ∀ c ∈ x, ltr c
theorem Bk.mk' {b : List Tx} (h1 : 1 ≤ b.length) (h2 : b.length ≤ 8) (h : ∀ x ∈ b, goodN 5 x) : Bk b := ⟨⟨h1, h2, fun x hx => by
    obtain ⟨a1, a2, a3⟩ := h x hx
    exact ⟨by omega, by omega, fun c hc => by rcases a3 c hc with rfl | rfl | rfl <;> decide⟩⟩, fun o => by
  have := evB_le (o := o) (m := 5) (b := b) fun x hx => by have := (h x hx).2.1; omega
  omega, fun x hx => (h x hx).2.2⟩
/-! ### rows of few letters -/
def four : List Tx := [[], [97], [98], [122]]
theorem let_four {b : List Tx} (hb : Bk b) {o : Nat} {e : Ev} (h : e ∈ evB o b) : e.2 ∈ four := by
  obtain ⟨x, hx, i, hi, rfl⟩ := evB_mem h
  have hc := hb.let3 x hx
  show (x.drop i).take 1 ∈ four
  cases e : x.drop i with
  | nil => simp [four]
  | cons c t =>
    have : c ∈ x := List.mem_of_mem_drop (by rw [e]; exact List.mem_cons_self)
    rcases hc c this with rfl | rfl | rfl <;> simp [four]
theorem few_of {r : Rw} (h : SS r) (k : ∀ l ∈ ks r, l ∈ four) : r.length ≤ 4 := by
  have p : (ks r).Perm (four.filter fun l => decide (l ∈ ks r)) := (List.perm_ext_iff_of_nodup h.nd (List.Pairwise.filter _ (show four.Pairwise (· ≠ ·) by decide))).mpr fun l => by
    rw [List.mem_filter, decide_eq_true_iff]
    exact ⟨fun m => ⟨k l m, m⟩, fun m => m.2⟩
  have := p.length_eq
  have h2 := List.length_filter_le (fun l => decide (l ∈ ks r)) four
  have h3 : (ks r).length = r.length := by simp [ks]
  have h4 : four.length = 4 := rfl
  omega
theorem sortP_row {r : Rw} (h : SS r) (few : r.length ≤ 4) : dSortSetP (.tup (rowT r)) = .ok (.lst (rowT r)) := by
  have e1 : okK (r.map fun e => [Sum.inr e.1, Sum.inl e.2]) = true := by
    cases r with
    | nil => rfl
    | cons e r =>
      show (!([Sum.inr e.1, Sum.inl e.2] : List Ik).isEmpty && _) = true
      simp
  have e2 : sortK (r.map fun e => [Sum.inr e.1, Sum.inl e.2]) = r.map fun e => [Sum.inr e.1, Sum.inl e.2] := by
    refine List.mergeSort_of_pairwise ?_
    rw [List.pairwise_map]
    have h := h
    unfold SS ks at h
    rw [List.pairwise_map] at h
    exact h.imp fun h => leK_fst h
  have e3 : (r.map fun e => ([Sum.inr e.1, Sum.inl e.2] : List Ik)).Nodup := by
    have h := h.nd
    unfold ks at h
    exact List.pairwise_map.mpr ((List.pairwise_map.mp h).imp fun {a b} ne z => ne (by
      injection z with z1 _
      exact Sum.inr.inj z1))
  unfold dSortSetP
  rw [rowT_un]
  simp only [asTs_map]
  rw [if_pos ⟨e1, e3, by rw [List.length_map]; exact few⟩, e2]
theorem sortS_cxs (es : List Ev) (h : es.length < 64) : dSortSet (.lst ((cxs es).map .str)) = .ok (.lst ((cxs es).map .str)) := by
  have hl := cxs_len es
  have h4 : (cxs es).length < 4000 := by omega
  have : dSortSet (.lst ((cxs es).map .str)) = .ok (.lst ((sortT (cxs es).eraseDups).map .str)) := by
    unfold dSortSet setOr
    simp only [asSeq, List.length_map, h4, if_true, asTxs_map]
  rw [this, cxs_self]
section
variable {B L : D} {o : Nat} {s0 s3 s4 s5 s6 s7 s8 s9 s10 s11 s12 s13 s14 s15 s16 : Sl} {b : List Tx} {es : List Ev}
def r7 : Ga → R Fl := fSet 7 (bCall g__law_pairs (bCons (bCall g_table (bCons (b2 dAdd (bVar 1) (bVar 1)) (bCons (bVar 2) bNil))) bNil))
def r8 : Ga → R Fl := fOwn 8 (bLcE (bVar 4) [10, 11, 12] (bdT [10, 11, 12]) yes (bTup (bCons (bVar 10) (bCons (bVar 11) (bCons (b2 dMul (bC (.int 2)) (bVar 12)) bNil)))))
def r9 : Ga → R Fl := fIf (tOr (tVal (b2 dNe (bVar 7) (bRd 8))) (tVal (b2 dNe (bCall g_table (bCons (b1 dRev (bVar 1)) (bCons (bVar 2) bNil))) (bVar 3)))) (fRet (bC (.bl false))) fNil
def r10 : Ga → R Fl := fOwn 9 (bLcE (bVar 3) [10, 16] (bdT [10, 16]) yes (bVar 10))
def r11 : Ga → R Fl := fIf (tOr (tVal (b2 dNe (bRd 9) (b1 dSortSet (bRd 9)))) (tVal (b2 dNe (bLcE (bVar 3) [10, 16] (bdT [10, 16]) (tVal (b2 dNe (bN dList (bCons (bVar 16) bNil)) (b1 dSortSetP (bVar 16)))) (bVar 16)) (bLst bNil)))) (fRet (bC (.bl false))) fNil
def r12 : Ga → R Fl := fRet (b2 dEq (bLcE (bVar 3) [10, 16] (bdT [10, 16]) (tVal (b2 dNe (bCall g_behind (bCons (bVar 1) (bCons (bVar 2) (bCons (bVar 10) bNil)))) (bN dList (bCons (bVar 16) bNil)))) (bVar 10)) (bLst bNil))
def rest : Ga → R Fl := fSeq r7 (fSeq r8 (fSeq r9 (fSeq r10 (fSeq r11 r12))))
def qw : Ga → R Fl := fSeq (fSet 1 (bCall g__law_book (bCons (bVar 0) (bCons (bC (.int 0)) (bCons (bC (.int 4)) (bCons (bC (.int 5)) bNil)))))) (fSeq (fSet 2 (b2 dAdd (bC (.int 1)) (bCall g__law_drawn (bCons (bVar 0) (bCons (bC (.int 60)) (bCons (bC (.int 2)) bNil)))))) (fSeq (fSet 3 (bCall g_table (bCons (bVar 1) (bCons (bVar 2) bNil)))) (fSeq (fSet 4 (bCall g__law_pairs (bCons (bVar 3) bNil)))
  (fSeq q5 (fSeq q6 (fSeq q7 (fSeq q8 (fSeq (fSet 5 (bCall g__law_pairs (bCons (bCall g_table (bCons (bVar 1) (bCons (b2 dAdd (bVar 2) (bC (.int 1))) bNil))) bNil))) (fSums [10, 11, 12] 5 6 14 12 kyE prE rest)))))))))
theorem m_law_k02_e : m_law_k02 = qw := rfl
theorem pl_tr {ts : List Tr} (h : ∀ t ∈ ts, Tok b t) (f : Int → Int) : pl 20 (.lst ((ts.map fun t => (t.1, f t.2)).map trD)) = true := by
  rw [pl_lst, List.map_map, List.all_map, List.all_eq_true]
  intro t ht
  have T := h t ht
  show pl 19 (.tup [.str t.1.1, .str t.1.2, .int (f t.2)]) = true
  rw [pl_tup]
  simp only [List.all_cons, List.all_nil, pl_str, pl_int, T.c.chs.all, T.ch.all, Bool.and_self]
theorem cxs_txt (hb : bookOk b) {c : Tx} (h : c ∈ cxs (evB o b)) : txtOk c ∧ endT o c = c := by
  obtain ⟨l, hl⟩ := cxs_mem.mp h
  obtain ⟨h1, h2, _⟩ := ev_ctx hb.2.2 hl
  exact ⟨h1, h2⟩
theorem pl_cxs (hb : bookOk b) (o : Nat) : pl 20 (.lst ((cxs (evB o b)).map .str)) = true := by
  rw [pl_lst, List.all_map, List.all_eq_true]
  intro c hc
  show pl 19 (.str c) = true
  rw [pl_str]; exact (cxs_txt hb hc).1.chs.all
theorem pl_tab (hb : bookOk b) (o : Nat) : pl 20 (tableD (evB o b)) = true := by
  rw [tableD_cxs, pl_lst, List.all_map, List.all_eq_true]
  intro c hc
  show pl 19 (.tup [.str c, .tup (rowT (rowL (evB o b) c))]) = true
  rw [pl_tup]
  have h2 : pl 18 (.tup (rowT (rowL (evB o b) c))) = true := pl_row (fun l hl => (ev_ctx hb.2.2 (row_mem hl)).2.2) 16
  simp only [List.all_cons, List.all_nil, h2, pl_str, (cxs_txt hb hc).1.chs.all, Bool.and_self]
theorem add_bk {b : List Tx} (h : Bk (b ++ b)) : dAdd (bkD b) (bkD b) = .ok (bkD (b ++ b)) := by
  unfold bkD
  show (if _ then _ else _) = _
  have := h.ok.2.1
  rw [List.length_append] at this
  rw [if_pos (by rw [List.length_map, lim_val]; omega), List.map_append]
theorem rest_ok (hb : Bk b) (hbb : Bk (b ++ b)) (hrv : Bk b.reverse) (ho : 1 ≤ o ∧ o ≤ 2) :
    rest (Fr (bkD b) o s0 (.va (tableD (evB o b))) (.va (.lst ((prs (evB o b)).map trD))) s5 s6 s7 s8 s9 s10 s11 s12 s13 s14 s15 s16) = .ok (.rt (.bl true)) := by
  have hes := hb.len o
  have T := tok_of (o := o) hb.ok hes
  have ho3 : 1 ≤ o ∧ o ≤ 3 := by omega
  have hl := prs_len (evB o b)
  -- twice
  have t1 := table_ok hbb.ok ho3 (hbb.len o)
  have p1 := pairs_ok (hbb.len o)
  rw [evB_append] at t1 p1
  rw [prs_dbl] at p1
  have a1 : bCall g_table (bCons (b2 dAdd (bVar 1) (bVar 1)) (bCons (bVar 2) bNil)) (Fr (bkD b) o s0 (.va (tableD (evB o b))) (.va (.lst ((prs (evB o b)).map trD))) s5 s6 s7 s8 s9 s10 s11 s12 s13 s14 s15 s16) = .ok (tableD (evB o b ++ evB o b)) := by
    rw [bCall_e, bCons_e, b2v (x := bkD b) (y := bkD b) rfl rfl (add_bk hbb)]
    exact t1
  have o7 : r7 (Fr (bkD b) o s0 (.va (tableD (evB o b))) (.va (.lst ((prs (evB o b)).map trD))) s5 s6 s7 s8 s9 s10 s11 s12 s13 s14 s15 s16) = .ok (.nx (Fr (bkD b) o s0 (.va (tableD (evB o b))) (.va (.lst ((prs (evB o b)).map trD))) s5 s6 (.va (.lst (((prs (evB o b)).map fun t => (t.1, 2 * t.2)).map trD))) s8 s9 s10 s11 s12 s13 s14 s15 s16)) :=
    set_e (i := 7) (by rw [bCall_e, bCons_e, a1]; exact p1)
  -- due
  have d1 := lcM (fe := bVar 4) (elt := bTup (bCons (bVar 10) (bCons (bVar 11) (bCons (b2 dMul (bC (.int 2)) (bVar 12)) bNil)))) (vs := [10, 11, 12]) (bd := bdT [10, 11, 12]) (inj := trD) (l := prs (evB o b)) (f := fun t => trD (t.1, 2 * t.2))
    (γ := Fr (bkD b) o s0 (.va (tableD (evB o b))) (.va (.lst ((prs (evB o b)).map trD))) s5 s6 (.va (.lst (((prs (evB o b)).map fun t => (t.1, 2 * t.2)).map trD))) s8 s9 s10 s11 s12 s13 s14 s15 s16) rfl rfl (fun t ht => ⟨_, rfl, by
      have e1 : dMul (.int 2) (.int t.2) = .ok (.int (2 * t.2)) := dMul_s (show (2 : Int).natAbs < 2 ^ 100 by decide) (by have := (T t ht).n1; have := (T t ht).n2; omega)
      rw [bTup_e, bCons_e, bCons_e, bCons_e, b2v (x := .int 2) (y := .int t.2) rfl rfl e1]
      rfl⟩) (by rw [lim_val]; omega)
  have e1 : (prs (evB o b)).map (fun t => trD (t.1, 2 * t.2)) = ((prs (evB o b)).map fun t => (t.1, 2 * t.2)).map trD := by rw [List.map_map]; rfl
  rw [e1] at d1
  have x1 := dNe_self (pl_tr T (fun n => 2 * n))
  generalize hW : D.lst (((prs (evB o b)).map fun t => (t.1, 2 * t.2)).map trD) = W at *
  have o8 : r8 (Fr (bkD b) o s0 (.va (tableD (evB o b))) (.va (.lst ((prs (evB o b)).map trD))) s5 s6 (.va W) s8 s9 s10 s11 s12 s13 s14 s15 s16) = .ok (.nx (Fr (bkD b) o s0 (.va (tableD (evB o b))) (.va (.lst ((prs (evB o b)).map trD))) s5 s6 (.va W) (.ow W) s9 s10 s11 s12 s13 s14 s15 s16)) := ownE d1
  -- the other way round
  have t2 := table_ok hrv.ok ho3 (hrv.len o)
  rw [tableD_congr (fs := evB o b) fun e => (evB_perm o (List.reverse_perm b)).count_eq e] at t2
  have x2 := dNe_self (pl_tab hb.ok o)
  have o9 : r9 (Fr (bkD b) o s0 (.va (tableD (evB o b))) (.va (.lst ((prs (evB o b)).map trD))) s5 s6 (.va W) (.ow W) s9 s10 s11 s12 s13 s14 s15 s16) = .ok (.nx (Fr (bkD b) o s0 (.va (tableD (evB o b))) (.va (.lst ((prs (evB o b)).map trD))) s5 s6 (.va W) (.ow W) s9 s10 s11 s12 s13 s14 s15 s16)) := by
    refine if_f (orF (tvE (b2v rfl rfl x1)) (tvE (b2v (x := tableD (evB o b)) ?_ rfl x2)))
    have rv : b1 dRev (bVar 1) (Fr (bkD b) o s0 (.va (tableD (evB o b))) (.va (.lst ((prs (evB o b)).map trD))) s5 s6 (.va W) (.ow W) s9 s10 s11 s12 s13 s14 s15 s16) = .ok (bkD b.reverse) := by
      show R.ok (D.tup (b.map D.str).reverse) = .ok (D.tup (b.reverse.map D.str))
      rw [List.map_reverse]
    rw [bCall_e, bCons_e, rv]
    exact t2
  -- the ends
  have l3 := cxs_len (evB o b)
  have c1 := lcM (fe := bVar 3) (elt := bVar 10) (vs := [10, 16]) (bd := bdT [10, 16]) (inj := rwD (evB o b)) (l := cxs (evB o b)) (f := D.str)
    (γ := Fr (bkD b) o s0 (.va (tableD (evB o b))) (.va (.lst ((prs (evB o b)).map trD))) s5 s6 (.va W) (.ow W) s9 s10 s11 s12 s13 s14 s15 s16) (d := tableD (evB o b)) rfl rfl (fun c _ => ⟨_, rfl, rfl⟩) (by rw [lim_val]; omega)
  have ss := sortS_cxs (evB o b) hes
  have x3 := dNe_self (pl_cxs hb.ok o)
  generalize hC : D.lst ((cxs (evB o b)).map .str) = C at *
  have o10 : r10 (Fr (bkD b) o s0 (.va (tableD (evB o b))) (.va (.lst ((prs (evB o b)).map trD))) s5 s6 (.va W) (.ow W) s9 s10 s11 s12 s13 s14 s15 s16) = .ok (.nx (Fr (bkD b) o s0 (.va (tableD (evB o b))) (.va (.lst ((prs (evB o b)).map trD))) s5 s6 (.va W) (.ow W) (.ow C) s10 s11 s12 s13 s14 s15 s16)) := ownE c1
  have none : ∀ (l : List Tx), (l.filter fun _ => false) = [] := fun l => List.filter_eq_nil_iff.mpr fun _ _ => by decide
  have c2 := lcL (fe := bVar 3) (elt := bVar 16) (ifs := tVal (b2 dNe (bN dList (bCons (bVar 16) bNil)) (b1 dSortSetP (bVar 16)))) (vs := [10, 16]) (bd := bdT [10, 16]) (inj := rwD (evB o b)) (l := cxs (evB o b)) (p := fun _ => false) (f := fun _ => D.non)
    (γ := Fr (bkD b) o s0 (.va (tableD (evB o b))) (.va (.lst ((prs (evB o b)).map trD))) s5 s6 (.va W) (.ow W) (.ow C) s10 s11 s12 s13 s14 s15 s16) (d := tableD (evB o b)) rfl rfl (fun c _ => ⟨_, rfl, by
      have k := sortP_row (rowL_ss (evB o b) c) (few_of (rowL_ss (evB o b) c) fun l hl => let_four hb (row_mem hl))
      exact tvE (b2v (x := .lst (rowT (rowL (evB o b) c))) (y := .lst (rowT (rowL (evB o b) c))) rfl k (dNe_self (rowL_pl hb.ok.2.2 c))), fun z => nomatch z⟩) (by rw [lim_val]; omega)
  rw [none] at c2
  have x4 : dNe (.lst []) (.lst []) = .ok (.bl false) := dNe_self rfl
  have o11 : r11 (Fr (bkD b) o s0 (.va (tableD (evB o b))) (.va (.lst ((prs (evB o b)).map trD))) s5 s6 (.va W) (.ow W) (.ow C) s10 s11 s12 s13 s14 s15 s16) = .ok (.nx (Fr (bkD b) o s0 (.va (tableD (evB o b))) (.va (.lst ((prs (evB o b)).map trD))) s5 s6 (.va W) (.ow W) (.ow C) s10 s11 s12 s13 s14 s15 s16)) :=
    if_f (orF (tvE (b2v (x := C) (y := C) rfl ss x3)) (tvE (b2v c2 rfl x4)))
  -- what is behind
  have c3 := lcL (fe := bVar 3) (elt := bVar 10) (ifs := tVal (b2 dNe (bCall g_behind (bCons (bVar 1) (bCons (bVar 2) (bCons (bVar 10) bNil)))) (bN dList (bCons (bVar 16) bNil)))) (vs := [10, 16]) (bd := bdT [10, 16]) (inj := rwD (evB o b)) (l := cxs (evB o b)) (p := fun _ => false) (f := fun _ => D.non)
    (γ := Fr (bkD b) o s0 (.va (tableD (evB o b))) (.va (.lst ((prs (evB o b)).map trD))) s5 s6 (.va W) (.ow W) (.ow C) s10 s11 s12 s13 s14 s15 s16) (d := tableD (evB o b)) rfl rfl (fun c hc => ⟨_, rfl, by
      obtain ⟨h1, h2⟩ := cxs_txt hb.ok hc
      have k := behind_ok hb.ok ho3 h1 (Nat.lt_of_le_of_lt ((tabOk _).rlen _) hes)
      rw [h2] at k
      exact tvE (b2v (x := .lst (rowT (rowL (evB o b) c))) (y := .lst (rowT (rowL (evB o b) c))) k rfl (dNe_self (rowL_pl hb.ok.2.2 c))), fun z => nomatch z⟩) (by rw [lim_val]; omega)
  rw [none] at c3
  have x5 : dEq (.lst []) (.lst []) = .ok (.bl true) := dEq_self rfl
  unfold rest
  rw [seq_nx o7, seq_nx o8, seq_nx o9, seq_nx o10, seq_nx o11]
  exact ret_e (b2v c3 rfl x5)
end
theorem law_true_k02 : ∀ ns : List Int, ns.length ≤ 63 → g_law_k02 [.lst (ns.map .int)] = .ok (.bl true) := by
  intro ns hns
  obtain ⟨gb1, gb2, gb3, gb4⟩ := book_ok hns (k := 0) (many := 4) (m := 5) (by decide) (by decide) (by decide) (by decide) (by decide) (by decide)
  obtain ⟨d1, d2, d3⟩ := drawn_ok hns (k := 60) (m := 2) (by decide) (by decide) (by decide)
  generalize bookF ns 0 4 5 = b at *
  obtain ⟨o, ho0⟩ : ∃ o : Nat, (o : Int) = 1 + drawnF ns 60 2 := ⟨(1 + drawnF ns 60 2).toNat, by omega⟩
  have ho : 1 ≤ o ∧ o ≤ 2 := by omega
  generalize drawnF ns 60 2 = dr at *
  have hb : Bk b := .mk' (by omega) (by omega) gb4
  have hbb : Bk (b ++ b) := .mk' (by rw [List.length_append]; omega) (by rw [List.length_append]; omega) fun x hx => by
    rcases List.mem_append.mp hx with h | h <;> exact gb4 x h
  have hrv : Bk b.reverse := .mk' (by rw [List.length_reverse]; omega) (by rw [List.length_reverse]; omega) fun x hx => gb4 x (List.mem_reverse.mp hx)
  have hes := hb.len o
  have hfs := hb.len (o + 1)
  have tb := table_ok hb.ok (o := o) (by omega) hes
  have tb2 := table_ok hb.ok (o := o + 1) (by omega) hfs
  have pr := pairs_ok hes
  have pr2 := pairs_ok hfs
  have T := tok_of (o := o) hb.ok hes
  have T2 := tok_of (o := o + 1) hb.ok hfs
  show g_law_k02 [Lk ns] = _
  unfold g_law_k02
  refine fn_rt ?_
  rw [m_law_k02_e]
  show qw [.va (Lk ns), .un, .un, .un, .un, .un, .un, .un, .un, .un, .un, .un, .un, .un, .un, .un, .un] = _
  unfold qw
  have o1 : fSet 1 (bCall g__law_book (bCons (bVar 0) (bCons (bC (.int 0)) (bCons (bC (.int 4)) (bCons (bC (.int 5)) bNil))))) [.va (Lk ns), .un, .un, .un, .un, .un, .un, .un, .un, .un, .un, .un, .un, .un, .un, .un, .un] = .ok (.nx [.va (Lk ns), .va (bkD b), .un, .un, .un, .un, .un, .un, .un, .un, .un, .un, .un, .un, .un, .un, .un]) := set_e (i := 1) gb1
  have o2 : fSet 2 (b2 dAdd (bC (.int 1)) (bCall g__law_drawn (bCons (bVar 0) (bCons (bC (.int 60)) (bCons (bC (.int 2)) bNil))))) [.va (Lk ns), .va (bkD b), .un, .un, .un, .un, .un, .un, .un, .un, .un, .un, .un, .un, .un, .un, .un] = .ok (.nx (Fr (bkD b) o (.va (Lk ns)) .un .un .un .un .un .un .un .un .un .un .un .un .un .un)) :=
    set_e (i := 2) (b2v (x := .int 1) (y := .int dr) rfl d1 (by rw [dAdd_i, ho0]))
  have o3 : fSet 3 (bCall g_table (bCons (bVar 1) (bCons (bVar 2) bNil))) (Fr (bkD b) o (.va (Lk ns)) .un .un .un .un .un .un .un .un .un .un .un .un .un .un) = .ok (.nx (Fr (bkD b) o (.va (Lk ns)) (.va (tableD (evB o b))) .un .un .un .un .un .un .un .un .un .un .un .un .un)) := set_e (i := 3) tb
  have o4 : fSet 4 (bCall g__law_pairs (bCons (bVar 3) bNil)) (Fr (bkD b) o (.va (Lk ns)) (.va (tableD (evB o b))) .un .un .un .un .un .un .un .un .un .un .un .un .un) = .ok (.nx (Fr (bkD b) o (.va (Lk ns)) (.va (tableD (evB o b))) (.va (.lst ((prs (evB o b)).map trD))) .un .un .un .un .un .un .un .un .un .un .un .un)) := set_e (i := 4) pr
  rw [seq_nx o1, seq_nx o2, seq_nx o3, seq_nx o4, seq_nx (q5_ok hb.ok (by omega) hes), seq_nx (q6_ok hb.ok (fun t ht => (T t ht).ch) hes), seq_nx (q7_ok hb.ok hes)]
  obtain ⟨t10, t11, t12, t13, o8⟩ := q8_ok (o := o) (s0 := .va (Lk ns)) (s3 := .va (tableD (evB o b))) (s5 := .un) (s6 := .un) (s7 := .un) (s8 := .un) (s9 := .un) (s10 := .un) (s11 := .un) (s12 := .un) (s13 := .un) (s14 := .un) (s15 := .un) (s16 := .un) hb.ok T
  rw [seq_nx o8]
  have a1 : bCall g_table (bCons (bVar 1) (bCons (b2 dAdd (bVar 2) (bC (.int 1))) bNil)) (Fr (bkD b) o (.va (Lk ns)) (.va (tableD (evB o b))) (.va (.lst ((prs (evB o b)).map trD))) .un .un .un .un .un t10 t11 t12 t13 .un .un .un) = .ok (tableD (evB (o + 1) b)) := tb2
  have o9 : fSet 5 (bCall g__law_pairs (bCons (bCall g_table (bCons (bVar 1) (bCons (b2 dAdd (bVar 2) (bC (.int 1))) bNil))) bNil)) (Fr (bkD b) o (.va (Lk ns)) (.va (tableD (evB o b))) (.va (.lst ((prs (evB o b)).map trD))) .un .un .un .un .un t10 t11 t12 t13 .un .un .un) = .ok (.nx (Fr (bkD b) o (.va (Lk ns)) (.va (tableD (evB o b))) (.va (.lst ((prs (evB o b)).map trD))) (.va (.lst ((prs (evB (o + 1) b)).map trD))) .un .un .un .un t10 t11 t12 t13 .un .un .un)) :=
    set_e (i := 5) (by rw [bCall_e, bCons_e, a1]; exact pr2)
  rw [seq_nx o9]
  exact q10_ok (evB_up o b) hes hfs (fun t ht => (T2 t ht).c.len) fun _ _ _ _ => rest_ok hb hbb hrv ho
end
end KN
open PySem PySem.W PyProof.Rows
set_option maxHeartbeats 0 in
theorem PySem.Challenge.cw_kinnames_k02_whole_tables_holds : PySem.Challenge.rw_kinnames_k02_whole_tables.Holds := by
  w_on; o_law; k_head; (case hw => w_witness2)
  k_fill
  refine L2.walk_of (l := PySem.Challenge.rw_kinnames_k02_whole_tables) (n := 63) (k := 5) (x := "_law_script") (CX := fun w => L2.CX PySem.Challenge.rw_kinnames_k02_whole_tables.prog w) (sp := fun w => KN.spOk _ 1 KN.g_law_k02) rfl (by decide) rfl ⟨rfl, by decide, by decide⟩ (fun w h Y => PySem.W.kIn_of Y) ?F (fun _ _ a ns hl _ hS => KN.law_endX KN.law_true_k02 hl hS) (fun w H s e s' h => KN.cx_end h)
  case F =>
    intro w mg fa h KX G hmg
    refine' KN.all_mk KX G hmg ?a0 ?l0 ?c0 ?k0 ?a1 ?l1 ?c1 ?k1 ?a2 ?l2 ?c2 ?k2 ?a3 ?l3 ?c3 ?k3 ?a4 ?l4 ?c4 ?k4 ?a5 ?l5 ?c5 ?k5 ?a6 ?l6 ?c6 ?k6 ?a7 ?l7 ?c7 ?k7 ?a8 ?l8 ?c8 ?k8 ?a9 ?l9 ?c9 ?k9 ?a10 ?l10 ?c10 ?k10 ?a11 ?l11 ?c11 ?k11 ?a12 ?l12 ?c12 ?k12 ?a13 ?l13 ?c13 ?k13 ?a14 ?l14 ?c14 ?k14 ?a15 ?l15 ?c15 ?k15 ?a16 ?l16 ?c16 ?k16 ?z_all ?z_bool ?z_dict ?z_int ?z_isinstance ?z_len ?z_list ?z_max ?z_range ?z_set ?z_sorted ?z_str ?z_sum ?z_tuple ?g_LETTERS ?g_MOST_LETTERS ?g_MOST_NAMES ?g_MOST_ORDER ?EL ?E0 ?E1 ?E2 ?ES
    case a0 => k_is
    case l0 => k_is
    case c0 => k_is
    case k0 => k_is
    case a1 => k_is
    case l1 => k_is
    case c1 => k_is
    case k1 => k_is
    case a2 => k_is
    case l2 => k_is
    case c2 => k_is
    case k2 => k_is
    case a3 => k_is
    case l3 => k_is
    case c3 => k_is
    case k3 => k_is
    case a4 => k_is
    case l4 => k_is
    case c4 => k_is
    case k4 => k_is
    case a5 => k_is
    case l5 => k_is
    case c5 => k_is
    case k5 => k_is
    case a6 => k_is
    case l6 => k_is
    case c6 => k_is
    case k6 => k_is
    case a7 => k_is
    case l7 => k_is
    case c7 => k_is
    case k7 => k_is
    case a8 => k_is
    case l8 => k_is
    case c8 => k_is
    case k8 => k_is
    case a9 => k_is
    case l9 => k_is
    case c9 => k_is
    case k9 => k_is
    case a10 => k_is
    case l10 => k_is
    case c10 => k_is
    case k10 => k_is
    case a11 => k_is
    case l11 => k_is
    case c11 => k_is
    case k11 => k_is
    case a12 => k_is
    case l12 => k_is
    case c12 => k_is
    case k12 => k_is
    case a13 => k_is
    case l13 => k_is
    case c13 => k_is
    case k13 => k_is
    case a14 => k_is
    case l14 => k_is
    case c14 => k_is
    case k14 => k_is
    case a15 => k_is
    case l15 => k_is
    case c15 => k_is
    case k15 => k_is
    case a16 => k_is
    case l16 => k_is
    case c16 => k_is
    case k16 => k_is
    case z_all => k_is
    case z_bool => k_is
    case z_dict => k_is
    case z_int => k_is
    case z_isinstance => k_is
    case z_len => k_is
    case z_list => k_is
    case z_max => k_is
    case z_range => k_is
    case z_set => k_is
    case z_sorted => k_is
    case z_str => k_is
    case z_sum => k_is
    case z_tuple => k_is
    case g_LETTERS => k_is
    case g_MOST_LETTERS => k_is
    case g_MOST_NAMES => k_is
    case g_MOST_ORDER => k_is
    case EL => (refine' KN.ErrL.mk ?nn ?bb ?tt ?dd; (case nn => k_is); (case bb => k_is); (case tt => k_is); (case dd => k_is))
    case E0 => (refine' KN.ErrOne.mk ?y0 ?y1 ?y2 ?y3 ?y4 ?y5 ?y6 ?y7 ?y8 ?y9 ?y10 ?y11 ?y12 ?y13; (case y0 => k_is); (case y1 => k_exc); (case y2 => k_is); (case y3 => k_is); (case y4 => k_is); (case y5 => k_is); (case y6 => k_is); (case y7 => k_is); (case y8 => k_is); (case y9 => k_is); (case y10 => k_is); (case y11 => k_is); (case y12 => k_is); (case y13 => k_is))
    case E1 => (refine' KN.ErrOne.mk ?y0 ?y1 ?y2 ?y3 ?y4 ?y5 ?y6 ?y7 ?y8 ?y9 ?y10 ?y11 ?y12 ?y13; (case y0 => k_is); (case y1 => k_exc); (case y2 => k_is); (case y3 => k_is); (case y4 => k_is); (case y5 => k_is); (case y6 => k_is); (case y7 => k_is); (case y8 => k_is); (case y9 => k_is); (case y10 => k_is); (case y11 => k_is); (case y12 => k_is); (case y13 => k_is))
    case E2 => (refine' KN.ErrOne.mk ?y0 ?y1 ?y2 ?y3 ?y4 ?y5 ?y6 ?y7 ?y8 ?y9 ?y10 ?y11 ?y12 ?y13; (case y0 => k_is); (case y1 => k_exc); (case y2 => k_is); (case y3 => k_is); (case y4 => k_is); (case y5 => k_is); (case y6 => k_is); (case y7 => k_is); (case y8 => k_is); (case y9 => k_is); (case y10 => k_is); (case y11 => k_is); (case y12 => k_is); (case y13 => k_is))
    case ES => (refine' KN.ErrSub.mk ?y0 ?y1 ?y2 ?y3 ?y4 ?y5 ?y6 ?y7 ?y8; (case y0 => k_is); (case y1 => k_is); (case y2 => k_is); (case y3 => k_is); (case y4 => k_is); (case y5 => k_is); (case y6 => k_is); (case y7 => k_is); (case y8 => k_is))
