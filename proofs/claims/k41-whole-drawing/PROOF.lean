import PyProof.Rows.All
import Wide.All
import OpenK.AllK
import Wide.FinOn
import HandS.ForMost
import HandS.ForExc
import HandS.CallSlots
import HandS.Wide
import HandS.More
import HandS.TupAny
import HandS.TupMul
import HandS.Deep
import HandS.Style
import HandS.IsInst
import HandS.SortInts
import PyProof.Rows.SortShellAny
import KE.KSortTupG
import HandS.SetFor
import HandS.TryOnly
import HandS.HotCalls
import HandS.ExcIs
import HandS.ListItems
import KE.SortData
import HandS.Conv
import HandS.StrMore
import HandS.Codes
import HandS.Zip
import HandS.TryMany
import HandS.Text
import PySem.Challenge.RW_kinnames_k41_whole_drawing
set_option Elab.async false
set_option linter.all false
set_option maxRecDepth 100000
set_option maxHeartbeats 4000000
/-! KnA: pure data, their standing in a heap, judgements -/
namespace KN
open PySem PySem.Spec PyProof.Rows L2
/-! ### pure data -/
abbrev Tx := List Nat
inductive D where
  | non | bl (b : Bool) | int (i : Int) | str (s : Tx)
  | lst (xs : List D) | tup (xs : List D) | dic (es : List (Tx × D))
abbrev toS (s : Tx) : Str := ⟨s.toArray⟩
inductive R (α : Type) where
  | ok (a : α) | ex (c : Nat) | no
namespace R
@[simp] def bind {α β : Type} : R α → (α → R β) → R β
  | ok a, f => f a
  | ex c, _ => ex c
  | no, _ => no
@[simp] def noex {α : Type} : R α → R α
  | ok a => ok a
  | _ => no
end R
inductive Sl where
  | un | va (d : D) | ow (d : D) | nd (es : List (Tx × List (Tx × D))) | xc (a : Addr)
abbrev Ga := List Sl
/-! ### data in a heap -/
mutual
inductive Rep (K : PySem.W.Frag) (F : Hp) : D → V → Prop
  | non : Rep K F .non .non
  | bl (b : Bool) : Rep K F (.bl b) (.bl b)
  | int (i : Int) : Rep K F (.int i) (.int i)
  | str (s : Tx) : Rep K F (.str s) (.str (toS s))
  | lst {a : Addr} {ds : List D} {vs : List V} : SqL K F a vs → Reps K F ds vs → Rep K F (.lst ds) (.ref a)
  | tup {a : Addr} {ds : List D} {vs : List V} : SqT K F a vs → Reps K F ds vs → Rep K F (.tup ds) (.ref a)
  | dic {a : Addr} {es : List (Tx × D)} {kvs : List (Key × V)} : F a = some (.dK kvs) → RepK K F es kvs → Rep K F (.dic es) (.ref a)
inductive Reps (K : PySem.W.Frag) (F : Hp) : List D → List V → Prop
  | nil : Reps K F [] []
  | cons {d : D} {ds : List D} {v : V} {vs : List V} : Rep K F d v → Reps K F ds vs → Reps K F (d :: ds) (v :: vs)
inductive RepK (K : PySem.W.Frag) (F : Hp) : List (Tx × D) → List (Key × V) → Prop
  | nil : RepK K F [] []
  | cons {k : Tx} {d : D} {es : List (Tx × D)} {v : V} {kvs : List (Key × V)} : Rep K F d v → RepK K F es kvs → RepK K F ((k, d) :: es) ((Sum.inr (toS k), v) :: kvs)
end
theorem same_sqt {K : PySem.W.Frag} {F F' : Hp} {a : Addr} {xs : List V} (e : Same F F') (h : SqT K F a xs) : SqT K F' a xs := by
  rcases h with (h | ⟨o, h⟩) | h
  · exact .inl (.inl (e _ _ h))
  · exact .inl (.inr ⟨o, e _ _ h⟩)
  · exact .inr h
section
variable {K : PySem.W.Frag} {F F' : Hp}
theorem Rep.mono (e : Same F F') {d : D} {v : V} (h : Rep K F d v) : Rep K F' d v :=
  Rep.rec (motive_1 := fun d v _ => Rep K F' d v) (motive_2 := fun ds vs _ => Reps K F' ds vs) (motive_3 := fun es kvs _ => RepK K F' es kvs)
    .non .bl .int .str (fun h1 _ i => .lst (e.seq h1) i) (fun h1 _ i => .tup (same_sqt e h1) i) (fun h1 _ i => .dic (e _ _ h1) i)
    .nil (fun _ _ i j => .cons i j) .nil (fun _ _ i j => .cons i j) h
theorem Reps.mono (e : Same F F') {ds : List D} {vs : List V} (h : Reps K F ds vs) : Reps K F' ds vs :=
  Reps.rec (motive_1 := fun d v _ => Rep K F' d v) (motive_2 := fun ds vs _ => Reps K F' ds vs) (motive_3 := fun es kvs _ => RepK K F' es kvs)
    .non .bl .int .str (fun h1 _ i => .lst (e.seq h1) i) (fun h1 _ i => .tup (same_sqt e h1) i) (fun h1 _ i => .dic (e _ _ h1) i)
    .nil (fun _ _ i j => .cons i j) .nil (fun _ _ i j => .cons i j) h
theorem RepK.mono (e : Same F F') {es : List (Tx × D)} {kvs : List (Key × V)} (h : RepK K F es kvs) : RepK K F' es kvs :=
  RepK.rec (motive_1 := fun d v _ => Rep K F' d v) (motive_2 := fun ds vs _ => Reps K F' ds vs) (motive_3 := fun es kvs _ => RepK K F' es kvs)
    .non .bl .int .str (fun h1 _ i => .lst (e.seq h1) i) (fun h1 _ i => .tup (same_sqt e h1) i) (fun h1 _ i => .dic (e _ _ h1) i)
    .nil (fun _ _ i j => .cons i j) .nil (fun _ _ i j => .cons i j) h
theorem Reps.length {ds : List D} {vs : List V} (h : Reps K F ds vs) : ds.length = vs.length := by
  induction ds generalizing vs with
  | nil => cases h; rfl
  | cons d ds ih => cases h with | cons h1 h2 => simp [ih h2]
theorem Reps.get {ds : List D} {vs : List V} (h : Reps K F ds vs) {i : Nat} {d : D} (e : ds[i]? = some d) : ∃ v, vs[i]? = some v ∧ Rep K F d v := by
  induction ds generalizing vs i with
  | nil => simp at e
  | cons d' ds ih =>
    cases h with
    | cons h1 h2 =>
      cases i with
      | zero => simp at e; subst e; exact ⟨_, rfl, h1⟩
      | succ i => simp at e; simpa using ih h2 e
theorem Reps.append {ds es : List D} {vs us : List V} (h : Reps K F ds vs) (h' : Reps K F es us) : Reps K F (ds ++ es) (vs ++ us) := by
  induction ds generalizing vs with
  | nil => cases h; exact h'
  | cons d ds ih => cases h with | cons h1 h2 => exact .cons h1 (ih h2)
theorem Reps.take {ds : List D} {vs : List V} (h : Reps K F ds vs) (n : Nat) : Reps K F (ds.take n) (vs.take n) := by
  induction ds generalizing vs n with
  | nil => cases h; simp; exact .nil
  | cons d ds ih =>
    cases h with
    | cons h1 h2 =>
      cases n with
      | zero => exact .nil
      | succ n => exact .cons h1 (ih h2 n)
theorem Reps.drop {ds : List D} {vs : List V} (h : Reps K F ds vs) (n : Nat) : Reps K F (ds.drop n) (vs.drop n) := by
  induction ds generalizing vs n with
  | nil => cases h; simp; exact .nil
  | cons d ds ih =>
    cases h with
    | cons h1 h2 =>
      cases n with
      | zero => exact .cons h1 h2
      | succ n => exact ih h2 n
theorem Reps.set {ds : List D} {vs : List V} (h : Reps K F ds vs) {d : D} {v : V} (r : Rep K F d v) (n : Nat) : Reps K F (ds.set n d) (vs.set n v) := by
  induction ds generalizing vs n with
  | nil => cases h; exact .nil
  | cons d' ds ih =>
    cases h with
    | cons h1 h2 =>
      cases n with
      | zero => exact .cons r h2
      | succ n => exact .cons h1 (ih h2 n)
theorem RepK.length {es : List (Tx × D)} {kvs : List (Key × V)} (h : RepK K F es kvs) : es.length = kvs.length := by
  induction es generalizing kvs with
  | nil => cases h; rfl
  | cons d ds ih => cases h with | cons h1 h2 => simp [ih h2]
end
/-- the frozen part of a heap; a dict of it may be locked -/
def Emb (F H : Hp) : Prop := ∀ a o, F a = some o → H a = some o ∨ ∃ ob kvs, o = .dK kvs ∧ H a = some (.frz ob (.dK kvs))
theorem Emb.sql {K : PySem.W.Frag} {F H : Hp} {a : Addr} {xs : List V} (e : Emb F H) (h : SqL K F a xs) : SqL K H a xs := by
  rcases h with (h | ⟨o, h⟩) | h
  · rcases e _ _ h with h | ⟨_, _, z, _⟩
    · exact .inl (.inl h)
    · cases z
  · rcases e _ _ h with h | ⟨_, _, z, _⟩
    · exact .inl (.inr ⟨o, h⟩)
    · cases z
  · exact .inr h
theorem Emb.sqt {K : PySem.W.Frag} {F H : Hp} {a : Addr} {xs : List V} (e : Emb F H) (h : SqT K F a xs) : SqT K H a xs := by
  rcases h with (h | ⟨o, h⟩) | h
  · rcases e _ _ h with h | ⟨_, _, z, _⟩
    · exact .inl (.inl h)
    · cases z
  · rcases e _ _ h with h | ⟨_, _, z, _⟩
    · exact .inl (.inr ⟨o, h⟩)
    · cases z
  · exact .inr h
theorem Emb.dk {F H : Hp} {a : Addr} {kvs : List (Key × V)} (e : Emb F H) (h : F a = some (.dK kvs)) : Rd H a (.dK kvs) := by
  rcases e _ _ h with h | ⟨ob, kvs', z, h⟩
  · exact .inl h
  · cases z; exact .inr ⟨ob, h⟩
theorem Emb.free {F H : Hp} {a : Addr} (e : Emb F H) (h : H a = none) : F a = none := by
  cases q : F a with
  | none => rfl
  | some o =>
    rcases e _ _ q with z | ⟨_, _, _, z⟩ <;> rw [h] at z <;> cases z
theorem Emb.none : Emb (fun _ => none) H := fun _ _ h => nomatch h
/-- F' and H' stand behind F and H: nothing known has changed -/
structure Nxt (F H F' H' : Hp) : Prop where
  f : Same F F'
  fn : ∀ a o, F' a = some o → F a = some o ∨ H a = none
  emb : Emb F' H'
  h : Same H H'
theorem Nxt.refl {F H : Hp} (e : Emb F H) : Nxt F H F H := ⟨.refl _, fun _ _ h => .inl h, e, .refl _⟩
theorem Nxt.trans {F H F1 H1 F2 H2 : Hp} (a : Nxt F H F1 H1) (b : Nxt F1 H1 F2 H2) : Nxt F H F2 H2 :=
  ⟨a.f.trans b.f, fun c o h => by
    rcases b.fn c o h with z | z
    · exact a.fn c o z
    · exact .inr (a.h.free z), b.emb, a.h.trans b.h⟩
theorem Nxt.new {F H : Hp} {p : Addr} (e : Emb F H) (hp : H p = none) (o : HO) : Nxt F H (upd F p o) (upd H p o) := by
  have fp : F p = none := e.free hp
  refine ⟨fun b u h => ?_, fun a u h => ?_, fun a u h => ?_, fun b u h => ?_⟩
  · rw [upd_ne (ne_of_none h fp)]; exact h
  · by_cases q : a = p
    · subst q; exact .inr hp
    · rw [upd_ne q] at h; exact .inl h
  · by_cases q : a = p
    · subst q; rw [upd_same] at h ⊢; exact .inl h
    · rw [upd_ne q] at h; rw [upd_ne q]; exact e a u h
  · rw [upd_ne (ne_of_none h hp)]; exact h
/-- a new thing that isn't frozen yet -/
theorem Nxt.laid {F H : Hp} {p : Addr} (e : Emb F H) (hp : H p = none) (o : HO) : Nxt F H F (upd H p o) := by
  have fp : F p = none := e.free hp
  refine ⟨.refl _, fun _ _ h => .inl h, fun a u h => ?_, fun b u h => ?_⟩
  · have q : a ≠ p := ne_of_none h fp
    rw [upd_ne q]; exact e a u h
  · rw [upd_ne (ne_of_none h hp)]; exact h
/-- a laid thing is frozen -/
theorem Emb.freeze {F H : Hp} {p : Addr} {o : HO} (e : Emb F H) (hp : H p = some o) : Emb (upd F p o) H := fun a u h => by
  by_cases q : a = p
  · subst q; rw [upd_same] at h; cases h; exact .inl hp
  · rw [upd_ne q] at h; exact e a u h
theorem same_upd {F : Hp} {p : Addr} {o : HO} (h : F p = none) : Same F (upd F p o) := fun b u e => by
  rw [upd_ne (ne_of_none e h)]; exact e
/-- a list or dict that may still change, at a -/
def Own (K : PySem.W.Frag) (F H : Hp) : D → Addr → Prop
  | .lst ds, a => ∃ vs, H a = some (.lst vs) ∧ Reps K F ds vs
  | .dic es, a => ∃ kvs, H a = some (.dK kvs) ∧ RepK K F es kvs
  | _, _ => False
theorem Own.next {K : PySem.W.Frag} {F H F' H' : Hp} {d : D} {a : Addr} (o : Own K F H d a) (f : Same F F') (h : ∀ u, H a = some u → H' a = some u) : Own K F' H' d a := by
  cases d <;> simp only [Own] at o ⊢
  · obtain ⟨vs, e, r⟩ := o; exact ⟨vs, h _ e, r.mono f⟩
  · obtain ⟨vs, e, r⟩ := o; exact ⟨vs, h _ e, r.mono f⟩
theorem Own.have {K : PySem.W.Frag} {F H : Hp} {d : D} {a : Addr} (o : Own K F H d a) : ∃ u, H a = some u := by
  cases d <;> simp only [Own] at o
  · obtain ⟨vs, e, r⟩ := o; exact ⟨_, e⟩
  · obtain ⟨vs, e, r⟩ := o; exact ⟨_, e⟩
/-- frozen: F' with the thing itself -/
theorem Own.freeze {K : PySem.W.Frag} {F H : Hp} {d : D} {a : Addr} (o : Own K F H d a) (e : Emb F H) (fa : F a = none) :
    ∃ u, H a = some u ∧ Emb (upd F a u) H ∧ Same F (upd F a u) ∧ Rep K (upd F a u) d (.ref a) := by
  cases d <;> simp only [Own] at o
  · obtain ⟨vs, h, r⟩ := o
    exact ⟨_, h, e.freeze h, same_upd fa, .lst (.inl (.inl upd_same)) (r.mono (same_upd fa))⟩
  · obtain ⟨kvs, h, r⟩ := o
    exact ⟨_, h, e.freeze h, same_upd fa, .dic upd_same (r.mono (same_upd fa))⟩
/-- read: frozen, or one's own -/
def Rep1 (K : PySem.W.Frag) (F H : Hp) (d : D) (v : V) : Prop := Rep K F d v ∨ ∃ a, v = .ref a ∧ Own K F H d a
theorem Rep1.next {K : PySem.W.Frag} {F H F' H' : Hp} {d : D} {v : V} (r : Rep1 K F H d v) (n : Nxt F H F' H') : Rep1 K F' H' d v := by
  rcases r with r | ⟨a, e, o⟩
  · exact .inl (r.mono n.f)
  · exact .inr ⟨a, e, o.next n.f (fun u z => n.h _ _ z)⟩
section
variable {K : PySem.W.Frag} {F H : Hp} {v : V}
theorem Rep1.lst (e : Emb F H) {ds : List D} (r : Rep1 K F H (.lst ds) v) : ∃ a vs, v = .ref a ∧ SqL K H a vs ∧ Reps K F ds vs := by
  rcases r with r | ⟨a, rfl, vs, h, r⟩
  · cases r with | lst h1 h2 => exact ⟨_, _, rfl, e.sql h1, h2⟩
  · exact ⟨a, vs, rfl, .inl (.inl h), r⟩
theorem Rep1.tup (e : Emb F H) {ds : List D} (r : Rep1 K F H (.tup ds) v) : ∃ a vs, v = .ref a ∧ SqT K H a vs ∧ Reps K F ds vs := by
  rcases r with r | ⟨a, rfl, o⟩
  · cases r with | tup h1 h2 => exact ⟨_, _, rfl, e.sqt h1, h2⟩
  · exact o.elim
theorem Rep1.dic (e : Emb F H) {es : List (Tx × D)} (r : Rep1 K F H (.dic es) v) : ∃ a kvs, v = .ref a ∧ Rd H a (.dK kvs) ∧ RepK K F es kvs := by
  rcases r with r | ⟨a, rfl, kvs, h, r⟩
  · cases r with | dic h1 h2 => exact ⟨_, _, rfl, e.dk h1, h2⟩
  · exact ⟨a, kvs, rfl, .inl h, r⟩
theorem Rep1.int {i : Int} (r : Rep1 K F H (.int i) v) : v = .int i := by
  rcases r with r | ⟨a, rfl, o⟩
  · cases r; rfl
  · exact o.elim
theorem Rep1.str {s : Tx} (r : Rep1 K F H (.str s) v) : v = .str (toS s) := by
  rcases r with r | ⟨a, rfl, o⟩
  · cases r; rfl
  · exact o.elim
theorem Rep1.bl {b : Bool} (r : Rep1 K F H (.bl b) v) : v = .bl b := by
  rcases r with r | ⟨a, rfl, o⟩
  · cases r; rfl
  · exact o.elim
theorem Rep1.non (r : Rep1 K F H .non v) : v = .non := by
  rcases r with r | ⟨a, rfl, o⟩
  · cases r; rfl
  · exact o.elim
end
/-! ### a frame -/
/-- the rows of a dict of dicts, all of one's own -/
def OwK (K : PySem.W.Frag) (F H : Hp) (a : Addr) : List (Tx × List (Tx × D)) → List (Key × V) → Prop
  | [], [] => True
  | (k, row) :: es, (k', v) :: kvs => k' = Sum.inr (toS k) ∧ (∃ r kv, v = .ref r ∧ r ≠ a ∧ F r = none ∧ H r = some (.dK kv) ∧ RepK K F row kv ∧ ∀ p ∈ kvs, p.1 ≠ k' ∧ p.2 ≠ .ref r) ∧ OwK K F H a es kvs
  | _, _ => False
theorem OwK.next {K : PySem.W.Frag} {F H F' H' : Hp} {a : Addr} : ∀ {es : List (Tx × List (Tx × D))} {kvs : List (Key × V)}, OwK K F H a es kvs → Same F F' →
    (∀ k b u, (k, V.ref b) ∈ kvs → F b = none → H b = some u → H' b = some u ∧ F' b = none) → OwK K F' H' a es kvs
  | [], [], _, _, _ => trivial
  | (k, row) :: es, (k', v) :: kvs, ⟨e, ⟨r, kv, e1, e2, e3, e4, e5, e6⟩, o⟩, f, h => by
    subst e1
    obtain ⟨h1, h2⟩ := h k' r _ List.mem_cons_self e3 e4
    exact ⟨e, ⟨r, kv, rfl, e2, h2, h1, e5.mono f, e6⟩, o.next f fun k b u m => h k b u (List.mem_cons_of_mem _ m)⟩
  | [], _ :: _, h, _, _ => h.elim
  | _ :: _, [], h, _, _ => h.elim
theorem OwK.row {K : PySem.W.Frag} {F H : Hp} {a : Addr} : ∀ {es : List (Tx × List (Tx × D))} {kvs : List (Key × V)}, OwK K F H a es kvs → ∀ {k : Key} {v : V}, (k, v) ∈ kvs → ∃ r kv, v = .ref r ∧ r ≠ a ∧ F r = none ∧ H r = some (.dK kv)
  | [], [], _, _, _, m => nomatch m
  | (k, row) :: es, (k', v) :: kvs, ⟨e, ⟨r, kv, e1, e2, e3, e4, e5, e6⟩, o⟩, _, _, m => by
    rcases List.mem_cons.mp m with m | m
    · cases m; exact ⟨r, kv, e1, e2, e3, e4⟩
    · exact o.row m
  | [], _ :: _, h, _, _, _ => h.elim
  | _ :: _, [], h, _, _, _ => h.elim
def SlOk (K : PySem.W.Frag) (F H : Hp) (s : Sl) (x : Option (Option V)) : Prop := match s with
  | .un => True
  | .va d => ∃ v, x = some (some v) ∧ Rep K F d v
  | .ow d => ∃ a, x = some (some (.ref a)) ∧ F a = none ∧ Own K F H d a
  | .nd es => ∃ a kvs, x = some (some (.ref a)) ∧ F a = none ∧ H a = some (.dK kvs) ∧ OwK K F H a es kvs
  | .xc a => x = some (some (.ref a))
/-- b is one of what the slot owns -/
def Inn (H : Hp) (s : Sl) (x : Option (Option V)) (b : Addr) : Prop := match s with
  | .ow _ => x = some (some (.ref b))
  | .nd _ => ∃ a kvs, x = some (some (.ref a)) ∧ H a = some (.dK kvs) ∧ (b = a ∨ ∃ k, (k, V.ref b) ∈ kvs)
  | _ => False
theorem Inn.have {K : PySem.W.Frag} {F H : Hp} {s : Sl} {x : Option (Option V)} {b : Addr} (i : Inn H s x b) (k : SlOk K F H s x) : F b = none ∧ ∃ u, H b = some u := by
  cases s with
  | xc a => exact i.elim
  | un => exact i.elim
  | va d => exact i.elim
  | ow d =>
    obtain ⟨a, e1, e2, e3⟩ := k
    have i : x = some (some (.ref b)) := i
    rw [i] at e1; cases e1
    exact ⟨e2, e3.have⟩
  | nd es =>
    obtain ⟨a, kvs, e1, e2, e3, e4⟩ := k
    obtain ⟨a', kvs', i1, i2, i3⟩ := i
    rw [i1] at e1; cases e1
    rw [i2] at e3; cases e3
    rcases i3 with rfl | ⟨k, m⟩
    · exact ⟨e2, _, i2⟩
    · obtain ⟨r, kv, q1, q2, q3, q4⟩ := e4.row m
      cases q1
      exact ⟨q3, _, q4⟩
/-- what is owned keeps standing -/
theorem SlOk.keep {K : PySem.W.Frag} {F H F' H' : Hp} {s : Sl} {x : Option (Option V)} (k : SlOk K F H s x) (f : Same F F') (h : ∀ b u, Inn H s x b → F b = none → H b = some u → H' b = some u ∧ F' b = none) : SlOk K F' H' s x := by
  cases s with
  | xc a => exact k
  | un => trivial
  | va d => obtain ⟨v, e, p⟩ := k; exact ⟨v, e, p.mono f⟩
  | ow d =>
    obtain ⟨a, e1, e2, e3⟩ := k
    obtain ⟨u, hu⟩ := e3.have
    exact ⟨a, e1, (h a u e1 e2 hu).2, e3.next f fun u z => (h a u e1 e2 z).1⟩
  | nd es =>
    obtain ⟨a, kvs, e1, e2, e3, e4⟩ := k
    obtain ⟨y1, y2⟩ := h a _ ⟨a, kvs, e1, e3, .inl rfl⟩ e2 e3
    exact ⟨a, kvs, e1, y2, y1, e4.next f fun k b u m => h b u ⟨a, kvs, e1, e3, .inr ⟨k, m⟩⟩⟩
theorem Inn.back {K : PySem.W.Frag} {F H H' : Hp} {s : Sl} {x : Option (Option V)} {b : Addr} (i : Inn H' s x b) (k : SlOk K F H s x) (h : ∀ b u, Inn H s x b → H b = some u → H' b = some u) : Inn H s x b := by
  cases s with
  | xc a => exact i
  | un => exact i
  | va d => exact i
  | ow d => exact i
  | nd es =>
    obtain ⟨a, kvs, e1, e2, e3, e4⟩ := k
    obtain ⟨a', kvs', i1, i2, i3⟩ := i
    rw [i1] at e1; cases e1
    have := h _ _ ⟨_, kvs, i1, e3, .inl rfl⟩ e3
    rw [i2] at this; cases this
    exact ⟨_, _, i1, e3, i3⟩
theorem Nxt.unf {F H F' H' : Hp} (n : Nxt F H F' H') {b : Addr} {u : HO} (h1 : F b = none) (h2 : H b = some u) : F' b = none := by
  cases z : F' b with
  | none => rfl
  | some u' =>
    rcases n.fn b u' z with y | y
    · rw [h1] at y; cases y
    · rw [h2] at y; cases y
structure RS (K : PySem.W.Frag) (F : Hp) (γ : Ga) (σ : L2.St) (H : Hp) : Prop where
  emb : Emb F H
  len : γ.length = σ.length
  sl : ∀ (i : Nat) (s : Sl), γ[i]? = some s → SlOk K F H s σ[i]?
  apart : ∀ (i j : Nat) (s s' : Sl) (b : Addr), γ[i]? = some s → γ[j]? = some s' → Inn H s σ[i]? b → Inn H s' σ[j]? b → i = j
theorem RS.next {K : PySem.W.Frag} {F H F' H' : Hp} {γ : Ga} {σ : L2.St} (r : RS K F γ σ H) (n : Nxt F H F' H') : RS K F' γ σ H' :=
  ⟨n.emb, r.len, fun i s e => (r.sl i s e).keep n.f fun b u _ h1 h2 => ⟨n.h _ _ h2, n.unf h1 h2⟩, fun i j s s' b e1 e2 h1 h2 =>
    r.apart i j s s' b e1 e2 (h1.back (r.sl i s e1) fun b u _ z => n.h _ _ z) (h2.back (r.sl j s' e2) fun b u _ z => n.h _ _ z)⟩
/-! ### what is wanted of a value -/
/-- wishes about exceptions: class number, slots, heap -/
abbrev WN := Nat → L2.St → Hp → Prop
def PV (K : PySem.W.Frag) (F H : Hp) (d : D) (Q : VK) : Prop := ∀ v F' H', Nxt F H F' H' → Rep K F' d v → Q v H'
def PR (K : PySem.W.Frag) (F H : Hp) (d : D) (Q : VK) : Prop := ∀ v F' H', Nxt F H F' H' → Rep1 K F' H' d v → Q v H'
def PF (K : PySem.W.Frag) (F H : Hp) (d : D) (Q : VK) : Prop := ∀ a F' H', Nxt F H F' H' → H a = none → F' a = none → Own K F' H' d a → Q (.ref a) H'
def Out (P : D → VK → Prop) (F H : Hp) (W : Nat → Hp → Prop) (r : R D) (Q : VK) : Prop := match r with
  | .ok d => P d Q
  | .ex c => ∀ F' H', Nxt F H F' H' → W c H'
  | .no => False
def rdV (K : PySem.W.Frag) (W : WN) (f : Ga → R D) : TE := fun σ H Q => ∃ F γ, RS K F γ σ H ∧ Out (PV K F H) F H (fun c H' => W c σ H') (f γ) Q
def rdR (K : PySem.W.Frag) (W : WN) (f : Ga → R D) : TE := fun σ H Q => ∃ F γ, RS K F γ σ H ∧ Out (PR K F H) F H (fun c H' => W c σ H') (f γ) Q
def rdF (K : PySem.W.Frag) (W : WN) (f : Ga → R D) : TE := fun σ H Q => ∃ F γ, RS K F γ σ H ∧ Out (PF K F H) F H (fun c H' => W c σ H') (f γ) Q
/-- an expression: its value is frozen -/
structure J (X : Cx) (W : WN) (f : Ga → R D) (e : Expr) : Prop where
  pe : PE X e (rdV X.K W f)
/-- .. is read alone -/
structure JR (X : Cx) (W : WN) (f : Ga → R D) (e : Expr) : Prop where
  pe : PE X e (rdR X.K W f)
/-- .. is new, a list or a dict -/
structure JF (X : Cx) (W : WN) (f : Ga → R D) (e : Expr) : Prop where
  pe : PE X e (rdF X.K W f)
theorem PE.imp {X : Cx} {e : Expr} {t t' : TE} (h : PE X e t) (i : ∀ σ H Q, t' σ H Q → t σ H Q) : PE X e t' := ⟨fun pins s σ H Q I q => h.run pins s σ H Q I (i σ H Q q)⟩
section
variable {X : Cx} {W : WN} {f : Ga → R D} {e : Expr}
theorem Out.imp {P P' : D → VK → Prop} {F H : Hp} {W : Nat → Hp → Prop} {x : R D} {Q : VK} (o : Out P F H W x Q) (i : ∀ d, x = .ok d → P d Q → P' d Q) : Out P' F H W x Q := by
  cases x with
  | ok d => exact i d rfl o
  | ex c => exact o
  | no => exact o
theorem J.r (h : J X W f e) : JR X W f e := ⟨PE.imp h.pe fun σ H Q ⟨F, γ, r, o⟩ => ⟨F, γ, r, o.imp fun d _ o =>
  fun v F' H' n p => o v F' H' n (.inl p)⟩⟩
theorem JF.v (h : JF X W f e) : J X W f e := ⟨PE.imp h.pe fun σ H Q ⟨F, γ, r, o⟩ => ⟨F, γ, r, o.imp fun d _ o => by
  intro a F' H' n ha fa ow
  obtain ⟨u, hu, e1, s1, p⟩ := ow.freeze n.emb fa
  refine o _ _ H' ⟨n.f.trans s1, fun b w z => ?_, e1, n.h⟩ p
  by_cases q : b = a
  · subst q; exact .inr ha
  · rw [upd_ne q] at z; exact n.fn b w z⟩⟩
theorem JF.r (h : JF X W f e) : JR X W f e := h.v.r
end
end KN
/-! KnB: operations on pure data, and that the machine does them -/
namespace KN
open PySem PySem.Spec PyProof.Rows L2
/-- a length that any text or list may have -/
def lim : Nat := 1000000
theorem lim_line : lim ≤ sizeLine := by rw [sizeLine_eq]; decide
/-! ### plain data and == -/
def pl : Nat → D → Bool
  | _, .non => true
  | _, .bl _ => true
  | _, .int _ => true
  | _, .str s => s.all (· < 0x110000)
  | n + 1, .lst xs => xs.all (pl n)
  | n + 1, .tup xs => xs.all (pl n)
  | _, _ => false
def eqvL (f : D → D → Bool) : List D → List D → Bool
  | [], [] => true
  | x :: xs, y :: ys => f x y && eqvL f xs ys
  | _, _ => false
def eqv : Nat → D → D → Bool
  | _, .non, .non => true
  | _, .bl a, .bl b => a == b
  | _, .bl a, .int j => (if a then 1 else 0) == j
  | _, .int i, .bl b => i == (if b then 1 else 0)
  | _, .int i, .int j => i == j
  | _, .str s, .str t => s == t
  | n + 1, .lst xs, .lst ys => eqvL (eqv n) xs ys
  | n + 1, .tup xs, .tup ys => eqvL (eqv n) xs ys
  | _, _, _ => false
def toP : Nat → D → PyData
  | _, .non => .none
  | _, .bl b => .bool b
  | _, .int i => .int i
  | _, .str s => .str (toS s)
  | n + 1, .lst xs => .list (xs.map (toP n))
  | n + 1, .tup xs => .tuple (xs.map (toP n))
  | _, _ => .dict []
theorem strOk_toS (s : Tx) : PyData.strOk (toS s) = s.all (· < 0x110000) := by simp [PyData.strOk, toS]
theorem toP_lay : ∀ (n : Nat) (d : D), pl n d = true → (toP n d).canLay0 = true ∧ (toP n d).depth ≤ n
  | n, .non, _ => by cases n <;> simp [toP, PyData.canLay0, PyData.depth]
  | n, .bl _, _ => by cases n <;> simp [toP, PyData.canLay0, PyData.depth]
  | n, .int _, _ => by cases n <;> simp [toP, PyData.canLay0, PyData.depth]
  | n, .str s, h => by
    have h' : s.all (· < 0x110000) = true := by cases n <;> exact h
    cases n <;> simp only [toP, PyData.canLay0, PyData.depth, strOk_toS] <;> exact ⟨h', by omega⟩
  | 0, .lst _, h => nomatch h
  | 0, .tup _, h => nomatch h
  | n + 1, .lst xs, h => by
    have aux : ∀ xs : List D, xs.all (pl n) = true → PyData.canLayAll0 (xs.map (toP n)) = true ∧ PyData.depthAll (xs.map (toP n)) ≤ n := by
      intro xs
      induction xs with
      | nil => intro _; simp [PyData.canLayAll0, PyData.depthAll]
      | cons x xs ih =>
        intro h
        rw [List.all_cons, Bool.and_eq_true] at h
        obtain ⟨a, b⟩ := toP_lay n x h.1
        obtain ⟨c, d⟩ := ih h.2
        simp only [List.map_cons, PyData.canLayAll0, PyData.depthAll, a, c, Bool.and_self, true_and]
        omega
    obtain ⟨a, b⟩ := aux xs h
    simp only [toP, PyData.canLay0, PyData.depth]
    exact ⟨a, by omega⟩
  | n + 1, .tup xs, h => by
    have aux : ∀ xs : List D, xs.all (pl n) = true → PyData.canLayAll0 (xs.map (toP n)) = true ∧ PyData.depthAll (xs.map (toP n)) ≤ n := by
      intro xs
      induction xs with
      | nil => intro _; simp [PyData.canLayAll0, PyData.depthAll]
      | cons x xs ih =>
        intro h
        rw [List.all_cons, Bool.and_eq_true] at h
        obtain ⟨a, b⟩ := toP_lay n x h.1
        obtain ⟨c, d⟩ := ih h.2
        simp only [List.map_cons, PyData.canLayAll0, PyData.depthAll, a, c, Bool.and_self, true_and]
        omega
    obtain ⟨a, b⟩ := aux xs h
    simp only [toP, PyData.canLay0, PyData.depth]
    exact ⟨a, by omega⟩
  | n, .dic _, h => by cases n <;> exact nomatch h
theorem toP_shaped {d : D} (h : pl 20 d = true) : SeqAt.shaped (toP 20 d) = true := by
  obtain ⟨a, b⟩ := toP_lay 20 d h
  unfold SeqAt.shaped
  rw [a, decide_eq_true (by omega)]; rfl
theorem toS_inj {s t : Tx} : (toS s = toS t) ↔ s = t := by
  constructor
  · intro h
    have := congrArg (fun z : Str => z.cps.toList) h
    simpa using this
  · rintro rfl; rfl
theorem toS_beq (s t : Tx) : (toS s == toS t) = (s == t) := by
  rw [Bool.eq_iff_iff, beq_iff_eq, beq_iff_eq]; exact toS_inj
theorem eqvL_toP {n : Nat} (ih : ∀ d e, pl n d = true → pl n e = true → PyData.eqv (toP n d) (toP n e) = eqv n d e) : ∀ xs ys : List D, xs.all (pl n) = true → ys.all (pl n) = true → PyData.eqvAll (xs.map (toP n)) (ys.map (toP n)) = eqvL (eqv n) xs ys
  | [], [], _, _ => by simp [PyData.eqvAll, eqvL]
  | [], y :: ys, _, _ => by simp [PyData.eqvAll, eqvL]
  | x :: xs, [], _, _ => by simp [PyData.eqvAll, eqvL]
  | x :: xs, y :: ys, h, k => by
    rw [List.all_cons, Bool.and_eq_true] at h k
    simp only [List.map_cons, PyData.eqvAll, eqvL]
    rw [ih x y h.1 k.1, eqvL_toP ih xs ys h.2 k.2]
theorem eqv_toP : ∀ (n : Nat) (d e : D), pl n d = true → pl n e = true → PyData.eqv (toP n d) (toP n e) = eqv n d e := by
  intro n
  induction n with
  | zero =>
    intro d e h k
    cases d <;> cases e <;> first | (cases h; done) | (cases k; done) | (simp only [toP, PyData.eqv, eqv]; done) | (simp only [toP, PyData.eqv, eqv, toS_beq])
  | succ n ih =>
    intro d e h k
    cases d <;> cases e <;> first | (cases h; done) | (cases k; done) | (simp only [toP, PyData.eqv, eqv]; done) | (simp only [toP, PyData.eqv, eqv, toS_beq]; done) | (simp only [toP, PyData.eqv, eqv]; exact eqvL_toP ih _ _ h k)
/-- what is read is data for the library's == -/
theorem dp_of {K : PySem.W.Frag} {F H : Hp} (em : Emb F H) : ∀ (n : Nat) (d : D) (v : V), pl n d = true → Rep K F d v → Dp K H v (toP n d) := by
  intro n
  induction n with
  | zero =>
    intro d v h r
    cases r <;> first | (cases h; done) | exact .non | exact .bl _ | exact .int _ | exact .str _
  | succ n ih =>
    have aux : ∀ (ds : List D) (vs : List V), ds.all (pl n) = true → Reps K F ds vs → DpAll K H vs (ds.map (toP n)) := by
      intro ds
      induction ds with
      | nil => intro vs _ r; cases r; exact .nil
      | cons d ds ihl =>
        intro vs h r
        rw [List.all_cons, Bool.and_eq_true] at h
        cases r with | cons r1 r2 => exact .cons (ih d _ h.1 r1) (ihl _ h.2 r2)
    intro d v h r
    cases r with
    | non => exact .non
    | bl b => exact .bl _
    | int i => exact .int _
    | str s => exact .str _
    | lst h1 h2 => exact .lst (em.sql h1) (aux _ _ h h2)
    | tup h1 h2 => exact .tup (em.sqt h1) (aux _ _ h h2)
    | dic _ _ => exact nomatch h
theorem dps_of {K : PySem.W.Frag} {F H : Hp} (em : Emb F H) (n : Nat) : ∀ (ds : List D) (vs : List V), ds.all (pl n) = true → Reps K F ds vs → DpAll K H vs (ds.map (toP n)) := by
  intro ds
  induction ds with
  | nil => intro vs _ r; cases r; exact .nil
  | cons d ds ihl =>
    intro vs h r
    rw [List.all_cons, Bool.and_eq_true] at h
    cases r with | cons r1 r2 => exact .cons (dp_of em n d _ h.1 r1) (ihl _ h.2 r2)
theorem dp_of1 {K : PySem.W.Frag} {F H : Hp} (em : Emb F H) {d : D} {v : V} (h : pl 20 d = true) (r : Rep1 K F H d v) : Dp K H v (toP 20 d) := by
  rcases r with r | ⟨a, rfl, o⟩
  · exact dp_of em 20 d v h r
  · cases d <;> simp only [Own] at o
    · obtain ⟨vs, e, r⟩ := o
      exact .lst (.inl (.inl e)) (dps_of em 19 _ _ h r)
    · exact nomatch h
/-! ### the operations -/
def dAdd : D → D → R D
  | .int i, .int j => .ok (.int (i + j))
  | .str s, .str t => if s.length + t.length ≤ lim then .ok (.str (s ++ t)) else .no
  | .lst s, .lst t => if s.length + t.length ≤ lim then .ok (.lst (s ++ t)) else .no
  | .tup s, .tup t => if s.length + t.length ≤ lim then .ok (.tup (s ++ t)) else .no
  | _, _ => .no
def dSub : D → D → R D
  | .int i, .int j => .ok (.int (i - j))
  | _, _ => .no
def dMul : D → D → R D
  | .int i, .int j => if i.natAbs.log2 + j.natAbs.log2 < 1000000 then .ok (.int (i * j)) else .no
  | _, _ => .no
def dDiv : D → D → R D
  | .int i, .int j => if 0 < j ∧ j.natAbs.log2 < 9000 then .ok (.int (i / j)) else .no
  | _, _ => .no
def dMod : D → D → R D
  | .int i, .int j => if 0 < j then .ok (.int (i % j)) else .no
  | _, _ => .no
def dLt : D → D → R D
  | .int i, .int j => .ok (.bl (decide (i < j)))
  | .str s, .str t => .ok (.bl (decide (s < t)))
  | _, _ => .no
def dLe : D → D → R D
  | .int i, .int j => .ok (.bl (decide (i ≤ j)))
  | _, _ => .no
def dGt : D → D → R D
  | .int i, .int j => .ok (.bl (decide (j < i)))
  | _, _ => .no
def dGe : D → D → R D
  | .int i, .int j => .ok (.bl (decide (j ≤ i)))
  | _, _ => .no
def dEq (d e : D) : R D := if pl 20 d = true ∧ pl 20 e = true then .ok (.bl (eqv 20 d e)) else .no
def dNe (d e : D) : R D := if pl 20 d = true ∧ pl 20 e = true then .ok (.bl (!eqv 20 d e)) else .no
def isNon : D → Bool
  | .non => true
  | _ => false
def dIsN : D → D → R D
  | d, .non => .ok (.bl (isNon d))
  | _, _ => .no
def dNotN : D → D → R D
  | d, .non => .ok (.bl (!isNon d))
  | _, _ => .no
/-- a two-place operation of pure data, as a reading -/
def RD2 (K : PySem.W.Frag) (g : D → D → R D) : R2 := fun x y H Q => ∃ F dx dy d, Emb F H ∧ Rep1 K F H dx x ∧ Rep1 K F H dy y ∧ g dx dy = .ok d ∧ PV K F H d Q
section
variable {X : Cx}
theorem PV.here {K : PySem.W.Frag} {F H : Hp} {d : D} {Q : VK} (q : PV K F H d Q) (e : Emb F H) {v : V} (r : Rep K F d v) : Q v H := q v F H (.refl e) r
theorem PV.newL {K : PySem.W.Frag} {F H : Hp} {ds : List D} {vs : List V} {Q : VK} (q : PV K F H (.lst ds) Q) (e : Emb F H) (r : Reps K F ds vs) (p : Addr) (hp : H p = none) : Q (.ref p) (upd H p (.lst vs)) :=
  q _ _ _ (Nxt.new e hp _) (.lst (.inl (.inl upd_same)) (r.mono (same_upd (e.free hp))))
theorem PV.newT {K : PySem.W.Frag} {F H : Hp} {ds : List D} {vs : List V} {Q : VK} (q : PV K F H (.tup ds) Q) (e : Emb F H) (r : Reps K F ds vs) (p : Addr) (hp : H p = none) : Q (.ref p) (upd H p (.tup vs)) :=
  q _ _ _ (Nxt.new e hp _) (.tup (.inl (.inl upd_same)) (r.mono (same_upd (e.free hp))))
theorem toS_append (s t : Tx) : toS s ++ toS t = toS (s ++ t) := by
  apply TL.ext_tl
  rw [TL.tl_append]
theorem toS_len (s : Tx) : (toS s).length = s.length := by simp [toS, Str.length]
theorem od_addL {pins : List (Addr × Obj)} {s : Shared} {σ : L2.St} {H F : Hp} {x y : V} {v u : Value} {Q : VK} {xs ys : List D} (I : Inv X pins σ H s) (rx : RelV x v) (ry : RelV y u) (e : Emb F H)
    (r1 : Rep1 X.K F H (.lst xs) x) (r2 : Rep1 X.K F H (.lst ys) y) (hl : xs.length + ys.length ≤ lim) (q : PV X.K F H (.lst (xs ++ ys)) Q) : wpAny (model X.prog X.w) X.A (binaryOp .Add v u) (EP X pins σ Q) X.xe s := by
  obtain ⟨a, vs, rfl, s1, p1⟩ := r1.lst e
  obtain ⟨b, us, rfl, s2, p2⟩ := r2.lst e
  cases rx
  cases ry
  obtain ⟨its, w1, l1, z1⟩ := I.list s1
  obtain ⟨its2, w2, l2, z2⟩ := I.list s2
  obtain ⟨o1, n1, e1, c1, d1, t1⟩ := l1
  obtain ⟨o2, n2, e2, c2, d2, t2⟩ := l2
  obtain ⟨cc1, dd1, da1, sl1⟩ := o1
  obtain ⟨cc2, dd2, da2, sl2⟩ := o2
  simp only at c1 d1 t1 c2 d2 t2
  subst c1 d1 t1 c2 d2 t2
  have hz : vs.length + us.length ≤ sizeLine := by
    have := p1.length; have := p2.length; have := lim_line; omega
  have hz2 : its.length + its2.length ≤ sizeLine := by rw [← w1.length, ← w2.length]; exact hz
  have ea : its.toArray ++ its2.toArray = (its ++ its2).toArray := by simp
  refine concat_meets ⟨_, e1, rfl⟩ ⟨_, e2, rfl⟩ noFill_list_add seq_list_add PySem.F.slot_list_add PySem.F.entry_list_add (PySem.F.args_list_add_2 _ _) (list_addW a b its.toArray its2.toArray n1 n2 none none sl1 sl2 (by simpa using hz2)) ⟨e1, e2, ?_⟩
  rw [ea]
  exact ⟨.ref _, _, I.lnew (t' := s.toks) (w1.append w2) (by rw [List.length_append]; omega), rfl, q.newL e (p1.append p2) _ I.fresh⟩
theorem od_add : OpR X (binaryOp .Add) (RD2 X.K dAdd) := by
  intro pins s σ H x y v u Q I rx ry ⟨F, dx, dy, d, e, r1, r2, hg, q⟩
  cases dx <;> cases dy <;> first | (cases hg; done) | skip
  · rename_i i j
    cases hg
    exact op_add pins s σ H x y v u Q I rx ry ⟨i, j, r1.int, r2.int, q.here e (.int _)⟩
  · rename_i a b
    simp only [dAdd] at hg
    split at hg
    · rename_i hl
      cases hg
      refine op_add_str pins s σ H x y v u Q I rx ry ⟨_, _, r1.str, r2.str, ?_, ?_⟩
      · rw [toS_len, toS_len]; exact Nat.le_trans hl lim_line
      · rw [toS_append]; exact q.here e (.str _)
    · cases hg
  · simp only [dAdd] at hg
    split at hg
    · rename_i hl
      cases hg
      exact od_addL I rx ry e r1 r2 hl q
    · cases hg
  · simp only [dAdd] at hg
    split at hg
    · rename_i hl
      cases hg
      obtain ⟨a, vs, rfl, s1, p1⟩ := r1.tup e
      obtain ⟨b, us, rfl, s2, p2⟩ := r2.tup e
      refine op_catA pins s σ H _ _ v u Q I rx ry ⟨a, b, vs, us, rfl, rfl, s1, s2, ?_, fun h => ?_, fun h0 h => ?_, fun _ _ p hp => q.newT e (p1.append p2) p hp⟩
      · have := p1.length; have := p2.length; have := lim_line; omega
      · subst h
        rcases r2 with r2 | ⟨_, _, o⟩
        · have : _ = [] := List.eq_nil_of_length_eq_zero (by have := p1.length; simpa using this)
          subst this
          exact q.here e r2
        · exact o.elim
      · subst h
        rcases r1 with r1 | ⟨_, _, o⟩
        · have : _ = [] := List.eq_nil_of_length_eq_zero (by have := p2.length; simpa using this)
          subst this
          rw [List.append_nil] at q
          exact q.here e r1
        · exact o.elim
    · cases hg
theorem od_sub : OpR X (binaryOp .Sub) (RD2 X.K dSub) := by
  intro pins s σ H x y v u Q I rx ry ⟨F, dx, dy, d, e, r1, r2, hg, q⟩
  cases dx <;> cases dy <;> first | (cases hg; done) | skip
  rename_i i j
  cases hg
  exact op_sub pins s σ H x y v u Q I rx ry ⟨i, j, r1.int, r2.int, q.here e (.int _)⟩
theorem od_mul : OpR X (binaryOp .Mult) (RD2 X.K dMul) := by
  intro pins s σ H x y v u Q I rx ry ⟨F, dx, dy, d, e, r1, r2, hg, q⟩
  cases dx <;> cases dy <;> first | (cases hg; done) | skip
  rename_i i j
  simp only [dMul] at hg
  split at hg
  · rename_i hl
    cases hg
    exact op_mulW pins s σ H x y v u Q I rx ry ⟨i, j, r1.int, r2.int, hl, q.here e (.int _)⟩
  · cases hg
theorem od_div : OpR X (binaryOp .FloorDiv) (RD2 X.K dDiv) := by
  intro pins s σ H x y v u Q I rx ry ⟨F, dx, dy, d, e, r1, r2, hg, q⟩
  cases dx <;> cases dy <;> first | (cases hg; done) | skip
  rename_i i j
  simp only [dDiv] at hg
  split at hg
  · rename_i hl
    cases hg
    exact op_fdivW pins s σ H x y v u Q I rx ry ⟨i, j, r1.int, r2.int, hl, q.here e (.int _)⟩
  · cases hg
theorem od_mod : OpR X (binaryOp .Mod) (RD2 X.K dMod) := by
  intro pins s σ H x y v u Q I rx ry ⟨F, dx, dy, d, e, r1, r2, hg, q⟩
  cases dx <;> cases dy <;> first | (cases hg; done) | skip
  rename_i i j
  simp only [dMod] at hg
  split at hg
  · rename_i hl
    cases hg
    exact op_mod pins s σ H x y v u Q I rx ry ⟨i, j, r1.int, r2.int, hl, q.here e (.int _)⟩
  · cases hg
theorem od_lt : OpR X (compareOp .Lt) (RD2 X.K dLt) := by
  intro pins s σ H x y v u Q I rx ry ⟨F, dx, dy, d, e, r1, r2, hg, q⟩
  cases dx <;> cases dy <;> first | (cases hg; done) | skip
  · rename_i i j
    cases hg
    exact op_lt pins s σ H x y v u Q I rx ry ⟨i, j, r1.int, r2.int, q.here e (.bl _)⟩
  · rename_i i j
    cases hg
    exact op_lt_str pins s σ H x y v u Q I rx ry ⟨_, _, r1.str, r2.str, q.here e (.bl _)⟩
theorem od_le : OpR X (compareOp .LtE) (RD2 X.K dLe) := by
  intro pins s σ H x y v u Q I rx ry ⟨F, dx, dy, d, e, r1, r2, hg, q⟩
  cases dx <;> cases dy <;> first | (cases hg; done) | skip
  rename_i i j
  cases hg
  exact op_le pins s σ H x y v u Q I rx ry ⟨i, j, r1.int, r2.int, q.here e (.bl _)⟩
theorem od_gt : OpR X (compareOp .Gt) (RD2 X.K dGt) := by
  intro pins s σ H x y v u Q I rx ry ⟨F, dx, dy, d, e, r1, r2, hg, q⟩
  cases dx <;> cases dy <;> first | (cases hg; done) | skip
  rename_i i j
  cases hg
  exact op_gt pins s σ H x y v u Q I rx ry ⟨i, j, r1.int, r2.int, q.here e (.bl _)⟩
theorem od_eq (hu : X.A.units + 64 < cLine) : OpR X (compareOp .Eq) (RD2 X.K dEq) := by
  intro pins s σ H x y v u Q I rx ry ⟨F, dx, dy, d, e, r1, r2, hg, q⟩
  simp only [dEq] at hg
  split at hg
  · rename_i hl
    cases hg
    refine op_eqD hu pins s σ H x y v u Q I rx ry ⟨_, _, dp_of1 e hl.1 r1, dp_of1 e hl.2 r2, toP_shaped hl.1, toP_shaped hl.2, ?_⟩
    rw [eqv_toP 20 _ _ hl.1 hl.2]
    exact q.here e (.bl _)
  · cases hg
theorem od_ne (hu : X.A.units + 64 < cLine) : OpR X (compareOp .NotEq) (RD2 X.K dNe) := by
  intro pins s σ H x y v u Q I rx ry ⟨F, dx, dy, d, e, r1, r2, hg, q⟩
  simp only [dNe] at hg
  split at hg
  · rename_i hl
    cases hg
    refine op_neD hu pins s σ H x y v u Q I rx ry ⟨_, _, dp_of1 e hl.1 r1, dp_of1 e hl.2 r2, toP_shaped hl.1, toP_shaped hl.2, ?_⟩
    rw [eqv_toP 20 _ _ hl.1 hl.2]
    exact q.here e (.bl _)
  · cases hg
theorem isN_of {K : PySem.W.Frag} {F H : Hp} {d : D} {x : V} (r : Rep1 K F H d x) : decide (x = .non) = isNon d := by
  rcases r with r | ⟨a, rfl, o⟩
  · cases r <;> rfl
  · cases d <;> simp only [Own] at o <;> rfl
theorem od_isN : OpR X (compareOp .Is) (RD2 X.K dIsN) := by
  intro pins s σ H x y v u Q I rx ry ⟨F, dx, dy, d, e, r1, r2, hg, q⟩
  cases dy <;> first | (simp [dIsN] at hg; done) | skip
  have hg : R.ok (D.bl (isNon dx)) = .ok d := by cases dx <;> exact hg
  cases hg
  refine op_isN pins s σ H x y v u Q I rx ry ⟨r2.non, ?_⟩
  rw [isN_of r1]
  exact q.here e (.bl _)
theorem od_notN : OpR X (compareOp .IsNot) (RD2 X.K dNotN) := by
  intro pins s σ H x y v u Q I rx ry ⟨F, dx, dy, d, e, r1, r2, hg, q⟩
  cases dy <;> first | (simp [dNotN] at hg; done) | skip
  have hg : R.ok (D.bl (!isNon dx)) = .ok d := by cases dx <;> exact hg
  cases hg
  refine op_notN pins s σ H x y v u Q I rx ry ⟨r2.non, ?_⟩
  rw [isN_of r1]
  exact q.here e (.bl _)
end
end KN
/-! KnC: judgements of expressions -/
namespace KN
open PySem PySem.Spec PyProof.Rows L2
/-! ### meanings -/
def bVar (i : Nat) : Ga → R D := fun γ => match γ[i]? with | some (.va d) => .ok d | _ => .no
def bRd (i : Nat) : Ga → R D := fun γ => match γ[i]? with | some (.ow d) => .ok d | _ => .no
def bC (d : D) : Ga → R D := fun _ => .ok d
def b1 (g : D → R D) (fa : Ga → R D) : Ga → R D := fun γ => (fa γ).bind g
def b2 (g : D → D → R D) (fa fb : Ga → R D) : Ga → R D := fun γ => (fa γ).bind fun x => (fb γ).bind fun y => g x y
def bNil : Ga → R (List D) := fun _ => .ok []
def bCons (fa : Ga → R D) (fs : Ga → R (List D)) : Ga → R (List D) := fun γ => (fa γ).bind fun x => (fs γ).bind fun xs => .ok (x :: xs)
def bN (g : List D → R D) (fs : Ga → R (List D)) : Ga → R D := fun γ => (fs γ).bind g
def bIf (c : Ga → R Bool) (fa fb : Ga → R D) : Ga → R D := fun γ => (c γ).bind fun b => if b = true then fa γ else fb γ
def tB : D → R Bool
  | .bl b => .ok b
  | _ => .no
def tVal (fa : Ga → R D) : Ga → R Bool := fun γ => (fa γ).bind tB
def tAnd (p q : Ga → R Bool) : Ga → R Bool := fun γ => (p γ).bind fun b => if b = true then q γ else .ok false
def tOr (p q : Ga → R Bool) : Ga → R Bool := fun γ => (p γ).bind fun b => if b = true then .ok true else q γ
def tNot (p : Ga → R Bool) : Ga → R Bool := fun γ => (p γ).bind fun b => .ok (!b)
def bTup (fs : Ga → R (List D)) : Ga → R D := bN (fun xs => if xs.length ≤ lim then .ok (.tup xs) else .no) fs
def bLst (fs : Ga → R (List D)) : Ga → R D := bN (fun xs => if xs.length ≤ lim then .ok (.lst xs) else .no) fs
/-! ### more judgements -/
inductive Reps1 (K : PySem.W.Frag) (F H : Hp) : List D → List V → Prop
  | nil : Reps1 K F H [] []
  | cons {d : D} {ds : List D} {v : V} {vs : List V} : Rep1 K F H d v → Reps1 K F H ds vs → Reps1 K F H (d :: ds) (v :: vs)
def OutA (P : List D → (List V → Hp → Prop) → Prop) (F H : Hp) (W : Nat → Hp → Prop) (r : R (List D)) (Q : List V → Hp → Prop) : Prop := match r with
  | .ok d => P d Q
  | .ex c => ∀ F' H', Nxt F H F' H' → W c H'
  | .no => False
def OutT (F H : Hp) (W : Nat → Hp → Prop) (r : R Bool) (Q : Bool → Hp → Prop) : Prop := match r with
  | .ok b => ∀ F' H', Nxt F H F' H' → Q b H'
  | .ex c => ∀ F' H', Nxt F H F' H' → W c H'
  | .no => False
def rdA (K : PySem.W.Frag) (W : WN) (f : Ga → R (List D)) : TA := fun σ H Q => ∃ F γ, RS K F γ σ H ∧ OutA (fun ds Q => ∀ vs F' H', Nxt F H F' H' → Reps K F' ds vs → Q vs H') F H (fun c H' => W c σ H') (f γ) Q
def rdA1 (K : PySem.W.Frag) (W : WN) (f : Ga → R (List D)) : TA := fun σ H Q => ∃ F γ, RS K F γ σ H ∧ OutA (fun ds Q => ∀ vs F' H', Nxt F H F' H' → Reps1 K F' H' ds vs → Q vs H') F H (fun c H' => W c σ H') (f γ) Q
def rdT (K : PySem.W.Frag) (W : WN) (f : Ga → R Bool) : TT := fun σ H Q => ∃ F γ, RS K F γ σ H ∧ OutT F H (fun c H' => W c σ H') (f γ) Q
structure JA (X : Cx) (W : WN) (f : Ga → R (List D)) (es : List Expr) : Prop where
  pa : PA X es (rdA X.K W f)
structure JA1 (X : Cx) (W : WN) (f : Ga → R (List D)) (es : List Expr) : Prop where
  pa : PA X es (rdA1 X.K W f)
structure JT (X : Cx) (W : WN) (f : Ga → R Bool) (e : Expr) : Prop where
  pt : PT X e (rdT X.K W f)
structure JW (X : Cx) (W : WN) (f : Ga → R Bool) (e : Expr) : Prop where
  pw : PW X e (rdT X.K W f)
theorem PA.imp {X : Cx} {e : List Expr} {t t' : TA} (h : PA X e t) (i : ∀ σ H Q, t' σ H Q → t σ H Q) : PA X e t' := ⟨fun pos pins s σ H Q I q => h.run pos pins s σ H Q I (i σ H Q q)⟩
theorem PT.imp {X : Cx} {e : Expr} {t t' : TT} (h : PT X e t) (i : ∀ σ H Q, t' σ H Q → t σ H Q) : PT X e t' := ⟨fun pins s σ H Q I q => h.run pins s σ H Q I (i σ H Q q)⟩
theorem PW.imp {X : Cx} {e : Expr} {t t' : TT} (h : PW X e t) (i : ∀ σ H Q, t' σ H Q → t σ H Q) : PW X e t' := ⟨fun w pins s σ H Q I q => h.run w pins s σ H Q I (i σ H Q q)⟩
section
variable {K : PySem.W.Frag} {F H F1 H1 : Hp} {d : D} {Q : VK}
theorem PV.next (q : PV K F H d Q) (n : Nxt F H F1 H1) : PV K F1 H1 d Q := fun v F' H' m p => q v F' H' (n.trans m) p
theorem PR.next (q : PR K F H d Q) (n : Nxt F H F1 H1) : PR K F1 H1 d Q := fun v F' H' m p => q v F' H' (n.trans m) p
theorem PF.next (q : PF K F H d Q) (n : Nxt F H F1 H1) : PF K F1 H1 d Q := fun a F' H' m ha fa p => q a F' H' (n.trans m) (n.h.free ha) fa p
end
section
variable {K : PySem.W.Frag} {W : WN} {F H : Hp} {γ : Ga} {σ : L2.St} {fa fb fc : Ga → R D} {Q : VK}
/-- from what is wanted behind a and what follows -/
theorem go1 {α : Type} {k : D → R α} {R' : V → Hp → Prop} {Z : R α → Prop} (r : RS K F γ σ H) (o : Z ((fa γ).bind k)) (hex : ∀ c, Z (.ex c) → ∀ F' H', Nxt F H F' H' → W c σ H') (hno : ¬ Z .no)
    (h : ∀ d x F1 H1, Nxt F H F1 H1 → RS K F1 γ σ H1 → Rep1 K F1 H1 d x → Z (k d) → R' x H1) : rdR K W fa σ H R' := by
  refine ⟨F, γ, r, ?_⟩
  cases e : fa γ with
  | ok d => rw [e] at o; exact fun x F1 H1 n p => h d x F1 H1 n (r.next n) p o
  | ex c => rw [e] at o; exact hex c o
  | no => rw [e] at o; exact hno o
theorem go1v {α : Type} {k : D → R α} {R' : V → Hp → Prop} {Z : R α → Prop} (r : RS K F γ σ H) (o : Z ((fa γ).bind k)) (hex : ∀ c, Z (.ex c) → ∀ F' H', Nxt F H F' H' → W c σ H') (hno : ¬ Z .no)
    (h : ∀ d x F1 H1, Nxt F H F1 H1 → RS K F1 γ σ H1 → Rep K F1 d x → Z (k d) → R' x H1) : rdV K W fa σ H R' := by
  refine ⟨F, γ, r, ?_⟩
  cases e : fa γ with
  | ok d => rw [e] at o; exact fun x F1 H1 n p => h d x F1 H1 n (r.next n) p o
  | ex c => rw [e] at o; exact hex c o
  | no => rw [e] at o; exact hno o
end
/-- a two-place operation on data, done by f, never raising -/
structure OpD (X : Cx) (f : Value → Value → Sem Value) (g : D → D → R D) : Prop where
  run : OpR X f (RD2 X.K g)
  ne : ∀ x y c, g x y ≠ .ex c
section
variable {X : Cx}
theorem o_add : OpD X (binaryOp .Add) dAdd := ⟨od_add, fun x y c => by cases x <;> cases y <;> simp [dAdd] <;> split <;> simp⟩
theorem o_sub : OpD X (binaryOp .Sub) dSub := ⟨od_sub, fun x y c => by cases x <;> cases y <;> simp [dSub]⟩
theorem o_mul : OpD X (binaryOp .Mult) dMul := ⟨od_mul, fun x y c => by cases x <;> cases y <;> simp [dMul] <;> split <;> simp⟩
theorem o_div : OpD X (binaryOp .FloorDiv) dDiv := ⟨od_div, fun x y c => by cases x <;> cases y <;> simp [dDiv] <;> split <;> simp⟩
theorem o_mod : OpD X (binaryOp .Mod) dMod := ⟨od_mod, fun x y c => by cases x <;> cases y <;> simp [dMod] <;> split <;> simp⟩
theorem o_lt : OpD X (compareOp .Lt) dLt := ⟨od_lt, fun x y c => by cases x <;> cases y <;> simp [dLt]⟩
theorem o_le : OpD X (compareOp .LtE) dLe := ⟨od_le, fun x y c => by cases x <;> cases y <;> simp [dLe]⟩
theorem o_gt : OpD X (compareOp .Gt) dGt := ⟨od_gt, fun x y c => by cases x <;> cases y <;> simp [dGt]⟩
theorem o_eq (hu : X.A.units + 64 < cLine) : OpD X (compareOp .Eq) dEq := ⟨od_eq hu, fun x y c => by unfold dEq; split <;> simp⟩
theorem o_ne (hu : X.A.units + 64 < cLine) : OpD X (compareOp .NotEq) dNe := ⟨od_ne hu, fun x y c => by unfold dNe; split <;> simp⟩
theorem o_isN : OpD X (compareOp .Is) dIsN := ⟨od_isN, fun x y c => by cases x <;> cases y <;> simp [dIsN]⟩
theorem o_notN : OpD X (compareOp .IsNot) dNotN := ⟨od_notN, fun x y c => by cases x <;> cases y <;> simp [dNotN]⟩
end
section
variable {X : Cx} {W : WN} {f fa fb fc : Ga → R D} {a b c e : Expr} {pos : Pos}
theorem toS_tl (x : Str) : toS x.cps.toList = x := by apply TL.ext_tl; rfl
/-! ### names and constants -/
theorem j_var (i : Nat) {x : Str} (hN : X.N[i]? = some x := by rfl) (hv : Vis X.env.scope x := by first | exact Or.inl rfl | exact Or.inr (Or.inl rfl) | exact Or.inr (Or.inr rfl)) (hd : (x == ("__debug__" : Str)) = false := by decide)
    (hcd : (x == ("__classdict__" : Str)) = false := by decide) : J X W (bVar i) (.Name x pos) := ⟨PE.imp (pe_var hN hv hd hcd) fun σ H Q ⟨F, γ, r, o⟩ => by
  unfold bVar at o
  cases h : γ[i]? with
  | none => rw [h] at o; exact o.elim
  | some s =>
    rw [h] at o
    cases s with
    | un => exact o.elim
    | ow d => exact o.elim
    | nd d => exact o.elim
    | xc a => exact o.elim
    | va d =>
      obtain ⟨v, e1, p⟩ := r.sl i _ h
      exact ⟨v, e1, PV.here o r.emb p⟩⟩
theorem jr_rd (i : Nat) {x : Str} (hN : X.N[i]? = some x := by rfl) (hv : Vis X.env.scope x := by first | exact Or.inl rfl | exact Or.inr (Or.inl rfl) | exact Or.inr (Or.inr rfl)) (hd : (x == ("__debug__" : Str)) = false := by decide)
    (hcd : (x == ("__classdict__" : Str)) = false := by decide) : JR X W (bRd i) (.Name x pos) := ⟨PE.imp (pe_var hN hv hd hcd) fun σ H Q ⟨F, γ, r, o⟩ => by
  unfold bRd at o
  cases h : γ[i]? with
  | none => rw [h] at o; exact o.elim
  | some s =>
    rw [h] at o
    cases s with
    | un => exact o.elim
    | va d => exact o.elim
    | nd d => exact o.elim
    | xc a => exact o.elim
    | ow d =>
      obtain ⟨v, e1, _, p⟩ := r.sl i _ h
      exact ⟨_, e1, o _ F H (.refl r.emb) (.inr ⟨v, rfl, p⟩)⟩⟩
theorem j_c {v : V} {d : D} (h : PE X e (tC v)) (p : ∀ F, Rep X.K F d v) : J X W (bC d) e := ⟨PE.imp h fun σ H Q ⟨F, γ, r, o⟩ => PV.here (Q := Q) o r.emb (p F)⟩
theorem j_int {i : Int} {k : Nat} : J X W (bC (.int i)) (.Constant (.int i) k pos) := j_c pe_int fun _ => .int i
theorem j_bl {b : Bool} {k : Nat} : J X W (bC (.bl b)) (.Constant (.bool b) k pos) := j_c pe_bl fun _ => .bl b
theorem j_non {k : Nat} : J X W (bC .non) (.Constant .none k pos) := j_c pe_non fun _ => .non
theorem j_str {s : Tx} {x : Str} {k : Nat} (h : x.cps.toList = s := by rfl) : J X W (bC (.str s)) (.Constant (.str x) k pos) := j_c (v := .str x) pe_str fun _ => by
  subst h
  have := Rep.str (K := X.K) (F := ‹Hp›) x.cps.toList
  rw [toS_tl] at this
  exact this
/-- a constant of the module -/
theorem j_glob {x : Str} {u : Value} {d : D} {v : V} (hg : Gl X x) (hm : X.mg x = some u) (hu : RelV v u) (p : ∀ F, Rep X.K F d v) (hd : (x == ("__debug__" : Str)) = false := by decide) : J X W (bC d) (.Name x pos) := ⟨⟨fun pins s σ H Q I h => by
  obtain ⟨F, γ, r, o⟩ := h
  exact ld_glob I hg hm ⟨v, H, I, hu, PV.here (Q := Q) o r.emb (p F)⟩ hd⟩⟩
/-! ### operators -/
theorem rd2 {K : PySem.W.Frag} {F H : Hp} {γ : Ga} {σ : L2.St} {g : D → D → R D} {Q : VK} {R' : V → V → Hp → Prop} (r : RS K F γ σ H) (o : Out (PV K F H) F H (fun c H' => W c σ H') (b2 g fa fb γ) Q)
    (h : ∀ dx dy x y F2 H2, Nxt F H F2 H2 → RS K F2 γ σ H2 → Rep1 K F2 H2 dx x → Rep1 K F2 H2 dy y → Out (PV K F H) F H (fun c H' => W c σ H') (g dx dy) Q → R' x y H2) :
    rdR K W fa σ H fun x H1 => rdR K W fb σ H1 fun y H2 => R' x y H2 := by
  refine go1 (Z := fun z => Out (PV K F H) F H (fun c H' => W c σ H') z Q) r o (fun _ z => z) (fun z => z) fun dx x F1 H1 n1 r1 p1 o1 => ?_
  refine go1 (Z := fun z => Out (PV K F H) F H (fun c H' => W c σ H') z Q) r1 o1 (fun _ z F' H' n => z F' H' (n1.trans n)) (fun z => z) fun dy y F2 H2 n2 r2 p2 o2 => ?_
  exact h dx dy x y F2 H2 (n1.trans n2) r2 (p1.next n2) p2 o2
theorem tOp_of {K : PySem.W.Frag} {F H : Hp} {γ : Ga} {σ : L2.St} {g : D → D → R D} {Q : VK} (ne : ∀ x y c, g x y ≠ .ex c) (r : RS K F γ σ H) (o : Out (PV K F H) F H (fun c H' => W c σ H') (b2 g fa fb γ) Q) :
    tOp (RD2 K g) (rdR K W fa) (rdR K W fb) σ H Q := by
  refine rd2 r o fun dx dy x y F2 H2 n r2 p1 p2 o2 => ?_
  cases e : g dx dy with
  | ok d => rw [e] at o2; exact ⟨F2, dx, dy, d, r2.emb, p1, p2, e, PV.next (Q := Q) o2 n⟩
  | ex c => exact absurd e (ne _ _ _)
  | no => rw [e] at o2; exact o2.elim
theorem j_op {op : Operator} {g : D → D → R D} (ho : OpD X (binaryOp op) g) (ha : JR X W fa a) (hb : JR X W fb b) : J X W (b2 g fa fb) (.BinOp a op b pos) :=
  ⟨PE.imp (pe_op ho.run ha.pe hb.pe) fun σ H Q ⟨F, γ, r, o⟩ => tOp_of ho.ne r o⟩
theorem j_cmp {op : CmpOp} {g : D → D → R D} (ho : OpD X (compareOp op) g) (ha : JR X W fa a) (hb : JR X W fb b) (hm : behindInMarks op b = false := by first | exact nomark _ | rfl) : J X W (b2 g fa fb) (.Compare a [op] [b] pos) :=
  ⟨PE.imp (pe_cmpR ho.run ha.pe hb.pe hm) fun σ H Q ⟨F, γ, r, o⟩ => tOp_of ho.ne r o⟩
def dNeg : D → R D
  | .int i => .ok (.int (-i))
  | _ => .no
theorem j_neg (ha : JR X W fa a) : J X W (b1 dNeg fa) (.UnaryOp .USub a pos) := ⟨PE.imp (pe_un un_neg ha.pe) fun σ H Q ⟨F, γ, r, o⟩ => by
  refine go1 (Z := fun z => Out (PV X.K F H) F H (fun c H' => W c σ H') z Q) r o (fun _ z => z) (fun z => z) fun dx x F1 H1 n1 r1 p1 o1 => ?_
  cases dx <;> first | exact o1.elim | skip
  exact ⟨_, p1.int, PV.here (PV.next (Q := Q) o1 n1) r1.emb (.int _)⟩⟩
def dNot : D → R D
  | .bl b => .ok (.bl (!b))
  | _ => .no
theorem j_not (ha : JR X W fa a) : J X W (b1 dNot fa) (.UnaryOp .Not a pos) := ⟨PE.imp (pe_not ha.pe) fun σ H Q ⟨F, γ, r, o⟩ => by
  refine go1 (Z := fun z => Out (PV X.K F H) F H (fun c H' => W c σ H') z Q) r o (fun _ z => z) (fun z => z) fun dx x F1 H1 n1 r1 p1 o1 => ?_
  cases dx <;> first | exact o1.elim | skip
  exact ⟨_, p1.bl, PV.here (PV.next (Q := Q) o1 n1) r1.emb (.bl _)⟩⟩
/-! ### tests -/
theorem jt_cmp {op : CmpOp} {g : D → D → R D} (ho : OpD X (compareOp op) g) (ha : JR X W fa a) (hb : JR X W fb b) (hm : behindInMarks op b = false := by first | exact nomark _ | rfl) : JT X W (tVal (b2 g fa fb)) (.Compare a [op] [b] pos) :=
  ⟨PT.imp (pt_cmpR ho.run ha.pe hb.pe hm) fun σ H Q ⟨F, γ, r, o⟩ => by
    refine tOp_of (Q := fun x H' => ∃ k, x = .bl k ∧ Q k H') ho.ne r ?_
    unfold tVal at o
    cases e : b2 g fa fb γ with
    | ok d =>
      rw [e] at o
      cases d <;> first | exact o.elim | skip
      intro v F' H' n p
      cases p
      exact ⟨_, rfl, o F' H' n⟩
    | ex c => rw [e] at o; exact o
    | no => rw [e] at o; exact o⟩
theorem jt_val (h : J X W f e) (he : ∀ whole, isTrue e X.env whole = (do let v ← whole; standAt e.pos; holding [v] (truthy v)) := by intro _; rfl) : JT X W (tVal f) e :=
  ⟨PT.imp (pt_val h.pe he) fun σ H Q ⟨F, γ, r, o⟩ => by
    refine ⟨F, γ, r, ?_⟩
    unfold tVal at o
    cases e : f γ with
    | ok d =>
      rw [e] at o
      cases d <;> first | exact o.elim | skip
      intro v F' H' n p
      cases p
      exact ⟨_, rfl, o F' H' n⟩
    | ex c => rw [e] at o; exact o
    | no => rw [e] at o; exact o⟩
variable {p q : Ga → R Bool} {rest : List Expr}
theorem JW.t (h : JW X W p e) : JT X W p e := ⟨h.pw.pt⟩
theorem jw_and1 (ha : JT X W p a) : JW X W p (.BoolOp .And [a] pos) := ⟨pw_and1 ha.pt⟩
theorem jw_or1 (ha : JT X W p a) : JW X W p (.BoolOp .Or [a] pos) := ⟨pw_or1 ha.pt⟩
theorem jw_and (ha : JT X W p a) (hb : JW X W q (.BoolOp .And (b :: rest) pos)) : JW X W (tAnd p q) (.BoolOp .And (a :: b :: rest) pos) := ⟨PW.imp (pw_and ha.pt hb.pw) fun σ H Q h => by
  obtain ⟨F, γ, r, o⟩ := h
  refine ⟨F, γ, r, ?_⟩
  unfold tAnd at o
  cases e : p γ with
  | ok b =>
    simp only [e, R.bind] at o
    intro F' H' n
    cases b with
    | true =>
      simp only [if_true] at o ⊢
      refine ⟨F', γ, r.next n, ?_⟩
      cases e2 : q γ with
      | ok b' => rw [e2] at o; exact fun F2 H2 n2 => o F2 H2 (n.trans n2)
      | ex c => rw [e2] at o; exact fun F2 H2 n2 => o F2 H2 (n.trans n2)
      | no => rw [e2] at o; exact o
    | false => exact o F' H' n
  | ex c => simp only [e, R.bind] at o; exact o
  | no => simp only [e, R.bind] at o; exact o⟩
theorem jw_or (ha : JT X W p a) (hb : JW X W q (.BoolOp .Or (b :: rest) pos)) : JW X W (tOr p q) (.BoolOp .Or (a :: b :: rest) pos) := ⟨PW.imp (pw_or ha.pt hb.pw) fun σ H Q h => by
  obtain ⟨F, γ, r, o⟩ := h
  refine ⟨F, γ, r, ?_⟩
  unfold tOr at o
  cases e : p γ with
  | ok b =>
    simp only [e, R.bind] at o
    intro F' H' n
    cases b with
    | false =>
      simp only [Bool.false_eq_true, if_false] at o ⊢
      refine ⟨F', γ, r.next n, ?_⟩
      cases e2 : q γ with
      | ok b' => rw [e2] at o; exact fun F2 H2 n2 => o F2 H2 (n.trans n2)
      | ex c => rw [e2] at o; exact fun F2 H2 n2 => o F2 H2 (n.trans n2)
      | no => rw [e2] at o; exact o
    | true => exact o F' H' n
  | ex c => simp only [e, R.bind] at o; exact o
  | no => simp only [e, R.bind] at o; exact o⟩
theorem jt_not (ha : JT X W p a) : JT X W (tNot p) (.UnaryOp .Not a pos) := ⟨PT.imp (pt_not ha.pt) fun σ H Q h => by
  obtain ⟨F, γ, r, o⟩ := h
  refine ⟨F, γ, r, ?_⟩
  unfold tNot at o
  cases e : p γ with
  | ok b => simp only [e, R.bind] at o; exact o
  | ex c => simp only [e, R.bind] at o; exact o
  | no => simp only [e, R.bind] at o; exact o⟩
/-! ### and, or of truths as values; if .. else -/
def bAnd (fa fb : Ga → R D) : Ga → R D := fun γ => (fa γ).bind fun x => match x with | .bl true => fb γ | .bl false => .ok (.bl false) | _ => .no
def bOr (fa fb : Ga → R D) : Ga → R D := fun γ => (fa γ).bind fun x => match x with | .bl false => fb γ | .bl true => .ok (.bl true) | _ => .no
theorem Out.next {K : PySem.W.Frag} {F H F1 H1 : Hp} {σ : L2.St} {x : R D} {Q : VK} (o : Out (PV K F H) F H (fun c H' => W c σ H') x Q) (n : Nxt F H F1 H1) : Out (PV K F1 H1) F1 H1 (fun c H' => W c σ H') x Q := by
  cases x with
  | ok d => exact PV.next (Q := Q) o n
  | ex c => exact fun F' H' m => o F' H' (n.trans m)
  | no => exact o
theorem j_one {op : BoolOp} (h : J X W f a) : J X W f (.BoolOp op [a] pos) := ⟨pe_one h.pe⟩
theorem j_and (ha : J X W fa a) (hb : J X W fb (.BoolOp .And (b :: rest) pos)) : J X W (bAnd fa fb) (.BoolOp .And (a :: b :: rest) pos) := ⟨PE.imp (pe_and ha.pe hb.pe) fun σ H Q ⟨F, γ, r, o⟩ => by
  refine go1v (Z := fun z => Out (PV X.K F H) F H (fun c H' => W c σ H') z Q) r o (fun _ z => z) (fun z => z) fun dx x F1 H1 n1 r1 p1 o1 => ?_
  cases dx <;> first | exact o1.elim | skip
  rename_i b
  cases p1
  refine ⟨b, rfl, ?_⟩
  cases b with
  | true => exact ⟨F1, γ, r1, Out.next o1 n1⟩
  | false => exact PV.here (PV.next (Q := Q) o1 n1) r1.emb (.bl _)⟩
theorem j_or (ha : J X W fa a) (hb : J X W fb (.BoolOp .Or (b :: rest) pos)) : J X W (bOr fa fb) (.BoolOp .Or (a :: b :: rest) pos) := ⟨PE.imp (pe_or ha.pe hb.pe) fun σ H Q ⟨F, γ, r, o⟩ => by
  refine go1v (Z := fun z => Out (PV X.K F H) F H (fun c H' => W c σ H') z Q) r o (fun _ z => z) (fun z => z) fun dx x F1 H1 n1 r1 p1 o1 => ?_
  cases dx <;> first | exact o1.elim | skip
  rename_i b
  cases p1
  refine ⟨b, rfl, ?_⟩
  cases b with
  | false => exact ⟨F1, γ, r1, Out.next o1 n1⟩
  | true => exact PV.here (PV.next (Q := Q) o1 n1) r1.emb (.bl _)⟩
/-! ### chains -/
def bCh (g g' : D → D → R D) (fa fb fc : Ga → R D) : Ga → R D := fun γ => (fa γ).bind fun x => (fb γ).bind fun y => (g x y).bind fun z => match z with
  | .bl true => (fc γ).bind fun w => g' y w
  | .bl false => .ok (.bl false)
  | _ => .no
theorem tCh_of {g g' : D → D → R D} {K : PySem.W.Frag} {F H : Hp} {γ : Ga} {σ : L2.St} {Q : VK} (ne : ∀ x y c, g x y ≠ .ex c) (ne' : ∀ x y c, g' x y ≠ .ex c) (r : RS K F γ σ H) (o : Out (PV K F H) F H (fun c H' => W c σ H') (bCh g g' fa fb fc γ) Q) :
    tChain (RD2 K g) (RD2 K g') (rdR K W fa) (rdR K W fb) (rdR K W fc) σ H Q := by
  refine go1 (Z := fun z => Out (PV K F H) F H (fun c H' => W c σ H') z Q) r o (fun _ z => z) (fun z => z) fun dx x F1 H1 n1 r1 p1 o1 => ?_
  refine go1 (Z := fun z => Out (PV K F H) F H (fun c H' => W c σ H') z Q) r1 o1 (fun _ z F' H' n => z F' H' (n1.trans n)) (fun z => z) fun dy y F2 H2 n2 r2 p2 o2 => ?_
  have p1' := p1.next n2
  have n12 := n1.trans n2
  cases e : g dx dy with
  | ok d =>
    rw [e] at o2
    simp only [R.bind] at o2
    cases d <;> first | exact o2.elim | skip
    rename_i k
    refine ⟨F2, dx, dy, _, r2.emb, p1', p2, e, fun v F' H' n p => ?_⟩
    cases p
    refine ⟨k, rfl, ?_⟩
    cases k with
    | true =>
      refine go1 (Z := fun z => Out (PV K F H) F H (fun c H' => W c σ H') z Q) (r2.next n) o2 (fun _ z F'' H'' m => z F'' H'' ((n12.trans n).trans m)) (fun z => z) fun dw w F3 H3 n3 r3 p3 o3 => ?_
      cases e3 : g' dy dw with
      | ok d => rw [e3] at o3; exact ⟨F3, dy, dw, d, r3.emb, (p2.next n).next n3, p3, e3, PV.next (Q := Q) o3 ((n12.trans n).trans n3)⟩
      | ex c => exact absurd e3 (ne' _ _ _)
      | no => rw [e3] at o3; exact o3.elim
    | false => exact PV.here (PV.next (Q := Q) o2 (n12.trans n)) n.emb (.bl _)
  | ex c => exact absurd e (ne _ _ _)
  | no => rw [e] at o2; exact o2.elim
theorem j_chain {op op' : CmpOp} {g g' : D → D → R D} (ho : OpD X (compareOp op) g) (ho' : OpD X (compareOp op') g') (ha : JR X W fa a) (hb : JR X W fb b) (hc : JR X W fc c)
    (h1 : lastMarks [op, op'] [b, c] = false := by with_unfolding_all rfl) : J X W (bCh g g' fa fb fc) (.Compare a [op, op'] [b, c] pos) :=
  ⟨PE.imp (pe_chain ho.run ho'.run ha.pe hb.pe hc.pe h1) fun σ H Q ⟨F, γ, r, o⟩ => tCh_of ho.ne ho'.ne r o⟩
theorem jt_chain {op op' : CmpOp} {g g' : D → D → R D} (ho : OpD X (compareOp op) g) (ho' : OpD X (compareOp op') g') (ha : JR X W fa a) (hb : JR X W fb b) (hc : JR X W fc c)
    (h1 : lastMarks [op, op'] [b, c] = false := by with_unfolding_all rfl) : JT X W (tVal (bCh g g' fa fb fc)) (.Compare a [op, op'] [b, c] pos) :=
  ⟨PT.imp (pt_chain ho.run ho'.run ha.pe hb.pe hc.pe h1) fun σ H Q ⟨F, γ, r, o⟩ => by
    refine tCh_of (Q := fun x H' => ∃ k, x = .bl k ∧ Q k H') ho.ne ho'.ne r ?_
    unfold tVal at o
    cases e : bCh g g' fa fb fc γ with
    | ok d =>
      rw [e] at o
      cases d <;> first | exact o.elim | skip
      intro v F' H' n p
      cases p
      exact ⟨_, rfl, o F' H' n⟩
    | ex c => rw [e] at o; exact o
    | no => rw [e] at o; exact o⟩
/-! ### argument lists, displays -/
variable {es : List Expr} {fs : Ga → R (List D)}
theorem Reps.one {K : PySem.W.Frag} {F H : Hp} {ds : List D} {vs : List V} (h : Reps K F ds vs) : Reps1 K F H ds vs := by
  induction ds generalizing vs with
  | nil => cases h; exact .nil
  | cons d ds ih => cases h with | cons h1 h2 => exact .cons (.inl h1) (ih h2)
theorem Reps1.next {K : PySem.W.Frag} {F H F' H' : Hp} {ds : List D} {vs : List V} (h : Reps1 K F H ds vs) (n : Nxt F H F' H') : Reps1 K F' H' ds vs := by
  induction ds generalizing vs with
  | nil => cases h; exact .nil
  | cons d ds ih => cases h with | cons h1 h2 => exact .cons (h1.next n) (ih h2)
theorem ja_nil : JA X W bNil [] := ⟨PA.imp pa_nil fun σ H Q ⟨F, γ, r, o⟩ => o [] F H (.refl r.emb) .nil⟩
theorem ja1_nil : JA1 X W bNil [] := ⟨PA.imp pa_nil fun σ H Q ⟨F, γ, r, o⟩ => o [] F H (.refl r.emb) .nil⟩
theorem ja_cons (ha : J X W fa e) (hr : JA X W fs es) (hs : starEach (e :: es) X.env = (false, eval e X.env) :: starEach es X.env := by rfl) : JA X W (bCons fa fs) (e :: es) := ⟨PA.imp (pa_cons ha.pe hr.pa hs) fun σ H Q ⟨F, γ, r, o⟩ => by
  refine ⟨F, γ, r, ?_⟩
  unfold bCons at o
  cases e1 : fa γ with
  | ok d =>
    simp only [e1, R.bind] at o
    intro v F' H' n p
    refine ⟨F', γ, r.next n, ?_⟩
    cases e2 : fs γ with
    | ok ds => simp only [e2, R.bind] at o; exact fun vs F2 H2 n2 ps => o _ F2 H2 (n.trans n2) (.cons (p.mono n2.f) ps)
    | ex c => simp only [e2, R.bind] at o; exact fun F2 H2 n2 => o F2 H2 (n.trans n2)
    | no => simp only [e2, R.bind] at o; exact o
  | ex c => simp only [e1, R.bind] at o; exact o
  | no => simp only [e1, R.bind] at o; exact o⟩
theorem ja1_cons (ha : JR X W fa e) (hr : JA1 X W fs es) (hs : starEach (e :: es) X.env = (false, eval e X.env) :: starEach es X.env := by rfl) : JA1 X W (bCons fa fs) (e :: es) := ⟨PA.imp (pa_cons ha.pe hr.pa hs) fun σ H Q ⟨F, γ, r, o⟩ => by
  refine ⟨F, γ, r, ?_⟩
  unfold bCons at o
  cases e1 : fa γ with
  | ok d =>
    simp only [e1, R.bind] at o
    intro v F' H' n p
    refine ⟨F', γ, r.next n, ?_⟩
    cases e2 : fs γ with
    | ok ds => simp only [e2, R.bind] at o; exact fun vs F2 H2 n2 ps => o _ F2 H2 (n.trans n2) (.cons (p.next n2) ps)
    | ex c => simp only [e2, R.bind] at o; exact fun F2 H2 n2 => o F2 H2 (n.trans n2)
    | no => simp only [e2, R.bind] at o; exact o
  | ex c => simp only [e1, R.bind] at o; exact o
  | no => simp only [e1, R.bind] at o; exact o⟩
theorem j_tup {x1 : Nat} (h : JA X W fs es) : J X W (bTup fs) (.Tuple es x1 pos) := ⟨PE.imp (pe_tup h.pa) fun σ H Q ⟨F, γ, r, o⟩ => by
  refine ⟨F, γ, r, ?_⟩
  unfold bTup bN at o
  cases e1 : fs γ with
  | ok ds =>
    simp only [e1, R.bind] at o
    intro vs F' H' n p
    split at o
    · rename_i hl
      refine ⟨by rw [← p.length]; exact Nat.le_trans hl lim_line, fun a ha => PV.newT (PV.next (Q := Q) o n) n.emb p a ha⟩
    · exact o.elim
  | ex c => simp only [e1, R.bind] at o; exact o
  | no => simp only [e1, R.bind] at o; exact o⟩
theorem jf_lst (h : JA X W fs es) : JF X W (bLst fs) (.List es pos) := ⟨PE.imp (pe_lst h.pa) fun σ H Q ⟨F, γ, r, o⟩ => by
  refine ⟨F, γ, r, ?_⟩
  unfold bLst bN at o
  cases e1 : fs γ with
  | ok ds =>
    simp only [e1, R.bind] at o
    intro vs F' H' n p
    split at o
    · rename_i hl
      refine ⟨by rw [← p.length]; exact Nat.le_trans hl lim_line, fun a ha => ?_⟩
      exact o a F' _ (n.trans (.laid n.emb ha _)) (n.h.free ha) (n.emb.free ha) ⟨_, upd_same, p⟩
    · exact o.elim
  | ex c => simp only [e1, R.bind] at o; exact o
  | no => simp only [e1, R.bind] at o; exact o⟩
end
end KN
/-! KnD: subscripts, slices, builtins, calls -/
namespace KN
open PySem PySem.Spec PyProof.Rows L2
/-! ### subscripts -/
def lookK (es : List (Tx × D)) (k : Tx) : Option D := (es.find? fun e => e.1 == k).map (·.2)
def o2r {α : Type} : Option α → R α
  | some a => .ok a
  | none => .no
def dIx : D → D → R D
  | .lst xs, .int i => o2r (atI xs i)
  | .tup xs, .int i => o2r (atI xs i)
  | .str s, .int i => if s.length ≤ lim then (match atI s i with | some c => .ok (.str [c]) | none => .no) else .no
  | .dic es, .str k => o2r (lookK es k)
  | _, _ => .no
theorem Reps.atI {K : PySem.W.Frag} {F : Hp} {ds : List D} {vs : List V} (h : Reps K F ds vs) {i : Int} {d : D} (e : atI ds i = some d) : ∃ v, L2.atI vs i = some v ∧ Rep K F d v := by
  unfold L2.atI at e ⊢
  rw [← h.length]
  cases q : ixN ds.length i with
  | none => rw [q] at e; cases e
  | some j =>
    rw [q] at e
    exact h.get (i := j) (by simpa using e)
theorem RepK.look {K : PySem.W.Frag} {F : Hp} {es : List (Tx × D)} {kvs : List (Key × V)} (h : RepK K F es kvs) (k : Tx) :
    (lookK es k = none ∧ valV kvs (Sum.inr (toS k)) = none) ∨ ∃ d v, lookK es k = some d ∧ valV kvs (Sum.inr (toS k)) = some v ∧ Rep K F d v := by
  induction es generalizing kvs with
  | nil => cases h; exact .inl ⟨rfl, rfl⟩
  | cons e es ih =>
    obtain ⟨k', d⟩ := e
    cases h with
    | cons h1 h2 =>
      by_cases q : k' = k
      · subst q
        refine .inr ⟨d, _, ?_, valV_pos rfl, h1⟩
        simp [lookK]
      · have q2 : ¬ (Sum.inr (toS k') : Key) = Sum.inr (toS k) := fun z => q (toS_inj.mp (Sum.inr.inj z))
        rw [valV_neg q2]
        have : lookK ((k', d) :: es) k = lookK es k := by
          unfold lookK
          rw [List.find?_cons, show (k' == k) = false from beq_eq_false_iff_ne.mpr q]
        rw [this]
        exact ih h2
section
variable {X : Cx}
theorem xd_ix (hu : X.A.units + 1 < cLine) : IxR X (RD2 X.K dIx) := by
  intro value slice pins s σ H x y v u Q I rx ry ⟨F, dx, dy, d, e, r1, r2, hg, q⟩ hs
  cases dx <;> cases dy <;> first | (cases hg; done) | skip
  · rename_i z i
    simp only [dIx] at hg
    split at hg
    · rename_i hl
      split at hg
      · rename_i c hc
        cases hg
        have e1 := r1.str
        refine ix_str value slice pins s σ H x y v u Q I rx ry ⟨toS z, i, c, e1, r2.int, ?_, ?_, ?_⟩ hs
        · rw [toS_len]; exact Nat.le_trans hl lim_line
        · exact hc
        · exact q.here e (.str [c])
      · cases hg
    · cases hg
  · rename_i xs i
    simp only [dIx, o2r] at hg
    split at hg
    · rename_i d' hc
      cases hg
      obtain ⟨p, vs, rfl, s1, p1⟩ := r1.lst e
      obtain ⟨w, e1, e2⟩ := p1.atI hc
      exact ix_list value slice pins s σ H _ y v u Q I rx ry ⟨p, vs, i, w, rfl, r2.int, s1, e1, q.here e e2⟩ hs
    · cases hg
  · rename_i xs i
    simp only [dIx, o2r] at hg
    split at hg
    · rename_i d' hc
      cases hg
      obtain ⟨p, vs, rfl, s1, p1⟩ := r1.tup e
      obtain ⟨w, e1, e2⟩ := p1.atI hc
      exact ix_tup value slice pins s σ H _ y v u Q I rx ry ⟨p, vs, i, w, rfl, r2.int, s1, e1, q.here e e2⟩ hs
    · cases hg
  · rename_i es k
    simp only [dIx, o2r] at hg
    split at hg
    · rename_i d' hc
      cases hg
      obtain ⟨p, kvs, rfl, s1, p1⟩ := r1.dic e
      rcases p1.look k with ⟨z, _⟩ | ⟨d2, w, z, e1, e2⟩
      · rw [hc] at z; cases z
      · rw [hc] at z; cases z
        cases rx
        have g : DGet H p y (some w) := .inl ⟨kvs, .inr (toS k), s1, r2.str, e1.symm⟩
        exact tail_any (dict_typeIs I g) PySem.F.slot_dict_getitem.lookup (d_getItem hu I g ry fun w' s3 I3 rw' => ⟨w, H, I3, rw', q.here e e2⟩) hs
    · cases hg
end
theorem ne_ix : ∀ x y c, dIx x y ≠ .ex c := fun x y c => by
  cases x <;> cases y <;> simp only [dIx, o2r] <;> first | (intro h; cases h; done) | (split <;> first | (intro h; cases h; done) | (split <;> intro h <;> cases h))
/-! ### slices -/
def cutL {α : Type} (xs : List α) (lo hi : Option Int) : List α := (xs.drop (HT.sIx xs.length 0 lo)).take (HT.sIx xs.length xs.length hi - HT.sIx xs.length 0 lo)
theorem Reps.cut {K : PySem.W.Frag} {F : Hp} {ds : List D} {vs : List V} (h : Reps K F ds vs) (lo hi : Option Int) : Reps K F (cutL ds lo hi) (cutV vs lo hi) := by
  unfold cutL cutV
  rw [← h.length]
  exact (h.drop _).take _
def dSl : D → Option Int → Option Int → R D
  | .lst xs, lo, hi => .ok (.lst (cutL xs lo hi))
  | .tup xs, lo, hi => .ok (.tup (cutL xs lo hi))
  | .str s, lo, hi => if s.length ≤ lim then .ok (.str (cutL s lo hi)) else .no
  | _, _, _ => .no
theorem ne_sl : ∀ x lo hi c, dSl x lo hi ≠ .ex c := fun x lo hi c => by
  cases x <;> simp only [dSl] <;> first | (intro h; cases h; done) | (split <;> intro h <;> cases h)
def RSl (K : PySem.W.Frag) : V → Option Int → Option Int → Hp → VK → Prop := fun x lo hi H Q => ∃ F dx d, Emb F H ∧ Rep1 K F H dx x ∧ dSl dx lo hi = .ok d ∧ PV K F H d Q
theorem toS_cut (z : Tx) (lo hi : Option Int) : cutS (toS z) lo hi = toS (cutL z lo hi) := by
  unfold cutS cutL
  rw [toS_len]
theorem cut_whole {α : Type} {xs : List α} {lo hi : Option Int} (h : HT.sIx xs.length 0 lo = 0 ∧ HT.sIx xs.length xs.length hi = xs.length) : cutL xs lo hi = xs := by
  unfold cutL
  rw [h.1, h.2]
  simp
theorem sd_sl {X : Cx} : SlR X (RSl X.K) := by
  intro pins s σ H x v vl vu lo hi sl Q I rx hs pl pu ⟨F, dx, d, e, r1, hg, q⟩
  cases dx <;> first | (cases hg; done) | skip
  · rename_i z
    simp only [dSl] at hg
    split at hg
    · rename_i hl
      cases hg
      refine sl_str pins s σ H x v vl vu lo hi sl Q I rx hs pl pu ⟨toS z, r1.str, ?_, ?_⟩
      · rw [toS_len]; exact Nat.le_trans hl lim_line
      · rw [toS_cut]; exact q.here e (.str _)
    · cases hg
  · rename_i xs
    cases hg
    obtain ⟨p, vs, rfl, s1, p1⟩ := r1.lst e
    exact sl_list pins s σ H _ v vl vu lo hi sl Q I rx hs pl pu ⟨p, vs, rfl, s1, fun a ha => q.newL e (p1.cut lo hi) a ha⟩
  · rename_i xs
    cases hg
    have r1' := r1
    obtain ⟨p, vs, rfl, s1, p1⟩ := r1.tup e
    refine sl_tupA pins s σ H _ v vl vu lo hi sl Q I rx hs pl pu ⟨p, vs, rfl, s1, fun h => ?_, fun _ a ha => q.newT e (p1.cut lo hi) a ha⟩
    rw [← p1.length] at h
    rw [cut_whole h] at q
    rcases r1' with r1' | ⟨_, _, o⟩
    · exact q.here e r1'
    · exact o.elim
def bSl (fa : Ga → R D) (fl fh : Ga → R (Option Int)) : Ga → R D := fun γ => (fa γ).bind fun x => (fl γ).bind fun l => (fh γ).bind fun h => dSl x l h
def pNo : Ga → R (Option Int) := fun _ => .ok none
def toI : D → R (Option Int)
  | .int i => .ok (some i)
  | _ => .no
def pSo (fa : Ga → R D) : Ga → R (Option Int) := fun γ => (fa γ).bind toI
def rdO (K : PySem.W.Frag) (W : WN) (f : Ga → R (Option Int)) : TO := fun σ H Q => ∃ F γ, RS K F γ σ H ∧ (match f γ with
  | .ok o => ∀ F' H', Nxt F H F' H' → Q o H'
  | .ex c => ∀ F' H', Nxt F H F' H' → W c σ H'
  | .no => False)
structure JO (X : Cx) (W : WN) (f : Ga → R (Option Int)) (e : Option Expr) : Prop where
  po : PO X e (rdO X.K W f)
theorem PO.imp {X : Cx} {e : Option Expr} {t t' : TO} (h : PO X e t) (i : ∀ σ H Q, t' σ H Q → t σ H Q) : PO X e t' := ⟨fun pins s σ H Q I q => h.run pins s σ H Q I (i σ H Q q)⟩
section
variable {X : Cx} {W : WN} {f fa fb fc : Ga → R D} {a b c e : Expr} {pos p2 p : Pos} {lo hi : Option Expr} {fl fh : Ga → R (Option Int)} {es : List Expr} {fs : Ga → R (List D)}
theorem j_ix (hu : X.A.units + 1 < cLine) (ha : JR X W fa a) (hb : JR X W fb b) (hs : PlainIx b := by exact fun _ _ => rfl) : J X W (b2 dIx fa fb) (.Subscript a b pos) :=
  ⟨PE.imp (pe_ix (xd_ix hu) ha.pe hb.pe hs) fun σ H Q ⟨F, γ, r, o⟩ => tOp_of ne_ix r o⟩
theorem jo_none : JO X W pNo none := ⟨PO.imp po_none fun σ H Q ⟨F, γ, r, o⟩ => o F H (.refl r.emb)⟩
theorem jo_some (ha : JR X W fa a) : JO X W (pSo fa) (some a) := ⟨PO.imp (po_some ha.pe) fun σ H Q ⟨F, γ, r, o⟩ => by
  refine ⟨F, γ, r, ?_⟩
  unfold pSo at o
  cases e1 : fa γ with
  | ok d =>
    simp only [e1, R.bind] at o
    cases d <;> first | exact o.elim | skip
    exact fun v F' H' n p => ⟨_, p.int, o F' H' n⟩
  | ex c => simp only [e1, R.bind] at o; exact o
  | no => simp only [e1, R.bind] at o⟩
theorem j_slice (ha : JR X W fa a) (hl : JO X W fl lo) (hh : JO X W fh hi) : J X W (bSl fa fl fh) (.Subscript a (.Slice lo hi none p2) pos) := ⟨PE.imp (pe_slice sd_sl ha.pe hl.po hh.po) fun σ H Q ⟨F, γ, r, o⟩ => by
  refine go1 (Z := fun z => Out (PV X.K F H) F H (fun c H' => W c σ H') z Q) r o (fun _ z => z) (fun z => z) fun dx x F1 H1 n1 r1 p1 o1 => ?_
  refine ⟨F1, γ, r1, ?_⟩
  cases e1 : fl γ with
  | ok l =>
    simp only [e1, R.bind] at o1
    intro F2 H2 n2
    refine ⟨F2, γ, r1.next n2, ?_⟩
    cases e2 : fh γ with
    | ok h =>
      simp only [e2, R.bind] at o1
      intro F3 H3 n3
      cases e3 : dSl dx l h with
      | ok d => rw [e3] at o1; exact ⟨F3, dx, d, n3.emb, (p1.next n2).next n3, e3, PV.next (Q := Q) o1 ((n1.trans n2).trans n3)⟩
      | ex c => exact absurd e3 (ne_sl _ _ _ _)
      | no => rw [e3] at o1; exact o1.elim
    | ex c => simp only [e2, R.bind] at o1; exact fun F' H' m => o1 F' H' ((n1.trans n2).trans m)
    | no => simp only [e2, R.bind] at o1; exact o1
  | ex c => simp only [e1, R.bind] at o1; exact fun F' H' m => o1 F' H' (n1.trans m)
  | no => simp only [e1, R.bind] at o1; exact o1⟩
/-! ### builtins by name -/
def RDc (K : PySem.W.Frag) (g : List D → R D) : List V → Hp → VK → Prop := fun xs H Q => ∃ F ds d, Emb F H ∧ Reps1 K F H ds xs ∧ g ds = .ok d ∧ PV K F H d Q
def RDf (K : PySem.W.Frag) (g : List D → R D) : List V → Hp → VK → Prop := fun xs H Q => ∃ F ds d, Emb F H ∧ Reps1 K F H ds xs ∧ g ds = .ok d ∧ PF K F H d Q
structure CalD (X : Cx) (f : Value) (g : List D → R D) : Prop where
  run : CallR X f (RDc X.K g)
  ne : ∀ x c, g x ≠ .ex c
structure CalF (X : Cx) (f : Value) (g : List D → R D) : Prop where
  run : CallR X f (RDf X.K g)
  ne : ∀ x c, g x ≠ .ex c
theorem tCB_of {K : PySem.W.Frag} {g : List D → R D} {σ : L2.St} {H F : Hp} {γ : Ga} {Q : VK} (ne : ∀ x c, g x ≠ .ex c) (r : RS K F γ σ H) (o : Out (PV K F H) F H (fun c H' => W c σ H') (bN g fs γ) Q) :
    rdA1 K W fs σ H fun vs H1 => RDc K g vs H1 Q := by
  refine ⟨F, γ, r, ?_⟩
  unfold bN at o
  cases e1 : fs γ with
  | ok ds =>
    simp only [e1, R.bind] at o
    intro vs F' H' n p
    cases e2 : g ds with
    | ok d => rw [e2] at o; exact ⟨F', ds, d, n.emb, p, e2, PV.next (Q := Q) o n⟩
    | ex c => exact absurd e2 (ne _ _)
    | no => rw [e2] at o; exact o.elim
  | ex c => simp only [e1, R.bind] at o; exact o
  | no => simp only [e1, R.bind] at o; exact o
theorem tCF_of {K : PySem.W.Frag} {g : List D → R D} {σ : L2.St} {H F : Hp} {γ : Ga} {Q : VK} (ne : ∀ x c, g x ≠ .ex c) (r : RS K F γ σ H) (o : Out (PF K F H) F H (fun c H' => W c σ H') (bN g fs γ) Q) :
    rdA1 K W fs σ H fun vs H1 => RDf K g vs H1 Q := by
  refine ⟨F, γ, r, ?_⟩
  unfold bN at o
  cases e1 : fs γ with
  | ok ds =>
    simp only [e1, R.bind] at o
    intro vs F' H' n p
    cases e2 : g ds with
    | ok d => rw [e2] at o; exact ⟨F', ds, d, n.emb, p, e2, PF.next (Q := Q) o n⟩
    | ex c => exact absurd e2 (ne _ _)
    | no => rw [e2] at o; exact o.elim
  | ex c => simp only [e1, R.bind] at o; exact o
  | no => simp only [e1, R.bind] at o; exact o
theorem j_b {id : String} {x : Str} {g : List D → R D} (hc : CalD X (.builtin id) g) (hm : X.mg x = none) (hv : bootBuiltins x = some (.builtin id)) (ha : JA1 X W fs (e :: es)) (hg : Gl X x := by rfl) (hn : x ≠ "__name__" := by decide) (hdb : (x == ("__debug__" : Str)) = false := by decide)
    (he : starEach (e :: es) X.env = (false, eval e X.env) :: starEach es X.env := by rfl) (hpl : (backTo pos (starEach es X.env)).any (·.1) = false := by rfl) : J X W (bN g fs) (.Call (.Name x p) (e :: es) [] pos) :=
  ⟨PE.imp (pe_callB hc.run hg hm hv ha.pa hn hdb he hpl) fun σ H Q ⟨F, γ, r, o⟩ => tCB_of hc.ne r o⟩
theorem j_ty {id : String} {x : Str} {g : List D → R D} (hc : CalD X (.type id) g) (hm : X.mg x = none) (hv : bootBuiltins x = some (.type id)) (ha : JA1 X W fs (e :: es)) (hg : Gl X x := by rfl) (hn : x ≠ "__name__" := by decide) (hdb : (x == ("__debug__" : Str)) = false := by decide)
    (he : starEach (e :: es) X.env = (false, eval e X.env) :: starEach es X.env := by rfl) (hpl : (backTo pos (starEach es X.env)).any (·.1) = false := by rfl) : J X W (bN g fs) (.Call (.Name x p) (e :: es) [] pos) :=
  ⟨PE.imp (pe_callTy hc.run hg hm hv ha.pa hn hdb he hpl) fun σ H Q ⟨F, γ, r, o⟩ => tCB_of hc.ne r o⟩
theorem jf_b {id : String} {x : Str} {g : List D → R D} (hc : CalF X (.builtin id) g) (hm : X.mg x = none) (hv : bootBuiltins x = some (.builtin id)) (ha : JA1 X W fs (e :: es)) (hg : Gl X x := by rfl) (hn : x ≠ "__name__" := by decide) (hdb : (x == ("__debug__" : Str)) = false := by decide)
    (he : starEach (e :: es) X.env = (false, eval e X.env) :: starEach es X.env := by rfl) (hpl : (backTo pos (starEach es X.env)).any (·.1) = false := by rfl) : JF X W (bN g fs) (.Call (.Name x p) (e :: es) [] pos) :=
  ⟨PE.imp (pe_callB hc.run hg hm hv ha.pa hn hdb he hpl) fun σ H Q ⟨F, γ, r, o⟩ => tCF_of hc.ne r o⟩
theorem jf_ty {id : String} {x : Str} {g : List D → R D} (hc : CalF X (.type id) g) (hm : X.mg x = none) (hv : bootBuiltins x = some (.type id)) (ha : JA1 X W fs (e :: es)) (hg : Gl X x := by rfl) (hn : x ≠ "__name__" := by decide) (hdb : (x == ("__debug__" : Str)) = false := by decide)
    (he : starEach (e :: es) X.env = (false, eval e X.env) :: starEach es X.env := by rfl) (hpl : (backTo pos (starEach es X.env)).any (·.1) = false := by rfl) : JF X W (bN g fs) (.Call (.Name x p) (e :: es) [] pos) :=
  ⟨PE.imp (pe_callTy hc.run hg hm hv ha.pa hn hdb he hpl) fun σ H Q ⟨F, γ, r, o⟩ => tCF_of hc.ne r o⟩
end
/-! ### the builtins -/
section
variable {X : Cx}
theorem Reps1.inv1 {K : PySem.W.Frag} {F H : Hp} {d : D} {xs : List V} (h : Reps1 K F H [d] xs) : ∃ x, xs = [x] ∧ Rep1 K F H d x := by
  cases h with | cons h1 h2 => cases h2; exact ⟨_, rfl, h1⟩
theorem Reps1.inv2 {K : PySem.W.Frag} {F H : Hp} {d e : D} {xs : List V} (h : Reps1 K F H [d, e] xs) : ∃ x y, xs = [x, y] ∧ Rep1 K F H d x ∧ Rep1 K F H e y := by
  cases h with | cons h1 h2 => obtain ⟨y, rfl, h3⟩ := h2.inv1; exact ⟨_, _, rfl, h1, h3⟩
def dLen : List D → R D
  | [.str s] => if s.length ≤ lim then .ok (.int s.length) else .no
  | [.lst xs] => .ok (.int xs.length)
  | [.tup xs] => .ok (.int xs.length)
  | [.dic es] => .ok (.int es.length)
  | _ => .no
theorem c_len : CalD X (.builtin "len") dLen := by
  refine ⟨fun pins s σ H xs us Q I rv ⟨F, ds, d, e, r, hg, q⟩ => ?_, fun x c => ?_⟩
  · match ds, hg with
    | [.str z], hg =>
      simp only [dLen] at hg
      split at hg
      · rename_i hl
        cases hg
        obtain ⟨x, rfl, r1⟩ := r.inv1
        have e1 := r1.str
        subst e1
        refine call_len pins s σ H _ us Q I rv ⟨.str (toS z), z.length, rfl, ⟨?_, (toS_len z).symm⟩, q.here e (.int _)⟩
        rw [toS_len]; exact Nat.le_trans hl lim_line
      · cases hg
    | [.lst ys], hg =>
      cases hg
      obtain ⟨x, rfl, r1⟩ := r.inv1
      obtain ⟨a, vs, rfl, s1, p1⟩ := r1.lst e
      exact call_len pins s σ H _ us Q I rv ⟨.ref a, ys.length, rfl, .inl ⟨vs, s1, p1.length⟩, q.here e (.int _)⟩
    | [.tup ys], hg =>
      cases hg
      obtain ⟨x, rfl, r1⟩ := r.inv1
      obtain ⟨a, vs, rfl, s1, p1⟩ := r1.tup e
      exact call_len pins s σ H _ us Q I rv ⟨.ref a, ys.length, rfl, .inr ⟨vs, s1, p1.length⟩, q.here e (.int _)⟩
    | [.dic ys], hg =>
      cases hg
      obtain ⟨x, rfl, r1⟩ := r.inv1
      obtain ⟨a, kvs, rfl, s1, p1⟩ := r1.dic e
      obtain ⟨u, rfl, ru⟩ := vals1 rv
      cases ru
      refine d_len I s1 fun t s' I' => ⟨.int kvs.length, H, I', ⟨t, rfl⟩, ?_⟩
      rw [← p1.length]
      exact q.here e (.int _)
  · intro h
    unfold dLen at h
    split at h <;> try split at h
    all_goals cases h
def dMax : List D → R D
  | [.int i, .int j] => .ok (.int (max i j))
  | _ => .no
theorem c_max (hc : X.calm = true) : CalD X (.builtin "max") dMax := by
  refine ⟨fun pins s σ H xs us Q I rv ⟨F, ds, d, e, r, hg, q⟩ => ?_, fun x c => ?_⟩
  · match ds, hg with
    | [.int i, .int j], hg =>
      cases hg
      obtain ⟨x, y, rfl, r1, r2⟩ := r.inv2
      have e1 := r1.int
      have e2 := r2.int
      subst e1 e2
      refine call_max2 hc pins s σ H _ us Q I rv ⟨i, j, rfl, ?_⟩
      have : (if j > i then j else i) = max i j := by split <;> omega
      rw [this]
      exact q.here e (.int _)
  · intro h
    unfold dMax at h
    split at h <;> cases h
def dList : List D → R D
  | [.lst xs] => .ok (.lst xs)
  | [.tup xs] => .ok (.lst xs)
  | _ => .no
theorem PF.newL {K : PySem.W.Frag} {F H : Hp} {ds : List D} {vs : List V} {Q : VK} (q : PF K F H (.lst ds) Q) (e : Emb F H) (r : Reps K F ds vs) (p : Addr) (hp : H p = none) : Q (.ref p) (upd H p (.lst vs)) :=
  q p F _ (.laid e hp _) hp (e.free hp) ⟨vs, upd_same, r⟩
theorem c_list : CalF X (.type "list") dList := by
  refine ⟨fun pins s σ H xs us Q I rv ⟨F, ds, d, e, r, hg, q⟩ => ?_, fun x c => ?_⟩
  · match ds, hg with
    | [.lst ys], hg =>
      cases hg
      obtain ⟨x, rfl, r1⟩ := r.inv1
      obtain ⟨a, vs, rfl, s1, p1⟩ := r1.lst e
      exact call_list_of pins s σ H _ us Q I rv ⟨a, vs, rfl, .inl s1, fun l hl => q.newL e p1 l hl⟩
    | [.tup ys], hg =>
      cases hg
      obtain ⟨x, rfl, r1⟩ := r.inv1
      obtain ⟨a, vs, rfl, s1, p1⟩ := r1.tup e
      exact call_list_of pins s σ H _ us Q I rv ⟨a, vs, rfl, .inr s1, fun l hl => q.newL e p1 l hl⟩
  · intro h
    unfold dList at h
    split at h <;> cases h
def dTuple : List D → R D
  | [.lst xs] => .ok (.tup xs)
  | [.tup xs] => .ok (.tup xs)
  | _ => .no
theorem c_tuple : CalD X (.type "tuple") dTuple := by
  refine ⟨fun pins s σ H xs us Q I rv ⟨F, ds, d, e, r, hg, q⟩ => ?_, fun x c => ?_⟩
  · match ds, hg with
    | [.lst ys], hg =>
      cases hg
      obtain ⟨x, rfl, r1⟩ := r.inv1
      obtain ⟨a, vs, rfl, s1, p1⟩ := r1.lst e
      exact call_tuple_of pins s σ H _ us Q I rv ⟨a, vs, rfl, .inl ⟨s1, fun l hl => q.newT e p1 l hl⟩⟩
    | [.tup ys], hg =>
      cases hg
      obtain ⟨x, rfl, r1⟩ := r.inv1
      have r1' := r1
      obtain ⟨a, vs, rfl, s1, p1⟩ := r1.tup e
      refine call_tuple_of pins s σ H _ us Q I rv ⟨a, vs, rfl, .inr ⟨s1, ?_⟩⟩
      rcases r1' with r1' | ⟨_, _, o⟩
      · exact q.here e r1'
      · exact o.elim
  · intro h
    unfold dTuple at h
    split at h <;> cases h
/-- ints, truths, texts all the way -/
def asInts : List D → Option (List Int)
  | [] => some []
  | .int i :: xs => (asInts xs).map (i :: ·)
  | _ :: _ => none
def asBls : List D → Option (List Bool)
  | [] => some []
  | .bl i :: xs => (asBls xs).map (i :: ·)
  | _ :: _ => none
def asTxs : List D → Option (List Tx)
  | [] => some []
  | .str i :: xs => (asTxs xs).map (i :: ·)
  | _ :: _ => none
theorem asInts_of {xs : List D} {ns : List Int} (h : asInts xs = some ns) : xs = ns.map D.int := by
  induction xs generalizing ns with
  | nil => cases h; rfl
  | cons x xs ih =>
    cases x <;> simp only [asInts] at h <;> first | (cases h; done) | skip
    cases e : asInts xs with
    | none => rw [e] at h; cases h
    | some ms => rw [e] at h; cases h; rw [ih e]; rfl
theorem asBls_of {xs : List D} {ns : List Bool} (h : asBls xs = some ns) : xs = ns.map D.bl := by
  induction xs generalizing ns with
  | nil => cases h; rfl
  | cons x xs ih =>
    cases x <;> simp only [asBls] at h <;> first | (cases h; done) | skip
    cases e : asBls xs with
    | none => rw [e] at h; cases h
    | some ms => rw [e] at h; cases h; rw [ih e]; rfl
theorem asTxs_of {xs : List D} {ns : List Tx} (h : asTxs xs = some ns) : xs = ns.map D.str := by
  induction xs generalizing ns with
  | nil => cases h; rfl
  | cons x xs ih =>
    cases x <;> simp only [asTxs] at h <;> first | (cases h; done) | skip
    cases e : asTxs xs with
    | none => rw [e] at h; cases h
    | some ms => rw [e] at h; cases h; rw [ih e]; rfl
@[simp] theorem asInts_map (ns : List Int) : asInts (ns.map D.int) = some ns := by
  induction ns with
  | nil => rfl
  | cons n ns ih => simp [asInts, ih]
@[simp] theorem asBls_map (ns : List Bool) : asBls (ns.map D.bl) = some ns := by
  induction ns with
  | nil => rfl
  | cons n ns ih => simp [asBls, ih]
@[simp] theorem asTxs_map (ns : List Tx) : asTxs (ns.map D.str) = some ns := by
  induction ns with
  | nil => rfl
  | cons n ns ih => simp [asTxs, ih]
theorem Reps.ints {K : PySem.W.Frag} {F : Hp} {ns : List Int} {vs : List V} (h : Reps K F (ns.map D.int) vs) : vs = ns.map V.int := by
  induction ns generalizing vs with
  | nil => cases h; rfl
  | cons n ns ih => cases h with | cons h1 h2 => cases h1; rw [ih h2]; rfl
theorem Reps.bls {K : PySem.W.Frag} {F : Hp} {ns : List Bool} {vs : List V} (h : Reps K F (ns.map D.bl) vs) : vs = ns.map V.bl := by
  induction ns generalizing vs with
  | nil => cases h; rfl
  | cons n ns ih => cases h with | cons h1 h2 => cases h1; rw [ih h2]; rfl
theorem Reps.txs {K : PySem.W.Frag} {F : Hp} {ns : List Tx} {vs : List V} (h : Reps K F (ns.map D.str) vs) : vs = (ns.map toS).map V.str := by
  induction ns generalizing vs with
  | nil => cases h; rfl
  | cons n ns ih => cases h with | cons h1 h2 => cases h1; rw [ih h2]; rfl
theorem reps_ints {K : PySem.W.Frag} {F : Hp} (ns : List Int) : Reps K F (ns.map D.int) (ns.map V.int) := by
  induction ns with
  | nil => exact .nil
  | cons n ns ih => exact .cons (.int n) ih
theorem reps_txs {K : PySem.W.Frag} {F : Hp} (ns : List Tx) : Reps K F (ns.map D.str) ((ns.map toS).map V.str) := by
  induction ns with
  | nil => exact .nil
  | cons n ns ih => exact .cons (.str n) ih
def dSum : List D → R D
  | [.lst xs] => (o2r (asInts xs)).bind fun ns => .ok (.int ns.sum)
  | _ => .no
theorem c_sum (hc : X.calm = true) : CalD X (.builtin "sum") dSum := by
  refine ⟨fun pins s σ H xs us Q I rv ⟨F, ds, d, e, r, hg, q⟩ => ?_, fun x c => ?_⟩
  · match ds, hg with
    | [.lst ys], hg =>
      simp only [dSum, o2r] at hg
      split at hg
      · rename_i ns hn
        cases hg
        have := asInts_of hn
        subst this
        obtain ⟨x, rfl, r1⟩ := r.inv1
        obtain ⟨a, vs, rfl, s1, p1⟩ := r1.lst e
        rw [p1.ints] at s1
        exact cr_sum hc pins s σ H _ us Q I rv ⟨a, ns, rfl, s1, q.here e (.int _)⟩
      · cases hg
  · intro h
    unfold dSum at h
    split at h
    · simp only [o2r] at h; split at h <;> cases h
    · cases h
def dAll : List D → R D
  | [.lst xs] => (o2r (asBls xs)).bind fun ns => .ok (.bl (ns.all id))
  | _ => .no
theorem c_all (hc : X.calm = true) : CalD X (.builtin "all") dAll := by
  refine ⟨fun pins s σ H xs us Q I rv ⟨F, ds, d, e, r, hg, q⟩ => ?_, fun x c => ?_⟩
  · match ds, hg with
    | [.lst ys], hg =>
      simp only [dAll, o2r] at hg
      split at hg
      · rename_i ns hn
        cases hg
        have := asBls_of hn
        subst this
        obtain ⟨x, rfl, r1⟩ := r.inv1
        obtain ⟨a, vs, rfl, s1, p1⟩ := r1.lst e
        rw [p1.bls] at s1
        exact cr_all hc pins s σ H _ us Q I rv ⟨a, ns, rfl, s1, q.here e (.bl _)⟩
      · cases hg
  · intro h
    unfold dAll at h
    split at h
    · simp only [o2r] at h; split at h <;> cases h
    · cases h
/-! ### sorted -/
def leT (a b : Tx) : Bool := !decide (b < a)
def sortT (l : List Tx) : List Tx := l.mergeSort leT
def sortI (l : List Int) : List Int := l.mergeSort fun a b => decide (a ≤ b)
theorem leT_total (a b : Tx) : (leT a b || leT b a) = true := by
  unfold leT
  rcases Decidable.em (b < a) with h | h
  · have : ¬ a < b := List.lt_asymm h
    simp [this]
  · simp [h]
theorem leT_trans (a b c : Tx) : leT a b = true → leT b c = true → leT a c = true := by
  unfold leT
  simp only [Bool.not_eq_true', decide_eq_false_iff_not, List.not_lt]
  exact fun h k => List.le_trans h k
theorem leT_anti {a b : Tx} (h : leT a b = true) (k : leT b a = true) : a = b := by
  unfold leT at h k
  simp only [Bool.not_eq_true', decide_eq_false_iff_not, List.not_lt] at h k
  exact List.le_antisymm h k
theorem sortT_perm (l : List Tx) : (sortT l).Perm l := List.mergeSort_perm _ _
theorem sortT_pw (l : List Tx) : (sortT l).Pairwise (fun a b => leT a b = true) := List.pairwise_mergeSort leT_trans leT_total l
theorem sortI_perm (l : List Int) : (sortI l).Perm l := List.mergeSort_perm _ _
theorem sortI_pw (l : List Int) : (sortI l).Pairwise (· ≤ ·) := by
  have := List.pairwise_mergeSort (le := fun a b : Int => decide (a ≤ b)) (fun a b c h k => by simp at h k ⊢; omega) (fun a b => by simp; omega) l
  exact this.imp (fun h => of_decide_eq_true h)
theorem sorted_uniq {α : Type} {r : α → α → Prop} (anti : ∀ a b, r a b → r b a → a = b) {l m : List α} (p : l.Perm m) (hl : l.Pairwise r) (hm : m.Pairwise r) : l = m :=
  p.eq_of_pairwise (fun a b _ _ h k => anti a b h k) hl hm
theorem ltCps_iff (a b : Tx) : ltCps a b = decide (a < b) := ltCps_eq a b
theorem sortedS_pw {ys : List Tx} (h : sortedS (ys.map toS) = true) : ys.Pairwise (fun a b => leT a b = true) := by
  have aux : ∀ (r : List Tx) (x : Tx), risingS (toS x) (r.map toS) = true → (x :: r).Pairwise (fun a b => leT a b = true) := by
    intro r
    induction r with
    | nil => intro x _; simp
    | cons y r ih =>
      intro x h
      simp only [List.map_cons, risingS, Bool.and_eq_true] at h
      have h1 : leT x y = true := by
        have := h.1
        rw [ltCps_iff] at this
        exact this
      have h2 := ih y h.2
      refine List.pairwise_cons.mpr ⟨fun z hz => ?_, h2⟩
      rcases List.mem_cons.mp hz with e | hz
      · subst e; exact h1
      · exact leT_trans _ _ _ h1 ((List.pairwise_cons.mp h2).1 z hz)
  cases ys with
  | nil => exact .nil
  | cons x r => exact aux r x h
theorem sortT_of {ys ks : List Tx} (p : ys.Perm ks) (h : sortedS (ys.map toS) = true) : ys = sortT ks :=
  sorted_uniq (fun _ _ => leT_anti) (p.trans (sortT_perm ks).symm) (sortedS_pw h) (sortT_pw ks)
theorem sortI_of {ys ks : List Int} (p : ys.Perm ks) (h : ys.Pairwise (· ≤ ·)) : ys = sortI ks :=
  sorted_uniq (fun a b h k => by omega) (p.trans (sortI_perm ks).symm) h (sortI_pw ks)
section
variable {X : Cx}
theorem PF.newTx {K : PySem.W.Frag} {F H : Hp} {ks : List Tx} {Q : VK} (q : PF K F H (.lst (ks.map D.str)) Q) (e : Emb F H) (p : Addr) (hp : H p = none) : Q (.ref p) (upd H p (.lst ((ks.map toS).map V.str))) :=
  q.newL e (reps_txs ks) p hp
theorem perm_toS {ys : List Str} {ks : List Tx} (p : ys.Perm (ks.map toS)) : ∃ zs : List Tx, ys = zs.map toS ∧ zs.Perm ks := by
  refine ⟨ys.map fun y => y.cps.toList, ?_, ?_⟩
  · rw [List.map_map]
    have : (toS ∘ fun y : Str => y.cps.toList) = id := by funext y; exact toS_tl y
    rw [this, List.map_id]
  · have := p.map fun y : Str => y.cps.toList
    rw [List.map_map] at this
    have e : ((fun y : Str => y.cps.toList) ∘ toS) = id := by funext y; simp [toS]
    rw [e, List.map_id] at this
    exact this
/-- sorted of a dict with text keys, of texts, of ints -/
def dSorted : List D → R D
  | [.dic es] => if es.length < 64 then .ok (.lst ((sortT (es.map (·.1))).map D.str)) else .no
  | [.lst xs] => match asTxs xs with
    | some ks => .ok (.lst ((sortT ks).map D.str))
    | none => match asInts xs with
      | some ns => .ok (.lst ((sortI ns).map D.int))
      | none => .no
  | _ => .no
theorem RepK.keys {K : PySem.W.Frag} {F : Hp} {es : List (Tx × D)} {kvs : List (Key × V)} (h : RepK K F es kvs) : kvs.map (·.1) = ((es.map (·.1)).map toS).map Sum.inr := by
  induction es generalizing kvs with
  | nil => cases h; rfl
  | cons e es ih => cases h with | cons h1 h2 => simp [ih h2]
theorem cr_sortedSA {X : Cx} : CallR X (.builtin "sorted") (fun vs H Q => ∃ (a : Addr) (xs : List Str), vs = [V.ref a] ∧ SqL X.K H a (xs.map V.str) ∧
    ∀ (ys : List Str) (p : Addr), ys.Perm xs → sortedS ys = true → H p = none → Q (.ref p) (upd H p (.lst (ys.map V.str)))) := by
  intro pins s σ H vs us Q I r h
  obtain ⟨a, ns, rfl, hs, q⟩ := h
  obtain ⟨its, rv, hl, hz⟩ := I.list hs
  obtain ⟨u, rfl, ru⟩ := vals1 r
  cases ru
  refine PyProof.Rows.sorted_strsAny hl.isList rv.strs (by rw [← rv.length]; exact hz) fun out ss h1 h2 h3 => ?_
  obtain ⟨ep, he'⟩ := PyProof.Rows.sortedAll_at s.heap its out
  have hlen : (ss.map V.str).length ≤ sizeLine := by rw [List.length_map, h2.length_eq]; rw [List.length_map] at hz; exact hz
  exact ⟨.ref _, upd H (s.heap.objs.size + 1) (.lst (ss.map V.str)), I.laid (t' := s.toks) (fun _ _ => PyProof.Rows.sortedAll_old) (Nat.le_succ _) ⟨hlen, out.toList, ep, vals_of_strs h1, he'⟩, rfl, q _ _ h2 h3 (I.hok.fresh (Nat.le_succ _))⟩
theorem c_sorted (hc : X.calm = true) : CalF X (.builtin "sorted") dSorted := by
  refine ⟨fun pins s σ H xs us Q I rv ⟨F, ds, d, e, r, hg, q⟩ => ?_, fun x c => ?_⟩
  · match ds, hg with
    | [.dic ys], hg =>
      simp only [dSorted] at hg
      split at hg
      · rename_i hl
        cases hg
        obtain ⟨x, rfl, r1⟩ := r.inv1
        obtain ⟨a, kvs, rfl, s1, p1⟩ := r1.dic e
        refine call_sortedD hc pins s σ H _ us Q I rv ⟨a, kvs, _, rfl, s1, p1.keys, by simpa using hl, fun zs p hp hs hn => ?_⟩
        obtain ⟨ws, rfl, hw⟩ := perm_toS hp
        rw [sortT_of hw hs]
        exact q.newTx e p hn
      · cases hg
    | [.lst ys], hg =>
      simp only [dSorted] at hg
      obtain ⟨x, rfl, r1⟩ := r.inv1
      obtain ⟨a, vs, rfl, s1, p1⟩ := r1.lst e
      split at hg
      · rename_i ks hk
        cases hg
        have := asTxs_of hk
        subst this
        rw [p1.txs] at s1
        refine cr_sortedSA pins s σ H _ us Q I rv ⟨a, _, rfl, s1, fun zs p hp hs hn => ?_⟩
        obtain ⟨ws, rfl, hw⟩ := perm_toS hp
        rw [sortT_of hw hs]
        exact q.newTx e p hn
      · split at hg
        · rename_i ns hn
          cases hg
          have := asInts_of hn
          subst this
          rw [p1.ints] at s1
          refine cr_sortedI pins s σ H _ us Q I rv ⟨a, ns, rfl, s1, fun zs p hp hs hn => ?_⟩
          rw [sortI_of hp hs]
          exact q.newL e (reps_ints _) p hn
        · cases hg
  · intro h
    unfold dSorted at h
    split at h
    · split at h <;> cases h
    · split at h
      · cases h
      · split at h <;> cases h
    · cases h
/-! ### isinstance -/
inductive TK where
  | int | bool | str | tup | lst
def TK.nm : TK → String
  | .int => "int"
  | .bool => "bool"
  | .str => "str"
  | .tup => "tuple"
  | .lst => "list"
def isT : TK → D → Bool
  | .int, .int _ => true
  | .int, .bl _ => true
  | .bool, .bl _ => true
  | .str, .str _ => true
  | .tup, .tup _ => true
  | .lst, .lst _ => true
  | _, _ => false
def tyD : D → String
  | .non => "NoneType"
  | .bl _ => "bool"
  | .int _ => "int"
  | .str _ => "str"
  | .lst _ => "list"
  | .tup _ => "tuple"
  | .dic _ => "dict"
theorem tyX_of {K : PySem.W.Frag} {F H : Hp} (em : Emb F H) {d : D} {v : V} (r : Rep1 K F H d v) : TyX K H v (.type (tyD d)) := by
  cases d with
  | non => cases r.non; exact .base .non
  | bl b => cases r.bl; exact .base (.bl _)
  | int i => cases r.int; exact .base (.int _)
  | str s => cases r.str; exact .base (.str _)
  | lst xs =>
    obtain ⟨a, vs, rfl, s1, _⟩ := r.lst em
    rcases s1 with (h | ⟨o, h⟩) | ⟨o, its, n, h, c, _⟩
    · exact .base (.lst h)
    · exact .base (.frz h)
    · exact .kList h c
  | tup xs =>
    obtain ⟨a, vs, rfl, s1, _⟩ := r.tup em
    rcases s1 with (h | ⟨o, h⟩) | ⟨o, its, n, h, c, _⟩
    · exact .base (.tup h)
    · exact .fTuple h
    · exact .kTuple h c
  | dic xs =>
    obtain ⟨a, vs, rfl, s1, _⟩ := r.dic em
    rcases s1 with h | ⟨o, h⟩
    · exact .base (.dK h)
    · exact .fDict h
def dIsi (T : TK) : D → R D := fun d => .ok (.bl (isT T d))
def kitN : Nat → TK → Bool
  | 1, .int => true
  | 1, .bool => true
  | 2, .int => true
  | 3, .str => true
  | 4, .lst => true
  | 5, .tup => true
  | _, _ => false
theorem kit_tab : ∀ T : TK, kitB "NoneType" T.nm = some false ∧ kitB "dict" T.nm = some false ∧ kitB "bool" T.nm = some (kitN 1 T) ∧ kitB "int" T.nm = some (kitN 2 T) ∧ kitB "str" T.nm = some (kitN 3 T) ∧ kitB "list" T.nm = some (kitN 4 T) ∧ kitB "tuple" T.nm = some (kitN 5 T) := by
  intro T
  cases T <;> decide +kernel
theorem kit_isT (T : TK) (d : D) : kitB (tyD d) T.nm = some (isT T d) := by
  obtain ⟨a, b, c, d1, e, f, g⟩ := kit_tab T
  cases d with
  | non => rw [show tyD .non = "NoneType" from rfl, a]; cases T <;> rfl
  | bl _ => rw [show tyD (.bl _) = "bool" from rfl, c]; cases T <;> rfl
  | int _ => rw [show tyD (.int _) = "int" from rfl, d1]; cases T <;> rfl
  | str _ => rw [show tyD (.str _) = "str" from rfl, e]; cases T <;> rfl
  | lst _ => rw [show tyD (.lst _) = "list" from rfl, f]; cases T <;> rfl
  | tup _ => rw [show tyD (.tup _) = "tuple" from rfl, g]; cases T <;> rfl
  | dic _ => rw [show tyD (.dic _) = "dict" from rfl, b]; cases T <;> rfl
end
section
variable {X : Cx} {W : WN} {f fa fb fc : Ga → R D} {a b c e : Expr} {pos p p2 : Pos}
theorem j_isi (T : TK) {x : Str} (ha : JR X W fa a) (hv : bootBuiltins x = some (.type T.nm)) (hm : X.mg "isinstance" = none) (hm2 : X.mg x = none) (hg : Gl X "isinstance" := by rfl) (hg2 : Gl X x := by rfl)
    (hn : x ≠ "__name__" := by decide) (hdb : (x == ("__debug__" : Str)) = false := by decide) (he : starEach [a, .Name x p2] X.env = (false, eval a X.env) :: starEach [.Name x p2] X.env := by rfl) (he2 : starEach [.Name x p2] X.env = (false, eval (.Name x p2) X.env) :: starEach [] X.env := by rfl)
    (hpl : (backTo pos (starEach [.Name x p2] X.env)).any (·.1) = false := by rfl) : J X W (b1 (dIsi T) fa) (.Call (.Name "isinstance" p) [a, .Name x p2] [] pos) := by
  have h2 : PE X (.Name x p2) (tC (.ty T.nm)) := pe_bltn hg2 hm2 hv rfl hn hdb
  refine ⟨PE.imp (pe_callB call_isi hg hm boot_isinstance (pa_cons ha.pe (pa_cons h2 pa_nil he2) he) (by decide) (by decide) he hpl) fun σ H Q ⟨F, γ, r, o⟩ => ?_⟩
  refine go1 (Z := fun z => Out (PV X.K F H) F H (fun c H' => W c σ H') z Q) r o (fun _ z => z) (fun z => z) fun dx x F1 H1 n1 r1 p1 o1 => ?_
  exact ⟨x, .ty T.nm, .type (tyD dx), .type T.nm, isT T dx, rfl, .ty T.nm, tyX_of r1.emb p1, kit_ty (kit_isT T dx), PV.here (PV.next (Q := Q) o1 n1) r1.emb (.bl _)⟩
end
/-! ### calls of defs -/
/-- a class's number as a value -/
abbrev Cl := Nat → Value
def VW (cl : Cl) (W : WN) : WX := fun cls d σ H => ∃ c, cls = cl c ∧ d = none ∧ W c σ H
def spD (K : PySem.W.Frag) (cl : Cl) (n : Nat) (g : List D → R D) : Sp := fun vs H Q E => ∃ F ds, vs.length = n ∧ Emb F H ∧ Reps K F ds vs ∧ Out (PV K F H) F H (fun c H' => E (cl c) none H') (g ds) Q
section
variable {X : Cx} {W : WN} {cl : Cl} {fs : Ga → R (List D)} {k n : Nat} {f : Addr} {fd : FuncData} {ps : List Str} {g : List D → R D} {x : Str} {e : Expr} {es : List Expr} {p pos : Pos}
def bCall (g : List D → R D) (fs : Ga → R (List D)) : Ga → R D := fun γ => (fs γ).bind g
theorem tCall_of {K : PySem.W.Frag} {σ : L2.St} {H F : Hp} {γ : Ga} {Q : VK} (hn : ∀ γ ds, fs γ = .ok ds → ds.length = n) (r : RS K F γ σ H) (o : Out (PV K F H) F H (fun c H' => W c σ H') (bCall g fs γ) Q) :
    rdA K W fs σ H fun vs H1 => spD K cl n g vs H1 Q (WE (VW cl W) σ) := by
  refine ⟨F, γ, r, ?_⟩
  unfold bCall at o
  cases e1 : fs γ with
  | ok ds =>
    simp only [e1, R.bind] at o
    intro vs F' H' m q
    refine ⟨F', ds, ?_, m.emb, q, ?_⟩
    · rw [← q.length]; exact hn γ ds e1
    · cases e2 : g ds with
      | ok d => rw [e2] at o; exact PV.next (Q := Q) o m
      | ex c => rw [e2] at o; exact fun F2 H2 m2 => ⟨c, rfl, rfl, o F2 H2 (m.trans m2)⟩
      | no => rw [e2] at o; exact o
  | ex c => simp only [e1, R.bind] at o; exact o
  | no => simp only [e1, R.bind] at o; exact o
theorem bNil_len : ∀ γ ds, bNil γ = .ok ds → ds.length = 0 := fun γ ds h => by cases h; rfl
theorem bCons_len {fa : Ga → R D} {n : Nat} (h : ∀ γ ds, fs γ = .ok ds → ds.length = n) : ∀ γ ds, bCons fa fs γ = .ok ds → ds.length = n + 1 := fun γ ds e => by
  unfold bCons at e
  cases e1 : fa γ <;> simp only [e1, R.bind] at e
  · cases e2 : fs γ <;> simp only [e2] at e
    · cases e; simp [h γ _ e2]
    · cases e
    · cases e
  · cases e
  · cases e
theorem j_call (F : FnOk X.prog X.w X.K X.mg X.base (L2.CX X.prog X.w) k f fd ps (spD X.K cl n g)) (hr : Room k X.A) (hm : X.mg x = some (.ref f)) (hk : PySem.W.keepIn X.K (.ref f) = true) (hb : Binds X.K fd ps []) (tk : Takes X (VW cl W))
    (ha : JA X W fs (e :: es)) (hn : ∀ γ ds, fs γ = .ok ds → ds.length = n) (hg : Gl X x := by rfl) (hdb : (x == ("__debug__" : Str)) = false := by decide) (he : starEach (e :: es) X.env = (false, eval e X.env) :: starEach es X.env := by rfl) (hpl : (backTo pos (starEach es X.env)).any (·.1) = false := by rfl) :
    J X W (bCall g fs) (.Call (.Name x p) (e :: es) [] pos) :=
  ⟨PE.imp (pe_callS F hr hg hm hk hb (fun σ => passAt tk σ) ha.pa hdb he hpl) fun σ H Q ⟨F, γ, r, o⟩ => tCall_of hn r o⟩
end
end
end KN
/-! KnE: statements, loops, defs -/
namespace KN
open PySem PySem.Spec PyProof.Rows L2
/-! ### the base of a def's run: what stood at its entry; what is locked -/
structure Bs where
  F0 : Hp
  H0 : Hp
  S : List (Addr × HO)
structure Fin (B : Bs) (F H : Hp) : Prop where
  f0 : Same B.F0 F
  fn : ∀ a o, F a = some o → B.F0 a = some o ∨ B.H0 a = none
  emb : Emb F H
  h0 : ∀ b o, B.H0 b = some o → H b = some o ∨ ∃ ob kvs, o = .dK kvs ∧ (b, HO.frz ob (.dK kvs)) ∈ B.S
  sS : ∀ p ∈ B.S, H p.1 = some p.2 ∧ ∃ ob kvs, p.2 = .frz ob (.dK kvs) ∧ F p.1 = some (.dK kvs)
theorem Fin.free {B : Bs} {F H : Hp} (f : Fin B F H) {a : Addr} (h : H a = none) : B.H0 a = none := by
  cases q : B.H0 a with
  | none => rfl
  | some u =>
    rcases f.h0 a u q with y | ⟨ob, kvs, e, y⟩
    · rw [h] at y; cases y
    · have := (f.sS _ y).1; rw [h] at this; cases this
theorem Fin.next {B : Bs} {F H F' H' : Hp} (f : Fin B F H) (n : Nxt F H F' H') : Fin B F' H' := by
  refine ⟨f.f0.trans n.f, fun a o h => ?_, n.emb, fun b o h => ?_, fun p hp => ?_⟩
  · rcases n.fn a o h with z | z
    · exact f.fn a o z
    · exact .inr (f.free z)
  · rcases f.h0 b o h with y | y
    · exact .inl (n.h _ _ y)
    · exact .inr y
  · obtain ⟨h1, ob, u, h2, h3⟩ := f.sS p hp
    exact ⟨n.h _ _ h1, ob, u, h2, n.f _ _ h3⟩
theorem Fin.start {F H : Hp} (e : Emb F H) : Fin ⟨F, H, []⟩ F H := ⟨.refl _, fun _ _ h => .inl h, e, fun _ _ h => .inl h, fun _ h => nomatch h⟩
theorem Fin.nxt {F0 H0 F H : Hp} (f : Fin ⟨F0, H0, []⟩ F H) : Nxt F0 H0 F H := ⟨f.f0, f.fn, f.emb, fun b o h => by
  rcases f.h0 b o h with y | ⟨_, _, _, y⟩
  · exact y
  · cases y⟩
structure RB (K : PySem.W.Frag) (B : Bs) (F : Hp) (γ : Ga) (σ : L2.St) (H : Hp) : Prop where
  rs : RS K F γ σ H
  fi : Fin B F H
  ow : ∀ (i : Nat) (s : Sl) (b : Addr), γ[i]? = some s → Inn H s σ[i]? b → B.H0 b = none
theorem RB.next {K : PySem.W.Frag} {B : Bs} {F H F' H' : Hp} {γ : Ga} {σ : L2.St} (r : RB K B F γ σ H) (n : Nxt F H F' H') : RB K B F' γ σ H' := ⟨r.rs.next n, r.fi.next n, fun i s b e h => r.ow i s b e (h.back (r.rs.sl i s e) fun b u _ z => n.h _ _ z)⟩
inductive Fl where
  | nx (γ : Ga) | rt (d : D) | bk (γ : Ga) | ct (γ : Ga)
def OutS (K : PySem.W.Frag) (W : WN) (B : Bs) (r : R Fl) (E : Ends) : Prop := match r with
  | .ok (.nx γ) => ∀ F σ H, RB K B F γ σ H → E.nx σ H
  | .ok (.bk γ) => ∀ F σ H, RB K B F γ σ H → E.bk σ H
  | .ok (.ct γ) => ∀ F σ H, RB K B F γ σ H → E.ct σ H
  | .ok (.rt d) => ∀ v F H, Fin B F H → Rep K F d v → E.rt v H
  | .ex c => ∀ σ F H, Fin B F H → W c σ H
  | .no => False
def rdS (K : PySem.W.Frag) (W : WN) (f : Ga → R Fl) : TS := fun E σ H => ∃ B F γ, RB K B F γ σ H ∧ OutS K W B (f γ) E
structure JS (X : Cx) (W : WN) (f : Ga → R Fl) (s : Stmt) : Prop where
  ps : PS X s (rdS X.K W f)
structure JSs (X : Cx) (W : WN) (f : Ga → R Fl) (s : List Stmt) : Prop where
  pss : PSs X s (rdS X.K W f)
theorem PS.imp {X : Cx} {e : Stmt} {t t' : TS} (h : PS X e t) (i : ∀ E σ H, t' E σ H → t E σ H) : PS X e t' := ⟨fun pins s σ H E I q => h.run pins s σ H E I (i E σ H q)⟩
theorem PSs.imp {X : Cx} {e : List Stmt} {t t' : TS} (h : PSs X e t) (i : ∀ E σ H, t' E σ H → t E σ H) : PSs X e t' := ⟨fun pins s σ H E I q => h.run pins s σ H E I (i E σ H q)⟩
/-! ### slots stored -/
theorem get_set {α : Type} {γ : List α} {i j : Nat} {s0 s : α} (e : (γ.set i s0)[j]? = some s) : (j = i ∧ s = s0 ∧ i < γ.length) ∨ (j ≠ i ∧ γ[j]? = some s) := by
  by_cases q : j = i
  · subst q
    by_cases l : j < γ.length
    · rw [List.getElem?_set_self l] at e; cases e; exact .inl ⟨rfl, rfl, l⟩
    · rw [List.getElem?_eq_none (by simpa using l)] at e; cases e
  · rw [List.getElem?_set_ne (Ne.symm q)] at e; exact .inr ⟨q, e⟩
theorem RS.put {K : PySem.W.Frag} {F H : Hp} {γ : Ga} {σ : L2.St} (r : RS K F γ σ H) (i : Nat) {s0 : Sl} {x0 : Option V} (k : SlOk K F H s0 (some x0))
    (ap : ∀ j s b, j ≠ i → γ[j]? = some s → Inn H s σ[j]? b → Inn H s0 (some x0) b → False) : RS K F (γ.set i s0) (σ.set i x0) H := by
  refine ⟨r.emb, by simp [r.len], fun j s e => ?_, fun j k s1 s2 b e1 e2 h1 h2 => ?_⟩
  · rcases get_set e with ⟨rfl, rfl, l⟩ | ⟨n, e⟩
    · rw [List.getElem?_set_self (r.len ▸ l)]; exact k
    · rw [List.getElem?_set_ne (Ne.symm n)]; exact r.sl j s e
  · rcases get_set e1 with ⟨rfl, rfl, l⟩ | ⟨n1, y1⟩ <;> rcases get_set e2 with ⟨rfl, rfl, l2⟩ | ⟨n2, y2⟩
    · rfl
    · rw [List.getElem?_set_self (r.len ▸ l)] at h1
      rw [List.getElem?_set_ne (Ne.symm n2)] at h2
      exact (ap _ _ b n2 y2 h2 h1).elim
    · rw [List.getElem?_set_self (r.len ▸ l2)] at h2
      rw [List.getElem?_set_ne (Ne.symm n1)] at h1
      exact (ap _ _ b n1 y1 h1 h2).elim
    · rw [List.getElem?_set_ne (Ne.symm n1)] at h1
      rw [List.getElem?_set_ne (Ne.symm n2)] at h2
      exact r.apart j k s1 s2 b y1 y2 h1 h2
theorem RB.put {K : PySem.W.Frag} {B : Bs} {F H : Hp} {γ : Ga} {σ : L2.St} (r : RB K B F γ σ H) (i : Nat) {s0 : Sl} {x0 : Option V} (k : SlOk K F H s0 (some x0))
    (ap : ∀ j s b, j ≠ i → γ[j]? = some s → Inn H s σ[j]? b → Inn H s0 (some x0) b → False) (fr : ∀ b, Inn H s0 (some x0) b → B.H0 b = none) : RB K B F (γ.set i s0) (σ.set i x0) H := by
  refine ⟨r.rs.put i k ap, r.fi, fun j s b e h => ?_⟩
  rcases get_set e with ⟨rfl, rfl, l⟩ | ⟨n, e⟩
  · rw [List.getElem?_set_self (r.rs.len ▸ l)] at h; exact fr b h
  · rw [List.getElem?_set_ne (Ne.symm n)] at h; exact r.ow j s b e h
theorem RS.set {K : PySem.W.Frag} {F H : Hp} {γ : Ga} {σ : L2.St} (r : RS K F γ σ H) (i : Nat) {d : D} {v : V} (p : Rep K F d v) : RS K F (γ.set i (.va d)) (σ.set i (some v)) H :=
  r.put i (s0 := .va d) (x0 := some v) ⟨v, rfl, p⟩ fun _ _ _ _ _ _ h => h
theorem RB.set {K : PySem.W.Frag} {B : Bs} {F H : Hp} {γ : Ga} {σ : L2.St} (r : RB K B F γ σ H) (i : Nat) {d : D} {v : V} (p : Rep K F d v) : RB K B F (γ.set i (.va d)) (σ.set i (some v)) H :=
  r.put i (s0 := .va d) (x0 := some v) ⟨v, rfl, p⟩ (fun _ _ _ _ _ _ h => h) fun _ h => h.elim
/-- a slot that is known no more -/
theorem RB.un {K : PySem.W.Frag} {B : Bs} {F H : Hp} {γ : Ga} {σ : L2.St} (r : RB K B F γ σ H) (i : Nat) (x : Option V) : RB K B F (γ.set i .un) (σ.set i x) H :=
  r.put i (s0 := .un) (x0 := x) trivial (fun _ _ _ _ _ _ h => h) fun _ h => h.elim
/-- a new thing of one's own -/
theorem RB.own {K : PySem.W.Frag} {B : Bs} {F H F' H' : Hp} {γ : Ga} {σ : L2.St} (r : RB K B F γ σ H) (n : Nxt F H F' H') (i : Nat) {d : D} {a : Addr} (ha : H a = none) (fa : F' a = none) (o : Own K F' H' d a) : RB K B F' (γ.set i (.ow d)) (σ.set i (some (.ref a))) H' := by
  have r' := r.next n
  refine r'.put i (s0 := .ow d) (x0 := some (.ref a)) ⟨a, rfl, fa, o⟩ (fun j s b nj e h1 h2 => ?_) fun b h => ?_
  · have q := h1.back (r.rs.sl j s e) fun b u _ z => n.h _ _ z
    obtain ⟨_, u, hu⟩ := q.have (r.rs.sl j s e)
    cases h2
    rw [ha] at hu; cases hu
  · cases h; exact r.fi.free ha
/-- what the slot i owns is changed -/
theorem RB.chg {K : PySem.W.Frag} {B : Bs} {F H F' H' : Hp} {γ : Ga} {σ : L2.St} (r : RB K B F γ σ H) {i : Nat} {s0 s1 : Sl} (hi : γ[i]? = some s0) (k : SlOk K F' H' s1 σ[i]?) (fi : Fin B F' H') (f : Same F F')
    (keep : ∀ b u, H b = some u → F b = none → ¬ Inn H s0 σ[i]? b → H' b = some u ∧ F' b = none) (inn : ∀ b, Inn H' s1 σ[i]? b → Inn H s0 σ[i]? b ∨ H b = none) : RB K B F' (γ.set i s1) σ H' := by
  have ks : ∀ j s, j ≠ i → γ[j]? = some s → ∀ b u, Inn H s σ[j]? b → F b = none → H b = some u → H' b = some u ∧ F' b = none := fun j s nj e b u h1 h2 h3 =>
    keep b u h3 h2 fun h4 => nj (r.rs.apart j i s s0 b e hi h1 h4)
  have bk : ∀ j s b, j ≠ i → γ[j]? = some s → Inn H' s σ[j]? b → Inn H s σ[j]? b := fun j s b nj e h => h.back (r.rs.sl j s e) fun b u h1 h2 => (ks j s nj e b u h1 (h1.have (r.rs.sl j s e)).1 h2).1
  refine ⟨⟨fi.emb, by simp [r.rs.len], fun j s e => ?_, fun j k s1 s2 b e1 e2 h1 h2 => ?_⟩, fi, fun j s b e h => ?_⟩
  · rcases get_set e with ⟨rfl, rfl, l⟩ | ⟨n, e⟩
    · exact k
    · exact (r.rs.sl j s e).keep f (ks j s n e)
  · rcases get_set e1 with ⟨rfl, rfl, l⟩ | ⟨n1, y1⟩ <;> rcases get_set e2 with ⟨rfl, rfl, l2⟩ | ⟨n2, y2⟩
    · rfl
    · have h2 := bk _ _ b n2 y2 h2
      rcases inn b h1 with h1 | h1
      · exact r.rs.apart _ _ _ _ b hi y2 h1 h2
      · obtain ⟨_, u, hu⟩ := h2.have (r.rs.sl _ _ y2)
        rw [h1] at hu; cases hu
    · have h1 := bk _ _ b n1 y1 h1
      rcases inn b h2 with h2 | h2
      · exact r.rs.apart _ _ _ _ b y1 hi h1 h2
      · obtain ⟨_, u, hu⟩ := h1.have (r.rs.sl _ _ y1)
        rw [h2] at hu; cases hu
    · exact r.rs.apart j k s1 s2 b y1 y2 (bk _ _ b n1 y1 h1) (bk _ _ b n2 y2 h2)
  · rcases get_set e with ⟨rfl, rfl, l⟩ | ⟨n, e⟩
    · rcases inn b h with h | h
      · exact r.ow _ _ b hi h
      · exact r.fi.free h
    · exact r.ow j s b e (bk j s b n e h)
theorem Fin.frz {B : Bs} {F H : Hp} (f : Fin B F H) {a : Addr} {u : HO} (hu : H a = some u) (fa : F a = none) (h0 : B.H0 a = none) : Fin B (upd F a u) H :=
  ⟨f.f0.trans (same_upd fa), fun b w z => by
    by_cases q : b = a
    · subst q; exact .inr h0
    · rw [upd_ne q] at z; exact f.fn b w z, f.emb.freeze hu, f.h0, fun p hp => by
    obtain ⟨y1, ob, u, y2, y3⟩ := f.sS p hp
    exact ⟨y1, ob, u, y2, same_upd fa _ _ y3⟩⟩
theorem Fin.chg {B : Bs} {F H : Hp} (f : Fin B F H) {a : Addr} {u : HO} (fa : F a = none) (h0 : B.H0 a = none) : Fin B F (upd H a u) :=
  ⟨f.f0, f.fn, fun b w z => by rw [upd_ne (ne_of_none z fa)]; exact f.emb b w z, fun b w z => by rw [upd_ne (ne_of_none z h0)]; exact f.h0 b w z, fun p hp => by
    obtain ⟨y1, ob, u, y2, y3⟩ := f.sS p hp
    rw [upd_ne (ne_of_none y3 fa)]; exact ⟨y1, ob, u, y2, y3⟩⟩
/-- one's own thing is frozen -/
theorem RB.freeze {K : PySem.W.Frag} {B : Bs} {F H : Hp} {γ : Ga} {σ : L2.St} (r : RB K B F γ σ H) {i : Nat} {d : D} (e : γ[i]? = some (.ow d)) : ∃ F', RB K B F' (γ.set i (.va d)) σ H := by
  obtain ⟨a, h1, fa, o⟩ := r.rs.sl i _ e
  obtain ⟨u, hu, e1, s1, p⟩ := o.freeze r.rs.emb fa
  refine ⟨upd F a u, r.chg e (s1 := .va d) ⟨_, h1, p⟩ (r.fi.frz hu fa (r.ow i _ a e h1)) s1 (fun b w z1 z2 z3 => ⟨z1, ?_⟩) fun b h => h.elim⟩
  rw [upd_ne]
  · exact z2
  · rintro rfl; exact z3 h1
theorem OwK.rep {K : PySem.W.Frag} {F F' H : Hp} {a : Addr} (f : Same F F') : ∀ {es : List (Tx × List (Tx × D))} {kvs : List (Key × V)}, OwK K F H a es kvs → (∀ k b, (k, V.ref b) ∈ kvs → F' b = H b) → RepK K F' (es.map fun e => (e.1, .dic e.2)) kvs
  | [], [], _, _ => .nil
  | (k, row) :: es, (k', v) :: kvs, ⟨e, ⟨r, kv, e1, e2, e3, e4, e5, e6⟩, o⟩, h => by
    subst e1
    subst e
    exact .cons (.dic ((h _ r List.mem_cons_self).trans e4) (e5.mono f)) (o.rep f fun k b m => h k b (List.mem_cons_of_mem _ m))
  | [], _ :: _, h, _ => h.elim
  | _ :: _, [], h, _ => h.elim
open Classical in
theorem RB.freezeN {K : PySem.W.Frag} {B : Bs} {F H : Hp} {γ : Ga} {σ : L2.St} (r : RB K B F γ σ H) {i : Nat} {es : List (Tx × List (Tx × D))} (e : γ[i]? = some (.nd es)) : ∃ F', RB K B F' (γ.set i (.va (.dic (es.map fun e => (e.1, .dic e.2))))) σ H := by
  have k := r.rs.sl i _ e
  have F1 : ∀ b, Inn H (.nd es) σ[i]? b → F b = none := fun b h => (h.have k).1
  have F2 : ∀ b, Inn H (.nd es) σ[i]? b → B.H0 b = none := fun b h => r.ow i _ b e h
  have sm : Same F (fun b => if Inn H (.nd es) σ[i]? b then H b else F b) := fun b u h => by
    have : ¬ Inn H (.nd es) σ[i]? b := fun z => by rw [F1 b z] at h; cases h
    show (if Inn H (.nd es) σ[i]? b then H b else F b) = _
    rw [if_neg this]; exact h
  refine ⟨fun b => if Inn H (.nd es) σ[i]? b then H b else F b, r.chg e (s1 := .va _) ?_ ⟨r.fi.f0.trans sm, fun b o h => ?_, fun b o h => ?_, r.fi.h0, fun p hp => ?_⟩ sm (fun b u z1 z2 z3 => ⟨z1, ?_⟩) fun b h => h.elim⟩
  · obtain ⟨a, kvs, e1, e2, e3, e4⟩ := k
    refine ⟨_, e1, .dic ?_ (e4.rep sm fun k b m => ?_)⟩
    · show (if Inn H (.nd es) σ[i]? a then H a else F a) = _
      rw [if_pos ⟨a, kvs, e1, e3, .inl rfl⟩]; exact e3
    · show (if Inn H (.nd es) σ[i]? b then H b else F b) = _
      rw [if_pos ⟨a, kvs, e1, e3, .inr ⟨k, m⟩⟩]
  · by_cases z : Inn H (.nd es) σ[i]? b
    · exact .inr (F2 b z)
    · simp only [if_neg z] at h; exact r.fi.fn b o h
  · by_cases z : Inn H (.nd es) σ[i]? b
    · simp only [if_pos z] at h; exact .inl h
    · simp only [if_neg z] at h; exact r.fi.emb b o h
  · obtain ⟨y1, ob, u, y2, y3⟩ := r.fi.sS p hp
    exact ⟨y1, ob, u, y2, sm _ _ y3⟩
  · show (if Inn H (.nd es) σ[i]? b then H b else F b) = _
    rw [if_neg z3]; exact z2
/-- one's own thing is changed -/
theorem RB.change {K : PySem.W.Frag} {B : Bs} {F H : Hp} {γ : Ga} {σ : L2.St} (r : RB K B F γ σ H) {i : Nat} {d d' : D} {a : Addr} {o : HO} (e : γ[i]? = some (.ow d)) (h1 : σ[i]? = some (some (.ref a))) (ow : Own K F (upd H a o) d' a) :
    RB K B F (γ.set i (.ow d')) σ (upd H a o) := by
  obtain ⟨a', h1', fa, o1⟩ := r.rs.sl i _ e
  rw [h1] at h1'; cases h1'
  refine r.chg e (s1 := .ow d') ⟨a, h1, fa, ow⟩ (r.fi.chg fa (r.ow i _ a e h1)) (.refl _) (fun b w z1 z2 z3 => ⟨?_, z2⟩) fun b h => .inl h
  rw [upd_ne]
  · exact z1
  · rintro rfl; exact z3 h1
/-! ### blocks and small statements -/
def fNil : Ga → R Fl := fun γ => .ok (.nx γ)
def fSeq (f g : Ga → R Fl) : Ga → R Fl := fun γ => match f γ with
  | .ok (.nx γ') => g γ'
  | r => r
def fSet (i : Nat) (fe : Ga → R D) : Ga → R Fl := fun γ => (fe γ).bind fun d => .ok (.nx (γ.set i (.va d)))
def fOwn (i : Nat) (fe : Ga → R D) : Ga → R Fl := fun γ => (fe γ).bind fun d => .ok (.nx (γ.set i (.ow d)))
def fExpr (fe : Ga → R D) : Ga → R Fl := fun γ => (fe γ).bind fun _ => .ok (.nx γ)
def fRet (fe : Ga → R D) : Ga → R Fl := fun γ => (fe γ).bind fun d => .ok (.rt d)
def fRetN : Ga → R Fl := fun _ => .ok (.rt .non)
def fIf (c : Ga → R Bool) (f g : Ga → R Fl) : Ga → R Fl := fun γ => (c γ).bind fun b => if b = true then f γ else g γ
def fFz (i : Nat) (f : Ga → R Fl) : Ga → R Fl := fun γ => match γ[i]? with
  | some (.ow d) => f (γ.set i (.va d))
  | some (.nd es) => f (γ.set i (.va (.dic (es.map fun e => (e.1, .dic e.2)))))
  | _ => .no
section
variable {X : Cx} {W : WN} {f g : Ga → R Fl} {fa fb fe : Ga → R D} {st : Stmt} {rest sts : List Stmt} {e : Expr} {pos pos' : Pos} {p : Ga → R Bool}
theorem js_nil : JSs X W fNil [] := ⟨PSs.imp pss_nil fun E σ H ⟨B, F, γ, r, o⟩ => o F σ H r⟩
theorem js_cons (h : JS X W f st) (h2 : JSs X W g rest) : JSs X W (fSeq f g) (st :: rest) := ⟨PSs.imp (pss_cons h.ps h2.pss) fun E σ H ⟨B, F, γ, r, o⟩ => by
  refine ⟨B, F, γ, r, ?_⟩
  unfold fSeq at o
  cases e1 : f γ with
  | ok fl =>
    rw [e1] at o
    cases fl with
    | nx γ' => exact fun F' σ' H' r' => ⟨B, F', γ', r', o⟩
    | rt d => exact o
    | bk γ' => exact o
    | ct γ' => exact o
  | ex c => rw [e1] at o; exact o
  | no => rw [e1] at o; exact o⟩
theorem js_one (h : JS X W f st) : JSs X W f [st] := ⟨pss_one h.ps⟩
/-- from an expression's end to a statement's -/
theorem ex_of {K : PySem.W.Frag} {B : Bs} {F H : Hp} {γ : Ga} {σ : L2.St} {E : Ends} {k : D → R Fl} {Q : VK} (r : RB K B F γ σ H) (o : OutS K W B ((fe γ).bind k) E)
    (h : ∀ d v F' H', Nxt F H F' H' → RB K B F' γ σ H' → Rep K F' d v → OutS K W B (k d) E → Q v H') : rdV K W fe σ H Q := by
  refine ⟨F, γ, r.rs, ?_⟩
  cases e1 : fe γ with
  | ok d => rw [e1] at o; exact fun v F' H' n p => h d v F' H' n (r.next n) p o
  | ex c => rw [e1] at o; exact fun F' H' n => o σ F' H' (r.fi.next n)
  | no => rw [e1] at o; exact o
theorem js_set {i : Nat} {x : Str} (hN : X.N.Nodup) (he : J X W fe e) (hi : X.N[i]? = some x := by rfl) (hx : Loc X.env.scope x := by first | exact .inl rfl | exact .inr rfl) (hs : swapsWith e (some (.Name x pos')) pos.line X.env = pure false := by rfl) (hf : X.fn x = true ∨ X.env.scope.names.lookup x = some .local := by first | exact .inl rfl | exact .inr rfl) :
    JS X W (fSet i fe) (.Assign [.Name x pos'] e pos) := ⟨PS.imp (ps_set hN hi hx he.pe hs hf) fun E σ H ⟨B, F, γ, r, o⟩ =>
  ex_of r o fun d v F' H' _ r' p o' => o' F' _ H' (r'.set i p)⟩
theorem js_own {i : Nat} {x : Str} (hN : X.N.Nodup) (he : JF X W fe e) (hi : X.N[i]? = some x := by rfl) (hx : Loc X.env.scope x := by first | exact .inl rfl | exact .inr rfl) (hs : swapsWith e (some (.Name x pos')) pos.line X.env = pure false := by rfl) (hf : X.fn x = true ∨ X.env.scope.names.lookup x = some .local := by first | exact .inl rfl | exact .inr rfl) :
    JS X W (fOwn i fe) (.Assign [.Name x pos'] e pos) := ⟨PS.imp (ps_set hN hi hx he.pe hs hf) fun E σ H ⟨B, F, γ, r, o⟩ => by
  refine ⟨F, γ, r.rs, ?_⟩
  unfold fOwn at o
  cases e1 : fe γ with
  | ok d => rw [e1] at o; exact fun a F' H' n ha fa ow => o F' _ H' (r.own n i ha fa ow)
  | ex c => rw [e1] at o; exact fun F' H' n => o σ F' H' (r.fi.next n)
  | no => rw [e1] at o; exact o⟩
theorem js_expr (he : J X W fe e) (hs : swapsWith e none pos.line X.env = pure false := by rfl) : JS X W (fExpr fe) (.Expr e pos) := ⟨PS.imp (ps_expr he.pe hs) fun E σ H ⟨B, F, γ, r, o⟩ =>
  ex_of r o fun d v F' H' _ r' p o' => o' F' _ H' r'⟩
theorem js_ret (he : J X W fe e) : JS X W (fRet fe) (.Return (some e) pos) := ⟨PS.imp (ps_ret he.pe) fun E σ H ⟨B, F, γ, r, o⟩ =>
  ex_of r o fun d v F' H' _ r' p o' => o' v F' H' r'.fi p⟩
theorem js_if {c : Expr} {a b : List Stmt} (hc : JT X W p c) (ha : JSs X W f a) (hb : JSs X W g b) : JS X W (fIf p f g) (.If c a b pos) := ⟨PS.imp (ps_if hc.pt ha.pss hb.pss) fun E σ H ⟨B, F, γ, r, o⟩ => by
  refine ⟨F, γ, r.rs, ?_⟩
  unfold fIf at o
  cases e1 : p γ with
  | ok b =>
    simp only [e1, R.bind] at o
    intro F' H' n
    cases b with
    | true => exact ⟨B, F', γ, r.next n, o⟩
    | false => exact ⟨B, F', γ, r.next n, o⟩
  | ex c => simp only [e1, R.bind] at o; exact fun F' H' n => o σ F' H' (r.fi.next n)
  | no => simp only [e1, R.bind] at o; exact o⟩
/-- a thing of one's own is frozen ahead of what follows -/
theorem jss_fz (i : Nat) (h : JSs X W f sts) : JSs X W (fFz i f) sts := ⟨PSs.imp h.pss fun E σ H ⟨B, F, γ, r, o⟩ => by
  unfold fFz at o
  cases e1 : γ[i]? with
  | none => rw [e1] at o; exact o.elim
  | some s =>
    rw [e1] at o
    cases s with
    | un => exact o.elim
    | va d => exact o.elim
    | xc a => exact o.elim
    | nd es =>
      obtain ⟨F', r'⟩ := r.freezeN e1
      exact ⟨B, F', _, r', o⟩
    | ow d =>
      obtain ⟨F', r'⟩ := r.freeze e1
      exact ⟨B, F', _, r', o⟩⟩
/-! a, b = e1, e2 -/
def fPar (i j : Nat) (fa fb : Ga → R D) : Ga → R Fl := fun γ => (fa γ).bind fun x => (fb γ).bind fun y => .ok (.nx ((γ.set i (.va x)).set j (.va y)))
theorem js_par {i j : Nat} {x y : Str} {a b : Expr} {px py pt : Pos} {kt k2 : Nat} {pt2 : Pos} (hc : X.calm = true) (hN : X.N.Nodup) (hij : i ≠ j) (ha : J X W fa a) (hb : J X W fb b) (hi : X.N[i]? = some x := by rfl) (hj : X.N[j]? = some y := by rfl)
    (hx : X.env.scope.names.lookup x = some .local := by rfl) (hy : X.env.scope.names.lookup y = some .local := by rfl)
    (hs1 : starEach [a, b] X.env = (false, eval a X.env) :: starEach [b] X.env := by rfl) (hs2 : starEach [b] X.env = (false, eval b X.env) :: starEach [] X.env := by rfl)
    (hw : swappedStores [.Tuple [.Name x px, .Name y py] kt pt] (.Tuple [a, b] k2 pt2) X.env = pure (some [x, y]) := by rfl)
    (hs : swapsWithSole [.Tuple [.Name x px, .Name y py] kt pt] (.Tuple [a, b] k2 pt2) pos.line X.env = pure false := by rfl) :
    JS X W (fPar i j fa fb) (.Assign [.Tuple [.Name x px, .Name y py] kt pt] (.Tuple [a, b] k2 pt2) pos) := ⟨PS.imp (ps_par hc hN hi hj hij hx hy (pa_cons ha.pe (pa_cons hb.pe pa_nil hs2) hs1) hw hs) fun E σ H ⟨B, F, γ, r, o⟩ => by
  refine ex_of r o fun d v F1 H1 n1 r1 p1 o1 => ?_
  refine ex_of r1 o1 fun d2 v2 F2 H2 n2 r2 p2 o2 => ⟨v, v2, rfl, ?_⟩
  exact o2 F2 _ H2 ((r2.set i (p1.mono n2.f)).set j p2)⟩
end
end KN
/-! KnF: targets, what is walked, loops, comprehensions, defs -/
namespace KN
open PySem PySem.Spec PyProof.Rows L2
/-! ### targets -/
/-- the slots but those at is are as they were; those of one's own too -/
structure Kp (is : List Nat) (γ : Ga) (σ : L2.St) (γ' : Ga) (σ' : L2.St) : Prop where
  len : σ'.length = σ.length
  out : ∀ j, j ∉ is → σ'[j]? = σ[j]?
  ow : ∀ (j : Nat) (s : Sl), γ'[j]? = some s → (∃ d, s = .va d) ∨ (γ[j]? = some s ∧ σ'[j]? = σ[j]?)
theorem Kp.refl {is : List Nat} {γ : Ga} {σ : L2.St} : Kp is γ σ γ σ := ⟨rfl, fun _ _ => rfl, fun _ _ h => .inr ⟨h, rfl⟩⟩
theorem Kp.set {is : List Nat} {γ : Ga} {σ : L2.St} {γ' : Ga} {σ' : L2.St} (k : Kp is γ σ γ' σ') {i : Nat} (hi : i ∈ is) (d : D) (v : V) : Kp is γ σ (γ'.set i (.va d)) (σ'.set i (some v)) :=
  ⟨by simp [k.len], fun j hj => by
    have : j ≠ i := fun q => hj (q ▸ hi)
    rw [List.getElem?_set_ne (Ne.symm this)]; exact k.out j hj, fun j d' e => by
    rcases get_set e with ⟨rfl, rfl, l⟩ | ⟨n, e⟩
    · exact .inl ⟨d, rfl⟩
    · rw [List.getElem?_set_ne (Ne.symm n)]
      exact k.ow j d' e⟩
structure JG (X : Cx) (is : List Nat) (bd : D → Ga → R Ga) (t : TG) (tg : Expr) : Prop where
  pg : PG X tg t
  go : ∀ {F : Hp} {γ γ' : Ga} {σ : L2.St} {H : Hp} {d : D} {v : V} {Q : L2.St → Hp → Prop}, RS X.K F γ σ H → Rep X.K F d v → bd d γ = .ok γ' → (∀ σ', RS X.K F γ' σ' H → Kp is γ σ γ' σ' → Q σ' H) → t v σ H Q
def bdN (i : Nat) : D → Ga → R Ga := fun d γ => .ok (γ.set i (.va d))
def setAll : List Nat → List D → Ga → R Ga
  | [], [], γ => .ok γ
  | i :: is, d :: ds, γ => setAll is ds (γ.set i (.va d))
  | _, _, _ => .no
def bdT (is : List Nat) : D → Ga → R Ga
  | .tup ds, γ => setAll is ds γ
  | _, _ => .no
theorem bd_ne (is : List Nat) : ∀ ds γ c, setAll is ds γ ≠ .ex c := by
  induction is with
  | nil => intro ds γ c; cases ds <;> simp [setAll]
  | cons i is ih =>
    intro ds γ c
    cases ds with
    | nil => simp [setAll]
    | cons d ds => exact ih ds _ c
section
variable {X : Cx} {pos : Pos}
theorem jg_n {i : Nat} {x : Str} (hN : X.N.Nodup) (hi : X.N[i]? = some x := by rfl) (hx : Loc X.env.scope x := by first | exact .inl rfl | exact .inr rfl) (hf : X.fn x = true ∨ X.env.scope.names.lookup x = some .local := by first | exact .inl rfl | exact .inr rfl) : JG X [i] (bdN i) (gName i) (.Name x pos) :=
  ⟨pg_name hN hi hx hf, fun {F γ γ' σ H d v Q} r p e q => by
    cases e
    exact q _ (r.set i p) (Kp.refl.set (by simp) d v)⟩
structure JGs (X : Cx) (is js : List Nat) (t : TGs) (es : List Expr) : Prop where
  pgs : PGs X es t
  len : is.length = es.length
  go : ∀ {F : Hp} {γ₀ γ γ' : Ga} {σ₀ σ : L2.St} {H : Hp} {ds : List D} {vs : List V} {Q : L2.St → Hp → Prop}, RS X.K F γ σ H → Kp js γ₀ σ₀ γ σ → Reps X.K F ds vs → setAll is ds γ = .ok γ' → (∀ σ', RS X.K F γ' σ' H → Kp js γ₀ σ₀ γ' σ' → Q σ' H) → t vs σ H Q
theorem jgs_nil {js : List Nat} : JGs X [] js gNil [] := ⟨pgs_nil, rfl, fun {F γ₀ γ γ' σ₀ σ H ds vs Q} r k p e q => by
  cases p with
  | nil => cases e; exact ⟨rfl, q _ r k⟩
  | cons _ _ => cases e⟩
theorem jgs_cons {i : Nat} {is js : List Nat} {x : Str} {t : TGs} {es : List Expr} (hN : X.N.Nodup) (hr : JGs X is js t es) (hij : i ∈ js := by simp) (hi : X.N[i]? = some x := by rfl) (hx : Loc X.env.scope x := by first | exact .inl rfl | exact .inr rfl) (hf : X.fn x = true ∨ X.env.scope.names.lookup x = some .local := by first | exact .inl rfl | exact .inr rfl)
    (hs : (assignEach (.Name x pos :: es) X.env).map (·.2) = assign (.Name x pos) X.env :: (assignEach es X.env).map (·.2) := by rfl) : JGs X (i :: is) js (gCons (gName i) t) (.Name x pos :: es) :=
  ⟨pgs_cons (pg_name hN hi hx hf) hr.pgs hs, by simp [hr.len], fun {F γ₀ γ γ' σ₀ σ H ds vs Q} r k p e q => by
    cases p with
    | nil => cases e
    | cons p1 p2 => exact ⟨_, _, rfl, hr.go (r.set i p1) (k.set hij _ _) p2 e q⟩⟩
theorem jg_t {is : List Nat} {t : TGs} {es : List Expr} {k n : Nat} (hc : X.calm = true) (h : JGs X is is t es) (hn : (assignEach es X.env).length = n := by rfl) (hst : (assignEach es X.env).findIdx? (·.1) = none := by rfl) (hl : n = is.length := by rfl) : JG X is (bdT is) (gTup X.K n t) (.Tuple es k pos) :=
  ⟨pg_tup hc h.pgs hn hst, fun {F γ γ' σ H d v Q} r p e q => by
    cases d <;> first | (cases e; done) | skip
    rename_i ds
    cases p with
    | tup h1 h2 =>
      refine ⟨_, _, rfl, r.emb.sqt h1, ?_, h.go r .refl h2 e q⟩
      have : ∀ (is : List Nat) (ds : List D) (γ : Ga), setAll is ds γ = .ok γ' → ds.length = is.length := by
        intro is
        induction is with
        | nil => intro ds γ e; cases ds with | nil => rfl | cons _ _ => cases e
        | cons i is ih =>
          intro ds γ e
          cases ds with
          | nil => cases e
          | cons d ds => simp [ih ds _ e]
      rw [← h2.length, this _ _ _ e, hl]⟩
theorem jg_tK {K : PySem.W.Frag} {is : List Nat} {t : TGs} {es : List Expr} {k : Nat} (hK : X.K = K) (hc : X.calm = true) (h : JGs X is is t es) (hn : (assignEach es X.env).length = is.length := by rfl) (hst : (assignEach es X.env).findIdx? (·.1) = none := by rfl) : JG X is (bdT is) (gTup K is.length t) (.Tuple es k pos) := by
  subst hK
  exact jg_t hc h hn hst rfl
theorem RB.kp {K : PySem.W.Frag} {B : Bs} {F H : Hp} {γ γ' : Ga} {σ σ' : L2.St} {is : List Nat} (r : RB K B F γ σ H) (r' : RS K F γ' σ' H) (k : Kp is γ σ γ' σ') : RB K B F γ' σ' H :=
  ⟨r', r.fi, fun j d a e1 e2 => by
    rcases k.ow j d e1 with ⟨x, rfl⟩ | ⟨z1, z2⟩
    · exact e2.elim
    · exact r.ow j d a z1 (z2 ▸ e2)⟩
end
/-- a target that is assigned -/
def fBd (bd : D → Ga → R Ga) (fe : Ga → R D) : Ga → R Fl := fun γ => (fe γ).bind fun d => (bd d γ).bind fun γ' => .ok (.nx γ')
section
variable {X : Cx} {W : WN} {fe : Ga → R D} {tg e : Expr} {pos : Pos}
theorem js_unp {is : List Nat} {t : TG} (he : J X W fe e) (hg : JG X is (bdT is) t tg) (hs : swapsWithSole [tg] e pos.line X.env = pure false := by rfl) (hw : swappedStores [tg] e X.env = pure none := by rfl)
    (h1 : (assignEach [tg] X.env).map (·.2) = [assign tg X.env] := by rfl) : JS X W (fBd (bdT is) fe) (.Assign [tg] e pos) := ⟨PS.imp (ps_asg he.pe hg.pg hs hw h1) fun E σ H ⟨B, F, γ, r, o⟩ => by
  refine ex_of r o fun d v F1 H1 n1 r1 p1 o1 => ?_
  cases e1 : bdT is d γ with
  | ok γ' => simp only [e1, R.bind] at o1; exact hg.go r1.rs p1 e1 fun σ' r' k => o1 F1 σ' H1 (r1.kp r' k)
  | ex c =>
    cases d <;> first | (cases e1; done) | exact absurd e1 (bd_ne _ _ _ _)
  | no => simp only [e1, R.bind] at o1; exact o1.elim⟩
end
/-! ### what is walked -/
def Goes (K : PySem.W.Frag) (J : It) (F : Hp) (S : List (Addr × HO)) (ds : List D) : Prop := ∀ F' H' i, Same F F' → Emb F' H' → (∀ p ∈ S, H' p.1 = some p.2) →
  (i = ds.length → J.stop i H') ∧ ∀ d, ds[i]? = some d → J.go i H' ∧ ∀ x H'', J.yld i H' x H'' → ∃ F'', Nxt F' H' F'' H'' ∧ Rep K F'' d x
theorem goes_list {K : PySem.W.Frag} {F : Hp} {a : Addr} {ds : List D} {vs : List V} (h : SqL K F a vs) (r : Reps K F ds vs) : Goes K (Itl K a) F [] ds := fun F' H' i f e _ => by
  have q := e.sql (f.seq h)
  refine ⟨fun hi => ⟨vs, q, by rw [← r.length]; omega⟩, fun d hd => ?_⟩
  obtain ⟨v, hv, p⟩ := r.get hd
  refine ⟨⟨vs, v, q, hv⟩, fun x H'' ⟨e1, e2⟩ => ?_⟩
  subst e1
  have : v = x := Option.some.inj (hv.symm.trans (e2 vs q))
  subst this
  exact ⟨F', .refl e, p.mono f⟩
theorem goes_tup {K : PySem.W.Frag} {F : Hp} {a : Addr} {ds : List D} {vs : List V} (h : SqT K F a vs) (r : Reps K F ds vs) : Goes K (Itt K a) F [] ds := fun F' H' i f e _ => by
  have q := e.sqt (same_sqt f h)
  refine ⟨fun hi => ⟨vs, q, by rw [← r.length]; omega⟩, fun d hd => ?_⟩
  obtain ⟨v, hv, p⟩ := r.get hd
  refine ⟨⟨vs, v, q, hv⟩, fun x H'' ⟨e1, e2⟩ => ?_⟩
  subst e1
  have : v = x := Option.some.inj (hv.symm.trans (e2 vs q))
  subst this
  exact ⟨F', .refl e, p.mono f⟩
def sgn (s : Tx) : List D := s.map fun c => .str [c]
theorem goes_str {K : PySem.W.Frag} {F : Hp} {s : Tx} : Goes K (Its (toS s)) F [] (sgn s) := fun F' H' i f e _ => by
  refine ⟨fun hi => ?_, fun d hd => ?_⟩
  · show (toS s).cps.size ≤ i
    simp [toS, sgn] at hi ⊢; omega
  · have l : i < s.length := by
      have := (List.getElem?_eq_some_iff.mp hd).1
      simpa [sgn] using this
    refine ⟨by show i < (toS s).cps.size; simpa [toS] using l, fun x H'' ⟨e1, c, e2, e3⟩ => ?_⟩
    subst e1
    have hc : s[i]? = some c := by simpa [toS] using e2
    have : d = .str [c] := by simp [sgn, hc] at hd; exact hd.symm
    subst this
    subst e3
    exact ⟨F', .refl e, .str [c]⟩
theorem RepK.get {K : PySem.W.Frag} {F : Hp} {es : List (Tx × D)} {kvs : List (Key × V)} (h : RepK K F es kvs) {i : Nat} {k : Tx} {d : D} (e : es[i]? = some (k, d)) : ∃ v, kvs[i]? = some (Sum.inr (toS k), v) ∧ Rep K F d v := by
  induction es generalizing kvs i with
  | nil => simp at e
  | cons e' es ih =>
    cases h with
    | cons h1 h2 =>
      cases i with
      | zero => simp at e; obtain ⟨rfl, rfl⟩ := e; exact ⟨_, rfl, h1⟩
      | succ i => simp at e; simpa using ih h2 e
def keysD (es : List (Tx × D)) : List D := es.map fun e => .str e.1
theorem goes_dic {K : PySem.W.Frag} {F : Hp} {a : Addr} {od : Obj} {es : List (Tx × D)} {kvs : List (Key × V)} (r : RepK K F es kvs) : Goes K (Itk a od kvs) F [(a, .frz od (.dK kvs))] (keysD es) := fun F' H' i f e hS => by
  have q := hS _ (List.mem_singleton.mpr rfl)
  refine ⟨fun hi => ⟨q, ?_⟩, fun d hd => ?_⟩
  · rw [← r.length]; simp [keysD] at hi; omega
  · have l : i < es.length := by
      have := (List.getElem?_eq_some_iff.mp hd).1
      simpa [keysD] using this
    refine ⟨⟨q, by rw [← r.length]; exact l⟩, fun x H'' ⟨e1, k, v, e2, e3⟩ => ?_⟩
    subst e1
    have he : es[i]? = some es[i] := List.getElem?_eq_getElem l
    obtain ⟨w, h1, h2⟩ := r.get (k := es[i].1) (d := es[i].2) he
    rw [h1] at e2
    cases e2
    have : d = .str es[i].1 := by simp [keysD, he] at hd; exact hd.symm
    subst this
    subst e3
    exact ⟨F', .refl e, .str _⟩
def rngD (lo : Int) (n : Nat) : List D := (List.range n).map fun i => .int (lo + (i : Nat))
theorem goes_rng {K : PySem.W.Frag} {F : Hp} {lo : Int} {n : Nat} : Goes K (Itr lo n) F [] (rngD lo n) := fun F' H' i f e _ => by
  refine ⟨fun hi => ?_, fun d hd => ?_⟩
  · show n ≤ i
    simp [rngD] at hi; omega
  · have l : i < n := by
      have := (List.getElem?_eq_some_iff.mp hd).1
      simpa [rngD] using this
    refine ⟨l, fun x H'' ⟨e1, e2⟩ => ?_⟩
    subst e1
    have : d = .int (lo + (i : Nat)) := by simp [rngD, l] at hd; exact hd.symm
    subst this
    subst e2
    exact ⟨F', .refl e, .int _⟩
def enuD (ds : List D) : List D := ds.zipIdx.map fun p => .tup [.int (p.2 : Nat), p.1]
theorem enuD_get {ds : List D} {i : Nat} {d : D} (h : (enuD ds)[i]? = some d) : ∃ e, ds[i]? = some e ∧ d = .tup [.int (i : Nat), e] := by
  simp only [enuD, List.getElem?_map, List.getElem?_zipIdx, Option.map_eq_some_iff] at h
  obtain ⟨p, ⟨e, h1, h2⟩, h3⟩ := h
  subst h2
  exact ⟨e, h1, by rw [← h3]; simp⟩
theorem goes_enu {K : PySem.W.Frag} {F : Hp} {a : Addr} {ds : List D} {vs : List V} (h : SqL K F a vs) (r : Reps K F ds vs) : Goes K (Ite K a) F [] (enuD ds) := fun F' H' i f e _ => by
  have q := e.sql (f.seq h)
  refine ⟨fun hi => ⟨vs, q, by rw [← r.length]; simp [enuD] at hi; omega⟩, fun d hd => ?_⟩
  obtain ⟨d', hd', rfl⟩ := enuD_get hd
  obtain ⟨v, hv, p⟩ := r.get hd'
  refine ⟨⟨vs, v, q, hv⟩, fun x H'' ⟨T, y, e1, nT, e2, e3⟩ => ?_⟩
  subst e1 e2
  have : v = y := Option.some.inj (hv.symm.trans (e3 vs q))
  subst this
  exact ⟨_, .new e nT _, .tup (.inl (.inl upd_same)) (.cons (.int _) (.cons ((p.mono f).mono (same_upd (e.free nT))) .nil))⟩
def zipD (ds es : List D) : List D := (ds.zip es).map fun p => .tup [p.1, p.2]
theorem goes_zip {K : PySem.W.Frag} {F : Hp} {a b : Addr} {ds es : List D} {vs us : List V} (h : SqL K F a vs) (r : Reps K F ds vs) (h2 : SqL K F b us) (r2 : Reps K F es us) : Goes K (Itz K a b) F [] (zipD ds es) := fun F' H' i f e _ => by
  have q := e.sql (f.seq h)
  have q2 := e.sql (f.seq h2)
  refine ⟨fun hi => ⟨vs, us, q, q2, by rw [← r.length, ← r2.length]; simp [zipD, List.length_zip] at hi; omega⟩, fun d hd => ?_⟩
  simp only [zipD, List.getElem?_map, Option.map_eq_some_iff, List.getElem?_zip_eq_some] at hd
  obtain ⟨p, ⟨h3, h4⟩, rfl⟩ := hd
  obtain ⟨v, hv, p1⟩ := r.get h3
  obtain ⟨u, hu, p2⟩ := r2.get h4
  refine ⟨⟨vs, us, v, u, q, q2, hv, hu⟩, fun x H'' ⟨T, y, z, e1, nT, e2, e3, e4⟩ => ?_⟩
  subst e1 e2
  have : v = y := Option.some.inj (hv.symm.trans (e3 vs q))
  subst this
  have : u = z := Option.some.inj (hu.symm.trans (e4 us q2))
  subst this
  have s := same_upd (F := F') (o := .tup [v, u]) (e.free nT)
  exact ⟨_, .new e nT _, .tup (.inl (.inl upd_same)) (.cons ((p1.mono f).mono s) (.cons ((p2.mono f).mono s) .nil))⟩
def rdI (K : PySem.W.Frag) (W : WN) (f : Ga → R (List D)) : TI := fun σ H Rr => ∃ F γ, RS K F γ σ H ∧ (match f γ with
  | .ok ds => ∀ J F' H', Nxt F H F' H' → Goes K J F' [] ds → Rr J H'
  | .ex c => ∀ F' H', Nxt F H F' H' → W c σ H'
  | .no => False)
structure JI (X : Cx) (W : WN) (f : Ga → R (List D)) (tg it : Expr) : Prop where
  pi : PI X tg it (rdI X.K W f)
theorem PI.imp {X : Cx} {tg e : Expr} {t t' : TI} (h : PI X tg e t) (i : ∀ σ H Q, t' σ H Q → t σ H Q) : PI X tg e t' := ⟨fun pins s σ H Q I q => h.run pins s σ H Q I (i σ H Q q)⟩
/-- any value: list, tuple, text; a dict is locked meanwhile -/
def items : D → R (List D)
  | .lst xs => .ok xs
  | .tup xs => .ok xs
  | .str s => .ok (sgn s)
  | .dic es => .ok (keysD es)
  | _ => .no
def rdE (X : Cx) (W : WN) (f : Ga → R D) : TI := fun σ H Rr => ∃ F γ, RS X.K F γ σ H ∧ (match f γ with
  | .ok (.dic es) => ∀ J F' H' d od kvs, Nxt F H F' H' → F' d = some (.dK kvs) → Goes X.K J F' [(d, .frz od (.dK kvs))] (keysD es) →
      ((H' d = some (.dK kvs) → (∀ o' u', X.H_0 d ≠ some (.frz o' u')) → Rr J (upd H' d (.frz od (.dK kvs)))) ∧ (H' d = some (.frz od (.dK kvs)) → Rr J H'))
  | .ok d => ∃ ds, items d = .ok ds ∧ ∀ J F' H', Nxt F H F' H' → Goes X.K J F' [] ds → Rr J H'
  | .ex c => ∀ F' H', Nxt F H F' H' → W c σ H'
  | .no => False)
section
variable {X : Cx} {W : WN} {fe fa fb : Ga → R D} {tg e a b : Expr} {pos p : Pos}
theorem pi_any (he : J X W fe e) : PI X tg e (rdE X W fe) := ⟨fun pins s σ H Rr I h => by
  obtain ⟨F, γ, r, o⟩ := h
  cases e1 : fe γ with
  | ok d =>
    rw [e1] at o
    cases d
    case non => obtain ⟨_, z, _⟩ := o; cases z
    case bl _ => obtain ⟨_, z, _⟩ := o; cases z
    case int _ => obtain ⟨_, z, _⟩ := o; cases z
    case str z =>
      obtain ⟨ds, z1, o⟩ := o
      cases z1
      refine (pi_str he.pe).run pins s σ H Rr I ⟨F, γ, r, ?_⟩
      rw [e1]
      intro v F' H' n p
      cases p
      exact ⟨toS z, rfl, o _ F' H' n goes_str⟩
    case lst xs =>
      obtain ⟨ds, z1, o⟩ := o
      cases z1
      refine (pi_list he.pe).run pins s σ H Rr I ⟨F, γ, r, ?_⟩
      rw [e1]
      intro v F' H' n p
      cases p with | lst h1 h2 => exact ⟨_, rfl, ⟨_, n.emb.sql h1⟩, o _ F' H' n (goes_list h1 h2)⟩
    case tup xs =>
      obtain ⟨ds, z1, o⟩ := o
      cases z1
      refine (pi_tup he.pe).run pins s σ H Rr I ⟨F, γ, r, ?_⟩
      rw [e1]
      intro v F' H' n p
      cases p with | tup h1 h2 => exact ⟨_, rfl, ⟨_, n.emb.sqt h1⟩, o _ F' H' n (goes_tup h1 h2)⟩
    case dic es =>
      have h0 : rdV X.K W fe σ H (fun x H1 => ∃ d kvs F', x = .ref d ∧ Nxt F H F' H1 ∧ F' d = some (.dK kvs) ∧ RepK X.K F' es kvs) := by
        refine ⟨F, γ, r, ?_⟩
        rw [e1]
        intro v F' H' n p
        cases p with | dic h1 h2 => exact ⟨_, _, F', rfl, n, h1, h2⟩
      refine thn (he.pe.run pins s σ H _ I h0) fun u s1 ⟨x, H1, I1, rx, d, kvs, F', ex, n, hd, hk⟩ => ?_
      subst ex
      obtain rfl : u = Value.ref d := rx
      have fin : ∀ {od : Obj} {H2 : Hp}, Inv X pins σ H2 s1 → H2 d = some (.frz od (.dK kvs)) → Rr (Itk d od kvs) H2 → wpAny (model X.prog X.w) X.A (pyIter (.ref d)) (PIE X pins σ tg Rr) X.xe s1 := fun {od H2} I2 hd2 q => by
        obtain ⟨hs, hgd, hx, es, ep, vs, hdt, hsz, kv, hm⟩ := I2.frzK hd2
        refine iter_keys hs hgd hx hdt (pi_one (tk := s1.toks) I2 _ (turn_keys _ hdt) ⟨_, Heap.get?_push_size _ rfl, rfl, ?_⟩ q)
        rw [hsz] <;> rfl
      rcases n.emb d _ hd with z | ⟨ob, kvs', e2, z⟩
      · obtain ⟨od, I2⟩ := I1.lock z trivial
        exact fin I2 upd_same ((o _ F' H1 d od kvs n hd (goes_dic hk)).1 z (I1.nofrz z trivial))
      · cases e2
        exact fin I1 z ((o _ F' H1 d ob kvs n hd (goes_dic hk)).2 z)
  | ex c =>
    rw [e1] at o
    refine (pi_list he.pe).run pins s σ H Rr I ⟨F, γ, r, ?_⟩
    rw [e1]
    exact o
  | no => rw [e1] at o; exact o.elim⟩
def i2n : D → R Int
  | .int i => if i.natAbs < 2 ^ 62 then .ok i else .no
  | _ => .no
def iR1 (fa : Ga → R D) : Ga → R (List D) := fun γ => (fa γ).bind fun d => (i2n d).bind fun j => .ok (rngD 0 j.toNat)
theorem i2n_ok {d : D} {i : Int} (h : i2n d = .ok i) : d = .int i ∧ -(2 ^ 62) ≤ i ∧ i < 2 ^ 62 := by
  cases d <;> simp only [i2n] at h <;> first | (cases h; done) | skip
  split at h
  · cases h; exact ⟨rfl, by omega, by omega⟩
  · cases h
theorem i2n_ne {d : D} {c : Nat} : i2n d ≠ .ex c := by
  cases d <;> simp only [i2n] <;> first | (intro h; cases h; done) | (split <;> intro h <;> cases h)
theorem ji_r1 (hm : X.mg "range" = none) (ha : J X W fa a) (hg : Gl X "range" := by rfl) (hs : starEach [a] X.env = [(false, eval a X.env)] := by rfl) (hs1 : starEach [a] X.env = (false, eval a X.env) :: starEach [] X.env := by rfl) : JI X W (iR1 fa) tg (.Call (.Name "range" p) [a] [] pos) :=
  ⟨PI.imp (pi_range1 hg hm (pa_cons ha.pe pa_nil hs1) hs) fun σ H Rr ⟨F, γ, r, o⟩ => by
    refine ⟨F, γ, r, ?_⟩
    unfold iR1 at o
    cases e1 : fa γ with
    | ok d =>
      simp only [e1, R.bind] at o
      intro v F' H' n p
      cases e2 : i2n d with
      | ok j =>
        obtain ⟨rfl, h1, h2⟩ := i2n_ok e2
        cases p
        simp only [e2] at o
        exact ⟨j, rfl, h1, h2, o _ F' H' n goes_rng⟩
      | ex c => exact absurd e2 i2n_ne
      | no => simp only [e2] at o
    | ex c => simp only [e1, R.bind] at o; exact o
    | no => simp only [e1, R.bind] at o⟩
def asL : D → R (List D)
  | .lst xs => .ok xs
  | _ => .no
def iEn (fa : Ga → R D) : Ga → R (List D) := fun γ => (fa γ).bind fun d => (asL d).bind fun xs => .ok (enuD xs)
theorem ji_en {elts : List Expr} {kk : Nat} {tpos : Pos} (hm : X.mg "enumerate" = none) (ha : J X W fa a) (hg : Gl X "enumerate" := by rfl) (hs : starEach [a] X.env = [(false, eval a X.env)] := by rfl) (hs1 : starEach [a] X.env = (false, eval a X.env) :: starEach [] X.env := by rfl) :
    JI X W (iEn fa) (.Tuple elts kk tpos) (.Call (.Name "enumerate" p) [a] [] pos) :=
  ⟨PI.imp (pi_enum hg hm (pa_cons ha.pe pa_nil hs1) hs) fun σ H Rr ⟨F, γ, r, o⟩ => by
    refine ⟨F, γ, r, ?_⟩
    unfold iEn at o
    cases e1 : fa γ with
    | ok d =>
      simp only [e1, R.bind] at o
      intro v F' H' n p
      cases d <;> simp only [asL] at o
      cases p with | lst h1 h2 => exact ⟨_, _, rfl, n.emb.sql h1, o _ F' H' n (goes_enu h1 h2)⟩
    | ex c => simp only [e1, R.bind] at o; exact o
    | no => simp only [e1, R.bind] at o⟩
end
end KN
/-! KnG: loops, comprehensions, defs -/
namespace KN
open PySem PySem.Spec PyProof.Rows L2
/-! ### unlocking -/
def Ul (X : Cx) (Q : Hp → Prop) (H : Hp) : Prop := Q H ∨ ∃ d od u, H d = some (.frz od u) ∧ (∀ o' u', X.H_0 d ≠ some (.frz o' u')) ∧ Q (upd H d u)
def unlE (X : Cx) (E : Ends) : Ends := ⟨fun σ => Ul X (E.nx σ), fun v => Ul X (E.rt v), fun σ => Ul X (E.bk σ), fun σ => Ul X (E.ct σ)⟩
section
variable {X : Cx} {pins : List (Addr × Obj)} {σ : L2.St} {H : Hp} {s : Shared}
theorem Ul.run {Q : Hp → Prop} (I : Inv X pins σ H s) (u : Ul X Q H) : ∃ H', Inv X pins σ H' s ∧ Q H' := by
  rcases u with q | ⟨d, od, u, h, hn, q⟩
  · exact ⟨H, I, q⟩
  · exact ⟨_, I.unlock h hn, q⟩
theorem ps_unl {st : Stmt} {t : TS} (h : PS X st t) : PS X st (fun E => t (unlE X E)) := ⟨fun pins s σ H E I hw => by
  refine thn (h.run pins s σ H _ I hw) fun f s1 q => ?_
  cases f with
  | next => obtain ⟨σ', H', I2, q⟩ := q; obtain ⟨H2, I3, q⟩ := Ul.run I2 q; exact ⟨σ', H2, I3, q⟩
  | brk => obtain ⟨σ', H', I2, q⟩ := q; obtain ⟨H2, I3, q⟩ := Ul.run I2 q; exact ⟨σ', H2, I3, q⟩
  | cont => obtain ⟨σ', H', I2, q⟩ := q; obtain ⟨H2, I3, q⟩ := Ul.run I2 q; exact ⟨σ', H2, I3, q⟩
  | ret v => obtain ⟨x, σ', H', I2, r, q⟩ := q; obtain ⟨H2, I3, q⟩ := Ul.run I2 q; exact ⟨x, σ', H2, I3, r, q⟩⟩
theorem pe_unl {e : Expr} {t : TE} (h : PE X e t) : PE X e (fun σ H Q => t σ H fun v => Ul X (Q v)) := ⟨fun pins s σ H Q I hw => by
  refine thn (h.run pins s σ H _ I hw) fun v s1 ⟨x, H1, I2, r, q⟩ => ?_
  obtain ⟨H2, I3, q⟩ := Ul.run I2 q
  exact ⟨x, H2, I3, r, q⟩⟩
end
/-! ### for -/
def forGo (bd : D → Ga → R Ga) (body : Ga → R Fl) : List D → Ga → R Fl
  | [], γ => .ok (.nx γ)
  | x :: xs, γ => (bd x γ).bind fun γ1 => match body γ1 with
    | .ok (.nx γ2) => forGo bd body xs γ2
    | .ok (.ct γ2) => forGo bd body xs γ2
    | .ok (.bk γ2) => .ok (.nx γ2)
    | .ok (.rt d) => .ok (.rt d)
    | .ex c => .ex c
    | .no => .no
/-- bd raises nothing -/
def BdOk (bd : D → Ga → R Ga) : Prop := ∀ d γ c, bd d γ ≠ .ex c
theorem bdN_ok {i : Nat} : BdOk (bdN i) := fun d γ c h => by cases h
theorem bdT_ok {is : List Nat} : BdOk (bdT is) := fun d γ c => by
  cases d <;> first | (intro h; cases h; done) | exact bd_ne _ _ _ _
theorem Fin.weak {B : Bs} {F1 F H : Hp} {h : Same B.F0 F1} {hn : ∀ a o, F1 a = some o → B.F0 a = some o ∨ B.H0 a = none} (f : Fin { B with F0 := F1 } F H) : Fin B F H :=
  ⟨h.trans f.f0, fun a o e => by
    rcases f.fn a o e with z | z
    · exact hn a o z
    · exact .inr z, f.emb, f.h0, f.sS⟩
theorem RB.weak {K : PySem.W.Frag} {B : Bs} {F1 F H : Hp} {γ : Ga} {σ : L2.St} (h : Same B.F0 F1) (hn : ∀ a o, F1 a = some o → B.F0 a = some o ∨ B.H0 a = none) (r : RB K { B with F0 := F1 } F γ σ H) : RB K B F γ σ H := ⟨r.rs, Fin.weak (h := h) (hn := hn) r.fi, r.ow⟩
theorem RB.strong {K : PySem.W.Frag} {B : Bs} {F H : Hp} {γ : Ga} {σ : L2.St} (r : RB K B F γ σ H) : RB K { B with F0 := F } F γ σ H := ⟨r.rs, ⟨.refl _, fun _ _ e => .inl e, r.fi.emb, r.fi.h0, r.fi.sS⟩, r.ow⟩
/-- the loop from a turn on -/
theorem for_core {X : Cx} {W : WN} {bd : D → Ga → R Ga} {body : Ga → R Fl} {is : List Nat} {t : TG} {tg : Expr} {J : It} {F0 H0 : Hp} {S : List (Addr × HO)} {ds : List D} {B : Bs} {E : Ends} {γ : Ga} {σ : L2.St} {tb : TS} (hbd : BdOk bd) (hg : JG X is bd t tg)
    (htb : ∀ D σ H, rdS X.K W body D σ H → tb D σ H) (gs : Goes X.K J F0 S ds) (hS : ∀ p ∈ S, p ∈ B.S) (r : RB X.K B F0 γ σ H0) (o : OutS X.K W B (forGo bd body ds γ) E) :
    ∃ Wi : Nat → Nat → L2.St → Hp → Prop, (∃ m, Wi 0 m σ H0) ∧ ∀ i m σ H, Wi i m σ H → (J.stop i H ∧ E.nx σ H) ∨
      (J.go i H ∧ ∃ N : L2.St → Hp → Prop, (∀ σ' H', N σ' H' → ∃ m', m' < m ∧ Wi (i + 1) m' σ' H') ∧ ∀ x H', J.yld i H x H' → t x σ H' fun σ2 H2 => tb { E with nx := N, ct := N, bk := E.nx } σ2 H2) := by
  refine ⟨fun i m σ H => ∃ F γ, Same F0 F ∧ RB X.K B F γ σ H ∧ OutS X.K W B (forGo bd body (ds.drop i) γ) E ∧ m = ds.length - i ∧ i ≤ ds.length, ⟨ds.length, F0, γ, .refl _, r, o, rfl, Nat.zero_le _⟩, ?_⟩
  rintro i m σ1 H1 ⟨F1, γ1, f1, r1, o1, rfl, hi⟩
  obtain ⟨g1, g2⟩ := gs F1 H1 i f1 r1.rs.emb fun p hp => (r1.fi.sS p (hS p hp)).1
  by_cases hl : i < ds.length
  · have hd : ds[i]? = some ds[i] := List.getElem?_eq_getElem hl
    obtain ⟨go, gy⟩ := g2 _ hd
    refine .inr ⟨go, fun σ' H' => ∃ F γ, Same F0 F ∧ RB X.K B F γ σ' H' ∧ OutS X.K W B (forGo bd body (ds.drop (i + 1)) γ) E, fun σ' H' ⟨F, γ', a, b, c⟩ => ⟨ds.length - (i + 1), by omega, F, γ', a, b, c, rfl, hl⟩, fun x H' hy => ?_⟩
    obtain ⟨F2, n2, p2⟩ := gy x H' hy
    have r2 := r1.next n2
    rw [List.drop_eq_getElem_cons hl] at o1
    simp only [forGo] at o1
    cases e1 : bd ds[i] γ1 with
    | ok γ2 =>
      simp only [e1, R.bind] at o1
      refine hg.go r2.rs p2 e1 fun σ2 rs2 k => ?_
      have r3 := r2.kp rs2 k
      refine htb _ _ _ ⟨{ B with F0 := F2 }, F2, γ2, r3.strong, ?_⟩
      have back : ∀ {F γ σ H}, RB X.K { B with F0 := F2 } F γ σ H → RB X.K B F γ σ H := fun q => q.weak r2.fi.f0 r2.fi.fn
      cases e2 : body γ2 with
      | ok fl =>
        rw [e2] at o1
        cases fl with
        | nx γ3 => exact fun F σ H q => ⟨F, γ3, (f1.trans n2.f).trans q.fi.f0, back q, o1⟩
        | ct γ3 => exact fun F σ H q => ⟨F, γ3, (f1.trans n2.f).trans q.fi.f0, back q, o1⟩
        | bk γ3 => exact fun F σ H q => o1 F σ H (back q)
        | rt d => exact fun v F H q p => o1 v F H (Fin.weak (h := r2.fi.f0) (hn := r2.fi.fn) q) p
      | ex c => rw [e2] at o1; exact fun σ F H q => o1 σ F H (Fin.weak (h := r2.fi.f0) (hn := r2.fi.fn) q)
      | no => rw [e2] at o1; exact o1
    | ex c => exact absurd e1 (hbd _ _ _)
    | no => simp only [e1, R.bind] at o1; exact o1.elim
  · have hi' : i = ds.length := by omega
    refine .inl ⟨g1 hi', ?_⟩
    rw [List.drop_eq_nil_of_le (by omega)] at o1
    exact o1 F1 σ1 H1 r1
def fForI (it : Ga → R (List D)) (bd : D → Ga → R Ga) (body : Ga → R Fl) : Ga → R Fl := fun γ => (it γ).bind fun ds => forGo bd body ds γ
def fForE (fe : Ga → R D) (bd : D → Ga → R Ga) (body : Ga → R Fl) : Ga → R Fl := fun γ => (fe γ).bind fun d => match d with
  | .dic es => (forGo bd body (keysD es) γ).noex
  | d => (items d).bind fun ds => forGo bd body ds γ
section
variable {X : Cx} {W : WN} {bd : D → Ga → R Ga} {body : Ga → R Fl} {is : List Nat} {t : TG} {tg iter : Expr} {it : Ga → R (List D)} {fe : Ga → R D} {sts : List Stmt} {pos : Pos}
theorem js_forI (hp : PassesOwn (model X.prog X.w) X.A X.env X.xe) (hc : X.calm = true) (hbd : BdOk bd) (hi : JI X W it tg iter) (hg : JG X is bd t tg) (hb : JSs X W body sts) (hs : ∀ x, foldedSetIterable iter X.env x = pure x := by intro _; rfl) :
    JS X W (fForI it bd body) (.For tg iter sts [] pos) := ⟨PS.imp (ps_for hp hc hi.pi hg.pg hb.pss hs) fun E σ H ⟨B, F, γ, r, o⟩ => by
  refine ⟨F, γ, r.rs, ?_⟩
  unfold fForI at o
  cases e1 : it γ with
  | ok ds =>
    simp only [e1, R.bind] at o
    exact fun J F' H' n gs => for_core hbd hg (fun _ _ _ h => h) gs (fun _ h => nomatch h) (r.next n) o
  | ex c => simp only [e1, R.bind] at o; exact fun F' H' n => o σ F' H' (r.fi.next n)
  | no => simp only [e1, R.bind] at o; exact o⟩
/-- locked, unlocked -/
theorem RB.lock {K : PySem.W.Frag} {B : Bs} {F H : Hp} {γ : Ga} {σ : L2.St} (r : RB K B F γ σ H) {d : Addr} {od : Obj} {kvs : List (Key × V)} (hF : F d = some (.dK kvs)) (hH : H d = some (.dK kvs)) :
    RB K { B with S := (d, .frz od (.dK kvs)) :: B.S } F γ σ (upd H d (.frz od (.dK kvs))) := by
  have em : Emb F (upd H d (.frz od (.dK kvs))) := fun a o e => by
    by_cases q : a = d
    · subst q; rw [hF] at e; cases e; exact .inr ⟨od, kvs, rfl, upd_same⟩
    · rw [upd_ne q]; exact r.rs.emb a o e
  have ks : ∀ b u, F b = none → H b = some u → upd H d (.frz od (.dK kvs)) b = some u := fun b u h1 h2 => by
    rw [upd_ne]
    · exact h2
    · rintro rfl; rw [h1] at hF; cases hF
  have bk : ∀ i s b, γ[i]? = some s → Inn (upd H d (.frz od (.dK kvs))) s σ[i]? b → Inn H s σ[i]? b := fun i s b e h => h.back (r.rs.sl i s e) fun b u h1 h2 => ks b u (h1.have (r.rs.sl i s e)).1 h2
  refine ⟨⟨em, r.rs.len, fun i s e => (r.rs.sl i s e).keep (.refl _) fun b u _ h1 h2 => ⟨ks b u h1 h2, h1⟩, fun i j s s' b e1 e2 h1 h2 => r.rs.apart i j s s' b e1 e2 (bk _ _ b e1 h1) (bk _ _ b e2 h2)⟩, ⟨r.fi.f0, r.fi.fn, em, fun b o e => ?_, fun p hp => ?_⟩, fun i s b e h => r.ow i s b e (bk i s b e h)⟩
  · by_cases q : b = d
    · subst q
      rcases r.fi.h0 b o e with z | ⟨ob, k2, z1, z2⟩
      · rw [hH] at z; cases z; exact .inr ⟨od, kvs, rfl, List.mem_cons_self⟩
      · have := (r.fi.sS _ z2).1; rw [hH] at this; cases this
    · rw [upd_ne q]
      rcases r.fi.h0 b o e with z | ⟨ob, k2, z1, z2⟩
      · exact .inl z
      · exact .inr ⟨ob, k2, z1, List.mem_cons_of_mem _ z2⟩
  · rcases List.mem_cons.mp hp with e | hp
    · subst e; exact ⟨upd_same, od, kvs, rfl, hF⟩
    · obtain ⟨y1, ob, u, y2, y3⟩ := r.fi.sS p hp
      have q : p.1 ≠ d := by
        intro z
        rw [z, hH] at y1
        rw [y2] at y1
        cases y1
      rw [upd_ne q]; exact ⟨y1, ob, u, y2, y3⟩
theorem Fin.unlock {B : Bs} {F H : Hp} {d : Addr} {od : Obj} {kvs : List (Key × V)} (f : Fin { B with S := (d, .frz od (.dK kvs)) :: B.S } F H) (hd : ∀ p ∈ B.S, p.1 ≠ d) (h0 : ∀ o' u', B.H0 d ≠ some (.frz o' u')) : Fin B F (upd H d (.dK kvs)) := by
  obtain ⟨y1, ob, u, y2, y3⟩ := f.sS _ List.mem_cons_self
  cases y2
  refine ⟨f.f0, f.fn, fun a o e => ?_, fun b o e => ?_, fun p hp => ?_⟩
  · by_cases q : a = d
    · subst q; rw [y3] at e; cases e; exact .inl upd_same
    · rw [upd_ne q]; exact f.emb a o e
  · by_cases q : b = d
    · subst q
      rcases f.h0 b o e with z | ⟨ob, k2, z1, z2⟩
      · rw [y1] at z; cases z; exact absurd e (h0 _ _)
      · have := (f.sS _ z2).1
        rw [y1] at this
        cases this
        exact .inl (by rw [z1]; exact upd_same)
    · rw [upd_ne q]
      rcases f.h0 b o e with z | ⟨ob, k2, z1, z2⟩
      · exact .inl z
      · rcases List.mem_cons.mp z2 with w | w
        · exact absurd (Prod.mk.inj w).1 q
        · exact .inr ⟨ob, k2, z1, w⟩
  · obtain ⟨z1, z2⟩ := f.sS p (List.mem_cons_of_mem _ hp)
    rw [upd_ne (hd p hp)]; exact ⟨z1, z2⟩
theorem RB.unlock {K : PySem.W.Frag} {B : Bs} {F H : Hp} {γ : Ga} {σ : L2.St} {d : Addr} {od : Obj} {kvs : List (Key × V)} (r : RB K { B with S := (d, .frz od (.dK kvs)) :: B.S } F γ σ H) (hd : ∀ p ∈ B.S, p.1 ≠ d) (h0 : ∀ o' u', B.H0 d ≠ some (.frz o' u')) :
    RB K B F γ σ (upd H d (.dK kvs)) := by
  have f := r.fi.unlock hd h0
  obtain ⟨y1, ob, u, y2, y3⟩ := r.fi.sS _ List.mem_cons_self
  cases y2
  have ks : ∀ b u, F b = none → H b = some u → upd H d (.dK kvs) b = some u := fun b u h1 h2 => by
    rw [upd_ne]
    · exact h2
    · rintro rfl; rw [h1] at y3; cases y3
  have bk : ∀ i s b, γ[i]? = some s → Inn (upd H d (.dK kvs)) s σ[i]? b → Inn H s σ[i]? b := fun i s b e h => h.back (r.rs.sl i s e) fun b u h1 h2 => ks b u (h1.have (r.rs.sl i s e)).1 h2
  exact ⟨⟨f.emb, r.rs.len, fun i s e => (r.rs.sl i s e).keep (.refl _) fun b u _ h1 h2 => ⟨ks b u h1 h2, h1⟩, fun i j s s' b e1 e2 h1 h2 => r.rs.apart i j s s' b e1 e2 (bk _ _ b e1 h1) (bk _ _ b e2 h2)⟩, f, fun i s b e h => r.ow i s b e (bk i s b e h)⟩
theorem RB.pin {K : PySem.W.Frag} {B : Bs} {F H : Hp} {γ : Ga} {σ : L2.St} (r : RB K B F γ σ H) {d : Addr} {od : Obj} {kvs : List (Key × V)} (hF : F d = some (.dK kvs)) (hH : H d = some (.frz od (.dK kvs))) :
    RB K { B with S := (d, .frz od (.dK kvs)) :: B.S } F γ σ H :=
  ⟨r.rs, ⟨r.fi.f0, r.fi.fn, r.fi.emb, fun b o e => by
    rcases r.fi.h0 b o e with z | ⟨ob, k2, z1, z2⟩
    · exact .inl z
    · exact .inr ⟨ob, k2, z1, List.mem_cons_of_mem _ z2⟩, fun p hp => by
    rcases List.mem_cons.mp hp with e | hp
    · subst e; exact ⟨hH, od, kvs, rfl, hF⟩
    · exact r.fi.sS p hp⟩, r.ow⟩
theorem Fin.unpin {B : Bs} {F H : Hp} {d : Addr} {od : Obj} {kvs : List (Key × V)} (f : Fin { B with S := (d, .frz od (.dK kvs)) :: B.S } F H)
    (hq : ∀ o, B.H0 d = some o → o = .frz od (.dK kvs) ∨ ∃ ob kvs, o = .dK kvs ∧ (d, HO.frz ob (.dK kvs)) ∈ B.S) : Fin B F H :=
  ⟨f.f0, f.fn, f.emb, fun b o e => by
    rcases f.h0 b o e with z | ⟨ob, k2, z1, z2⟩
    · exact .inl z
    · rcases List.mem_cons.mp z2 with w | w
      · have e1 := (Prod.mk.inj w).1
        subst e1
        rcases hq o e with y | y
        · exact .inl (by rw [y]; exact (f.sS _ List.mem_cons_self).1)
        · exact .inr y
      · exact .inr ⟨ob, k2, z1, w⟩, fun p hp => f.sS p (List.mem_cons_of_mem _ hp)⟩
theorem js_forE (hp : PassesOwn (model X.prog X.w) X.A X.env X.xe) (hc : X.calm = true) (hbd : BdOk bd) (he : J X W fe iter) (hg : JG X is bd t tg) (hb : JSs X W body sts) (hs : ∀ x, foldedSetIterable iter X.env x = pure x := by intro _; rfl) :
    JS X W (fForE fe bd body) (.For tg iter sts [] pos) := ⟨PS.imp (ps_unl (ps_for hp hc (pi_any he) hg.pg hb.pss hs)) fun E σ H ⟨B, F, γ, r, o⟩ => by
  refine ⟨F, γ, r.rs, ?_⟩
  unfold fForE at o
  have up : ∀ {B : Bs} {x : R Fl}, OutS X.K W B x E → OutS X.K W B x (unlE X E) := fun {B x} o => by
    cases x with
    | ok fl => cases fl with
      | nx γ => exact fun F σ H q => .inl (o F σ H q)
      | bk γ => exact fun F σ H q => .inl (o F σ H q)
      | ct γ => exact fun F σ H q => .inl (o F σ H q)
      | rt d => exact fun v F H q p => .inl (o v F H q p)
    | ex c => exact o
    | no => exact o
  cases e1 : fe γ with
  | ok d =>
    simp only [e1, R.bind] at o
    cases d
    case dic es =>
      intro J F' H' d od kvs n hd gs
      have r' := r.next n
      have o : OutS X.K W B (forGo bd body (keysD es) γ).noex E := o
      have cv : ∀ {S' : List (Addr × HO)}, (∀ F γ σ H, RB X.K { B with S := S' } F γ σ H → ∀ {T : L2.St → Hp → Prop}, (∀ F σ H, RB X.K B F γ σ H → T σ H) → Ul X (T σ) H) →
          (∀ F H, Fin { B with S := S' } F H → ∀ {x : D} {T : V → Hp → Prop} {v : V}, (∀ v F H, Fin B F H → Rep X.K F x v → T v H) → Rep X.K F x v → Ul X (T v) H) → OutS X.K W { B with S := S' } (forGo bd body (keysD es) γ) (unlE X E) := fun {S'} c1 c2 => by
        cases e2 : forGo bd body (keysD es) γ with
        | ok fl =>
          rw [e2] at o
          cases fl with
          | nx γ => exact fun F σ H q => c1 F γ σ H q o
          | bk γ => exact fun F σ H q => c1 F γ σ H q o
          | ct γ => exact fun F σ H q => c1 F γ σ H q o
          | rt x => exact fun v F H q p => c2 F H q o p
        | ex c => rw [e2] at o; exact o.elim
        | no => rw [e2] at o; exact o.elim
      refine ⟨fun z hn => ?_, fun z => ?_⟩
      · have hS : ∀ p ∈ B.S, p.1 ≠ d := fun p hp q => by
          obtain ⟨y1, ob, u, y2, y3⟩ := r'.fi.sS p hp
          rw [q, z, y2] at y1; cases y1
        have h0 : ∀ o' u', B.H0 d ≠ some (.frz o' u') := fun o' u' e => by
          rcases r'.fi.h0 d _ e with y | ⟨_, _, y, _⟩
          · rw [z] at y; cases y
          · cases y
        have hit : ∀ {F H : Hp}, Fin { B with S := (d, .frz od (.dK kvs)) :: B.S } F H → H d = some (.frz od (.dK kvs)) := fun f => (f.sS _ List.mem_cons_self).1
        refine for_core hbd hg (fun _ _ _ h => h) gs (fun p hp => ?_) (r'.lock (od := od) hd z) (cv (fun F γ σ H q T f => .inr ⟨d, od, _, hit q.fi, hn, f F σ _ (q.unlock hS h0)⟩) fun F H q x T v f p => .inr ⟨d, od, _, hit q, hn, f v F _ (q.unlock hS h0) p⟩)
        rw [List.mem_singleton.mp hp]; exact List.mem_cons_self
      · have hq : ∀ o, B.H0 d = some o → o = .frz od (.dK kvs) ∨ ∃ ob kvs, o = .dK kvs ∧ (d, HO.frz ob (.dK kvs)) ∈ B.S := fun o e => by
          rcases r'.fi.h0 d o e with y | y
          · rw [z] at y; cases y; exact .inl rfl
          · exact .inr y
        refine for_core hbd hg (fun _ _ _ h => h) gs (fun p hp => ?_) (r'.pin (od := od) hd z) (cv (fun F γ σ H q T f => .inl (f F σ _ ⟨q.rs, q.fi.unpin hq, q.ow⟩)) fun F H q x T v f p => .inl (f v F _ (q.unpin hq) p))
        rw [List.mem_singleton.mp hp]; exact List.mem_cons_self
    case non => exact o.elim
    case bl _ => exact o.elim
    case int _ => exact o.elim
    case str s =>
      refine ⟨sgn s, rfl, fun J F' H' n gs => for_core hbd hg (fun _ _ _ h => h) gs (fun _ h => nomatch h) (r.next n) (up o)⟩
    case lst xs =>
      refine ⟨xs, rfl, fun J F' H' n gs => for_core hbd hg (fun _ _ _ h => h) gs (fun _ h => nomatch h) (r.next n) (up o)⟩
    case tup xs =>
      refine ⟨xs, rfl, fun J F' H' n gs => for_core hbd hg (fun _ _ _ h => h) gs (fun _ h => nomatch h) (r.next n) (up o)⟩
  | ex c => simp only [e1, R.bind] at o; exact fun F' H' n => o σ F' H' (r.fi.next n)
  | no => simp only [e1, R.bind] at o; exact o⟩
/-! ### while -/
/-- so many turns at most -/
def whN (p : Ga → R Bool) (body : Ga → R Fl) : Nat → Ga → Option (R Fl)
  | 0, _ => none
  | n + 1, γ => match p γ with
    | .ok true => match body γ with
      | .ok (.nx γ2) => whN p body n γ2
      | .ok (.ct γ2) => whN p body n γ2
      | .ok (.bk γ2) => some (.ok (.nx γ2))
      | .ok (.rt d) => some (.ok (.rt d))
      | .ex c => some (.ex c)
      | .no => some .no
    | .ok false => some (.ok (.nx γ))
    | .ex c => some (.ex c)
    | .no => some .no
open Classical in
noncomputable def fWh (p : Ga → R Bool) (body : Ga → R Fl) : Ga → R Fl := fun γ => if h : ∃ n r, whN p body n γ = some r then (whN p body h.choose γ).getD .no else .no
theorem whN_mono {p : Ga → R Bool} {body : Ga → R Fl} : ∀ (n : Nat) (γ : Ga) (r : R Fl) (m : Nat), whN p body n γ = some r → n ≤ m → whN p body m γ = some r := by
  intro n
  induction n with
  | zero => intro γ r m h; cases h
  | succ n ih =>
    intro γ r m h hm
    obtain ⟨m, rfl⟩ : ∃ m', m = m' + 1 := ⟨m - 1, by omega⟩
    simp only [whN] at h ⊢
    cases e1 : p γ with
    | ok b =>
      rw [e1] at h
      cases b with
      | true =>
        simp only at h ⊢
        cases e2 : body γ with
        | ok fl =>
          rw [e2] at h
          cases fl with
          | nx γ2 => exact ih γ2 r m h (by omega)
          | ct γ2 => exact ih γ2 r m h (by omega)
          | bk γ2 => exact h
          | rt d => exact h
        | ex c => rw [e2] at h; exact h
        | no => rw [e2] at h; exact h
      | false => exact h
    | ex c => rw [e1] at h; exact h
    | no => rw [e1] at h; exact h
theorem fWh_eq {p : Ga → R Bool} {body : Ga → R Fl} {n : Nat} {γ : Ga} {r : R Fl} (h : whN p body n γ = some r) : fWh p body γ = r := by
  unfold fWh
  have hx : ∃ n r, whN p body n γ = some r := ⟨n, r, h⟩
  rw [dif_pos hx]
  obtain ⟨r', hr'⟩ := hx.choose_spec
  have a := whN_mono _ _ _ (max n hx.choose) h (Nat.le_max_left _ _)
  have b := whN_mono _ _ _ (max n hx.choose) hr' (Nat.le_max_right _ _)
  rw [a] at b
  cases b
  rw [hr']; rfl
theorem fWh_of {p : Ga → R Bool} {body : Ga → R Fl} {γ : Ga} (h : fWh p body γ ≠ .no) : ∃ n, whN p body n γ = some (fWh p body γ) := by
  by_cases hx : ∃ n r, whN p body n γ = some r
  · obtain ⟨n, r, e⟩ := hx
    exact ⟨n, by rw [fWh_eq e]; exact e⟩
  · unfold fWh at h
    rw [dif_neg hx] at h
    exact absurd rfl h
theorem js_while {X : Cx} {W : WN} {p : Ga → R Bool} {body : Ga → R Fl} {c : Expr} {sts : List Stmt} {pos : Pos} (hp : PassesOwn (model X.prog X.w) X.A X.env X.xe) (hc : JT X W p c) (hb : JSs X W body sts) : JS X W (fWh p body) (.While c sts [] pos) :=
  ⟨PS.imp (ps_while hp hc.pt hb.pss) fun E σ H ⟨B, F, γ, r, o⟩ => by
    by_cases hno : fWh p body γ = .no
    · rw [hno] at o; exact o.elim
    obtain ⟨n, hn⟩ := fWh_of hno
    refine ⟨fun m σ H => ∃ F γ x, RB X.K B F γ σ H ∧ whN p body m γ = some x ∧ OutS X.K W B x E, ⟨n, F, γ, _, r, hn, o⟩, ?_⟩
    rintro m σ1 H1 ⟨F1, γ1, x, r1, h1, o1⟩
    cases m with
    | zero => cases h1
    | succ m =>
      refine ⟨F1, γ1, r1.rs, ?_⟩
      simp only [whN] at h1
      cases e1 : p γ1 with
      | ok b =>
        rw [e1] at h1
        intro F2 H2 n2
        have r2 := r1.next n2
        cases b with
        | true =>
          simp only at h1
          refine ⟨fun σ' H' => ∃ F γ x, RB X.K B F γ σ' H' ∧ whN p body m γ = some x ∧ OutS X.K W B x E, fun σ' H' q => ⟨m, Nat.lt_succ_self _, q⟩, B, F2, γ1, r2, ?_⟩
          cases e2 : body γ1 with
          | ok fl =>
            rw [e2] at h1
            cases fl with
            | nx γ2 => exact fun F σ H q => ⟨F, γ2, x, q, h1, o1⟩
            | ct γ2 => exact fun F σ H q => ⟨F, γ2, x, q, h1, o1⟩
            | bk γ2 => simp only [Option.some.injEq] at h1; subst h1; exact o1
            | rt d => simp only [Option.some.injEq] at h1; subst h1; exact o1
          | ex c => rw [e2] at h1; simp only [Option.some.injEq] at h1; subst h1; exact o1
          | no => rw [e2] at h1; simp only [Option.some.injEq] at h1; subst h1; exact o1
        | false => simp only [Option.some.injEq] at h1; subst h1; exact o1 F2 σ1 H2 r2
      | ex c => rw [e1] at h1; simp only [Option.some.injEq] at h1; subst h1; exact fun F' H' n' => o1 σ1 F' H' (r1.fi.next n')
      | no => rw [e1] at h1; simp only [Option.some.injEq] at h1; subst h1; exact o1.elim⟩
/-! ### defs -/
def fnD (n : Nat) (body : Ga → R Fl) (ds : List D) : R D := match body (ds.map .va ++ List.replicate (n - ds.length) .un) with
  | .ok (.rt d) => .ok d
  | .ok (.nx _) => .ok .non
  | .ex c => .ex c
  | _ => .no
theorem start_ow {ds : List D} {k i : Nat} {s : Sl} {H : Hp} {x : Option (Option V)} {b : Addr} (h : (ds.map Sl.va ++ List.replicate k .un)[i]? = some s) : ¬ Inn H s x b := fun z => by
  by_cases l : i < ds.length
  · rw [List.getElem?_append_left (by simpa using l), List.getElem?_map, List.getElem?_eq_getElem l] at h
    cases h; exact z
  · rw [List.getElem?_append_right (by simpa using l), List.getElem?_replicate] at h
    split at h <;> cases h
    exact z
theorem rs_start {K : PySem.W.Frag} {F H : Hp} {N : List Str} {ds : List D} {vs : List V} (e : Emb F H) (r : Reps K F ds vs) : RS K F (ds.map .va ++ List.replicate (N.length - ds.length) .un) (L2.start N vs) H := by
  refine ⟨e, by simp [L2.start, r.length], fun i s h => ?_, fun i j d d' a h => ?_⟩
  · by_cases l : i < ds.length
    · rw [List.getElem?_append_left (by simpa using l)] at h
      rw [List.getElem?_map, List.getElem?_eq_getElem l] at h
      cases h
      obtain ⟨v, hv, p⟩ := r.get (List.getElem?_eq_getElem l)
      refine ⟨v, ?_, p⟩
      unfold L2.start
      rw [List.getElem?_append_left (by simpa [r.length] using (List.getElem?_eq_some_iff.mp hv).1), List.getElem?_map, hv]
      rfl
    · rw [List.getElem?_append_right (by simpa using l), List.getElem?_replicate] at h
      split at h
      · cases h; trivial
      · cases h
  · exact fun _ h2 _ => absurd h2 (start_ow h)
section
variable {P : Program} {w : World} {K : PySem.W.Frag} {mg : Str → Option Value} {base : Heap}
abbrev cxD (P : Program) (w : World) (K : PySem.W.Frag) (mg : Str → Option Value) (base : Heap) (N : List Str) (qual : Str) (st : Stmt) (f : Addr) (cdv : Value) (A : Around) (outer : List Env) (s : Shared) (H : Hp) (E : XK) : Cx :=
  cxOf (L2.CX P w) P w K mg base N qual (defScope st) f cdv A outer s H E
abbrev wnD (cl : Cl) (E : XK) : WN := fun c _ H => E (cl c) none H
theorem takes_D {cl : Cl} {N : List Str} {qual : Str} {st : Stmt} {f : Addr} {cdv : Value} {A : Around} {outer : List Env} {s : Shared} {H : Hp} {E : XK} : Takes (cxD P w K mg base N qual st f cdv A outer s H E) (VW cl (wnD cl E)) :=
  (takes_of (E := E) rfl rfl rfl rfl).imp fun c d σ H ⟨c', e1, e2, h⟩ => by subst e1 e2; exact h
theorem passes_D {N : List Str} {qual : Str} {st : Stmt} {f : Addr} {cdv : Value} {A : Around} {outer : List Env} {s : Shared} {H : Hp} {E : XK} : PassesOwn (model P w) (cxD P w K mg base N qual st f cdv A outer s H E).A (cxD P w K mg base N qual st f cdv A outer s H E).env (cxD P w K mg base N qual st f cdv A outer s H E).xe :=
  passes_of rfl
theorem fok {x qual : Str} {st : Stmt} {f : Addr} {fd : FuncData} {N ps : List Str} {k n m : Nat} {cl : Cl} {body : Ga → R Fl} (Fu : Fun K x qual st f fd) (S : FnScope N ps (defScope st)) (hn : N.length = n) (hm : ps.length = m)
    (hb : ∀ (cdv : Value) (A : Around) (outer : List Env) (s : Shared) (H : Hp) (E : XK), Room k (A.deeper (envOfC qual (defScope st) s.heap.objs.size f cdv)) → JSs (cxD P w K mg base N qual st f cdv A outer s H E) (wnD cl E) body (defBody st)) :
    FnOk P w K mg base (L2.CX P w) (k + 1) f fd ps (spD K cl m (fnD n body)) := by
  refine Fu.okX S (fun vs H Q E h => ?_) fun cdv A outer s H vs Q E hr h => ?_
  · obtain ⟨F, ds, h1, _⟩ := h
    rw [h1, hm]
  · refine ⟨_, (hb cdv A outer s H E hr).pss, ?_⟩
    obtain ⟨F, ds, h1, em, rp, o⟩ := h
    subst hn
    have r := rs_start (N := N) em rp
    refine ⟨⟨F, H, []⟩, F, _, ⟨r, .start em, fun i d a e1 e2 => absurd e2 (start_ow e1)⟩, ?_⟩
    · unfold fnD at o
      cases e : body (ds.map .va ++ List.replicate (N.length - ds.length) .un) with
      | ok fl =>
        rw [e] at o
        cases fl with
        | nx γ => exact fun F' σ' H' q => o _ F' H' q.fi.nxt .non
        | rt d => exact fun v F' H' q p => o v F' H' q.nxt p
        | bk γ => exact o.elim
        | ct γ => exact o.elim
      | ex c => rw [e] at o; exact fun σ' F' H' q => o F' H' q.nxt
      | no => rw [e] at o; exact o.elim
end
end
end KN
/-! KnH: comprehensions, own things changed, dicts, texts -/
namespace KN
open PySem PySem.Spec PyProof.Rows L2
/-! ### comprehensions -/
def wipeG (γ : Ga) : List Nat → Ga
  | [] => γ
  | v :: vs => (wipeG γ vs).set v .un
theorem wipeG_len (γ : Ga) : ∀ vs, (wipeG γ vs).length = γ.length
  | [] => rfl
  | v :: vs => by simp [wipeG, wipeG_len γ vs]
theorem wipeG_get {γ : Ga} {i : Nat} {s : Sl} : ∀ {vs : List Nat}, (wipeG γ vs)[i]? = some s → s = .un ∨ (i ∉ vs ∧ γ[i]? = some s)
  | [], h => .inr ⟨by simp, h⟩
  | v :: vs, h => by
    unfold wipeG at h
    by_cases hi : v = i
    · subst hi
      by_cases hv : v < (wipeG γ vs).length
      · rw [List.getElem?_set_self hv] at h; cases h; exact .inl rfl
      · rw [List.getElem?_eq_none (by simpa using hv)] at h; cases h
    · rw [List.getElem?_set_ne hi] at h
      rcases wipeG_get h with h | ⟨h1, h2⟩
      · exact .inl h
      · exact .inr ⟨by simp only [List.mem_cons, not_or]; exact ⟨fun e => hi e.symm, h1⟩, h2⟩
theorem wipe_out {σ : L2.St} {i : Nat} : ∀ {vs : List Nat}, i ∉ vs → (wipe σ vs)[i]? = σ[i]?
  | [], _ => rfl
  | v :: vs, h => by
    unfold wipe
    simp only [List.mem_cons, not_or] at h
    rw [List.getElem?_set_ne (fun e => h.1 e.symm)]
    exact wipe_out h.2
theorem wipe_in {σ : L2.St} {i : Nat} : ∀ {vs : List Nat}, i ∈ vs → i < σ.length → (wipe σ vs)[i]? = some none
  | [], h, _ => nomatch h
  | v :: vs, h, hl => by
    unfold wipe
    by_cases hi : v = i
    · subst hi; rw [List.getElem?_set_self (by rw [wipe_length]; exact hl)]
    · rw [List.getElem?_set_ne hi]
      rcases List.mem_cons.mp h with e | h
      · exact absurd e.symm hi
      · exact wipe_in h hl
theorem wipe_same {σ σ' : L2.St} {vs : List Nat} (hl : σ'.length = σ.length) (ho : ∀ j, j ∉ vs → σ'[j]? = σ[j]?) : wipe σ' vs = wipe σ vs := by
  apply List.ext_getElem?
  intro i
  by_cases h : i ∈ vs
  · by_cases l : i < σ.length
    · rw [wipe_in h l, wipe_in h (by rw [hl]; exact l)]
    · rw [List.getElem?_eq_none (by rw [wipe_length, hl]; omega), List.getElem?_eq_none (by rw [wipe_length]; omega)]
  · rw [wipe_out h, wipe_out h, ho i h]
theorem wipe_wipe {σ : L2.St} {vs : List Nat} : wipe (wipe σ vs) vs = wipe σ vs := wipe_same (wipe_length _ _) fun j h => wipe_out h
theorem RS.wipe {K : PySem.W.Frag} {F H : Hp} {γ : Ga} {σ : L2.St} (r : RS K F γ σ H) (vs : List Nat) : RS K F (wipeG γ vs) (L2.wipe σ vs) H := by
  refine ⟨r.emb, by rw [wipeG_len, wipe_length, r.len], fun i s e => ?_, fun i j d d' a e1 e2 h1 h2 => ?_⟩
  · rcases wipeG_get e with rfl | ⟨h1, h2⟩
    · trivial
    · rw [wipe_out h1]; exact r.sl i s h2
  · rcases wipeG_get e1 with z | ⟨z1, z2⟩
    · subst z; exact h1.elim
    · rcases wipeG_get e2 with y | ⟨y1, y2⟩
      · subst y; exact h2.elim
      · rw [wipe_out z1] at h1
        rw [wipe_out y1] at h2
        exact r.apart i j d d' a z2 y2 h1 h2
def lcGo (bd : D → Ga → R Ga) (ifs : Ga → R Bool) (elt : Ga → R D) (γ : Ga) : List D → R (List D)
  | [] => .ok []
  | x :: xs => (bd x γ).noex.bind fun γ1 => (ifs γ1).noex.bind fun b => if b = true then (elt γ1).noex.bind fun y => (lcGo bd ifs elt γ xs).bind fun ys => .ok (y :: ys) else lcGo bd ifs elt γ xs
theorem lcGo_ne {bd : D → Ga → R Ga} {ifs : Ga → R Bool} {elt : Ga → R D} {γ : Ga} : ∀ xs c, lcGo bd ifs elt γ xs ≠ .ex c := by
  intro xs
  induction xs with
  | nil => intro c h; cases h
  | cons x xs ih =>
    intro c h
    unfold lcGo at h
    cases e1 : bd x γ <;> simp only [e1, R.noex, R.bind] at h <;> try (cases h; done)
    rename_i γ1
    cases e2 : ifs γ1 <;> simp only [e2, R.noex, R.bind] at h <;> try (cases h; done)
    rename_i b
    cases b <;> simp only [Bool.false_eq_true, if_false, if_true] at h
    · exact ih c h
    · cases e3 : elt γ1 <;> simp only [e3, R.noex, R.bind] at h <;> try (cases h; done)
      cases e4 : lcGo bd ifs elt γ xs <;> simp only [e4, R.bind] at h <;> try (cases h; done)
      exact ih _ e4
abbrev W0 : WN := fun _ _ _ => False
/-- the tests of a comprehension: none, or one -/
def yes : Ga → R Bool := fun _ => .ok true
structure JIfs (X : Cx) (f : Ga → R Bool) (t : TT) (es : List Expr) : Prop where
  pts : PTs X es t
  go : ∀ {σ : L2.St} {H F : Hp} {γ : Ga} {Q : Bool → Hp → Prop}, RS X.K F γ σ H → OutT F H (fun _ _ => False) (f γ) Q → t σ H Q
theorem jifs_nil {X : Cx} : JIfs X yes tYes [] := ⟨pts_nil, fun {σ H F γ Q} r o => o F H (.refl r.emb)⟩
theorem jifs_one {X : Cx} {f : Ga → R Bool} {e : Expr} (h : JT X W0 f e) : JIfs X f (rdT X.K W0 f) [e] := ⟨pts_one h.pt, fun {σ H F γ Q} r o => ⟨F, γ, r, o⟩⟩
theorem jifs_oneK {X : Cx} {K : PySem.W.Frag} {f : Ga → R Bool} {e : Expr} (hK : X.K = K) (h : JT X W0 f e) : JIfs X f (rdT K W0 f) [e] := by
  subst hK
  exact jifs_one h
/-- the walk of a comprehension -/
theorem lc_core {K : PySem.W.Frag} {bd : D → Ga → R Ga} {ifs : Ga → R Bool} {elt : Ga → R D} {vs : List Nat} {g : TG} {tt : TT} {te : TE} {J : It} {F0 H0 : Hp} {S : List (Addr × HO)} {ds ys : List D} {γ : Ga} {σ : L2.St} {D0 : Addr} {Q : Hp → Prop}
    (hg : ∀ {F : Hp} {γ γ' : Ga} {σ : L2.St} {H : Hp} {d : D} {v : V} {Q : L2.St → Hp → Prop}, RS K F γ σ H → Rep K F d v → bd d γ = .ok γ' → (∀ σ', RS K F γ' σ' H → Kp vs γ σ γ' σ' → Q σ' H) → g v σ H Q)
    (ht : ∀ {σ : L2.St} {H F : Hp} {γ : Ga} {Q : Bool → Hp → Prop}, RS K F γ σ H → OutT F H (fun _ _ => False) (ifs γ) Q → tt σ H Q)
    (he : ∀ {σ : L2.St} {H F : Hp} {γ : Ga} {Q : VK}, RS K F γ σ H → Out (PV K F H) F H (fun _ _ => False) (elt γ) Q → te σ H Q)
    (gs : Goes K J F0 S ds) (hS : ∀ p ∈ S, H0 p.1 = some p.2) (r : RS K F0 γ σ H0) (o : lcGo bd ifs elt (wipeG γ vs) ds = .ok ys) (hz : ys.length < sizeLine) (hD : H0 D0 = none)
    (fin : ∀ F' H', Nxt F0 H0 F' H' → F' D0 = none → (∃ us, H' D0 = some (.lst us) ∧ Reps K F' ys us) → Q H') :
    ∃ Wi : Nat → Nat → Hp → Prop, (∃ m, Wi 0 m (upd H0 D0 (.lst []))) ∧ ∀ i m H, Wi i m H → (J.stop i H ∧ Q H) ∨
      (J.go i H ∧ ∃ Nx : Hp → Prop, (∀ H', Nx H' → ∃ m', m' < m ∧ Wi (i + 1) m' H') ∧ ∀ x H', J.yld i H x H' → g x (wipe σ vs) H' fun σ2 H2 => wipe σ2 vs = wipe σ vs ∧ tt σ2 H2 fun b H3 =>
        if b = true then te σ2 H3 fun y H4 => ∃ acc, H4 D0 = some (.lst acc) ∧ acc.length < sizeLine ∧ Nx (upd H4 D0 (.lst (acc ++ [y]))) else Nx H3) := by
  have dS : ∀ p ∈ S, p.1 ≠ D0 := fun p hp q => by have := hS p hp; rw [q, hD] at this; cases this
  -- the state: what was made so far, what is left to make
  refine ⟨fun i m H => ∃ F zs rest us, Nxt F0 H0 F H ∧ F D0 = none ∧ H D0 = some (.lst us) ∧ Reps K F zs us ∧ lcGo bd ifs elt (wipeG γ vs) (ds.drop i) = .ok rest ∧ ys = zs ++ rest ∧ (∀ p ∈ S, H p.1 = some p.2) ∧ m = ds.length - i ∧ i ≤ ds.length,
    ⟨ds.length, F0, [], ys, [], .laid r.emb hD _, r.emb.free hD, upd_same, .nil, o, rfl, fun p hp => by rw [upd_ne (dS p hp)]; exact hS p hp, rfl, Nat.zero_le _⟩, ?_⟩
  rintro i m H1 ⟨F1, zs, rest, us, n1, fD, hus, rp, o1, ey, hS1, rfl, hi⟩
  obtain ⟨g1, g2⟩ := gs F1 H1 i n1.f n1.emb hS1
  by_cases hl : i < ds.length
  · have hd : ds[i]? = some ds[i] := List.getElem?_eq_getElem hl
    obtain ⟨go, gy⟩ := g2 _ hd
    rw [List.drop_eq_getElem_cons hl] at o1
    unfold lcGo at o1
    cases e1 : bd ds[i] (wipeG γ vs) with
    | ok γ2 =>
      simp only [e1, R.noex, R.bind] at o1
      refine .inr ⟨go, fun H' => ∃ F zs rest us, Nxt F0 H0 F H' ∧ F D0 = none ∧ H' D0 = some (.lst us) ∧ Reps K F zs us ∧ lcGo bd ifs elt (wipeG γ vs) (ds.drop (i + 1)) = .ok rest ∧ ys = zs ++ rest ∧ (∀ p ∈ S, H' p.1 = some p.2),
        fun H' ⟨F, zs, rest, us, a⟩ => ⟨ds.length - (i + 1), by omega, F, zs, rest, us, a.1, a.2.1, a.2.2.1, a.2.2.2.1, a.2.2.2.2.1, a.2.2.2.2.2.1, a.2.2.2.2.2.2, rfl, hl⟩, fun x H' hy => ?_⟩
      obtain ⟨F2, n2, p2⟩ := gy x H' hy
      have n02 := n1.trans n2
      have r2 := (r.next n02).wipe vs
      refine hg r2 p2 e1 fun σ2 rs2 k => ⟨(wipe_same k.len k.out).trans wipe_wipe, ht rs2 ?_⟩
      have keep : ∀ {F3 H3 : Hp}, Nxt F2 H' F3 H3 → Nxt F1 H1 F3 H3 ∧ F3 D0 = none ∧ H3 D0 = some (.lst us) ∧ Reps K F3 zs us ∧ ∀ p ∈ S, H3 p.1 = some p.2 := fun {F3 H3} n3 => by
        have n13 := n2.trans n3
        refine ⟨n13, ?_, n13.h _ _ hus, rp.mono n13.f, fun p hp => n13.h _ _ (hS1 p hp)⟩
        cases q : F3 D0 with
        | none => rfl
        | some u =>
          rcases n13.fn _ _ q with z | z
          · rw [fD] at z; cases z
          · rw [hus] at z; cases z
      cases e2 : ifs γ2 with
      | ok b =>
        simp only [e2] at o1
        intro F3 H3 n3
        obtain ⟨k1, k2, k3, k4, k5⟩ := keep n3
        cases b with
        | false =>
          simp only [Bool.false_eq_true, if_false] at o1 ⊢
          exact ⟨F3, zs, rest, us, n1.trans k1, k2, k3, k4, o1, ey, k5⟩
        | true =>
          simp only [if_true] at o1 ⊢
          refine he (rs2.next n3) ?_
          cases e3 : elt γ2 with
          | ok y =>
            simp only [e3] at o1
            intro v F4 H4 n4 p4
            obtain ⟨l1, l2, l3, l4, l5⟩ := keep (n3.trans n4)
            cases e4 : lcGo bd ifs elt (wipeG γ vs) (ds.drop (i + 1)) with
            | ok rest' =>
              simp only [e4] at o1
              cases o1
              have hlen : us.length < sizeLine := by
                rw [← rp.length]
                have : ys.length = zs.length + (rest'.length + 1) := by rw [ey]; simp
                omega
              have n04 := n1.trans l1
              refine ⟨us, l3, hlen, F4, zs ++ [y], rest', us ++ [v], ⟨n04.f, n04.fn, fun a u z => ?_, fun b u z => ?_⟩, l2, upd_same, l4.append (.cons p4 .nil), rfl, by rw [ey]; simp, fun p hp => by rw [upd_ne (dS p hp)]; exact l5 p hp⟩
              · rw [upd_ne (ne_of_none z l2)]; exact n04.emb a u z
              · rw [upd_ne (ne_of_none z hD)]; exact n04.h b u z
            | ex c => exact absurd e4 (lcGo_ne _ _)
            | no => simp only [e4] at o1; cases o1
          | ex c => simp only [e3] at o1; cases o1
          | no => simp only [e3] at o1; cases o1
      | ex c => simp only [e2] at o1; cases o1
      | no => simp only [e2] at o1; cases o1
    | ex c => simp only [e1, R.noex, R.bind] at o1; cases o1
    | no => simp only [e1, R.noex, R.bind] at o1; cases o1
  · have hi' : i = ds.length := by omega
    refine .inl ⟨g1 hi', fin F1 H1 n1 fD ⟨us, hus, ?_⟩⟩
    rw [List.drop_eq_nil_of_le (by omega)] at o1
    cases o1
    rw [ey, List.append_nil]
    exact rp
def lcOut (bd : D → Ga → R Ga) (ifs : Ga → R Bool) (elt : Ga → R D) (vs : List Nat) (γ : Ga) (ds : List D) : R D := (lcGo bd ifs elt (wipeG γ vs) ds).bind fun ys => if ys.length ≤ lim then .ok (.lst ys) else .no
def bLcI (it : Ga → R (List D)) (vs : List Nat) (bd : D → Ga → R Ga) (ifs : Ga → R Bool) (elt : Ga → R D) : Ga → R D := fun γ => (it γ).bind fun ds => lcOut bd ifs elt vs γ ds
def bLcE (fe : Ga → R D) (vs : List Nat) (bd : D → Ga → R Ga) (ifs : Ga → R Bool) (elt : Ga → R D) : Ga → R D := fun γ => (fe γ).bind fun d => (items d).bind fun ds => lcOut bd ifs elt vs γ ds
theorem lcOut_ne {bd : D → Ga → R Ga} {ifs : Ga → R Bool} {elt : Ga → R D} {vs : List Nat} {γ : Ga} {ds : List D} {c : Nat} : lcOut bd ifs elt vs γ ds ≠ .ex c := by
  unfold lcOut
  cases e : lcGo bd ifs elt (wipeG γ vs) ds with
  | ok ys => simp only [R.bind]; split <;> intro h <;> cases h
  | ex c => exact absurd e (lcGo_ne _ _)
  | no => intro h; cases h
theorem lcOut_ok {bd : D → Ga → R Ga} {ifs : Ga → R Bool} {elt : Ga → R D} {vs : List Nat} {γ : Ga} {ds : List D} {d : D} (h : lcOut bd ifs elt vs γ ds = .ok d) : ∃ ys, d = .lst ys ∧ lcGo bd ifs elt (wipeG γ vs) ds = .ok ys ∧ ys.length < sizeLine := by
  unfold lcOut at h
  cases e : lcGo bd ifs elt (wipeG γ vs) ds with
  | ok ys =>
    rw [e] at h
    simp only [R.bind] at h
    split at h
    · cases h; exact ⟨ys, rfl, rfl, by have : lim < sizeLine := by (rw [sizeLine_eq]; decide)
                                       omega⟩
    · cases h
  | ex c => exact absurd e (lcGo_ne _ _)
  | no => rw [e] at h; cases h
section
variable {X : Cx} {W : WN} {bd : D → Ga → R Ga} {ifs : Ga → R Bool} {elt fe : Ga → R D} {it : Ga → R (List D)} {own : List (Str × Nat)} {g : TG} {tt : TT} {tg iter e : Expr} {es : List Expr} {scope : Scope} {pos : Pos}
/-- the block's parts -/
structure Blk (X : Cx) (scope : Scope) (own : List (Str × Nat)) (bd : D → Ga → R Ga) (ifs : Ga → R Bool) (elt : Ga → R D) (g : TG) (tt : TT) (tg : Expr) (es : List Expr) (e : Expr) : Prop where
  ok : BlkOk X.N X.env.scope scope own
  hg : ∀ (s : Shared) (H : Hp) (C : Addr) (cl : List (Str × Addr)) (fp : List Addr), JG (X.blk s H scope (compEnvC scope cl C X.env) fp) (own.map (·.2)) bd g tg
  ht : ∀ (s : Shared) (H : Hp) (C : Addr) (cl : List (Str × Addr)) (fp : List Addr), JIfs (X.blk s H scope (compEnvC scope cl C X.env) fp) ifs tt es
  he : ∀ (s : Shared) (H : Hp) (C : Addr) (cl : List (Str × Addr)) (fp : List Addr), J (X.blk s H scope (compEnvC scope cl C X.env) fp) W0 elt e
theorem tLc_of {σ : L2.St} {H F : Hp} {γ : Ga} {ds ys : List D} {J : It} {S : List (Addr × HO)} {Q : VK} (b : Blk X scope own bd ifs elt g tt tg es e) (r : RS X.K F γ σ H) (gs : Goes X.K J F S ds) (hS : ∀ p ∈ S, H p.1 = some p.2)
    (o : lcGo bd ifs elt (wipeG γ (own.map (·.2))) ds = .ok ys) (hz : ys.length < sizeLine)
    (fin : ∀ a F' H', Nxt F H F' H' → H a = none → F' a = none → Own X.K F' H' (.lst ys) a → Q (.ref a) H') : ∀ D0, H D0 = none → ∃ Wi : Nat → Nat → Hp → Prop, (∃ m, Wi 0 m (upd H D0 (.lst []))) ∧ ∀ i m H, Wi i m H →
      (J.stop i H ∧ Q (.ref D0) H) ∨ (J.go i H ∧ ∃ Nx : Hp → Prop, (∀ H', Nx H' → ∃ m', m' < m ∧ Wi (i + 1) m' H') ∧ ∀ x H', J.yld i H x H' → g x (wipe σ (own.map (·.2))) H' fun σ2 H2 => wipe σ2 (own.map (·.2)) = wipe σ (own.map (·.2)) ∧ tt σ2 H2 fun b H3 =>
        if b = true then rdV X.K W0 elt σ2 H3 fun y H4 => ∃ acc, H4 D0 = some (.lst acc) ∧ acc.length < sizeLine ∧ Nx (upd H4 D0 (.lst (acc ++ [y]))) else Nx H3) := fun D0 hD =>
  lc_core (K := X.K) (fun {F γ γ' σ H d v Q} r p e q => (b.hg X.s_0 X.H_0 X.env.locals [] []).go r p e q) (fun {σ H F γ Q} r o => (b.ht X.s_0 X.H_0 X.env.locals [] []).go r o)
    (fun {σ H F γ Q} r o => ⟨F, γ, r, o⟩) gs hS r o hz hD fun F' H' n f0 ow => fin D0 F' H' n hD f0 ow
theorem jf_lcI (hc : X.calm = true) (hN : X.N.Nodup) (hi : JI X W it tg iter) (b : Blk X scope own bd ifs elt g tt tg es e) (hs : ∀ x, foldedSetIterable iter X.env x = pure x := by intro _; rfl) :
    JF X W (bLcI it (own.map (·.2)) bd ifs elt) (.ListComp e [⟨tg, iter, es, 0⟩] scope pos) := ⟨PE.imp (pe_lc hc hN hi.pi b.ok (fun s H C cl fp => (b.hg s H C cl fp).pg) (fun s H C cl fp => (b.ht s H C cl fp).pts) (fun s H C cl fp => (b.he s H C cl fp).pe) hs) fun σ H Q ⟨F, γ, r, o⟩ => by
  refine ⟨F, γ, r, ?_⟩
  unfold bLcI at o
  cases e1 : it γ with
  | ok ds =>
    simp only [e1, R.bind] at o
    intro J F' H' n gs
    cases e2 : lcOut bd ifs elt (own.map (·.2)) γ ds with
    | ok d =>
      rw [e2] at o
      obtain ⟨ys, rfl, h1, h2⟩ := lcOut_ok e2
      exact tLc_of b (r.next n) gs (fun _ h => nomatch h) h1 h2 fun a F2 H2 n2 ha f0 ow => PF.next (Q := Q) o n a F2 H2 n2 ha f0 ow
    | ex c => exact absurd e2 lcOut_ne
    | no => rw [e2] at o; exact o.elim
  | ex c => simp only [e1, R.bind] at o; exact o
  | no => simp only [e1, R.bind] at o; exact o⟩
/-- what a walked value asks, in an expression: unlocked at the end -/
theorem lcE_of {σ : L2.St} {H F : Hp} {γ : Ga} {Q : VK} (b : Blk X scope own bd ifs elt g tt tg es e) (r : RS X.K F γ σ H) (o : Out (PF X.K F H) F H (fun c H' => W c σ H') (bLcE fe (own.map (·.2)) bd ifs elt γ) Q) :
    tLc (rdE X W fe) g tt (rdV X.K W0 elt) (own.map (·.2)) σ H fun v => Ul X (Q v) := by
  refine ⟨F, γ, r, ?_⟩
  unfold bLcE at o
  cases e1 : fe γ with
  | ok d =>
    simp only [e1, R.bind] at o
    have simple : ∀ {ds : List D}, Out (PF X.K F H) F H (fun c H' => W c σ H') (lcOut bd ifs elt (own.map (·.2)) γ ds) Q → ∀ J F' H', Nxt F H F' H' → Goes X.K J F' [] ds → ∀ D0, H' D0 = none → ∃ Wi : Nat → Nat → Hp → Prop, (∃ m, Wi 0 m (upd H' D0 (.lst []))) ∧ ∀ i m H, Wi i m H →
      (J.stop i H ∧ Ul X (Q (.ref D0)) H) ∨ (J.go i H ∧ ∃ Nx : Hp → Prop, (∀ H', Nx H' → ∃ m', m' < m ∧ Wi (i + 1) m' H') ∧ ∀ x H', J.yld i H x H' → g x (wipe σ (own.map (·.2))) H' fun σ2 H2 => wipe σ2 (own.map (·.2)) = wipe σ (own.map (·.2)) ∧ tt σ2 H2 fun b H3 =>
        if b = true then rdV X.K W0 elt σ2 H3 fun y H4 => ∃ acc, H4 D0 = some (.lst acc) ∧ acc.length < sizeLine ∧ Nx (upd H4 D0 (.lst (acc ++ [y]))) else Nx H3) := fun {ds} o J F' H' n gs => by
      cases e2 : lcOut bd ifs elt (own.map (·.2)) γ ds with
      | ok d =>
        rw [e2] at o
        obtain ⟨ys, rfl, h1, h2⟩ := lcOut_ok e2
        exact tLc_of (Q := fun v => Ul X (Q v)) b (r.next n) gs (fun _ h => nomatch h) h1 h2 fun a F2 H2 n2 ha f0 ow => .inl (PF.next (Q := Q) o n a F2 H2 n2 ha f0 ow)
      | ex c => exact absurd e2 lcOut_ne
      | no => rw [e2] at o; exact o.elim
    cases d
    case non => exact o.elim
    case bl _ => exact o.elim
    case int _ => exact o.elim
    case str s => exact ⟨sgn s, rfl, simple o⟩
    case lst xs => exact ⟨xs, rfl, simple o⟩
    case tup xs => exact ⟨xs, rfl, simple o⟩
    case dic ks =>
      intro J F' H' d od kvs n hd gs
      have o : Out (PF X.K F H) F H (fun c H' => W c σ H') (lcOut bd ifs elt (own.map (·.2)) γ (keysD ks)) Q := o
      cases e2 : lcOut bd ifs elt (own.map (·.2)) γ (keysD ks) with
      | ok x =>
        rw [e2] at o
        obtain ⟨ys, rfl, h1, h2⟩ := lcOut_ok e2
        have r' := r.next n
        refine ⟨fun z hn => ?_, fun z => ?_⟩
        · -- locked by us
          have em : Emb F' (upd H' d (.frz od (.dK kvs))) := fun a o e => by
            by_cases q : a = d
            · subst q; rw [hd] at e; cases e; exact .inr ⟨od, kvs, rfl, upd_same⟩
            · rw [upd_ne q]; exact n.emb a o e
          have rl : RS X.K F' γ σ (upd H' d (.frz od (.dK kvs))) := by
            have ks : ∀ b u, F' b = none → H' b = some u → upd H' d (.frz od (.dK kvs)) b = some u := fun b u h1 h2 => by
              rw [upd_ne]
              · exact h2
              · rintro rfl; rw [h1] at hd; cases hd
            have bk : ∀ i s b, γ[i]? = some s → Inn (upd H' d (.frz od (.dK kvs))) s σ[i]? b → Inn H' s σ[i]? b := fun i s b e h => h.back (r'.sl i s e) fun b u h1 h2 => ks b u (h1.have (r'.sl i s e)).1 h2
            exact ⟨em, r'.len, fun i s e => (r'.sl i s e).keep (.refl _) fun b u _ h1 h2 => ⟨ks b u h1 h2, h1⟩, fun i j s s' b e1 e2 h1 h2 => r'.apart i j s s' b e1 e2 (bk _ _ b e1 h1) (bk _ _ b e2 h2)⟩
          refine tLc_of (Q := fun v => Ul X (Q v)) b rl gs (fun p hp => by rw [List.mem_singleton.mp hp]; exact upd_same) h1 h2 fun a F2 H2 n2 ha f0 ow => ?_
          have had : a ≠ d := fun q => by rw [q, upd_same] at ha; cases ha
          have hd2 : F2 d = some (.dK kvs) := n2.f _ _ hd
          refine .inr ⟨d, od, .dK kvs, n2.h _ _ upd_same, hn, ?_⟩
          rw [upd_ne had] at ha
          refine o a F2 _ ⟨n.f.trans n2.f, fun c u q => ?_, fun c u q => ?_, fun c u q => ?_⟩ (n.h.free ha) f0 (ow.next (.refl _) fun u q => by rw [upd_ne had]; exact q)
          · rcases n2.fn c u q with y | y
            · exact n.fn c u y
            · by_cases w : c = d
              · subst w; rw [upd_same] at y; cases y
              · rw [upd_ne w] at y; exact .inr (n.h.free y)
          · by_cases w : c = d
            · subst w; rw [hd2] at q; cases q; exact .inl upd_same
            · rw [upd_ne w]; exact n2.emb c u q
          · by_cases w : c = d
            · subst w
              have := n.h _ _ q
              rw [z] at this; cases this; exact upd_same
            · rw [upd_ne w]
              exact n2.h _ _ (by rw [upd_ne w]; exact n.h _ _ q)
        · exact tLc_of (Q := fun v => Ul X (Q v)) b r' gs (fun p hp => by rw [List.mem_singleton.mp hp]; exact z) h1 h2 fun a F2 H2 n2 ha f0 ow => .inl (PF.next (Q := Q) o n a F2 H2 n2 ha f0 ow)
      | ex c => exact absurd e2 lcOut_ne
      | no => rw [e2] at o; exact o.elim
  | ex c => simp only [e1, R.bind] at o; exact o
  | no => simp only [e1, R.bind] at o; exact o
theorem jf_lcE (hc : X.calm = true) (hN : X.N.Nodup) (he : J X W fe iter) (b : Blk X scope own bd ifs elt g tt tg es e) (hs : ∀ x, foldedSetIterable iter X.env x = pure x := by intro _; rfl) :
    JF X W (bLcE fe (own.map (·.2)) bd ifs elt) (.ListComp e [⟨tg, iter, es, 0⟩] scope pos) := ⟨PE.imp (pe_unl (pe_lc hc hN (pi_any he) b.ok (fun s H C cl fp => (b.hg s H C cl fp).pg) (fun s H C cl fp => (b.ht s H C cl fp).pts) (fun s H C cl fp => (b.he s H C cl fp).pe) hs)) fun σ H Q ⟨F, γ, r, o⟩ => lcE_of b r o⟩
/-- name = [..]: as a statement of its own -/
theorem js_lcI (i : Nat) {y : Str} {py : Pos} {spos : Pos} (hc : X.calm = true) (hN : X.N.Nodup) (hi : JI X W it tg iter) (b : Blk X scope own bd ifs elt g tt tg es e) (hy : X.N[i]? = some y := by rfl) (hyl : X.env.scope.names.lookup y = some .local := by rfl)
    (hsw : swapsWith (.ListComp e [⟨tg, iter, es, 0⟩] scope pos) (some (.Name y py)) spos.line X.env = pure true := by exact sw_true rfl rfl rfl (by decide +kernel)) (hs : ∀ x, foldedSetIterable iter X.env x = pure x := by intro _; rfl) :
    JS X W (fOwn i (bLcI it (own.map (·.2)) bd ifs elt)) (.Assign [.Name y py] (.ListComp e [⟨tg, iter, es, 0⟩] scope pos) spos) := ⟨PS.imp (ps_setLc hc hN hy hyl hsw hi.pi b.ok (fun s H C cl fp => (b.hg s H C cl fp).pg) (fun s H C cl fp => (b.ht s H C cl fp).pts) (fun s H C cl fp => (b.he s H C cl fp).pe) hs) fun E σ H ⟨B, F, γ, r, o⟩ => by
  refine ⟨F, γ, r.rs, ?_⟩
  unfold fOwn bLcI at o
  cases e1 : it γ with
  | ok ds =>
    simp only [e1, R.bind] at o
    intro J F' H' n gs
    cases e2 : lcOut bd ifs elt (own.map (·.2)) γ ds with
    | ok d =>
      rw [e2] at o
      obtain ⟨ys, rfl, h1, h2⟩ := lcOut_ok e2
      exact tLc_of (Q := fun x H1 => gName i x σ H1 E.nx) b (r.rs.next n) gs (fun _ h => nomatch h) h1 h2 fun a F2 H2 n2 ha f0 ow => o F2 _ H2 ((r.next n).own n2 i ha f0 ow)
    | ex c => exact absurd e2 lcOut_ne
    | no => rw [e2] at o; exact o.elim
  | ex c => simp only [e1, R.bind] at o; exact fun F' H' n => o σ F' H' (r.fi.next n)
  | no => simp only [e1, R.bind] at o; exact o⟩
theorem js_lcE (i : Nat) {y : Str} {py : Pos} {spos : Pos} (hc : X.calm = true) (hN : X.N.Nodup) (he : J X W fe iter) (b : Blk X scope own bd ifs elt g tt tg es e) (hy : X.N[i]? = some y := by rfl) (hyl : X.env.scope.names.lookup y = some .local := by rfl)
    (hsw : swapsWith (.ListComp e [⟨tg, iter, es, 0⟩] scope pos) (some (.Name y py)) spos.line X.env = pure true := by exact sw_true rfl rfl rfl (by decide +kernel)) (hs : ∀ x, foldedSetIterable iter X.env x = pure x := by intro _; rfl) :
    JS X W (fOwn i (bLcE fe (own.map (·.2)) bd ifs elt)) (.Assign [.Name y py] (.ListComp e [⟨tg, iter, es, 0⟩] scope pos) spos) := ⟨PS.imp (ps_unl (ps_setLc hc hN hy hyl hsw (pi_any he) b.ok (fun s H C cl fp => (b.hg s H C cl fp).pg) (fun s H C cl fp => (b.ht s H C cl fp).pts) (fun s H C cl fp => (b.he s H C cl fp).pe) hs)) fun E σ H ⟨B, F, γ, r, o⟩ => by
  refine lcE_of (fe := fe) (W := W) (F := F) (γ := γ) (Q := fun x H1 => gName i x σ H1 E.nx) b r.rs ?_
  unfold fOwn at o
  cases e1 : bLcE fe (own.map (·.2)) bd ifs elt γ with
  | ok d => rw [e1] at o; exact fun a F' H' n ha fa ow => o F' _ H' (r.own n i ha fa ow)
  | ex c => rw [e1] at o; exact fun F' H' n => o σ F' H' (r.fi.next n)
  | no => rw [e1] at o; exact o⟩
end
/-! ### own things changed -/
def putD (es : List (Tx × D)) (k : Tx) (d : D) : List (Tx × D) := if (es.any fun e => e.1 == k) = true then es.map (fun e => if (e.1 == k) = true then (e.1, d) else e) else es ++ [(k, d)]
theorem keyS_iff {k k' : Tx} : ((Sum.inr (toS k') : Key) = Sum.inr (toS k)) ↔ k' = k := ⟨fun z => toS_inj.mp (Sum.inr.inj z), fun z => by rw [z]⟩
theorem RepK.any_eq {K : PySem.W.Frag} {F : Hp} (k : Tx) {es : List (Tx × D)} {kvs : List (Key × V)} (h : RepK K F es kvs) : (kvs.any fun kv => decide (kv.1 = (Sum.inr (toS k) : Key))) = es.any fun e => e.1 == k := by
  induction es generalizing kvs with
  | nil => cases h; rfl
  | cons e es ih =>
    cases h with
    | cons h1 h2 =>
      rw [List.any_cons, List.any_cons, ih h2]
      congr 1
      rw [Bool.eq_iff_iff]
      simp [toS_inj]
theorem RepK.repl {K : PySem.W.Frag} {F : Hp} (k : Tx) {d : D} {v : V} (p : Rep K F d v) {es : List (Tx × D)} {kvs : List (Key × V)} (h : RepK K F es kvs) :
    RepK K F (es.map (fun e => if (e.1 == k) = true then (e.1, d) else e)) (kvs.map (fun kv => if kv.1 = (Sum.inr (toS k) : Key) then (kv.1, v) else kv)) := by
  induction es generalizing kvs with
  | nil => cases h; exact .nil
  | cons e es ih =>
    obtain ⟨k', d'⟩ := e
    cases h with
    | cons h1 h2 =>
      simp only [List.map_cons]
      by_cases q : k' = k
      · rw [if_pos (keyS_iff.mpr q), if_pos (by simpa using q)]; exact .cons p (ih h2)
      · rw [if_neg (fun z => q (keyS_iff.mp z)), if_neg (by simpa using q)]; exact .cons h1 (ih h2)
theorem RepK.snoc {K : PySem.W.Frag} {F : Hp} (k : Tx) {d : D} {v : V} (p : Rep K F d v) {es : List (Tx × D)} {kvs : List (Key × V)} (h : RepK K F es kvs) : RepK K F (es ++ [(k, d)]) (kvs ++ [(Sum.inr (toS k), v)]) := by
  induction es generalizing kvs with
  | nil => cases h; exact .cons p .nil
  | cons e es ih =>
    obtain ⟨k', d'⟩ := e
    cases h with
    | cons h1 h2 => exact .cons h1 (ih h2)
theorem RepK.put {K : PySem.W.Frag} {F : Hp} {es : List (Tx × D)} {kvs : List (Key × V)} (h : RepK K F es kvs) (k : Tx) {d : D} {v : V} (p : Rep K F d v) : RepK K F (putD es k d) (putK kvs (Sum.inr (toS k)) v) := by
  unfold putD putK
  rw [h.any_eq k]
  split
  · exact h.repl k p
  · exact h.snoc k p
theorem lim_lt : lim < sizeLine := by rw [sizeLine_eq]; decide
def owL (γ : Ga) (i : Nat) : Option (List D) := match γ[i]? with | some (.ow (.lst xs)) => some xs | _ => none
theorem owL_some {γ : Ga} {i : Nat} {xs : List D} (h : owL γ i = some xs) : γ[i]? = some (.ow (.lst xs)) := by
  unfold owL at h
  split at h
  · cases h; assumption
  · cases h
def fApp (i : Nat) (fe : Ga → R D) : Ga → R Fl := fun γ => match owL γ i with
  | some xs => (fe γ).bind fun d => if xs.length < lim then .ok (.nx (γ.set i (.ow (.lst (xs ++ [d]))))) else .no
  | none => .no
section
variable {X : Cx} {W : WN} {fe fk fv fa fb : Ga → R D} {e k a b : Expr} {pos apos cpos p1 p2 tpos : Pos}
theorem own_at {K : PySem.W.Frag} {B : Bs} {F H : Hp} {γ : Ga} {σ : L2.St} (r : RB K B F γ σ H) {i : Nat} {d : D} (e : γ[i]? = some (.ow d)) : ∃ a, σ[i]? = some (some (.ref a)) ∧ Own K F H d a := by
  obtain ⟨a, h1, _, h2⟩ := r.rs.sl i _ e
  exact ⟨a, h1, h2⟩
theorem js_app (i : Nat) {x : Str} (he : J X W fe e) (hN : X.N[i]? = some x := by rfl) (hv : Vis X.env.scope x := by first | exact Or.inl rfl | exact Or.inr (Or.inl rfl) | exact Or.inr (Or.inr rfl))
    (hb : attributeBase (.Name x p1) "append" X.env (eval (.Name x p1) X.env) = eval (.Name x p1) X.env := by rfl)
    (hfew : ((backTo cpos (starEach [e] X.env)).all (fun x => !x.1) && (backToKw cpos (keywordEach [] X.env)).all (fun x => x.1.isSome) && decide (([e] : List Expr).length + ([] : List Keyword).length + (if ([] : List Keyword).isEmpty then 0 else 1) < 30)) = true := by rfl)
    (hline : (apos.endLine == cpos.line) = true := by rfl) (hs : starEach [e] X.env = (false, eval e X.env) :: starEach [] X.env := by rfl)
    (hw : swapsWith (.Call (.Attribute (.Name x p1) "append" apos) [e] [] cpos) none pos.line X.env = pure false := by rfl)
    (hd : (x == ("__debug__" : Str)) = false := by decide) (hcd : (x == ("__classdict__" : Str)) = false := by decide) :
    JS X W (fApp i fe) (.Expr (.Call (.Attribute (.Name x p1) "append" apos) [e] [] cpos) pos) :=
  ⟨PS.imp (ps_expr (pe_bm PySem.F.plainAttrs_list PySem.F.slot_list_append PySem.F.type_list_append mt_append (pe_var hN hv hd hcd) (pa_cons he.pe pa_nil hs) hb hfew hline hs rfl) hw) fun E σ H ⟨B, F, γ, r, o⟩ => by
    unfold fApp at o
    cases e0 : owL γ i with
    | none => rw [e0] at o; exact o.elim
    | some xs =>
      rw [e0] at o
      have e1 := owL_some e0
      obtain ⟨a, h1, vs, h2, rp⟩ := own_at r e1
      refine ⟨_, h1, .inl ⟨rfl, _, .inl (.inl h2)⟩, ?_⟩
      refine ex_of r o fun d v F1 H1 n1 r1 p1 o1 => ?_
      split at o1
      · rename_i hl
        have h3 := n1.h _ _ h2
        have rp1 := rp.mono n1.f
        exact ⟨a, vs, v, rfl, rfl, h3, by rw [← rp.length]; exact Nat.lt_trans hl lim_lt, o1 F1 σ _ (r1.change e1 h1 ⟨_, upd_same, rp1.append (.cons p1 .nil)⟩)⟩
      · exact o1.elim⟩
end
/-! ### dicts -/
section
variable {X : Cx} {W : WN} {fe fk fv fa fb fc : Ga → R D} {e k a b c : Expr} {pos apos cpos p1 p2 tpos : Pos}
theorem jf_dic0 : JF X W (bC (.dic [])) (.Dict [] [] pos) := ⟨PE.imp pe_dnewK fun σ H Q ⟨F, γ, r, o⟩ => fun p hp => by
  exact o p F _ (.laid r.emb hp _) hp (r.emb.free hp) ⟨[], upd_same, .nil⟩⟩
def bGet (fa fb fc : Ga → R D) : Ga → R D := fun γ => (fa γ).bind fun x => match x with
  | .dic es => (fb γ).bind fun y => (fc γ).bind fun z => match y with
    | .str k => .ok ((lookK es k).getD z)
    | _ => .no
  | _ => .no
theorem j_get (hu : X.A.units + 1 < cLine) (ha : JR X W fa a) (hb : J X W fb b) (hc : J X W fc c) (m : M2 X a "get" apos b c cpos := by exact ⟨rfl, rfl, rfl, rfl⟩) : J X W (bGet fa fb fc) (.Call (.Attribute a "get" apos) [b, c] [] cpos) :=
  ⟨PE.imp (pe_dget2 hu ha.pe hb.pe hc.pe m) fun σ H Q ⟨F, γ, r, o⟩ => by
    refine go1 (Z := fun z => Out (PV X.K F H) F H (fun c H' => W c σ H') z Q) r o (fun _ z => z) (fun z => z) fun dx x F1 H1 n1 r1 p1 o1 => ?_
    cases dx <;> first | exact o1.elim | skip
    rename_i es
    obtain ⟨d, kvs, rfl, s1, q1⟩ := p1.dic r1.emb
    refine ⟨d, rfl, .inl ⟨kvs, s1⟩, ?_⟩
    refine go1v (Z := fun z => Out (PV X.K F H) F H (fun c H' => W c σ H') z Q) r1 o1 (fun _ z F' H' n => z F' H' (n1.trans n)) (fun z => z) fun dy y F2 H2 n2 r2 p2 o2 => ?_
    refine go1v (Z := fun z => Out (PV X.K F H) F H (fun c H' => W c σ H') z Q) r2 o2 (fun _ z F' H' n => z F' H' ((n1.trans n2).trans n)) (fun z => z) fun dz z F3 H3 n3 r3 p3 o3 => ?_
    cases dy <;> first | exact o3.elim | skip
    rename_i s
    cases p2
    obtain ⟨d', kvs', e', s3, q3⟩ := ((p1.next n2).next n3).dic r3.emb
    cases e'
    refine ⟨_, .inl ⟨kvs', .inr (toS s), s3, rfl, rfl⟩, ?_⟩
    have q := PV.next (Q := Q) o3 ((n1.trans n2).trans n3)
    rcases q3.look s with ⟨z1, z2⟩ | ⟨d1, v1, z1, z2, z3⟩
    · rw [z2]; rw [z1] at q; exact q.here r3.emb p3
    · rw [z2]; rw [z1] at q; exact q.here r3.emb z3⟩
end
/-! ### in -/
/-- s stands somewhere in t -/
def subT (s t : Tx) : Bool := (List.range (t.length + 1)).any fun i => decide (i + s.length ≤ t.length) && ((t.drop i).take s.length == s)
theorem sub_occ (s t : Tx) : (!(Builtin.Str.occurrences (toS t) (toS s) 0 (toS t).length 1).isEmpty) = subT s t := by
  rw [Bool.eq_iff_iff, PySem.StrLaws.found_iff]
  unfold subT
  rw [List.any_eq_true]
  simp only [toS_len, PySem.StrLaws.subAt_eq]
  constructor
  · rintro ⟨i, h1, h2⟩
    exact ⟨i, List.mem_range.mpr (by omega), by simpa using ⟨h1, by simpa [toS] using h2⟩⟩
  · rintro ⟨i, _, h⟩
    rw [Bool.and_eq_true, decide_eq_true_iff] at h
    exact ⟨i, h.1, by simpa [toS] using h.2⟩
def flatD : D → Bool
  | .non => true
  | .bl _ => true
  | .int _ => true
  | .str s => s.all (· < 0x110000)
  | _ => false
def dInB : D → D → R Bool
  | .str s, .str t => .ok (subT s t)
  | .str k, .dic es => .ok (lookK es k).isSome
  | x, .lst xs => if pl 20 x = true ∧ pl 20 (.lst xs) = true then .ok (xs.any fun z => eqv 20 z x) else .no
  | x, .tup xs => if flatD x = true ∧ xs.all flatD = true then .ok (xs.any fun z => eqv 20 z x) else .no
  | _, _ => .no
def dIn (x y : D) : R D := (dInB x y).bind fun b => .ok (.bl b)
def dNotIn (x y : D) : R D := (dInB x y).bind fun b => .ok (.bl (!b))
theorem dInB_ne : ∀ x y c, dInB x y ≠ .ex c := fun x y c => by
  unfold dInB
  split <;> first | (intro h; cases h; done) | (split <;> intro h <;> cases h)
theorem toP_succ : ∀ (n : Nat) (d : D), pl n d = true → toP (n + 1) d = toP n d := by
  intro n
  induction n with
  | zero => intro d h; cases d <;> first | rfl | (cases h; done)
  | succ n ih =>
    intro d h
    cases d <;> first | rfl | (cases h; done) | skip
    · simp only [toP, PyData.list.injEq]
      refine List.map_congr_left fun x hx => ih x (List.all_eq_true.mp h x hx)
    · simp only [toP, PyData.tuple.injEq]
      refine List.map_congr_left fun x hx => ih x (List.all_eq_true.mp h x hx)
theorem pl_succ : ∀ (n : Nat) (d : D), pl n d = true → pl (n + 1) d = true := by
  intro n
  induction n with
  | zero => intro d h; cases d <;> first | rfl | exact h | (cases h; done)
  | succ n ih =>
    intro d h
    cases d <;> first | rfl | exact h | (cases h; done) | skip
    · exact List.all_eq_true.mpr fun x hx => ih x (List.all_eq_true.mp h x hx)
    · exact List.all_eq_true.mpr fun x hx => ih x (List.all_eq_true.mp h x hx)
theorem flat_v {K : PySem.W.Frag} {F H : Hp} {d : D} {v : V} (h : flatD d = true) (r : Rep1 K F H d v) : flatV v = true := by
  cases d <;> first | (cases h; done) | skip
  · cases r.non; rfl
  · cases r.bl; rfl
  · cases r.int; rfl
  · cases r.str; rfl
theorem eqV_of {K : PySem.W.Frag} {F H : Hp} {d e : D} {v u : V} (h : flatD d = true) (h2 : flatD e = true) (r : Rep1 K F H d v) (r2 : Rep1 K F H e u) : eqV v u = eqv 20 d e := by
  cases d <;> first | (cases h; done) | skip
  · cases r.non
    cases e <;> first | (cases h2; done) | skip
    · cases r2.non; rfl
    · cases r2.bl; rfl
    · cases r2.int; rfl
    · cases r2.str; rfl
  · cases r.bl
    cases e <;> first | (cases h2; done) | skip
    · cases r2.non; rfl
    · cases r2.bl; rfl
    · cases r2.int; rfl
    · cases r2.str; rfl
  · cases r.int
    cases e <;> first | (cases h2; done) | skip
    · cases r2.non; rfl
    · cases r2.bl; rfl
    · cases r2.int; rfl
    · cases r2.str; rfl
  · cases r.str
    cases e <;> first | (cases h2; done) | skip
    · cases r2.non; rfl
    · cases r2.bl; rfl
    · cases r2.int; rfl
    · cases r2.str; exact toS_beq _ _
theorem inV_of {K : PySem.W.Frag} {F H : Hp} {x : D} {v : V} (h : flatD x = true) (r : Rep1 K F H x v) : ∀ {xs : List D} {vs : List V}, xs.all flatD = true → Reps K F xs vs → inV v vs = xs.any (fun z => eqv 20 z x) ∧ vs.all flatV = true := by
  intro xs
  induction xs with
  | nil => intro vs _ q; cases q; exact ⟨rfl, rfl⟩
  | cons y ys ih =>
    intro vs ha q
    rw [List.all_cons, Bool.and_eq_true] at ha
    cases q with
    | cons q1 q2 =>
      obtain ⟨a, b⟩ := ih ha.2 q2
      refine ⟨?_, by rw [List.all_cons, flat_v (H := H) ha.1 (.inl q1), b]; rfl⟩
      unfold inV at a ⊢
      rw [List.any_cons, List.any_cons, a, eqV_of ha.1 h (.inl q1) r]
theorem in_run {X : Cx} {pins : List (Addr × Obj)} {s : Shared} {σ : L2.St} {H : Hp} {x y : V} {v u : Value} {F : Hp} {dx dy : D} {b : Bool} (hu : X.A.units + 65 < cLine) (neg : Bool) {Q : VK} (I : Inv X pins σ H s) (rx : RelV x v) (ry : RelV y u) (e : Emb F H) (r1 : Rep1 X.K F H dx x) (r2 : Rep1 X.K F H dy y)
    (hg : dInB dx dy = .ok b) (q : Q (.bl (if neg then !b else b)) H) : wpAny (model X.prog X.w) X.A (compareOp (if neg then .NotIn else .In) v u) (EP X pins σ Q) X.xe s := by
  unfold dInB at hg
  split at hg
  · rename_i s1 t1
    cases hg
    rw [← sub_occ] at q
    cases neg with
    | true => exact op_notin_str pins s σ H x y v u Q I rx ry ⟨_, _, r1.str, r2.str, q⟩
    | false => exact op_in_str pins s σ H x y v u Q I rx ry ⟨_, _, r1.str, r2.str, q⟩
  · rename_i k es
    cases hg
    obtain ⟨a, kvs, rfl, s1, p1⟩ := r2.dic e
    cases ry
    have ex := r1.str
    subst ex
    have hl : (lookK es k).isSome = (valV kvs (Sum.inr (toS k) : Key)).isSome := by
      rcases p1.look k with ⟨z1, z2⟩ | ⟨d1, v1, z1, z2, z3⟩
      · rw [z1, z2]; rfl
      · rw [z1, z2]; rfl
    rw [hl] at q
    have g : DGet H a (.str (toS k)) (valV kvs (Sum.inr (toS k) : Key)) := .inl ⟨kvs, .inr (toS k), s1, rfl, rfl⟩
    cases neg with
    | true => exact d_notIn (by omega) I g rx fun s3 I3 => ⟨.bl (!(valV kvs (Sum.inr (toS k) : Key)).isSome), H, I3, rfl, q⟩
    | false => exact d_in (by omega) I g rx fun s3 I3 => ⟨.bl (valV kvs (Sum.inr (toS k) : Key)).isSome, H, I3, rfl, q⟩
  · rename_i _ _ xs
    split at hg
    · rename_i hp
      cases hg
      have ha : xs.all (pl 19) = true := hp.2
      have e1 : ∀ z ∈ xs, PyData.eqv (toP 19 z) (toP 20 dx) = eqv 20 z dx := fun z hz => by
        have hz' := List.all_eq_true.mp ha z hz
        rw [← toP_succ 19 z hz', eqv_toP 20 z dx (pl_succ 19 z hz') hp.1]
      have e2 : ((xs.map (toP 19)).any fun z => PyData.eqv z (toP 20 dx)) = xs.any fun z => eqv 20 z dx := by
        rw [List.any_map]
        clear q r2 hp ha
        induction xs with
        | nil => rfl
        | cons z zs ih =>
          rw [List.any_cons, List.any_cons, ih (fun z hz => e1 z (List.mem_cons_of_mem _ hz))]
          congr 1
          exact e1 z List.mem_cons_self
      have d1 := dp_of1 e hp.1 r1
      have d2 := dp_of1 e hp.2 r2
      rw [← e2] at q
      cases neg with
      | true => exact op_notInD hu pins s σ H x y v u Q I rx ry ⟨_, _, d1, d2, toP_shaped hp.1, toP_shaped hp.2, q⟩
      | false => exact op_inD hu pins s σ H x y v u Q I rx ry ⟨_, _, d1, d2, toP_shaped hp.1, toP_shaped hp.2, q⟩
    · cases hg
  · rename_i _ _ xs
    split at hg
    · rename_i hp
      cases hg
      obtain ⟨a, vs, rfl, s1, p1⟩ := r2.tup e
      obtain ⟨i1, i2⟩ := inV_of hp.1 r1 hp.2 p1
      rw [← i1] at q
      cases neg with
      | true => exact op_notIn_seq pins s σ H x _ v u Q I rx ry ⟨a, vs, rfl, .inr s1, flat_v hp.1 r1, i2, q⟩
      | false => exact op_in_seq pins s σ H x _ v u Q I rx ry ⟨a, vs, rfl, .inr s1, flat_v hp.1 r1, i2, q⟩
    · cases hg
  · cases hg
theorem o_in {X : Cx} (hu : X.A.units + 65 < cLine) : OpD X (compareOp .In) dIn := by
  refine ⟨fun pins s σ H x y v u Q I rx ry ⟨F, dx, dy, d, e, r1, r2, hg, q⟩ => ?_, fun x y c => ?_⟩
  · unfold dIn at hg
    cases e1 : dInB dx dy with
    | ok b => rw [e1] at hg; cases hg; exact in_run hu false I rx ry e r1 r2 e1 (q.here e (.bl _))
    | ex c => exact absurd e1 (dInB_ne _ _ _)
    | no => rw [e1] at hg; cases hg
  · unfold dIn
    cases e1 : dInB x y with
    | ok b => intro h; cases h
    | ex c => exact absurd e1 (dInB_ne _ _ _)
    | no => intro h; cases h
theorem o_notin {X : Cx} (hu : X.A.units + 65 < cLine) : OpD X (compareOp .NotIn) dNotIn := by
  refine ⟨fun pins s σ H x y v u Q I rx ry ⟨F, dx, dy, d, e, r1, r2, hg, q⟩ => ?_, fun x y c => ?_⟩
  · unfold dNotIn at hg
    cases e1 : dInB dx dy with
    | ok b => rw [e1] at hg; cases hg; exact in_run hu true I rx ry e r1 r2 e1 (q.here e (.bl _))
    | ex c => exact absurd e1 (dInB_ne _ _ _)
    | no => rw [e1] at hg; cases hg
  · unfold dNotIn
    cases e1 : dInB x y with
    | ok b => intro h; cases h
    | ex c => exact absurd e1 (dInB_ne _ _ _)
    | no => intro h; cases h
/-! ### methods of texts -/
section
variable {X : Cx} {W : WN} {fa fb : Ga → R D} {a b : Expr} {cpos apos : Pos}
def b2s (g : Tx → D → R D) (fa fb : Ga → R D) : Ga → R D := fun γ => (fa γ).bind fun x => match x with
  | .str s => (fb γ).bind fun y => g s y
  | _ => .no
theorem j_m1 {id : String} {name : Str} {g : Tx → D → R D} (slot : Slot "str" name id) (ty : typeOf (.builtin id) = pure (.type "method_descriptor"))
    (rule : MtR X id (fun x xs H Q => ∃ F s dy y d, x = .str (toS s) ∧ xs = [y] ∧ Emb F H ∧ Rep1 X.K F H dy y ∧ g s dy = .ok d ∧ PV X.K F H d Q)) (ne : ∀ s y c, g s y ≠ .ex c) (ha : JR X W fa a) (hb : JR X W fb b)
    (hs : starEach [b] X.env = [(false, eval b X.env)] := by rfl) (hbase : attributeBase a name X.env (eval a X.env) = eval a X.env := by rfl) (hline : (apos.endLine == cpos.line) = true := by rfl) : J X W (b2s g fa fb) (.Call (.Attribute a name apos) [b] [] cpos) :=
  ⟨PE.imp (pe_m1 slot ty rule ha.pe hb.pe hs hbase hline) fun σ H Q ⟨F, γ, r, o⟩ => by
    refine go1 (Z := fun z => Out (PV X.K F H) F H (fun c H' => W c σ H') z Q) r o (fun _ z => z) (fun z => z) fun dx x F1 H1 n1 r1 p1 o1 => ?_
    cases dx <;> first | exact o1.elim | skip
    rename_i z
    refine ⟨⟨_, p1.str⟩, ?_⟩
    refine go1 (Z := fun z => Out (PV X.K F H) F H (fun c H' => W c σ H') z Q) r1 o1 (fun _ z F' H' n => z F' H' (n1.trans n)) (fun z => z) fun dy y F2 H2 n2 r2 p2 o2 => ?_
    cases e : g z dy with
    | ok d => rw [e] at o2; exact ⟨F2, z, dy, y, d, p1.str, rfl, r2.emb, p2, e, PV.next (Q := Q) o2 (n1.trans n2)⟩
    | ex c => exact absurd e (ne _ _ _)
    | no => rw [e] at o2; exact o2.elim⟩
def dSw : Tx → D → R D
  | s, .str t => .ok (.bl (decide (t.length ≤ s.length) && (s.take t.length == t)))
  | _, _ => .no
def dEw : Tx → D → R D
  | s, .str t => .ok (.bl (decide (t.length ≤ s.length) && (s.drop (s.length - t.length) == t)))
  | _, _ => .no
theorem j_sw (ha : JR X W fa a) (hb : JR X W fb b) (hs : starEach [b] X.env = [(false, eval b X.env)] := by rfl) (hbase : attributeBase a "startswith" X.env (eval a X.env) = eval a X.env := by rfl) (hline : (apos.endLine == cpos.line) = true := by rfl) :
    J X W (b2s dSw fa fb) (.Call (.Attribute a "startswith" apos) [b] [] cpos) :=
  j_m1 PySem.F.slot_str_startswith PySem.F.type_str_startswith (fun pins s σ H x xs v us Q I rx rs ⟨F, z, dy, y, d, e1, e2, e, r2, hg, q⟩ => by
    cases dy <;> first | (cases hg; done) | skip
    cases hg
    refine mt_startswith pins s σ H x xs v us Q I rx rs ⟨_, _, e1, by rw [e2, r2.str], ?_⟩
    have : Txt.startswith (toS z) (toS ‹Tx›) = (decide ((‹Tx› : Tx).length ≤ z.length) && (z.take (‹Tx› : Tx).length == ‹Tx›)) := by
      unfold Txt.startswith
      rw [PySem.StrLaws.subAt_eq, toS_len, toS_len, Nat.zero_add]
      rfl
    rw [this]
    exact q.here e (.bl _)) (fun s y c => by cases y <;> intro h <;> cases h) ha hb hs hbase hline
theorem j_ew (ha : JR X W fa a) (hb : JR X W fb b) (hs : starEach [b] X.env = [(false, eval b X.env)] := by rfl) (hbase : attributeBase a "endswith" X.env (eval a X.env) = eval a X.env := by rfl) (hline : (apos.endLine == cpos.line) = true := by rfl) :
    J X W (b2s dEw fa fb) (.Call (.Attribute a "endswith" apos) [b] [] cpos) :=
  j_m1 PySem.F.slot_str_endswith PySem.F.type_str_endswith (fun pins s σ H x xs v us Q I rx rs ⟨F, z, dy, y, d, e1, e2, e, r2, hg, q⟩ => by
    cases dy <;> first | (cases hg; done) | skip
    rename_i t
    cases hg
    refine mt_endswith pins s σ H x xs v us Q I rx rs ⟨_, _, e1, by rw [e2, r2.str], ?_⟩
    have : Txt.endswith (toS z) (toS t) = (decide (t.length ≤ z.length) && (z.drop (z.length - t.length) == t)) := by
      unfold Txt.endswith
      rw [PySem.StrLaws.subAt_eq, toS_len, toS_len, Nat.zero_add]
      by_cases h : t.length ≤ z.length
      · congr 2
        show ((z.drop (z.length - t.length)).take t.length) = _
        rw [List.take_of_length_le]
        rw [List.length_drop]; omega
      · simp [h]
    rw [this]
    exact q.here e (.bl _)) (fun s y c => by cases y <;> intro h <;> cases h) ha hb hs hbase hline
/-- sep.join -/
def joinT (s : Tx) : List Tx → Tx
  | [] => []
  | [x] => x
  | x :: y :: r => x ++ (s ++ joinT s (y :: r))
def dJoin : Tx → D → R D
  | s, .lst xs => (o2r (asTxs xs)).bind fun ts => if (ts.map (·.length)).sum + ts.length * s.length ≤ lim then .ok (.str (joinT s ts)) else .no
  | _, _ => .no
theorem joinT_eq (s : Tx) : ∀ ts : List Tx, Str.join (toS s) (ts.map toS) = toS (joinT s ts) := by
  intro ts
  apply TL.ext_tl
  rw [TL.tl_join]
  have e : (ts.map toS).map TL.tl = ts := by
    rw [List.map_map]
    have : (TL.tl ∘ toS) = id := by funext y; simp [TL.tl, toS]
    rw [this, List.map_id]
  rw [e]
  show TL.joinL s ts = joinT s ts
  clear e
  induction ts with
  | nil => rfl
  | cons x r ih =>
    cases r with
    | nil => simp [TL.joinL, joinT]
    | cons y r => simp only [TL.joinL, joinT] at ih ⊢; rw [ih]
theorem j_join (ha : JR X W fa a) (hb : JR X W fb b) (hs : starEach [b] X.env = [(false, eval b X.env)] := by rfl) (hbase : attributeBase a "join" X.env (eval a X.env) = eval a X.env := by rfl) (hline : (apos.endLine == cpos.line) = true := by rfl) :
    J X W (b2s dJoin fa fb) (.Call (.Attribute a "join" apos) [b] [] cpos) :=
  j_m1 PySem.F.slot_str_join PySem.F.type_str_join (fun pins s σ H x xs v us Q I rx rs ⟨F, z, dy, y, d, e1, e2, e, r2, hg, q⟩ => by
    cases dy <;> first | (cases hg; done) | skip
    rename_i ts
    simp only [dJoin, o2r] at hg
    split at hg
    · rename_i ks hk
      have := asTxs_of hk
      subst this
      simp only [R.bind] at hg
      split at hg
      · rename_i hl
        cases hg
        obtain ⟨p, vs, rfl, s1, p1⟩ := r2.lst e
        rw [p1.txs] at s1
        refine mt_join pins s σ H x xs v us Q I rx rs ⟨_, p, _, e1, e2, .inl s1, ?_, ?_⟩
        · have hm : (List.map (fun x => x.length) (ks.map toS)) = ks.map (·.length) := by rw [List.map_map]; exact List.map_congr_left fun k _ => toS_len k
          rw [hm, List.length_map, toS_len]
          unfold lim at hl; omega
        · rw [TL.join_eq, joinT_eq]; exact q.here e (.str _)
      · cases hg
    · cases hg) (fun s y c => by
      cases y <;> simp only [dJoin, o2r] <;> first | (intro h; cases h; done) | skip
      split <;> simp only [R.bind] <;> first | (intro h; cases h; done) | (split <;> intro h <;> cases h)) ha hb hs hbase hline
end
end KN
/-! KnI: constants of the module, dict(), tuples backwards -/
namespace KN
open PySem PySem.Spec PyProof.Rows L2
theorem hu65_of {A : Around} {k : Nat} (hr : Room k A) : A.units + 65 < cLine := by have := hr.un; omega
theorem takes_W0 {X : Cx} {cl : Cl} : Takes X (VW cl W0) := takes0.imp fun c d σ H ⟨_, _, _, h⟩ => h
section
variable {X : Cx} {W : WN} {f fa fb fc : Ga → R D} {a b c e : Expr} {pos : Pos}
theorem j_globI {x : Str} {i : Int} (hm : ∃ t, X.mg x = some (.int i t)) (hg : Gl X x := by rfl) (hd : (x == ("__debug__" : Str)) = false := by decide) : J X W (bC (.int i)) (.Name x pos) := by
  obtain ⟨t, hm⟩ := hm
  exact j_glob (v := .int i) hg hm ⟨t, rfl⟩ (fun _ => .int i) hd
theorem j_globS {x : Str} {s : Tx} (hm : ∃ t, X.mg x = some (.str (toS s) t)) (hg : Gl X x := by rfl) (hd : (x == ("__debug__" : Str)) = false := by decide) : J X W (bC (.str s)) (.Name x pos) := by
  obtain ⟨t, hm⟩ := hm
  exact j_glob (v := .str (toS s)) hg hm ⟨t, rfl⟩ (fun _ => .str s) hd
end
/-! ### dict of a list of pairs -/
def asPrs : List D → Option (List (Tx × D))
  | [] => some []
  | .tup [.str k, d] :: xs => (asPrs xs).map ((k, d) :: ·)
  | _ :: _ => none
@[simp] theorem asPrs_map (ps : List (Tx × D)) : asPrs (ps.map fun p => D.tup [.str p.1, p.2]) = some ps := by
  induction ps with
  | nil => rfl
  | cons p ps ih => simp [asPrs, ih]
/-! ### t[::-1] -/
end KN
/-! KnJ: dicts of dicts -/
namespace KN
open PySem PySem.Spec PyProof.Rows L2
abbrev Tb := List (Tx × List (Tx × D))
def lookN : Tb → Tx → Option (List (Tx × D))
  | [], _ => none
  | (k, r) :: es, x => if k = x then some r else lookN es x
def putN : Tb → Tx → List (Tx × D) → Tb
  | [], x, r => [(x, r)]
  | (k, r0) :: es, x, r => if k = x then (k, r) :: es else (k, r0) :: putN es x r
theorem putK_mem {kvs : List (Key × V)} {k : Key} {v : V} {p : Key × V} (h : p ∈ putK kvs k v) : p ∈ kvs ∨ p = (k, v) := by
  unfold putK at h
  split at h
  · obtain ⟨q, hq, e⟩ := List.mem_map.mp h
    split at e
    · rename_i z; subst e; right; rw [← z]
    · subst e; exact .inl hq
  · rcases List.mem_append.mp h with h | h
    · exact .inl h
    · exact .inr (List.mem_singleton.mp h)
theorem putK_pos {kvs : List (Key × V)} {k : Key} {v v0 : V} (h : ∀ p ∈ kvs, p.1 ≠ k) : putK ((k, v0) :: kvs) k v = (k, v) :: kvs := by
  unfold putK
  have : (((k, v0) :: kvs).any fun kv => decide (kv.1 = k)) = true := by simp
  rw [if_pos this, List.map_cons, if_pos rfl]
  congr 1
  conv => rhs; rw [← List.map_id kvs]
  exact List.map_congr_left fun p hp => by rw [if_neg (h p hp)]; rfl
theorem putK_neg {kvs : List (Key × V)} {k k' : Key} {v v0 : V} (h : k' ≠ k) : putK ((k', v0) :: kvs) k v = (k', v0) :: putK kvs k v := by
  unfold putK
  rw [List.any_cons]
  have : decide (k' = k) = false := decide_eq_false h
  simp only [this, Bool.false_or]
  split
  · rw [List.map_cons, if_neg h]
  · rfl
section
variable {K : PySem.W.Frag} {F H : Hp} {a : Addr}
theorem OwK.look (c : Tx) : ∀ {es : Tb} {kvs : List (Key × V)}, OwK K F H a es kvs →
    (lookN es c = none ∧ valV kvs (Sum.inr (toS c)) = none) ∨ ∃ row r kv, lookN es c = some row ∧ valV kvs (Sum.inr (toS c)) = some (.ref r) ∧ r ≠ a ∧ F r = none ∧ H r = some (.dK kv) ∧ RepK K F row kv ∧ ((Sum.inr (toS c) : Key), V.ref r) ∈ kvs
  | [], [], _ => .inl ⟨rfl, rfl⟩
  | (k, row) :: es, (k', v) :: kvs, ⟨e, ⟨r, kv, e1, e2, e3, e4, e5, e6⟩, o⟩ => by
    subst e1
    subst e
    by_cases q : k = c
    · subst q
      exact .inr ⟨row, r, kv, by simp [lookN], valV_pos rfl, e2, e3, e4, e5, List.mem_cons_self⟩
    · have q' : ¬ (Sum.inr (toS k) : Key) = Sum.inr (toS c) := fun z => q (keyS_iff.mp z)
      rcases o.look c with ⟨h1, h2⟩ | ⟨row', r', kv', h1, h2, h3, h4, h5, h6, h7⟩
      · exact .inl ⟨by rw [lookN, if_neg q]; exact h1, by rw [valV_neg q']; exact h2⟩
      · exact .inr ⟨row', r', kv', by rw [lookN, if_neg q]; exact h1, by rw [valV_neg q']; exact h2, h3, h4, h5, h6, List.mem_cons_of_mem _ h7⟩
  | [], _ :: _, h => h.elim
  | _ :: _, [], h => h.elim
theorem OwK.len : ∀ {es : Tb} {kvs : List (Key × V)}, OwK K F H a es kvs → es.length = kvs.length
  | [], [], _ => rfl
  | (k, row) :: es, (k', v) :: kvs, ⟨e, _, o⟩ => by simp [o.len]
  | [], _ :: _, h => h.elim
  | _ :: _, [], h => h.elim
theorem mem_of_val {kvs : List (Key × V)} {k : Key} {v : V} (h : valV kvs k = some v) : ∃ p ∈ kvs, p.2 = v := by
  unfold valV at h
  cases e : kvs.find? fun kv => decide (kv.1 = k) with
  | none => rw [e] at h; cases h
  | some p => rw [e] at h; cases h; exact ⟨p, List.mem_of_find?_eq_some e, rfl⟩
theorem OwK.put {F2 H2 : Hp} (c : Tx) {row : List (Tx × D)} {q : Addr} {kv : List (Key × V)} (f : Same F F2) (q1 : q ≠ a) (q2 : F2 q = none) (q3 : H2 q = some (.dK kv)) (q4 : RepK K F2 row kv) : ∀ {es : Tb} {kvs : List (Key × V)}, OwK K F H a es kvs →
    (∀ k b u, (k, V.ref b) ∈ kvs → b ≠ q → F b = none → H b = some u → H2 b = some u ∧ F2 b = none) →
    (valV kvs (Sum.inr (toS c)) = some (.ref q) ∨ (valV kvs (Sum.inr (toS c)) = none ∧ ∀ p ∈ kvs, p.2 ≠ .ref q)) → OwK K F2 H2 a (putN es c row) (putK kvs (Sum.inr (toS c)) (.ref q))
  | [], [], _, _, h => ⟨rfl, ⟨q, kv, rfl, q1, q2, q3, q4, fun p hp => nomatch hp⟩, trivial⟩
  | (k, row0) :: es, (k', v) :: kvs, ⟨e, ⟨r, kv0, e1, e2, e3, e4, e5, e6⟩, o⟩, keep, h => by
    subst e1
    subst e
    by_cases z : k = c
    · subst z
      have hv : valV ((Sum.inr (toS k), V.ref r) :: kvs) (Sum.inr (toS k)) = some (.ref r) := valV_pos rfl
      have hq : r = q := by
        rcases h with h | ⟨h, _⟩
        · rw [hv] at h; cases h; rfl
        · rw [hv] at h; cases h
      subst hq
      rw [putK_pos fun p hp => (e6 p hp).1]
      have : putN ((k, row0) :: es) k row = (k, row) :: es := by simp [putN]
      rw [this]
      refine ⟨rfl, ⟨r, kv, rfl, q1, q2, q3, q4, e6⟩, o.next f fun k' b u m h1 h2 => keep k' b u (List.mem_cons_of_mem _ m) ?_ h1 h2⟩
      rintro rfl
      exact (e6 _ m).2 rfl
    · have z' : ¬ (Sum.inr (toS k) : Key) = Sum.inr (toS c) := fun y => z (keyS_iff.mp y)
      rw [putK_neg z']
      have : putN ((k, row0) :: es) c row = (k, row0) :: putN es c row := by simp [putN, z]
      rw [this]
      rw [valV_neg z'] at h
      have rq : r ≠ q := by
        rintro rfl
        rcases h with h | ⟨_, h⟩
        · obtain ⟨i, hi, he⟩ := mem_of_val h
          exact (e6 _ hi).2 he
        · exact h _ List.mem_cons_self rfl
      obtain ⟨y1, y2⟩ := keep _ r _ List.mem_cons_self rq e3 e4
      refine ⟨rfl, ⟨r, kv0, rfl, e2, y2, y1, e5.mono f, fun p hp => ?_⟩, o.put c f q1 q2 q3 q4 (fun k' b u m => keep k' b u (List.mem_cons_of_mem _ m)) ?_⟩
      · rcases putK_mem hp with hp | rfl
        · exact e6 p hp
        · exact ⟨fun y => z' y.symm, fun y => by cases y; exact rq rfl⟩
      · rcases h with h | ⟨h1, h2⟩
        · exact .inl h
        · exact .inr ⟨h1, fun p hp => h2 p (List.mem_cons_of_mem _ hp)⟩
  | [], _ :: _, h, _, _ => h.elim
  | _ :: _, [], h, _, _ => h.elim
/-- one row of one's own table is another -/
theorem RB.putRow {B : Bs} {γ : Ga} {σ : L2.St} (r : RB K B F γ σ H) {i : Nat} {es : Tb} (e : γ[i]? = some (.nd es)) {kvs : List (Key × V)} (ea : σ[i]? = some (some (.ref a))) (ek : H a = some (.dK kvs)) {c : Tx} {row : List (Tx × D)} {q : Addr} {kv : List (Key × V)} {H1 : Hp}
    (n : Nxt F H F H1) (hq : (valV kvs (Sum.inr (toS c)) = some (.ref q)) ∨ (valV kvs (Sum.inr (toS c)) = none ∧ H q = none)) (rp : RepK K F row kv) :
    RB K B F (γ.set i (.nd (putN es c row))) σ (upd (upd H1 q (.dK kv)) a (.dK (putK kvs (Sum.inr (toS c)) (.ref q)))) := by
  obtain ⟨a', kvs', e1, e2, e3, e4⟩ := r.rs.sl i _ e
  rw [ea] at e1; cases e1
  rw [ek] at e3; cases e3
  have qI : q ≠ a ∧ F q = none ∧ B.H0 q = none ∧ (Inn H (.nd es) σ[i]? q ∨ H q = none) := by
    rcases hq with h | ⟨_, h⟩
    · rcases e4.look c with ⟨_, z⟩ | ⟨row', r', kv', h1, h2, h3, h4, h5, h6, h7⟩
      · rw [h] at z; cases z
      · rw [h] at h2; cases h2
        exact ⟨h3, h4, r.ow i _ q e ⟨a, kvs, ea, ek, .inr ⟨_, h7⟩⟩, .inl ⟨a, kvs, ea, ek, .inr ⟨_, h7⟩⟩⟩
    · exact ⟨fun z => (by rw [z, ek] at h; cases h), r.rs.emb.free h, r.fi.free h, .inr h⟩
  obtain ⟨q1, q2, q3, q4⟩ := qI
  have a0 := r.ow i _ a e ⟨a, kvs, ea, ek, .inl rfl⟩
  refine r.chg e (s1 := .nd _) ⟨a, _, ea, e2, upd_same, OwK.put c (.refl _) q1 q2 ?_ rp e4 (fun k b u m nb fb hb => ⟨?_, fb⟩) ?_⟩ (((r.fi.next n).chg q2 q3).chg e2 a0) (.refl _) (fun b u hb fb nb => ⟨?_, fb⟩) fun b h => ?_
  · rw [upd_ne q1]; exact upd_same
  · obtain ⟨r', kv', w1, w2, w3, w4⟩ := e4.row m
    cases w1
    rw [upd_ne w2, upd_ne nb]; exact n.h _ _ hb
  · rcases hq with h | ⟨h1, h2⟩
    · exact .inl h
    · refine .inr ⟨h1, fun p hp z => ?_⟩
      obtain ⟨r', kv', w1, w2, w3, w4⟩ := e4.row (k := p.1) (v := p.2) hp
      rw [w1] at z; cases z
      rw [h2] at w4; cases w4
  · have n1 : b ≠ a := by rintro rfl; exact nb ⟨b, kvs, ea, ek, .inl rfl⟩
    have n2 : b ≠ q := by
      rintro rfl
      rcases q4 with h | h
      · exact nb h
      · rw [hb] at h; cases h
    rw [upd_ne n1, upd_ne n2]; exact n.h _ _ hb
  · obtain ⟨a2, kvs2, w1, w2, w3⟩ := h
    rw [ea] at w1; cases w1
    rw [upd_same] at w2; cases w2
    rcases w3 with rfl | ⟨k, m⟩
    · exact .inl ⟨b, kvs, ea, ek, .inl rfl⟩
    · rcases putK_mem m with m | m
      · exact .inl ⟨a, kvs, ea, ek, .inr ⟨k, m⟩⟩
      · cases m; exact q4
end
def fNd0 (i : Nat) : Ga → R Fl := fun γ => .ok (.nx (γ.set i (.nd [])))
def fBump (i r c l : Nat) : Ga → R Fl := fun γ => match γ[i]?, γ[c]?, γ[l]? with
  | some (.nd es), some (.va (.str ck)), some (.va (.str lk)) => match (lookK ((lookN es ck).getD []) lk).getD (.int 0) with
    | .int n => if (es.length < lim ∧ ((lookN es ck).getD []).length < lim) ∧ r < γ.length then .ok (.nx ((γ.set i (.nd (putN es ck (putD ((lookN es ck).getD []) lk (.int (n + 1)))))).set r .un)) else .no
    | _ => .no
  | _, _, _ => .no
section
variable {X : Cx} {W : WN}
theorem js_nd0 (i : Nat) {x : Str} {pos pos' p2 : Pos} (hN : X.N.Nodup) (hi : X.N[i]? = some x := by rfl) (hx : Loc X.env.scope x := by first | exact .inl rfl | exact .inr rfl) (hs : swapsWith (.Dict [] [] p2) (some (.Name x pos')) pos.line X.env = pure false := by rfl) (hf : X.fn x = true ∨ X.env.scope.names.lookup x = some .local := by first | exact .inl rfl | exact .inr rfl) :
    JS X W (fNd0 i) (.Assign [.Name x pos'] (.Dict [] [] p2) pos) := ⟨PS.imp (ps_set hN hi hx pe_dnewK hs hf) fun E σ H ⟨B, F, γ, r, o⟩ => fun p hp => by
  have n := Nxt.laid r.rs.emb hp (.dK [])
  refine o F _ _ ((r.next n).put i (s0 := .nd []) (x0 := some (.ref p)) ⟨p, [], rfl, r.rs.emb.free hp, upd_same, trivial⟩ (fun j s b nj e h1 h2 => ?_) fun b h => ?_)
  · have q := h1.back (r.rs.sl j s e) fun b u _ z => n.h _ _ z
    obtain ⟨_, u, hu⟩ := q.have (r.rs.sl j s e)
    obtain ⟨a, kvs, w1, w2, w3⟩ := h2
    cases w1
    rw [upd_same] at w2; cases w2
    rcases w3 with rfl | ⟨_, m⟩
    · rw [hp] at hu; cases hu
    · cases m
  · obtain ⟨a, kvs, w1, w2, w3⟩ := h
    cases w1
    rw [upd_same] at w2; cases w2
    rcases w3 with rfl | ⟨_, m⟩
    · exact r.fi.free hp
    · cases m⟩
theorem va_at {K : PySem.W.Frag} {F H : Hp} {γ : Ga} {σ : L2.St} (r : RS K F γ σ H) {i : Nat} {s : Tx} (e : γ[i]? = some (.va (.str s))) : σ[i]? = some (some (.str (toS s))) := by
  obtain ⟨v, e1, p⟩ := r.sl i _ e
  cases p; exact e1
/-- row = found.get(context, {}); row[letter] = row.get(letter, 0) + 1; found[context] = row -/
theorem jss_bump (i r c l : Nat) {fx rx cx lx : Str} {n1 : Nat} {n2 : Nat} {q1 q2 q3 q4 q5 q6 q7 q8 q9 q10 q11 q12 q13 q14 q15 q16 q17 q18 q19 q20 : Pos} (hN : X.N.Nodup) (hu : X.A.units + 1 < cLine) (ir : r ≠ i := by decide) (cr : r ≠ c := by decide) (lr : r ≠ l := by decide)
    (hi : X.N[i]? = some fx := by rfl) (hr : X.N[r]? = some rx := by rfl) (hc : X.N[c]? = some cx := by rfl) (hl : X.N[l]? = some lx := by rfl)
    (vi : Vis X.env.scope fx := by first | exact Or.inl rfl | exact Or.inr (Or.inl rfl) | exact Or.inr (Or.inr rfl)) (vr : Vis X.env.scope rx := by first | exact Or.inl rfl | exact Or.inr (Or.inl rfl) | exact Or.inr (Or.inr rfl))
    (vc : Vis X.env.scope cx := by first | exact Or.inl rfl | exact Or.inr (Or.inl rfl) | exact Or.inr (Or.inr rfl)) (vl : Vis X.env.scope lx := by first | exact Or.inl rfl | exact Or.inr (Or.inl rfl) | exact Or.inr (Or.inr rfl))
    (di : (fx == ("__debug__" : Str)) = false := by decide) (dr : (rx == ("__debug__" : Str)) = false := by decide) (dc : (cx == ("__debug__" : Str)) = false := by decide) (dl : (lx == ("__debug__" : Str)) = false := by decide)
    (ci : (fx == ("__classdict__" : Str)) = false := by decide) (cr' : (rx == ("__classdict__" : Str)) = false := by decide) (cc : (cx == ("__classdict__" : Str)) = false := by decide) (cl : (lx == ("__classdict__" : Str)) = false := by decide)
    (hx : Loc X.env.scope rx := by first | exact .inl rfl | exact .inr rfl) (hf : X.fn rx = true ∨ X.env.scope.names.lookup rx = some .local := by first | exact .inl rfl | exact .inr rfl)
    (s1 : swapsWith (.Call (.Attribute (.Name fx q1) "get" q2) [.Name cx q3, .Dict [] [] q4] [] q5) (some (.Name rx q6)) q7.line X.env = pure false := by rfl)
    (s2 : swapsWith (.BinOp (.Call (.Attribute (.Name rx q8) "get" q9) [.Name lx q10, .Constant (.int 0) n1 q11] [] q12) .Add (.Constant (.int 1) n2 q13) q14) (some (.Subscript (.Name rx q15) (.Name lx q16) q17)) q18.line X.env = pure false := by rfl)
    (s3 : swapsWith (.Name rx q19) (some (.Subscript (.Name fx q20) (.Name cx q1') q2')) q3'.line X.env = pure false := by rfl)
    (m1 : M2 X (.Name fx q1) "get" q2 (.Name cx q3) (.Dict [] [] q4) q5 := by exact ⟨rfl, rfl, rfl, rfl⟩)
    (m2 : M2 X (.Name rx q8) "get" q9 (.Name lx q10) (.Constant (.int 0) n1 q11) q12 := by exact ⟨rfl, rfl, rfl, rfl⟩) :
    JSs X W (fBump i r c l) [.Assign [.Name rx q6] (.Call (.Attribute (.Name fx q1) "get" q2) [.Name cx q3, .Dict [] [] q4] [] q5) q7,
      .Assign [.Subscript (.Name rx q15) (.Name lx q16) q17] (.BinOp (.Call (.Attribute (.Name rx q8) "get" q9) [.Name lx q10, .Constant (.int 0) n1 q11] [] q12) .Add (.Constant (.int 1) n2 q13) q14) q18,
      .Assign [.Subscript (.Name fx q20) (.Name cx q1') q2'] (.Name rx q19) q3'] :=
  ⟨PSs.imp (pss_cons (ps_set hN hr hx (pe_dget2 hu (pe_var hi vi di ci) (pe_var hc vc dc cc) pe_dnewK m1) s1 hf) (pss_cons (ps_dput hu (pe_var hr vr dr cr') (pe_var hl vl dl cl) (pe_add (pe_dget2 hu (pe_var hr vr dr cr') (pe_var hl vl dl cl) pe_int m2) pe_int) s2)
      (pss_one (ps_dput hu (pe_var hi vi di ci) (pe_var hc vc dc cc) (pe_var hr vr dr cr') s3)))) fun E σ H ⟨B, F, γ, R, o⟩ => by
    unfold fBump at o
    split at o
    · rename_i es ck lk e1 e2 e3
      split at o
      · rename_i n en
        split at o
        · rename_i hlen'
          obtain ⟨hlen, hgr⟩ := hlen'
          obtain ⟨a, kvs, a1, a2, a3, a4⟩ := R.rs.sl i _ e1
          have c1 := va_at R.rs e2
          have l1 := va_at R.rs e3
          have hσr : r < σ.length := by rw [← R.rs.len]; exact hgr
          have g1 : ∀ {x : Option V} {k : Nat}, r ≠ k → (σ.set r x)[k]? = σ[k]? := fun h => List.getElem?_set_ne h
          have g2 : ∀ {x : Option V}, (σ.set r x)[r]? = some x := List.getElem?_set_self hσr
          refine ⟨_, a1, a, rfl, .inl ⟨kvs, .inl a3⟩, _, c1, fun p hp => ?_⟩
          have nx := Nxt.laid R.rs.emb hp (.dK [])
          have pa : p ≠ a := by rintro rfl; rw [hp] at a3; cases a3
          refine ⟨valV kvs (.inr (toS ck)), .inl ⟨kvs, .inr (toS ck), .inl (nx.h _ _ a3), rfl, rfl⟩, ?_⟩
          -- the row
          have key : ∃ q kv, (valV kvs (.inr (toS ck))).getD (.ref p) = .ref q ∧ (valV kvs (Sum.inr (toS ck)) = some (.ref q) ∨ (valV kvs (Sum.inr (toS ck)) = none ∧ H q = none)) ∧ upd H p (.dK []) q = some (.dK kv) ∧ RepK X.K F ((lookN es ck).getD []) kv ∧ q ≠ a := by
            rcases a4.look ck with ⟨z1, z2⟩ | ⟨row, q, kv, z1, z2, z3, z4, z5, z6, z7⟩
            · refine ⟨p, [], by rw [z2]; rfl, .inr ⟨z2, hp⟩, upd_same, by rw [z1]; exact .nil, pa⟩
            · refine ⟨q, kv, by rw [z2]; rfl, .inl z2, nx.h _ _ z5, by rw [z1]; exact z6, z3⟩
          obtain ⟨q, kv, k1, k2, k3, k4, k5⟩ := key
          rw [k1]
          show tSeq _ _ E (σ.set r (some (.ref q))) (upd H p (.dK []))
          refine ⟨_, g2, q, rfl, .inl ⟨kv, .inl k3⟩, _, (g1 lr).trans l1, valV kv (.inr (toS lk)), .inl ⟨kv, .inr (toS lk), .inl k3, rfl, rfl⟩, ?_⟩
          have hn : (valV kv (.inr (toS lk))).getD (.int 0) = .int n := by
            rcases k4.look lk with ⟨z1, z2⟩ | ⟨d, v, z1, z2, z3⟩
            · rw [z1] at en; cases en; rw [z2]; rfl
            · rw [z1] at en; cases en; cases z3; rw [z2]; rfl
          refine ⟨n, 1, hn, rfl, ?_⟩
          refine ⟨_, g2, _, (g1 lr).trans l1, q, _, rfl, .inl ⟨kv, .inr (toS lk), k3, rfl, by rw [← k4.length]; exact Nat.lt_trans hlen.2 lim_lt, rfl⟩, ?_⟩
          refine ⟨_, g2, _, (g1 ir).trans a1, _, (g1 cr).trans c1, a, _, rfl, .inl ⟨kvs, .inr (toS ck), ?_, rfl, by rw [← a4.len]; exact Nat.lt_trans hlen.1 lim_lt, rfl⟩, ?_⟩
          · rw [upd_ne (Ne.symm k5)]; exact nx.h _ _ a3
          · exact o F _ _ ((R.putRow e1 a1 a3 nx k2 (k4.put lk (.int (n + 1)))).un r _)
        · exact o.elim
      · exact o.elim
    · exact o.elim⟩
end
end KN
/-! KnK: sorted lists of tuples -/
namespace KN
open PySem PySem.Spec PyProof.Rows L2
open PyProof.Rows.G (tupKeyC tupKindC isTupObj)
abbrev Ik := Int ⊕ Tx
def unI : Ik → D
  | .inl i => .int i
  | .inr s => .str s
def unT (k : List Ik) : D := .tup (k.map unI)
def asI : List D → Option (List Ik)
  | [] => some []
  | .int i :: xs => (asI xs).map (.inl i :: ·)
  | .str s :: xs => (asI xs).map (.inr s :: ·)
  | _ :: _ => none
def asTs : List D → Option (List (List Ik))
  | [] => some []
  | .tup ys :: xs => (asI ys).bind fun k => (asTs xs).map (k :: ·)
  | _ :: _ => none
theorem asI_of {xs : List D} {k : List Ik} (h : asI xs = some k) : xs = k.map unI := by
  induction xs generalizing k with
  | nil => cases h; rfl
  | cons x xs ih =>
    cases x <;> simp only [asI] at h <;> first | (cases h; done) | skip
    all_goals
      cases e : asI xs with
      | none => rw [e] at h; cases h
      | some ms => rw [e] at h; cases h; rw [ih e]; rfl
@[simp] theorem asI_map (k : List Ik) : asI (k.map unI) = some k := by
  induction k with
  | nil => rfl
  | cons x k ih => cases x <;> simp [asI, unI, ih]
theorem asTs_of {xs : List D} {ks : List (List Ik)} (h : asTs xs = some ks) : xs = ks.map unT := by
  induction xs generalizing ks with
  | nil => cases h; rfl
  | cons x xs ih =>
    cases x <;> simp only [asTs] at h <;> first | (cases h; done) | skip
    rename_i ys
    cases e : asI ys with
    | none => rw [e] at h; cases h
    | some k =>
      rw [e] at h
      cases e2 : asTs xs with
      | none => rw [e2] at h; cases h
      | some ms => rw [e2] at h; cases h; rw [ih e2, asI_of e]; rfl
@[simp] theorem asTs_map (ks : List (List Ik)) : asTs (ks.map unT) = some ks := by
  induction ks with
  | nil => rfl
  | cons k ks ih => simp [asTs, unT, ih]
def leK (a b : List Ik) : Bool := !(lexLt itemOrd b a)
def sortK (l : List (List Ik)) : List (List Ik) := l.mergeSort leK
theorem leK_total (a b : List Ik) : (leK a b || leK b a) = true := by
  unfold leK
  cases h : lexLt itemOrd b a with
  | false => rfl
  | true =>
    cases k : lexLt itemOrd a b with
    | false => rfl
    | true => have := lex_trans (O := itemOrd) _ _ _ h k; rw [lex_irrefl] at this; cases this
theorem leK_trans (a b c : List Ik) : leK a b = true → leK b c = true → leK a c = true := by
  unfold leK
  simp only [Bool.not_eq_true']
  intro h k
  cases z : lexLt itemOrd c a with
  | false => rfl
  | true =>
    rcases lex_negTrans (O := itemOrd) c b a z with y | y
    · rw [k] at y; cases y
    · rw [h] at y; cases y
theorem leK_anti {a b : List Ik} (h : leK a b = true) (k : leK b a = true) : a = b := by
  unfold leK at h k
  simp only [Bool.not_eq_true'] at h k
  exact lex_total (O := itemOrd) a b k h
theorem sortK_perm (l : List (List Ik)) : (sortK l).Perm l := List.mergeSort_perm _ _
theorem sortK_pw (l : List (List Ik)) : (sortK l).Pairwise (fun a b => leK a b = true) := List.pairwise_mergeSort leK_trans leK_total l
/-- all of one shape, and not empty -/
def okK : List (List Ik) → Bool
  | [] => true
  | k :: ks => !k.isEmpty && ks.all fun k' => (k'.map Sum.isRight) == k.map Sum.isRight
def shp (k : List Ik) (i : Nat) : Bool := (k.map Sum.isRight)[i]?.getD false
def vIt : Ik → V
  | .inl i => .int i
  | .inr s => .str (toS s)
theorem items_of {shape : Nat → Bool} : ∀ (k : List Ik) (i : Nat) (its : List Value), Vals (k.map vIt) its → (∀ j x, k[j]? = some x → shape (i + j) = x.isRight) → tupItems shape i its = some k
  | [], _, _, r, _ => by cases r; rfl
  | x :: k, i, _, r, h => by
    cases r with
    | cons r1 r2 =>
      have h0 := h 0 x rfl
      have ih := items_of k (i + 1) _ r2 fun j y e => by
        have := h (j + 1) y (by simpa using e)
        rw [show i + 1 + j = i + (j + 1) by omega]; exact this
      cases x with
      | inl n =>
        obtain ⟨t, rfl⟩ := r1
        have h0 : shape i = false := by simpa using h0
        simp [tupItems, h0, ih]
      | inr s =>
        obtain ⟨t, rfl⟩ := r1
        have h0 : shape i = true := by simpa using h0
        simp [tupItems, h0, ih, toS]
theorem paired_perm {α β : Type} {R : α → β → Prop} {us its : List β} (p : us.Perm its) : ∀ {ks : List α}, Paired R ks its → ∃ ks', ks'.Perm ks ∧ Paired R ks' us := by
  induction p with
  | nil => intro ks h; exact ⟨ks, .refl _, h⟩
  | cons x p ih =>
    intro ks h
    cases h with
    | cons h1 h2 =>
      obtain ⟨ks', a, b⟩ := ih h2
      exact ⟨_ :: ks', a.cons _, .cons h1 b⟩
  | swap x y l =>
    intro ks h
    cases h with
    | cons h1 h2 => cases h2 with | cons h3 h4 => exact ⟨_, .swap _ _ _, .cons h3 (.cons h1 h4)⟩
  | trans p q ih1 ih2 =>
    intro ks h
    obtain ⟨k1, a, b⟩ := ih2 h
    obtain ⟨k2, c, d⟩ := ih1 b
    exact ⟨k2, c.trans a, d⟩
theorem paired_get {α β : Type} {R : α → β → Prop} {xs : List α} {ys : List β} (h : Paired R xs ys) {i : Nat} {x : α} (e : xs[i]? = some x) : ∃ y, ys[i]? = some y ∧ R x y := by
  induction h generalizing i with
  | nil => simp at e
  | cons h1 _ ih =>
    cases i with
    | zero => simp at e; subst e; exact ⟨_, rfl, h1⟩
    | succ i => simp at e; simpa using ih e
theorem Reps.its {K : PySem.W.Frag} {F : Hp} : ∀ {k : List Ik} {vs : List V}, Reps K F (k.map unI) vs → vs = k.map vIt
  | [], _, h => by cases h; rfl
  | x :: k, _, h => by
    cases h with
    | cons h1 h2 =>
      rw [Reps.its h2]
      cases x <;> cases h1 <;> rfl
theorem reps_its {K : PySem.W.Frag} {F : Hp} : ∀ k : List Ik, Reps K F (k.map unI) (k.map vIt)
  | [] => .nil
  | .inl i :: k => .cons (.int i) (reps_its k)
  | .inr s :: k => .cons (.str s) (reps_its k)
theorem cr_sortedTG {X : Cx} : CallR X (.builtin "sorted") (fun vs H Q => ∃ (a : Addr) (xs : List V) (F : Hp) (ks : List (List Ik)), vs = [V.ref a] ∧ SqL X.K H a xs ∧ Emb F H ∧ Reps X.K F (ks.map unT) xs ∧ okK ks = true ∧
    ∀ (ys : List V) (p : Addr), Reps X.K F ((sortK ks).map unT) ys → H p = none → Q (.ref p) (upd H p (.lst ys))) := by
  intro pins s σ H vs us Q I r h
  obtain ⟨a, xs, F, ks, rfl, hs, em, rp, hok, q⟩ := h
  obtain ⟨its, rv, hl, hz⟩ := I.list hs
  obtain ⟨u, rfl, ru⟩ := vals1 r
  cases ru
  let shape : Nat → Bool := shp (ks.headD [])
  let T : List Ik → Value → Prop := fun k u => ∃ p, u = .ref p ∧ SqT X.K F p (k.map vIt) ∧ tupKeyC s.heap shape u = some k ∧ ∃ f, TupOf s.heap shape u f
  have hsh : ∀ k ∈ ks, k ≠ [] ∧ ∀ j x, k[j]? = some x → shape (0 + j) = x.isRight := by
    intro k hk
    cases ks with
    | nil => cases hk
    | cons k0 ks =>
      simp only [okK, Bool.and_eq_true, Bool.not_eq_true', List.all_eq_true, beq_iff_eq] at hok
      obtain ⟨h0, h1⟩ := hok
      have e : k.map Sum.isRight = k0.map Sum.isRight := by
        rcases List.mem_cons.mp hk with rfl | hk
        · rfl
        · exact h1 k hk
      refine ⟨?_, fun j x hx => ?_⟩
      · rintro rfl
        cases k0 with
        | nil => cases h0
        | cons _ _ => cases e
      · show shp k0 (0 + j) = _
        unfold shp
        rw [Nat.zero_add, ← e, List.getElem?_map, hx]; rfl
  have one : ∀ {k : List Ik} {v : V} {u : Value}, k ∈ ks → Rep X.K F (unT k) v → RelV v u → T k u := by
    intro k v u hk r1 r2
    cases r1 with
    | tup t1 t2 =>
      rename_i p vs
      have ev := Reps.its t2
      subst ev
      cases r2
      obtain ⟨jts, rj, ht, _⟩ := I.tuple (em.sqt t1)
      obtain ⟨o, ho, hc, n, hd⟩ := ht
      obtain ⟨hne, hs0⟩ := hsh k hk
      refine ⟨p, rfl, t1, ?_, ?_⟩
      · unfold tupKeyC
        have e1 : isTupObj s.heap (.ref p) = true := by simp [isTupObj, ho, hc]
        rw [if_pos e1]
        simp only [tupKey, ho, hd]
        exact items_of k 0 _ (by simpa using rj) hs0
      · cases k with
        | nil => exact absurd rfl hne
        | cons x k =>
          cases rj with
          | cons r3 r4 =>
            rename_i f jts
            refine ⟨f, p, o, _, n, rfl, ho, hc, hd, rfl, fun z => ?_, fun z => ?_⟩
            · have := hs0 0 x rfl
              rw [show shape (0 + 0) = shape 0 from rfl, z] at this
              cases x with
              | inl i => exact ⟨i, r3⟩
              | inr s => cases this
            · have := hs0 0 x rfl
              rw [show shape (0 + 0) = shape 0 from rfl, z] at this
              cases x with
              | inl i => cases this
              | inr s => exact ⟨_, r3⟩
  have all : ∀ {ks' : List (List Ik)} {xs : List V} {its : List Value}, (∀ k ∈ ks', k ∈ ks) → Reps X.K F (ks'.map unT) xs → Vals xs its → Paired T ks' its := by
    intro ks'
    induction ks' with
    | nil => intro xs its _ h1 h2; cases h1; cases h2; exact .nil
    | cons k ks' ih =>
      intro xs its hm h1 h2
      cases h1 with
      | cons h3 h4 => cases h2 with | cons h5 h6 => exact .cons (one (hm k List.mem_cons_self) h3 h5) (ih (fun k hk => hm k (List.mem_cons_of_mem _ hk)) h4 h6)
  have hT := all (fun _ h => h) rp rv
  have tups : ∀ {ks' : List (List Ik)} {its : List Value}, Paired T ks' its → ∃ fs, TupsOf s.heap shape its fs := by
    intro ks' its h
    induction h with
    | nil => exact ⟨[], .nil⟩
    | cons h1 _ ih =>
      obtain ⟨fs, h⟩ := ih
      obtain ⟨_, _, _, _, f, hf⟩ := h1
      exact ⟨f :: fs, .cons hf h⟩
  obtain ⟨fs, hfs⟩ := tups hT
  have keys : ∀ {ks' : List (List Ik)} {its : List Value}, Paired T ks' its → ∀ v ∈ its, ∃ l, tupKeyC s.heap shape v = some l := by
    intro ks' its h
    induction h with
    | nil => intro v hv; cases hv
    | cons h1 _ ih =>
      intro v hv
      rcases List.mem_cons.mp hv with rfl | hv
      · obtain ⟨_, _, _, h, _⟩ := h1; exact ⟨_, h⟩
      · exact ih v hv
  refine PyProof.Rows.G.sorted_tups (vs := its) hl.isList hfs (keys hT) (by rw [← rv.length]; exact hz) fun st' h1 h2 _ => ?_
  have hp : ((arrOf st').map (·.2)).toList.Perm its := by
    have e := Array.perm_iff_toList_perm.mp h1
    rw [pairsOf_toList] at e
    have := e.map (·.2)
    rw [Array.toList_map]
    refine this.trans ?_
    rw [show (its.zip its).map (·.2) = its from by
      rw [← List.unzip_snd, List.unzip_zip (Eq.refl _)]]
  have hself : ∀ x ∈ (arrOf st').toList, x.1 = x.2 := fun x hx => by
    have e := Array.perm_iff_toList_perm.mp h1
    rw [pairsOf_toList] at e
    exact (mem_zip_self (e.mem_iff.mp hx)).1
  obtain ⟨ks', kp, hT'⟩ := paired_perm hp hT
  have hks : ks' = sortK ks := by
    refine sorted_uniq (fun _ _ => leK_anti) (kp.trans (sortK_perm ks).symm) ?_ (sortK_pw ks)
    have hlen : ks'.length = (arrOf st').size := by rw [hT'.length]; simp
    have at_ : ∀ i (hi : i < ks'.length), (KK (tupKindC s.heap shape) (arrOf st') i : List Ik) = ks'[i] := fun i hi => by
      obtain ⟨u, hu, hTu⟩ := paired_get hT' (List.getElem?_eq_getElem hi)
      rw [Array.toList_map, List.getElem?_map] at hu
      have hi' : i < (arrOf st').size := by rw [← hlen]; exact hi
      have hx : (arrOf st')[i]? = some (arrOf st')[i] := Array.getElem?_eq_getElem hi'
      rw [Array.getElem?_toList, hx] at hu
      cases hu
      unfold KK
      rw [hx]
      obtain ⟨_, _, _, hk, _⟩ := hTu
      have hs := hself (arrOf st')[i] (by simp)
      show (tupKeyC s.heap shape (arrOf st')[i].1).getD [] = _
      rw [hs, hk]; rfl
    rw [List.pairwise_iff_getElem]
    intro i j hi hj hij
    have hsz : (pairsOf its).size = (arrOf st').size := h1.size_eq.symm
    have := h2 i j (Nat.le_of_lt hij) (by rw [hsz, ← hlen]; exact hj)
    rw [at_ i hi, at_ j hj] at this
    have this : lexLt itemOrd ks'[j] ks'[i] = false := this
    unfold leK
    rw [this]; rfl
  have back : ∀ {ks' : List (List Ik)} {us : List Value}, Paired T ks' us → ∃ ys, Vals ys us ∧ Reps X.K F (ks'.map unT) ys := by
    intro ks' us h
    induction h with
    | nil => exact ⟨[], .nil, .nil⟩
    | cons h1 _ ih =>
      obtain ⟨ys, a, b⟩ := ih
      obtain ⟨p, rfl, hq, _⟩ := h1
      exact ⟨.ref p :: ys, .cons rfl a, .cons (.tup hq (reps_its _)) b⟩
  obtain ⟨ys, vy, ry⟩ := back hT'
  rw [hks] at ry
  obtain ⟨ep, he'⟩ := PyProof.Rows.sortedAll_at s.heap its ((arrOf st').map (·.2))
  have hlen : ys.length ≤ sizeLine := by rw [vy.length, hp.length_eq, ← rv.length]; exact hz
  exact ⟨.ref _, upd H (s.heap.objs.size + 1) (.lst ys), I.laid (t' := s.toks) (fun _ _ => PyProof.Rows.sortedAll_old) (Nat.le_succ _) ⟨hlen, ((arrOf st').map (·.2)).toList, ep, vy, he'⟩, rfl, q _ _ ry (I.hok.fresh (Nat.le_succ _))⟩
def dSort : List D → R D
  | [.lst xs] => match asTs xs with
    | some ks => if okK ks = true then .ok (.lst ((sortK ks).map unT)) else dSorted [.lst xs]
    | none => dSorted [.lst xs]
  | ds => dSorted ds
theorem c_sort {X : Cx} (hc : X.calm = true) : CalF X (.builtin "sorted") dSort := by
  have c0 := c_sorted (X := X) hc
  refine ⟨fun pins s σ H xs us Q I rv ⟨F, ds, d, e, r, hg, q⟩ => ?_, fun x c => ?_⟩
  · have old : dSorted ds = .ok d → _ := fun z => c0.run pins s σ H xs us Q I rv ⟨F, ds, d, e, r, z, q⟩
    unfold dSort at hg
    split at hg
    · split at hg
      · split at hg
        · rename_i ys ks hk hok
          cases hg
          obtain ⟨x, rfl, r1⟩ := r.inv1
          obtain ⟨a, vs, rfl, s1, p1⟩ := r1.lst e
          have := asTs_of hk
          subst this
          exact cr_sortedTG pins s σ H _ us Q I rv ⟨a, vs, F, ks, rfl, s1, e, p1, hok, fun zs p hr hn => q.newL e hr p hn⟩
        · exact old hg
      · exact old hg
    · exact old hg
  · intro h
    unfold dSort at h
    split at h
    · split at h
      · split at h
        · cases h
        · exact c0.ne _ _ h
      · exact c0.ne _ _ h
    · exact c0.ne _ _ h
end KN
/-! KnL: more meanings -/
/-! KnS: sets of ints, of texts, made of a list or tuple; their members sorted; their number -/
/-! KnT: a list display told over -/
namespace KN
open PySem PySem.Spec PyProof.Rows L2
def dRep : D → D → R D
  | .lst xs, .int n => if 0 ≤ n ∧ n.natAbs < 1000000 ∧ xs.length * n.toNat ≤ lim then .ok (.lst (List.replicate n.toNat xs).flatten) else .no
  | _, _ => .no
theorem reps_rep {K : PySem.W.Frag} {F : Hp} {ds : List D} {vs : List V} (r : Reps K F ds vs) : ∀ n, Reps K F (List.replicate n ds).flatten (List.replicate n vs).flatten
  | 0 => .nil
  | n + 1 => by
    rw [List.replicate_succ, List.replicate_succ, List.flatten_cons, List.flatten_cons]
    exact r.append (reps_rep r n)
section
variable {X : Cx} {W : WN} {fa fb : Ga → R D} {a b : Expr} {pos : Pos}
theorem j_rep (ha : JF X W fa a) (hb : JR X W fb b) : J X W (b2 dRep fa fb) (.BinOp a .Mult b pos) := ⟨PE.imp (pe_op op_rep ha.pe hb.pe) fun σ H Q ⟨F, γ, r, o⟩ => by
  refine ⟨F, γ, r, ?_⟩
  unfold b2 at o
  cases e1 : fa γ with
  | ok dx =>
    simp only [e1, R.bind] at o
    intro p F1 H1 n1 hp fp ow
    refine ⟨F1, γ, r.next n1, ?_⟩
    cases e2 : fb γ with
    | ok dy =>
      simp only [e2] at o
      intro y F2 H2 n2 ry
      cases dx <;> cases dy <;> first | exact o.elim | skip
      rename_i xs i
      simp only [dRep] at o
      split at o
      · rename_i hl
        obtain ⟨vs, hv, rv⟩ := ow.next n2.f fun u z => n2.h _ _ z
        refine ⟨p, i, vs, rfl, ry.int, hv, by omega, by omega, ?_, fun l hl2 => ?_⟩
        · rw [← rv.length]; exact Nat.le_trans hl.2.2 lim_line
        · exact PV.newL (Q := Q) (PV.next (Q := Q) o (n1.trans n2)) n2.emb (reps_rep rv _) l hl2
      · exact o.elim
    | ex c => simp only [e2] at o; exact fun F' H' m => o F' H' (n1.trans m)
    | no => simp only [e2] at o; exact o
  | ex c => simp only [e1, R.bind] at o; exact o
  | no => simp only [e1, R.bind] at o; exact o⟩
end
end KN
/-! KnN: dicts of dicts, filled and counted in place -/
/-! KnX: raise, try, what is told of a caught error -/
namespace KN
open PySem PySem.Spec PyProof.Rows L2
/-! ### raise -/
/-- an error class of the program's own, over ValueError -/
structure ExR (K : PySem.W.Frag) (mg : Str → Option Value) (x : Str) (C : Addr) : Prop where
  g : mg x = some (.ref C)
  q : PySem.W.excIn K C [.type "ValueError", .type "Exception", .type "BaseException", .type "object"] "ValueError.__new__" = true
  k : PySem.W.keepIn K (.ref C) = true
  b : PySem.W.subIn K (.ref C) (.type "BaseException") = some true
  t : PySem.W.typeIn K (.ref C) = some (.type "type")
def fRaise (c : Nat) : Ga → R Fl := fun _ => .ex c
theorem js_raise {X : Cx} {W : WN} {cl : Cl} {c : Nat} {C : Addr} {x m : Str} {j : Nat} {p p2 pos pos' : Pos} (hcl : cl c = .ref C) (E : ExR X.K X.mg x C) (hc : X.calm = true) (tk : Takes X (VW cl W)) (hg : Gl X x := by rfl)
    (hdb : (x == ("__debug__" : Str)) = false := by decide) : JS X W (fRaise c) (.Raise (some (.Call (.Name x p) [.Constant (.str m) j p2] [] pos)) none pos') :=
  ⟨PS.imp (ps_raise hc tk (pmk_own PySem.F.excBase_ValueError E.q E.g E.k (raises_own E.b E.t) hg hdb)) fun E' σ H ⟨B, F, γ, r, o⟩ => ⟨c, hcl.symm, rfl, o σ F H r.fi⟩⟩
/-! ### a def that is told a caught error -/
/-! ### isinstance of the error -/
/-! ### xs.count(b), xs.index(b), of truths -/
def bM1 (g : D → D → R D) (fa fb : Ga → R D) : Ga → R D := fun γ => (fa γ).bind fun x => match x with
  | .lst _ => (fb γ).bind fun y => g x y
  | _ => .no
section
variable {X : Cx}
variable {W : WN} {fa fb : Ga → R D} {a b : Expr} {apos cpos : Pos}
theorem j_meth1 {id : String} {name : Str} {g : D → D → R D} {r : V → List V → Hp → VK → Prop} (slot : Slot "list" name id) (ty : typeOf (.builtin id) = pure (.type "method_descriptor")) (rule : MtR X id r)
    (hr : ∀ F H dx dy d x y Q, Emb F H → Rep1 X.K F H dx x → Rep1 X.K F H dy y → g dx dy = .ok d → PV X.K F H d Q → r x [y] H Q) (ne : ∀ x y c, g x y ≠ .ex c) (ha : JR X W fa a) (hb : JR X W fb b)
    (hbase : attributeBase a name X.env (eval a X.env) = eval a X.env := by rfl)
    (hfew : ((backTo cpos (starEach [b] X.env)).all (fun x => !x.1) && (backToKw cpos (keywordEach [] X.env)).all (fun x => x.1.isSome) && decide ([b].length + ([] : List Keyword).length + (if ([] : List Keyword).isEmpty then 0 else 1) < 30)) = true := by rfl)
    (hline : (apos.endLine == cpos.line) = true := by rfl) (hs : starEach [b] X.env = (false, eval b X.env) :: starEach [] X.env := by rfl) (hplain : (backTo cpos (starEach [] X.env)).any (·.1) = false := by rfl) :
    J X W (bM1 g fa fb) (.Call (.Attribute a name apos) [b] [] cpos) := ⟨PE.imp (pe_bm PySem.F.plainAttrs_list slot ty rule ha.pe (pa_cons hb.pe pa_nil hs) hbase hfew hline hs hplain) fun σ H Q ⟨F, γ, r0, o⟩ => by
  refine ⟨F, γ, r0, ?_⟩
  unfold bM1 at o
  cases e1 : fa γ with
  | ok dx =>
    simp only [e1, R.bind] at o
    intro x F1 H1 n1 p1
    cases dx with
    | lst xs =>
      simp only at o
      obtain ⟨l, vs, rfl, s1, _⟩ := p1.lst n1.emb
      refine ⟨.inl ⟨rfl, _, s1⟩, F1, γ, r0.next n1, ?_⟩
      cases e2 : fb γ with
      | ok dy =>
        simp only [e2] at o
        cases e3 : g (.lst xs) dy with
        | ok d =>
          rw [e3] at o
          exact fun y F2 H2 n2 p2 => hr F2 H2 _ dy d _ y Q n2.emb (p1.next n2) p2 e3 (PV.next (Q := Q) o (n1.trans n2))
        | ex c => exact absurd e3 (ne _ _ _)
        | no => rw [e3] at o; exact o.elim
      | ex c => simp only [e2] at o; exact fun F2 H2 n2 => o F2 H2 (n1.trans n2)
      | no => simp only [e2] at o; exact o.elim
    | _ => exact o.elim
  | ex c => simp only [e1, R.bind] at o; exact o
  | no => simp only [e1, R.bind] at o; exact o⟩
end
end KN
namespace KN
open PySem PySem.Spec PyProof.Rows L2
/-! ### try: .. except X as n: return f(n) -/
def wnL (X : Cx) (cl : Cl) (W : WX) : WN := fun c σ H => σ.length = X.N.length → W (cl c) none σ H
theorem takesL {X : Cx} {cl : Cl} {W : WX} (t : Takes X W) : Takes X (VW cl (wnL X cl W)) := fun u s' ⟨a, B, sI, pins, σ, H, cls, d, e, I, nb, up, sky, na, os, ag, c, e1, e2, w⟩ =>
  t u s' ⟨a, B, sI, pins, σ, H, cls, d, e, I, nb, up, sky, na, os, ag, by subst e1 e2; exact w I.len⟩
end KN
namespace KN
open PySem PySem.Spec PyProof.Rows L2
/-! ### the program's errors -/
structure ErrOne (K : PySem.W.Frag) (x : Str) (C L : Addr) : Prop where
  n : PySem.W.nsIn K mainGlobals x = some (some (.ref C))
  q : PySem.W.excIn K C [.type "ValueError", .type "Exception", .type "BaseException", .type "object"] "ValueError.__new__" = true
  k : PySem.W.keepIn K (.ref C) = true
  b : PySem.W.subIn K (.ref C) (.type "BaseException") = some true
  v : PySem.W.subIn K (.ref C) (.type "ValueError") = some true
  l : PySem.W.subIn K (.ref C) (.ref L) = some true
  t : PySem.W.typeIn K (.ref C) = some (.type "type")
  hg : PySem.W.findIn K (.ref C) "__getattribute__" = some (some (.builtin "BaseException.__getattribute__"))
  hk : PySem.W.findIn K (.ref C) "__getattr__" = some none
  hd : PySem.W.hasDictIn K C = true
  ha : PySem.W.findIn K (.ref C) "__class__" = some (some (.builtin "object.__class__"))
  hn : PySem.W.specialIn K (.builtin "object.__class__") "__get__" = some (some (.builtin "getset_descriptor.__get__"))
  ht : PySem.W.takesIn K (.builtin "object.__class__") = some true
  hm : PySem.W.mroIn K C (.type "object") = some true
structure ErrL (K : PySem.W.Frag) (L : Addr) : Prop where
  n : PySem.W.nsIn K mainGlobals "LikeError" = some (some (.ref L))
  b : PySem.W.subIn K (.ref L) (.type "BaseException") = some true
  t : PySem.W.typeIn K (.ref L) = some (.type "type")
  hd : PySem.W.hasDictIn K L = true
def errName : Nat → Str
  | 0 => "NoBook"
  | 1 => "NoOrder"
  | 2 => "NoName"
  | 3 => "NoWish"
  | 4 => "NoNumber"
  | 5 => "NotMade"
  | 6 => "TooShort"
  | 7 => "Nothing"
  | 8 => "NoText"
  | _ => "LikeError"
theorem ErrOne.x {K : PySem.W.Frag} {x : Str} {C L : Addr} {h : Heap} {mg : Str → Option Value} (E : ErrOne K x C L) (X : K.In h) (G : h.Ns mainGlobals mg) : ExR K mg x C := ⟨PySem.W.mg_of X G E.n, E.q, E.k, E.b, E.t⟩
theorem ErrOne.c {K : PySem.W.Frag} {x : Str} {C L : Addr} (E : ErrOne K x C L) : ExcC K C := ⟨E.hg, E.hk, E.b, E.hd, E.ha, E.hn, E.ht, E.hm⟩
theorem isSome_cls {K : PySem.W.Frag} {C : Addr} (h : PySem.W.hasDictIn K C = true) : (PySem.W.clsIn K C).isSome = true := by
  obtain ⟨cd, hc, _⟩ := PySem.W.any_some h
  rw [hc]; rfl
theorem kit_cls {K : PySem.W.Frag} {C D : Addr} {b : Bool} (hd : PySem.W.hasDictIn K D = true) (ht : PySem.W.typeIn K (.ref D) = some (.type "type")) (s : PySem.W.subIn K (.ref C) (.ref D) = some b) (s2 : PySem.W.subIn K (.ref D) (.ref D) = some true) :
    PySem.W.kitOne K (.ref C) (.ref D) = some b := by
  unfold PySem.W.kitOne
  split
  · rename_i h
    have e : C = D := Value.ref.inj (beq_iff_eq.mp h)
    subst e
    rw [s2] at s
    exact s
  · unfold PySem.W.kitCls
    have e2 : ((PySem.W.clsIn K D).isSome && PySem.W.typeIn K (.ref D) == some (.type "type")) = true := by rw [isSome_cls hd, ht]; rfl
    simp only [e2, if_true]
    exact s
theorem kit_val {K : PySem.W.Frag} {C : Addr} (s : PySem.W.subIn K (.ref C) (.type "ValueError") = some true) : PySem.W.kitOne K (.ref C) (.type "ValueError") = some true := by
  unfold PySem.W.kitOne
  split
  · rfl
  · unfold PySem.W.kitCls
    have e2 : PySem.W.kitMeta "ValueError" = true := by decide
    simp only [e2, if_true]
    exact s
structure Errs (hs : List Nat) (K : PySem.W.Frag) (mg : Str → Option Value) where
  e : Nat → Addr
  L : Addr
  g : mg "LikeError" = some (.ref L)
  x : ∀ c, c ∈ hs → ExR K mg (errName c) (e c)
  c : ∀ c, c ∈ hs → ExcC K (e c)
  kit : ∀ c i, c ∈ hs → i ∈ hs → PySem.W.kitOne K (.ref (e c)) (.ref (e i)) = some (decide (c = i))
  val : ∀ c, c ∈ hs → PySem.W.kitOne K (.ref (e c)) (.type "ValueError") = some true
  exm : ∀ c, c ∈ hs → PySem.W.exmOne K (.ref (e c)) (.ref L) = some true
  exo : ∀ c i, c ∈ hs → i ∈ hs → PySem.W.exmOne K (.ref (e c)) (.ref (e i)) = some (decide (c = i))
/-- the classes by their numbers -/
def clE {hs : List Nat} {K : PySem.W.Frag} {mg : Str → Option Value} (T : Errs hs K mg) : Cl := fun c => .ref (T.e c)
/-- what is promised of a law: it tells, and raises nothing -/
def spOk (K : PySem.W.Frag) (n : Nat) (g : List D → R D) : Sp := fun vs H Q E => ∃ F ds d, vs.length = n ∧ Emb F H ∧ Reps K F ds vs ∧ g ds = .ok d ∧ PV K F H d Q
theorem spOk_D {K : PySem.W.Frag} {cl : Cl} {n : Nat} {g : List D → R D} : ∀ vs H Q E, spOk K n g vs H Q E → spD K cl n g vs H Q E := fun vs H Q E ⟨F, ds, d, a, b, c, e, q⟩ => ⟨F, ds, a, b, c, by rw [e]; exact q⟩
theorem law_endX {K : PySem.W.Frag} {H : Hp} {a : Addr} {ns : List Int} {n : Nat} {g : List D → R D} (h : ∀ ns : List Int, ns.length ≤ n → g [.lst (ns.map .int)] = .ok (.bl true)) (hl : ns.length ≤ n) (hS : SqL K H a (ns.map V.int)) :
    spOk K 1 g [.ref a] H (fun v _ => v = .bl true) fun _ _ _ => False := by
  have gen : ∀ F : Hp, Emb F H → SqL K F a (ns.map V.int) → spOk K 1 g [.ref a] H (fun v _ => v = .bl true) fun _ _ _ => False := fun F e s => by
    refine ⟨F, [.lst (ns.map .int)], _, rfl, e, .cons (.lst s (reps_ints ns)) .nil, h ns hl, ?_⟩
    intro v F' H' _ r
    cases r; rfl
  rcases hS with (h1 | ⟨o, h1⟩) | h1
  · exact gen (upd (fun _ => none) a (.lst (ns.map V.int))) (fun b o z => by
      by_cases q : b = a
      · subst q; rw [upd_same] at z; cases z; exact .inl h1
      · rw [upd_ne q] at z; cases z) (.inl (.inl upd_same))
  · exact gen (upd (fun _ => none) a (.frz o (.lst (ns.map V.int)))) (fun b o z => by
      by_cases q : b = a
      · subst q; rw [upd_same] at z; cases z; exact .inl h1
      · rw [upd_ne q] at z; cases z) (.inl (.inr ⟨o, upd_same⟩))
  · exact gen _ Emb.none (.inr h1)
end KN
/-! KnU: a text or a tuple times a number -/
/-! KnV: sorted(d.items()) -/
namespace KN
open PySem PySem.Spec PyProof.Rows L2
open PyProof.Rows.G (tupKeyC tupKindC isTupObj)
abbrev itK (e : Tx × Int) : List Ik := [.inr e.1, .inl e.2]
def shI (i : Nat) : Bool := i == 0
def TI (h : Heap) (Z : Addr → List V → Prop) (k : List Ik) (u : Value) : Prop := ∃ (a : Addr) (e : Tx × Int) (x y : Value), u = .ref a ∧ Z a [.str (toS e.1), .int e.2] ∧ k = itK e ∧ RelV (.str (toS e.1)) x ∧ RelV (.int e.2) y ∧ h.get? a = some { cls := .type "tuple", data := .seq #[x, y] }
theorem TI.key {h : Heap} {Z : Addr → List V → Prop} {k : List Ik} {u : Value} (t : TI h Z k u) : tupKeyC h shI u = some k := by
  obtain ⟨a, e, x, y, rfl, _, rfl, r1, r2, hg⟩ := t
  unfold tupKeyC
  have e1 : isTupObj h (.ref a) = true := by simp [isTupObj, hg]
  rw [if_pos e1]
  simp only [tupKey, hg]
  refine items_of (itK e) 0 _ (by
    show Vals [V.str (toS e.1), V.int e.2] [x, y]
    exact .cons r1 (.cons r2 .nil)) fun j z hz => ?_
  cases j with
  | zero => cases hz; rfl
  | succ j =>
    cases j with
    | zero => cases hz; rfl
    | succ j => simp [itK] at hz
theorem TI.tup {h : Heap} {Z : Addr → List V → Prop} {k : List Ik} {u : Value} (t : TI h Z k u) : ∃ f, TupOf h shI u f := by
  obtain ⟨a, e, x, y, rfl, _, rfl, r1, r2, hg⟩ := t
  refine ⟨x, a, _, _, _, rfl, hg, rfl, rfl, rfl, (fun z => nomatch z), fun _ => ?_⟩
  obtain ⟨tk, rfl⟩ := r1
  exact ⟨_, _, rfl⟩
theorem TI.keep {h h' : Heap} {Z : Addr → List V → Prop} {k : List Ik} {u : Value} (t : TI h Z k u) (q : ∀ b o, h.get? b = some o → h'.get? b = some o) : TI h' Z k u := by
  obtain ⟨a, e, x, y, e1, e2, e3, r1, r2, hg⟩ := t
  exact ⟨a, e, x, y, e1, e2, e3, r1, r2, q _ _ hg⟩
end KN
/-! KnW: [f, g, ..][i](..) -/
/-! KnY: sorted lists of pairs of an int and a list of ints -/
/-! KnO: calls without arguments -/
namespace KN
open PySem PySem.Spec PyProof.Rows L2
/-! ### numbers as texts -/
def dStrI : List D → R D
  | [.int (.ofNat n)] => if n.log2 < 1900 then .ok (.str (TL.numL n)) else .no
  | _ => .no
/-! ### split, partition, index -/
/-! ### isinstance with a tuple of types -/
def dIsi2 (T U : TK) : D → R D := fun d => .ok (.bl (isT T d || isT U d))
section
variable {X : Cx} {W : WN} {fa : Ga → R D} {a : Expr} {pos p p1 p2 tpos : Pos}
theorem j_isi2 (T U : TK) {x y : Str} {k : Nat} (ha : JR X W fa a) (hv : bootBuiltins x = some (.type T.nm)) (hv2 : bootBuiltins y = some (.type U.nm)) (hm : X.mg "isinstance" = none) (hmx : X.mg x = none) (hmy : X.mg y = none) (hg : Gl X "isinstance" := by rfl) (hgx : Gl X x := by rfl) (hgy : Gl X y := by rfl)
    (hn : x ≠ "__name__" := by decide) (hdb : (x == ("__debug__" : Str)) = false := by decide) (hn2 : y ≠ "__name__" := by decide) (hdb2 : (y == ("__debug__" : Str)) = false := by decide)
    (he : starEach [a, .Tuple [.Name x p1, .Name y p2] k tpos] X.env = (false, eval a X.env) :: starEach [.Tuple [.Name x p1, .Name y p2] k tpos] X.env := by rfl)
    (he2 : starEach [.Tuple [.Name x p1, .Name y p2] k tpos] X.env = (false, eval (.Tuple [.Name x p1, .Name y p2] k tpos) X.env) :: starEach [] X.env := by rfl)
    (hx : starEach [.Name x p1, .Name y p2] X.env = (false, eval (.Name x p1) X.env) :: starEach [.Name y p2] X.env := by rfl) (hy : starEach [.Name y p2] X.env = (false, eval (.Name y p2) X.env) :: starEach [] X.env := by rfl)
    (hpl : (backTo pos (starEach [.Tuple [.Name x p1, .Name y p2] k tpos] X.env)).any (·.1) = false := by rfl) :
    J X W (b1 (dIsi2 T U) fa) (.Call (.Name "isinstance" p) [a, .Tuple [.Name x p1, .Name y p2] k tpos] [] pos) := by
  have h1 : PE X (.Name x p1) (tC (.ty T.nm)) := pe_bltn hgx hmx hv rfl hn hdb
  have h2 : PE X (.Name y p2) (tC (.ty U.nm)) := pe_bltn hgy hmy hv2 rfl hn2 hdb2
  refine ⟨PE.imp (pe_callB call_isiT hg hm boot_isinstance (pa_cons ha.pe (pa_cons (pe_tup (pa_cons h1 (pa_cons h2 pa_nil hy) hx)) pa_nil he2) he) (by decide) (by decide) he hpl) fun σ H Q ⟨F, γ, r, o⟩ => ?_⟩
  refine go1 (Z := fun z => Out (PV X.K F H) F H (fun c H' => W c σ H') z Q) r o (fun _ z => z) (fun z => z) fun dx v F1 H1 n1 r1 q1 o1 => ?_
  refine ⟨by show 2 ≤ sizeLine; rw [sizeLine_eq]; decide, fun tp htp => ?_⟩
  have nl : Nxt F1 H1 F1 (upd H1 tp (.tup [.ty T.nm, .ty U.nm])) := Nxt.laid r1.emb htp _
  refine ⟨v, tp, [.ty T.nm, .ty U.nm], .type (tyD dx), [.type T.nm, .type U.nm], isT T dx || isT U dx, rfl, upd_same, .cons (.ty _) (.cons (.ty _) .nil), tyX_of nl.emb (q1.next nl), ?_, PV.here (PV.next (Q := Q) o1 (n1.trans nl)) nl.emb (.bl _)⟩
  refine kitAny_cons (kit_ty (kit_isT T dx)) (fun h => ?_) (fun h => by rw [h]; rfl)
  rw [h]
  refine kitAny_cons (kit_ty (kit_isT U dx)) (fun h => by rw [h]; rfl) (fun h => by rw [h]; rfl)
end
/-! ### zip of two lists or of two tuples -/
theorem goes_zipT {K : PySem.W.Frag} {F : Hp} {a b : Addr} {ds es : List D} {vs us : List V} (h : SqT K F a vs) (r : Reps K F ds vs) (h2 : SqT K F b us) (r2 : Reps K F es us) : Goes K (RZ.ItzT K a b) F [] (zipD ds es) := fun F' H' i f e _ => by
  have q := e.sqt (same_sqt f h)
  have q2 := e.sqt (same_sqt f h2)
  refine ⟨fun hi => ⟨vs, us, q, q2, by rw [← r.length, ← r2.length]; simp [zipD, List.length_zip] at hi; omega⟩, fun d hd => ?_⟩
  simp only [zipD, List.getElem?_map, Option.map_eq_some_iff, List.getElem?_zip_eq_some] at hd
  obtain ⟨p, ⟨h3, h4⟩, rfl⟩ := hd
  obtain ⟨v, hv, p1⟩ := r.get h3
  obtain ⟨u, hu, p2⟩ := r2.get h4
  refine ⟨⟨vs, us, v, u, q, q2, hv, hu⟩, fun x H'' ⟨T, y, z, e1, nT, e2, e3, e4⟩ => ?_⟩
  subst e1 e2
  have : v = y := Option.some.inj (hv.symm.trans (e3 vs q))
  subst this
  have : u = z := Option.some.inj (hu.symm.trans (e4 us q2))
  subst this
  have s := same_upd (F := F') (o := .tup [v, u]) (e.free nT)
  exact ⟨_, .new e nT _, .tup (.inl (.inl upd_same)) (.cons ((p1.mono f).mono s) (.cons ((p2.mono f).mono s) .nil))⟩
def zipA : D → D → R (List D)
  | .lst xs, .lst ys => .ok (zipD xs ys)
  | .tup xs, .tup ys => .ok (zipD xs ys)
  | _, _ => .no
def iZpA (fa fb : Ga → R D) : Ga → R (List D) := fun γ => (fa γ).bind fun d => (fb γ).bind fun d' => zipA d d'
section
variable {X : Cx} {W : WN} {fa fb : Ga → R D} {a b : Expr} {p pos tpos : Pos}
theorem ji_zpA {elts : List Expr} {kk : Nat} (hm : X.mg "zip" = none) (ha : J X W fa a) (hb : J X W fb b) (hg : Gl X "zip" := by rfl) (hs : starEach [a, b] X.env = (false, eval a X.env) :: starEach [b] X.env := by rfl) (hpl : (backTo pos (starEach [b] X.env)).any (·.1) = false := by rfl)
    (hs4 : starEach [b] X.env = (false, eval b X.env) :: starEach [] X.env := by rfl) : JI X W (iZpA fa fb) (.Tuple elts kk tpos) (.Call (.Name "zip" p) [a, b] [] pos) :=
  ⟨PI.imp (RZ.pi_zipA hg hm (pa_cons ha.pe (pa_cons hb.pe pa_nil hs4) hs) hs hpl) fun σ H Rr ⟨F, γ, r, o⟩ => by
    refine ⟨F, γ, r, ?_⟩
    unfold iZpA at o
    cases e1 : fa γ with
    | ok d =>
      simp only [e1, R.bind] at o
      intro v F1 H1 n1 p1
      refine ⟨F1, γ, r.next n1, ?_⟩
      cases e2 : fb γ with
      | ok d' =>
        simp only [e2] at o
        intro u F2 H2 n2 p2
        cases d <;> cases d' <;> simp only [zipA] at o
        · cases p1 with
          | lst h1 h2 =>
            cases p2 with
            | lst h3 h4 => exact ⟨_, _, _, _, rfl, .inl ⟨n2.emb.sql (n2.f.seq h1), n2.emb.sql h3, o _ F2 H2 (n1.trans n2) (goes_zip (n2.f.seq h1) (h2.mono n2.f) h3 h4)⟩⟩
        · cases p1 with
          | tup h1 h2 =>
            cases p2 with
            | tup h3 h4 => exact ⟨_, _, _, _, rfl, .inr ⟨n2.emb.sqt (same_sqt n2.f h1), n2.emb.sqt h3, o _ F2 H2 (n1.trans n2) (goes_zipT (same_sqt n2.f h1) (h2.mono n2.f) h3 h4)⟩⟩
      | ex c => simp only [e2] at o; exact fun F' H' m => o F' H' (n1.trans m)
      | no => simp only [e2] at o
    | ex c => simp only [e1, R.bind] at o; exact o
    | no => simp only [e1, R.bind] at o⟩
end
/-! ### try .. except X: return None -/
def fTryN (k : Nat) (fb : Ga → R Fl) : Ga → R Fl := fun γ => match fb γ with
  | .ex c => if c = k then .ok (.rt .non) else .no
  | r => r
theorem js_tryN {X : Cx} {W : WN} {cl : Cl} {c0 : Nat} {C : Addr} {x : Str} {fb : Ga → R Fl} {body : List Stmt} {np p2 rpos pos' pos : Pos} {j : Nat}
    (hx : PySem.W.exmOne X.K (cl c0) (.ref C) = some true) (hmx : X.mg x = some (.ref C))
    (hbody : ∀ (pn : List (Addr × Obj)) (xe : Value → Shared → Prop) (Wn : WN), Takes (X.tr pn xe) (VW cl Wn) → PassesOwn (model X.prog X.w) X.A X.env xe → JSs (X.tr pn xe) Wn fb body)
    (hs : X.stack = X.env :: X.outer := by rfl) (hf : X.env.frame = some X.env.locals := by rfl) (hgx : Gl X x := by rfl) (hdx : (x == ("__debug__" : Str)) = false := by decide) :
    JS X W (fTryN c0 fb) (.Try body [.ExceptHandler (some (.Name x np)) none [.Return (some (.Constant .none j p2)) rpos] pos'] [] [] pos) := by
  refine ⟨PS.imp (ps_try_many (Wout := fun _ _ _ _ => False) (tb := fun W => rdS X.K (wnL X cl W) fb) (l := [(.ref C, fun _ _ _ => tRet (tC .non))]) hs hf takes0 (fun W pn xe tk hp => (hbody pn xe _ (takesL tk) hp).pss) (.cons ⟨hgx, hdx, .inl hmx⟩ (fun a oe cls d pn hz hfd => pss_one (ps_ret pe_non)) .nil)) fun E σ H ⟨B, F, γ, r, o⟩ => ?_⟩
  refine ⟨B, F, γ, r, ?_⟩
  unfold fTryN at o
  cases e : fb γ with
  | ok fl => rw [e] at o; cases fl <;> exact o
  | no => rw [e] at o; exact o.elim
  | ex c =>
    simp only [e] at o
    by_cases h : c = c0
    · rw [if_pos h] at o
      subst h
      intro σ' F' H' fi hl
      exact ⟨true, hx, fun _ a ha => o .non F' H' (fi.next (Nxt.refl fi.emb)) .non, fun z => nomatch z⟩
    · rw [if_neg h] at o
      exact o.elim
/-! ### xs.count(t), of texts -/
def dCountS : D → D → R D
  | .lst xs, .str t => (o2r (asTxs xs)).bind fun ts => .ok (.int (ts.count t : Nat))
  | _, _ => .no
theorem dCountS_ne : ∀ x y c, dCountS x y ≠ .ex c := fun x y c => by
  cases x <;> cases y <;> simp only [dCountS, o2r] <;> first | (intro h; cases h; done) | skip
  split <;> intro h <;> cases h
theorem reps_strs_inv {K : PySem.W.Frag} {F : Hp} : ∀ {ts : List Tx} {vs : List V}, Reps K F (ts.map .str) vs → vs = (ts.map toS).map V.str
  | [], _, h => by cases h; rfl
  | t :: ts, _, h => by
    cases h with
    | cons h1 h2 =>
      rw [reps_strs_inv h2]
      cases h1; rfl
section
variable {X : Cx}
theorem mt_countS : MtR X "list.count" (fun x xs H Q => ∃ (p : Addr) (bs : List Tx) (b : Tx), x = .ref p ∧ xs = [.str (toS b)] ∧ SqL X.K H p ((bs.map toS).map V.str) ∧ Q (.int (bs.count b : Nat)) H) := by
  intro pins s σ H x xs v us Q I rx rxs h
  obtain ⟨p, bs, b, rfl, rfl, hs, q⟩ := h
  cases rx
  obtain ⟨u, rfl, ru⟩ := rxs.one
  obtain ⟨its, rv, ⟨⟨cls, dd, data, sl⟩, n, ho, hc, hdn, hd⟩, hlen⟩ := I.list hs
  simp only at hc hd
  subst hc hd
  have fl : ((bs.map toS).map V.str).all flatV = true := by
    rw [List.all_eq_true]
    intro v hv
    obtain ⟨y, _, rfl⟩ := List.mem_map.mp hv
    rfl
  refine call_meets PySem.F.slot_list_count ⟨_, ho, rfl⟩ PySem.F.entry_list_count (PySem.F.args_list_count_2 _ _) (SeqAt.list_countAt p its.toArray n dd sl u (eqU (.str (toS b)))) ⟨ho, fun y hy => mem_eqAt ru rfl rv fl y (by simpa using hy), ?_⟩
  have e : ∀ (bs : List Tx) (its : List Value), Vals ((bs.map toS).map V.str) its → its.countP (eqU (.str (toS b))) = bs.count b := by
    intro bs
    induction bs with
    | nil => intro its r; cases r; rfl
    | cons a bs ih =>
      intro its r
      cases r with
      | cons r1 r2 =>
        rw [List.countP_cons, ih _ r2, List.count_cons, eqU_of r1 rfl]
        have : eqV (.str (toS a)) (.str (toS b)) = (a == b) := toS_beq a b
        rw [this]
  refine ⟨.int (bs.count b : Nat), H, I.tok _, ⟨s.toks, ?_⟩, q⟩
  show Value.int ((its.toArray.toList.countP (eqU (.str (toS b))) : Nat) : Int) s.toks = _
  rw [show its.toArray.toList = its from rfl, e bs its rv]
theorem j_countS {W : WN} {fa fb : Ga → R D} {a b : Expr} {apos cpos : Pos} (ha : JR X W fa a) (hb : JR X W fb b)
    (hbase : attributeBase a "count" X.env (eval a X.env) = eval a X.env := by rfl)
    (hfew : ((backTo cpos (starEach [b] X.env)).all (fun x => !x.1) && (backToKw cpos (keywordEach [] X.env)).all (fun x => x.1.isSome) && decide ([b].length + ([] : List Keyword).length + (if ([] : List Keyword).isEmpty then 0 else 1) < 30)) = true := by rfl)
    (hline : (apos.endLine == cpos.line) = true := by rfl) (hs : starEach [b] X.env = (false, eval b X.env) :: starEach [] X.env := by rfl) (hplain : (backTo cpos (starEach [] X.env)).any (·.1) = false := by rfl) :
    J X W (bM1 dCountS fa fb) (.Call (.Attribute a "count" apos) [b] [] cpos) :=
  j_meth1 (name := "count") PySem.F.slot_list_count (by rfl) mt_countS (fun F H dx dy d x y Q em p1 p2 e q => by
    cases dx <;> cases dy <;> simp only [dCountS] at e <;> first | (cases e; done) | skip
    rename_i xs bb
    cases e2 : asTxs xs with
    | none => rw [e2] at e; cases e
    | some bs =>
      rw [e2] at e
      cases e
      have := asTxs_of e2
      subst this
      obtain ⟨l, vs, rfl, s1, r1⟩ := p1.lst em
      have := reps_strs_inv r1
      subst this
      have hy : y = .str (toS bb) := p2.str
      subst hy
      exact ⟨l, bs, bb, rfl, rfl, s1, PV.here (Q := Q) q em (.int _)⟩) dCountS_ne ha hb hbase hfew hline hs hplain
end
end KN
/-! KnM: the meanings of the defs that stand in more than one law (printed by wip/shared.py) -/
namespace KN
open PySem PySem.Spec PyProof.Rows L2
noncomputable section
def m_is_number : Ga → R Fl := fRet (bAnd (b1 (dIsi .int) (bVar 0)) (bAnd (b1 dNot (b1 (dIsi .bool) (bVar 0))) (bCh dLe dLe (bVar 1) (bVar 0) (bVar 2))))
def g_is_number : List D → R D := fnD 3 m_is_number
def m_is_name : Ga → R Fl := fRet (bAnd (b1 (dIsi .str) (bVar 0)) (bAnd (bCh dLe dLe (bC (.int 1)) (bN dLen (bCons (bVar 0) (bNil))) (bC (.int 8))) (bN dAll (bCons (bLcE (bVar 0) [1] (bdN 1) yes (b2 dIn (bVar 1) (bC (.str [97, 98, 99, 100, 101, 102, 103, 104, 105, 106, 107, 108, 109, 110, 111, 112, 113, 114, 115, 116, 117, 118, 119, 120, 121, 122])))) (bNil)))))
def g_is_name : List D → R D := fnD 2 m_is_name
def m_is_book : Ga → R Fl := fRet (bAnd (b1 (dIsi .tup) (bVar 0)) (bAnd (bCh dLe dLe (bC (.int 1)) (bN dLen (bCons (bVar 0) (bNil))) (bC (.int 8))) (bN dAll (bCons (bLcE (bVar 0) [1] (bdN 1) yes (bCall g_is_name (bCons (bVar 1) (bNil)))) (bNil)))))
def g_is_book : List D → R D := fnD 2 m_is_book
def m_need_book : Ga → R Fl := fIf (tNot (tVal (bCall g_is_book (bCons (bVar 0) (bNil))))) (fRaise 0) (fNil)
def g_need_book : List D → R D := fnD 1 m_need_book
def m_need_order : Ga → R Fl := fIf (tNot (tVal (bCall g_is_number (bCons (bVar 0) (bCons (bC (.int 1)) (bCons (bC (.int 3)) (bNil))))))) (fRaise 1) (fNil)
def g_need_order : List D → R D := fnD 1 m_need_order
def m_need_name : Ga → R Fl := fIf (tNot (tVal (bCall g_is_name (bCons (bVar 0) (bNil))))) (fRaise 2) (fNil)
def g_need_name : List D → R D := fnD 1 m_need_name
def m_end_of : Ga → R Fl := fRet (bSl (bVar 1) (pSo (bN dMax (bCons (bC (.int 0)) (bCons (b2 dSub (bN dLen (bCons (bVar 1) (bNil))) (bVar 0)) (bNil))))) (pNo))
def g_end_of : List D → R D := fnD 2 m_end_of
def m_counted : Ga → R Fl := fSeq (fNd0 2) (fSeq (fForE (bVar 0) (bdN 3) (fForI (iR1 (b2 dAdd (bN dLen (bCons (bVar 3) (bNil))) (bC (.int 1)))) (bdN 4) (fSeq (fSet 5 (bCall g_end_of (bCons (bVar 1) (bCons (bSl (bVar 3) (pNo) (pSo (bVar 4))) (bNil))))) (fSeq (fSet 6 (bSl (bVar 3) (pSo (bVar 4)) (pSo (b2 dAdd (bVar 4) (bC (.int 1)))))) (fBump 2 7 5 6))))) (fFz 2 (fRet (bVar 2))))
def g_counted : List D → R D := fnD 8 m_counted
def m_listed : Ga → R Fl := fRet (bN dTuple (bCons (bLcE (bN dSort (bCons (bVar 0) (bNil))) [1] (bdN 1) yes (bTup (bCons (bVar 1) (bCons (b2 dIx (bVar 0) (bVar 1)) (bNil))))) (bNil)))
def g_listed : List D → R D := fnD 2 m_listed
def m_table : Ga → R Fl := fSeq (fExpr (bCall g_need_book (bCons (bVar 0) (bNil)))) (fSeq (fExpr (bCall g_need_order (bCons (bVar 1) (bNil)))) (fSeq (fSet 2 (bCall g_counted (bCons (bVar 0) (bCons (bVar 1) (bNil))))) (fRet (bLcE (bN dSort (bCons (bVar 2) (bNil))) [3] (bdN 3) yes (bTup (bCons (bVar 3) (bCons (bCall g_listed (bCons (b2 dIx (bVar 2) (bVar 3)) (bNil))) (bNil))))))))
def g_table : List D → R D := fnD 4 m_table
def m_behind : Ga → R Fl := fSeq (fExpr (bCall g_need_book (bCons (bVar 0) (bNil)))) (fSeq (fExpr (bCall g_need_order (bCons (bVar 1) (bNil)))) (fSeq (fIf (tVal (b2 dNe (bVar 2) (bC (.str [])))) (fExpr (bCall g_need_name (bCons (bVar 2) (bNil)))) (fNil)) (fRet (bN dList (bCons (bCall g_listed (bCons (bGet (bCall g_counted (bCons (bVar 0) (bCons (bVar 1) (bNil)))) (bCall g_end_of (bCons (bVar 1) (bCons (bVar 2) (bNil)))) (bC (.dic []))) (bNil))) (bNil))))))
def g_behind : List D → R D := fnD 3 m_behind
def m__law_cell : Ga → R Fl := fSeq (fIf (tVal (b2 dEq (bVar 0) (bLst (bNil)))) (fRet (b2 dMul (bC (.int 7)) (bVar 1))) (fNil)) (fRet (b2 dAdd (b2 dIx (bVar 0) (b2 dMod (bVar 1) (bN dLen (bCons (bVar 0) (bNil))))) (b2 dMul (bC (.int 6553)) (b2 dDiv (bVar 1) (bN dLen (bCons (bVar 0) (bNil)))))))
def g__law_cell : List D → R D := fnD 2 m__law_cell
def m__law_drawn : Ga → R Fl := fSeq (fSet 3 (b2 dMod (b2 dAdd (b2 dMul (b2 dMod (bCall g__law_cell (bCons (bVar 0) (bCons (bVar 1) (bNil)))) (bC (.int 2147483563))) (bC (.int 69069))) (b2 dMul (bC (.int 104723)) (b2 dAdd (bVar 1) (bC (.int 1))))) (bC (.int 2147483563)))) (fSeq (fSet 3 (b2 dMod (b2 dAdd (b2 dMul (bVar 3) (bVar 3)) (b2 dDiv (bVar 3) (bC (.int 3)))) (bC (.int 2147483399)))) (fRet (b2 dMod (b2 dDiv (b2 dMod (b2 dAdd (b2 dMul (bVar 3) (bVar 3)) (b2 dDiv (bVar 3) (bC (.int 7)))) (bC (.int 2147483647))) (bC (.int 11))) (bVar 2))))
def g__law_drawn : List D → R D := fnD 4 m__law_drawn
def m__law_name : Ga → R Fl := fSeq (fSet 3 (b2 dAdd (bC (.int 1)) (bCall g__law_drawn (bCons (bVar 0) (bCons (bVar 1) (bCons (bVar 2) (bNil))))))) (fSeq (fSet 4 (b2 dIx (bLst (bCons (bC (.str [97, 98])) (bCons (bC (.str [97, 98])) (bCons (bC (.str [97, 98, 122])) (bNil))))) (bCall g__law_drawn (bCons (bVar 0) (bCons (b2 dAdd (bVar 1) (bC (.int 9))) (bCons (bC (.int 3)) (bNil))))))) (fRet (b2s dJoin (bC (.str [])) (bLcI (iR1 (bVar 3)) [5] (bdN 5) yes (b2 dIx (bVar 4) (bCall g__law_drawn (bCons (bVar 0) (bCons (b2 dAdd (b2 dAdd (bVar 1) (bC (.int 1))) (bVar 5)) (bCons (bN dLen (bCons (bVar 4) (bNil))) (bNil))))))))))
def g__law_name : List D → R D := fnD 6 m__law_name
def m__law_book : Ga → R Fl := fSeq (fSet 4 (bTup (bNil))) (fSeq (fForI (iR1 (b2 dAdd (bC (.int 1)) (bCall g__law_drawn (bCons (bVar 0) (bCons (bVar 1) (bCons (bVar 2) (bNil))))))) (bdN 5) (fSet 4 (b2 dAdd (bVar 4) (bTup (bCons (bCall g__law_name (bCons (bVar 0) (bCons (b2 dAdd (b2 dAdd (bVar 1) (bC (.int 1))) (b2 dMul (bC (.int 10)) (bVar 5))) (bCons (bVar 3) (bNil))))) (bNil)))))) (fRet (bVar 4)))
def g__law_book : List D → R D := fnD 6 m__law_book
def m_lowest : Ga → R Fl := fSeq (fSet 2 (bVar 0)) (fSeq (fSet 3 (bVar 1)) (fSeq (fWh (tVal (b2 dGt (bVar 2) (bC (.int 0)))) (fPar 2 3 (b2 dMod (bVar 3) (bVar 2)) (bVar 2))) (fRet (bTup (bCons (b2 dDiv (bVar 0) (bVar 3)) (bCons (b2 dDiv (bVar 1) (bVar 3)) (bNil)))))))
def g_lowest : List D → R D := fnD 4 m_lowest
def m_times : Ga → R Fl := fRet (bCall g_lowest (bCons (b2 dMul (b2 dIx (bVar 0) (bC (.int 0))) (b2 dIx (bVar 1) (bC (.int 0)))) (bCons (b2 dMul (b2 dIx (bVar 0) (bC (.int 1))) (b2 dIx (bVar 1) (bC (.int 1)))) (bNil))))
def g_times : List D → R D := fnD 2 m_times
def m_part_of : Ga → R Fl := fSeq (fSet 3 (bGet (bVar 0) (bVar 1) (bC (.dic [])))) (fSeq (fIf (tVal (b2 dNotIn (bVar 2) (bVar 3))) (fRet (bTup (bCons (bC (.int 0)) (bCons (bC (.int 1)) (bNil))))) (fNil)) (fRet (bCall g_lowest (bCons (b2 dIx (bVar 3) (bVar 2)) (bCons (bN dSum (bCons (bLcE (bVar 3) [4] (bdN 4) yes (b2 dIx (bVar 3) (bVar 4))) (bNil))) (bNil))))))
def g_part_of : List D → R D := fnD 5 m_part_of
def m_steps : Ga → R Fl := fSeq (fExpr (bCall g_need_book (bCons (bVar 0) (bNil)))) (fSeq (fExpr (bCall g_need_order (bCons (bVar 1) (bNil)))) (fSeq (fExpr (bCall g_need_name (bCons (bVar 2) (bNil)))) (fSeq (fSet 3 (bCall g_counted (bCons (bVar 0) (bCons (bVar 1) (bNil))))) (fSeq (fOwn 4 (bLst (bNil))) (fSeq (fForI (iR1 (b2 dAdd (bN dLen (bCons (bVar 2) (bNil))) (bC (.int 1)))) (bdN 5) (fSeq (fSet 6 (bCall g_end_of (bCons (bVar 1) (bCons (bSl (bVar 2) (pNo) (pSo (bVar 5))) (bNil))))) (fSeq (fSet 7 (bSl (bVar 2) (pSo (bVar 5)) (pSo (b2 dAdd (bVar 5) (bC (.int 1)))))) (fApp 4 (bTup (bCons (bVar 6) (bCons (bVar 7) (bCons (bCall g_part_of (bCons (bVar 3) (bCons (bVar 6) (bCons (bVar 7) (bNil))))) (bNil))))))))) (fFz 4 (fRet (bVar 4))))))))
def g_steps : List D → R D := fnD 8 m_steps
def m_share : Ga → R Fl := fSeq (fSet 3 (bTup (bCons (bC (.int 1)) (bCons (bC (.int 1)) (bNil))))) (fSeq (fForE (bCall g_steps (bCons (bVar 0) (bCons (bVar 1) (bCons (bVar 2) (bNil))))) (bdT [4, 5, 6]) (fSet 3 (bCall g_times (bCons (bVar 3) (bCons (bVar 6) (bNil)))))) (fRet (bVar 3)))
def g_share : List D → R D := fnD 7 m_share
def m_makes : Ga → R Fl := fRet (b2 dGt (b2 dIx (bCall g_share (bCons (bVar 0) (bCons (bVar 1) (bCons (bVar 2) (bNil))))) (bC (.int 0))) (bC (.int 0)))
def g_makes : List D → R D := fnD 3 m_makes
def m_is_end : Ga → R Fl := fRet (bAnd (b1 (dIsi .str) (bVar 0)) (bAnd (b2 dLe (bN dLen (bCons (bVar 0) (bNil))) (bC (.int 3))) (bN dAll (bCons (bLcE (bVar 0) [1] (bdN 1) yes (b2 dIn (bVar 1) (bC (.str [97, 98, 99, 100, 101, 102, 103, 104, 105, 106, 107, 108, 109, 110, 111, 112, 113, 114, 115, 116, 117, 118, 119, 120, 121, 122])))) (bNil)))))
def g_is_end : List D → R D := fnD 2 m_is_end
def m_is_wish : Ga → R Fl := fSeq (fIf (tOr (tNot (tVal (b1 (dIsi .tup) (bVar 0)))) (tOr (tVal (b2 dNe (bN dLen (bCons (bVar 0) (bNil))) (bC (.int 6)))) (tNot (tVal (bCall g_is_number (bCons (b2 dIx (bVar 0) (bC (.int 0))) (bCons (bC (.int 1)) (bCons (bC (.int 8)) (bNil))))))))) (fRet (bC (.bl false))) (fNil)) (fSeq (fIf (tOr (tNot (tVal (bCall g_is_number (bCons (b2 dIx (bVar 0) (bC (.int 1))) (bCons (b2 dIx (bVar 0) (bC (.int 0))) (bCons (bC (.int 8)) (bNil))))))) (tOr (tNot (tVal (bCall g_is_end (bCons (b2 dIx (bVar 0) (bC (.int 2))) (bNil))))) (tNot (tVal (bCall g_is_end (bCons (b2 dIx (bVar 0) (bC (.int 3))) (bNil))))))) (fRet (bC (.bl false))) (fNil)) (fSeq (fIf (tOr (tNot (tVal (b1 (dIsi .tup) (b2 dIx (bVar 0) (bC (.int 4)))))) (tOr (tVal (b2 dGt (bN dLen (bCons (b2 dIx (bVar 0) (bC (.int 4))) (bNil))) (bC (.int 6)))) (tNot (tVal (bN dAll (bCons (bLcE (b2 dIx (bVar 0) (bC (.int 4))) [1] (bdN 1) yes (bCall g_is_name (bCons (bVar 1) (bNil)))) (bNil))))))) (fRet (bC (.bl false))) (fNil)) (fRet (bAnd (bN dAll (bCons (bLcI (iZpA (b2 dIx (bVar 0) (bC (.int 4))) (bSl (b2 dIx (bVar 0) (bC (.int 4))) (pSo (bC (.int 1))) (pNo))) [1, 2] (bdT [1, 2]) yes (b2 dLt (bVar 1) (bVar 2))) (bNil))) (b1 (dIsi .bool) (b2 dIx (bVar 0) (bC (.int 5))))))))
def g_is_wish : List D → R D := fnD 3 m_is_wish
def m_need_wish : Ga → R Fl := fIf (tNot (tVal (bCall g_is_wish (bCons (bVar 0) (bNil))))) (fRaise 3) (fNil)
def g_need_wish : List D → R D := fnD 1 m_need_wish
def m_is_fit : Ga → R Fl := fSeq (fBd (bdT [3, 4, 5, 6, 7, 8]) (bVar 1)) (fSeq (fIf (tOr (tNot (tVal (bCh dLe dLe (bVar 3) (bN dLen (bCons (bVar 2) (bNil))) (bVar 4)))) (tOr (tNot (tVal (b2s dSw (bVar 2) (bVar 5)))) (tNot (tVal (b2s dEw (bVar 2) (bVar 6)))))) (fRet (bC (.bl false))) (fNil)) (fRet (bAnd (b2 dNotIn (bVar 2) (bVar 7)) (bOr (bVar 8) (b2 dNotIn (bVar 2) (bVar 0))))))
def g_is_fit : List D → R D := fnD 9 m_is_fit
def m_fits : Ga → R Fl := fSeq (fExpr (bCall g_need_book (bCons (bVar 0) (bNil)))) (fSeq (fExpr (bCall g_need_wish (bCons (bVar 1) (bNil)))) (fSeq (fExpr (bCall g_need_name (bCons (bVar 2) (bNil)))) (fRet (bCall g_is_fit (bCons (bVar 0) (bCons (bVar 1) (bCons (bVar 2) (bNil))))))))
def g_fits : List D → R D := fnD 3 m_fits
def m__law_wish : Ga → R Fl := fSeq (fSet 2 (b2 dAdd (bC (.int 1)) (bCall g__law_drawn (bCons (bVar 0) (bCons (bVar 1) (bCons (bC (.int 3)) (bNil))))))) (fSeq (fSet 3 (b2 dAdd (bVar 2) (bCall g__law_drawn (bCons (bVar 0) (bCons (b2 dAdd (bVar 1) (bC (.int 1))) (bCons (b2 dSub (bC (.int 5)) (bVar 2)) (bNil))))))) (fSeq (fSet 4 (bLst (bCons (bC (.str [])) (bCons (bC (.str [])) (bCons (bC (.str [97])) (bCons (bC (.str [98])) (bCons (bC (.str [97, 98])) (bCons (bC (.str [97, 98, 97])) (bCons (bC (.str [122])) (bNil)))))))))) (fSeq (fOwn 5 (bLst (bNil))) (fSeq (fForI (iEn (bLst (bCons (bC (.str [97])) (bCons (bC (.str [97, 97])) (bCons (bC (.str [97, 98])) (bCons (bC (.str [98])) (bCons (bC (.str [98, 97])) (bCons (bC (.str [122])) (bNil))))))))) (bdT [7, 8]) (fIf (tVal (b2 dEq (bCall g__law_drawn (bCons (bVar 0) (bCons (b2 dAdd (b2 dAdd (bVar 1) (bC (.int 4))) (bVar 7)) (bCons (bC (.int 3)) (bNil))))) (bC (.int 0)))) (fApp 5 (bVar 8)) (fNil))) (fSeq (fSet 6 (b2 dIx (bVar 4) (bCall g__law_drawn (bCons (bVar 0) (bCons (b2 dAdd (bVar 1) (bC (.int 2))) (bCons (bC (.int 7)) (bNil))))))) (fRet (bTup (bCons (bVar 2) (bCons (bVar 3) (bCons (bVar 6) (bCons (b2 dIx (bVar 4) (bCall g__law_drawn (bCons (bVar 0) (bCons (b2 dAdd (bVar 1) (bC (.int 3))) (bCons (bC (.int 7)) (bNil)))))) (bCons (bN dTuple (bCons (bRd 5) (bNil))) (bCons (b2 dEq (bCall g__law_drawn (bCons (bVar 0) (bCons (b2 dAdd (bVar 1) (bC (.int 10))) (bCons (bC (.int 2)) (bNil))))) (bC (.int 0))) (bNil))))))))))))))
def g__law_wish : List D → R D := fnD 9 m__law_wish
def m_are_numbers : Ga → R Fl := fSeq (fIf (tOr (tNot (tVal (b1 (dIsi2 .lst .tup) (bVar 0)))) (tVal (b2 dGt (bN dLen (bCons (bVar 0) (bNil))) (bC (.int 99))))) (fRet (bC (.bl false))) (fNil)) (fRet (bN dAll (bCons (bLcE (bVar 0) [1] (bdN 1) yes (bAnd (b1 (dIsi .int) (bVar 1)) (bAnd (b1 dNot (b1 (dIsi .bool) (bVar 1))) (bCh dLe dLe (bC (.int 0)) (bVar 1) (bC (.int 9999)))))) (bNil))))
def g_are_numbers : List D → R D := fnD 2 m_are_numbers
def m_need_numbers : Ga → R Fl := fIf (tNot (tVal (bCall g_are_numbers (bCons (bVar 0) (bNil))))) (fRaise 4) (fNil)
def g_need_numbers : List D → R D := fnD 1 m_need_numbers
def m_picked : Ga → R Fl := fSeq (fSet 2 (b2 dMod (bVar 1) (bN dSum (bCons (bLcE (bVar 0) [3, 4] (bdT [3, 4]) yes (bVar 4)) (bNil))))) (fSeq (fForE (bVar 0) (bdT [3, 4]) (fSeq (fIf (tVal (b2 dLt (bVar 2) (bVar 4))) (fRet (bVar 3)) (fNil)) (fSet 2 (b2 dSub (bVar 2) (bVar 4))))) (fRet (bC (.str []))))
def g_picked : List D → R D := fnD 5 m_picked
def m_one_drawn : Ga → R Fl := fSeq (fSet 3 (bC (.str []))) (fSeq (fForI (iEn (bVar 2)) (bdT [4, 5]) (fSeq (fSet 6 (bCall g_picked (bCons (bCall g_listed (bCons (b2 dIx (bVar 0) (bCall g_end_of (bCons (bVar 1) (bCons (bVar 3) (bNil))))) (bNil))) (bCons (bVar 5) (bNil))))) (fSeq (fIf (tVal (b2 dEq (bVar 6) (bC (.str [])))) (fRet (bTup (bCons (bVar 3) (bCons (b2 dAdd (bVar 4) (bC (.int 1))) (bNil))))) (fNil)) (fSet 3 (b2 dAdd (bVar 3) (bVar 6)))))) (fRet (bC .non)))
def g_one_drawn : List D → R D := fnD 7 m_one_drawn
def m_drawn : Ga → R Fl := fSeq (fExpr (bCall g_need_book (bCons (bVar 0) (bNil)))) (fSeq (fExpr (bCall g_need_order (bCons (bVar 1) (bNil)))) (fSeq (fExpr (bCall g_need_numbers (bCons (bVar 2) (bNil)))) (fSeq (fSet 3 (bCall g_one_drawn (bCons (bCall g_counted (bCons (bVar 0) (bCons (bVar 1) (bNil)))) (bCons (bVar 1) (bCons (bN dList (bCons (bVar 2) (bNil))) (bNil)))))) (fSeq (fIf (tVal (b2 dIsN (bVar 3) (bC .non))) (fRaise 6) (fNil)) (fRet (bVar 3))))))
def g_drawn : List D → R D := fnD 4 m_drawn
def m_fitting_of : Ga → R Fl := fSeq (fSet 4 (bCall g_counted (bCons (bVar 0) (bCons (bVar 1) (bNil))))) (fSeq (fSet 5 (bC (.int 0))) (fSeq (fSet 6 (bCall g_one_drawn (bCons (bVar 4) (bCons (bVar 1) (bCons (bN dList (bCons (bVar 3) (bNil))) (bNil)))))) (fSeq (fWh (tVal (b2 dNotN (bVar 6) (bC .non))) (fSeq (fSet 5 (b2 dAdd (bVar 5) (b2 dIx (bVar 6) (bC (.int 1))))) (fSeq (fIf (tVal (bCall g_is_fit (bCons (bVar 0) (bCons (bVar 2) (bCons (b2 dIx (bVar 6) (bC (.int 0))) (bNil)))))) (fRet (bTup (bCons (b2 dIx (bVar 6) (bC (.int 0))) (bCons (bVar 5) (bNil))))) (fNil)) (fSet 6 (bCall g_one_drawn (bCons (bVar 4) (bCons (bVar 1) (bCons (bSl (bN dList (bCons (bVar 3) (bNil))) (pSo (bVar 5)) (pNo)) (bNil))))))))) (fRaise 6))))
def g_fitting_of : List D → R D := fnD 7 m_fitting_of
def m_drawn_fitting : Ga → R Fl := fSeq (fExpr (bCall g_need_book (bCons (bVar 0) (bNil)))) (fSeq (fExpr (bCall g_need_order (bCons (bVar 1) (bNil)))) (fSeq (fExpr (bCall g_need_wish (bCons (bVar 2) (bNil)))) (fSeq (fExpr (bCall g_need_numbers (bCons (bVar 3) (bNil)))) (fRet (bCall g_fitting_of (bCons (bVar 0) (bCons (bVar 1) (bCons (bVar 2) (bCons (bVar 3) (bNil))))))))))
def g_drawn_fitting : List D → R D := fnD 4 m_drawn_fitting
def m_numbers_for : Ga → R Fl := fSeq (fExpr (bCall g_need_book (bCons (bVar 0) (bNil)))) (fSeq (fExpr (bCall g_need_order (bCons (bVar 1) (bNil)))) (fSeq (fExpr (bCall g_need_name (bCons (bVar 2) (bNil)))) (fSeq (fSet 3 (bCall g_counted (bCons (bVar 0) (bCons (bVar 1) (bNil))))) (fSeq (fOwn 4 (bLst (bNil))) (fSeq (fForI (iR1 (b2 dAdd (bN dLen (bCons (bVar 2) (bNil))) (bC (.int 1)))) (bdN 5) (fSeq (fSet 6 (bGet (bVar 3) (bCall g_end_of (bCons (bVar 1) (bCons (bSl (bVar 2) (pNo) (pSo (bVar 5))) (bNil)))) (bC (.dic [])))) (fSeq (fSet 7 (bSl (bVar 2) (pSo (bVar 5)) (pSo (b2 dAdd (bVar 5) (bC (.int 1)))))) (fSeq (fIf (tVal (b2 dNotIn (bVar 7) (bVar 6))) (fRaise 5) (fNil)) (fApp 4 (bN dSum (bCons (bLcE (bVar 6) [8] (bdN 8) (tVal (b2 dLt (bVar 8) (bVar 7))) (b2 dIx (bVar 6) (bVar 8))) (bNil)))))))) (fFz 4 (fRet (bVar 4))))))))
def g_numbers_for : List D → R D := fnD 9 m_numbers_for
def m_letter_text : Ga → R Fl := fRet (b2 dAdd (bIf (tVal (b2 dEq (bVar 0) (bC (.str [])))) (bC (.str [46])) (bVar 0)) (bN dStrI (bCons (bVar 1) (bNil))))
def g_letter_text : List D → R D := fnD 2 m_letter_text
end
end KN
/-! KnZ: a law's end -/
namespace KN
open PySem PySem.Spec PyProof.Rows L2
theorem cx_end {P : Program} {w : World} {outer : List Env} {H : Hp} {s s' : Shared} {e : Value} (h : L2.CX P w outer H s (fun _ _ _ => False) e s') : False := by
  obtain ⟨_, _, _, _, _, _, _, _, _, _, _, _, h⟩ := h
  exact h
end KN
/-! PA: how meanings are computed; the small defs of every law -/
namespace KN
open PySem PySem.Spec PyProof.Rows L2
noncomputable section
section
variable {f g : Ga → R Fl} {fa fb fc : Ga → R D} {γ : Ga} {p q : Ga → R Bool}
@[simp] theorem fSeq_e : fSeq f g γ = match f γ with | .ok (.nx γ') => g γ' | r => r := rfl
@[simp] theorem fSet_e {i} : fSet i fa γ = (fa γ).bind fun d => .ok (.nx (γ.set i (.va d))) := rfl
@[simp] theorem fOwn_e {i} : fOwn i fa γ = (fa γ).bind fun d => .ok (.nx (γ.set i (.ow d))) := rfl
@[simp] theorem fNd0_e {i} : fNd0 i γ = .ok (.nx (γ.set i (.nd []))) := rfl
@[simp] theorem fExpr_e : fExpr fa γ = (fa γ).bind fun _ => .ok (.nx γ) := rfl
@[simp] theorem fRet_e : fRet fa γ = (fa γ).bind fun d => .ok (.rt d) := rfl
@[simp] theorem fRetN_e : fRetN γ = .ok (.rt .non) := rfl
@[simp] theorem fNil_e : fNil γ = .ok (.nx γ) := rfl
@[simp] theorem fIf_e : fIf p f g γ = (p γ).bind fun b => if b = true then f γ else g γ := rfl
@[simp] theorem fFz_e {i} : fFz i f γ = match γ[i]? with
  | some (.ow d) => f (γ.set i (.va d))
  | some (.nd es) => f (γ.set i (.va (.dic (es.map fun e => (e.1, .dic e.2)))))
  | _ => .no := rfl
@[simp] theorem bVar_e {i} : bVar i γ = match γ[i]? with | some (.va d) => .ok d | _ => .no := rfl
@[simp] theorem bRd_e {i} : bRd i γ = match γ[i]? with | some (.ow d) => .ok d | _ => .no := rfl
@[simp] theorem bC_e {d} : bC d γ = .ok d := rfl
@[simp] theorem b1_e {h} : b1 h fa γ = (fa γ).bind h := rfl
@[simp] theorem b2_e {h} : b2 h fa fb γ = (fa γ).bind fun x => (fb γ).bind fun y => h x y := rfl
@[simp] theorem bNil_e : bNil γ = .ok [] := rfl
@[simp] theorem bCons_e {fs} : bCons fa fs γ = (fa γ).bind fun x => (fs γ).bind fun xs => .ok (x :: xs) := rfl
@[simp] theorem bN_e {h fs} : bN h fs γ = (fs γ).bind h := rfl
@[simp] theorem bCall_e {h fs} : bCall h fs γ = (fs γ).bind h := rfl
@[simp] theorem bIf_e : bIf p fa fb γ = (p γ).bind fun b => if b = true then fa γ else fb γ := rfl
@[simp] theorem tVal_e : tVal fa γ = (fa γ).bind tB := rfl
@[simp] theorem tB_e {b} : tB (.bl b) = .ok b := rfl
@[simp] theorem tAnd_e : tAnd p q γ = (p γ).bind fun b => if b = true then q γ else .ok false := rfl
@[simp] theorem tOr_e : tOr p q γ = (p γ).bind fun b => if b = true then .ok true else q γ := rfl
@[simp] theorem tNot_e : tNot p γ = (p γ).bind fun b => .ok (!b) := rfl
@[simp] theorem bTup_e {fs} : bTup fs γ = (fs γ).bind fun xs => if xs.length ≤ lim then .ok (.tup xs) else .no := rfl
@[simp] theorem bLst_e {fs} : bLst fs γ = (fs γ).bind fun xs => if xs.length ≤ lim then .ok (.lst xs) else .no := rfl
@[simp] theorem fnD_e {n body ds} : fnD n body ds = match body (ds.map .va ++ List.replicate (n - ds.length) .un) with
  | .ok (.rt d) => .ok d
  | .ok (.nx _) => .ok .non
  | .ex c => .ex c
  | _ => .no := rfl
end
@[simp] theorem dAdd_i {i j} : dAdd (.int i) (.int j) = .ok (.int (i + j)) := rfl
@[simp] theorem dSub_i {i j} : dSub (.int i) (.int j) = .ok (.int (i - j)) := rfl
@[simp] theorem dLt_i {i j} : dLt (.int i) (.int j) = .ok (.bl (decide (i < j))) := rfl
@[simp] theorem dLe_i {i j} : dLe (.int i) (.int j) = .ok (.bl (decide (i ≤ j))) := rfl
@[simp] theorem dGt_i {i j} : dGt (.int i) (.int j) = .ok (.bl (decide (j < i))) := rfl
@[simp] theorem dGe_i {i j} : dGe (.int i) (.int j) = .ok (.bl (decide (j ≤ i))) := rfl
@[simp] theorem dLen_l {xs} : dLen [.lst xs] = .ok (.int xs.length) := rfl
@[simp] theorem dLen_t {xs} : dLen [.tup xs] = .ok (.int xs.length) := rfl
@[simp] theorem dLen_d {xs} : dLen [.dic xs] = .ok (.int xs.length) := rfl
theorem lim_val : lim = 1000000 := rfl
theorem log_s {n : Nat} (hn : n < 2 ^ 100) : n.log2 ≤ 100 := by
  rcases Nat.eq_zero_or_pos n with rfl | hp
  · decide
  · have := (Nat.log2_lt (by omega)).mpr hn; omega
theorem dMul_i {i j : Int} : dMul (.int i) (.int j) = if i.natAbs.log2 + j.natAbs.log2 < 1000000 then .ok (.int (i * j)) else .no := rfl
theorem dDiv_i {i j : Int} : dDiv (.int i) (.int j) = if 0 < j ∧ j.natAbs.log2 < 9000 then .ok (.int (i / j)) else .no := rfl
theorem dMod_i {i j : Int} : dMod (.int i) (.int j) = if 0 < j then .ok (.int (i % j)) else .no := rfl
theorem dMul_s {i j : Int} (h : i.natAbs < 2 ^ 100) (k : j.natAbs < 2 ^ 100) : dMul (.int i) (.int j) = .ok (.int (i * j)) := by
  have h1 := log_s h
  have h2 := log_s k
  rw [dMul_i, if_pos (by omega)]
theorem dDiv_s {i j : Int} (h : 0 < j) (k : j.natAbs < 2 ^ 100) : dDiv (.int i) (.int j) = .ok (.int (i / j)) := by
  have h2 := log_s k
  rw [dDiv_i, if_pos ⟨h, by omega⟩]
theorem dMod_s {i j : Int} (h : 0 < j) : dMod (.int i) (.int j) = .ok (.int (i % j)) := by rw [dMod_i, if_pos h]
def Lk (ns : List Int) : D := .lst (ns.map .int)
theorem at_nat {α : Type} {xs : List α} {i : Int} (h0 : 0 ≤ i) (h1 : i < xs.length) : ∃ x, atI xs i = some x ∧ xs[i.toNat]? = some x := by
  obtain ⟨n, rfl⟩ := Int.eq_ofNat_of_zero_le h0
  have hn : n < xs.length := by omega
  exact ⟨xs[n], L2.atI_nat (List.getElem?_eq_getElem hn), List.getElem?_eq_getElem hn⟩
@[simp] theorem dIx_l {xs i} : dIx (.lst xs) (.int i) = o2r (L2.atI xs i) := rfl
@[simp] theorem dIx_t {xs i} : dIx (.tup xs) (.int i) = o2r (L2.atI xs i) := rfl
@[simp] theorem dIx_d {es k} : dIx (.dic es) (.str k) = o2r (lookK es k) := rfl
@[simp] theorem o2r_some {α : Type} {a : α} : o2r (some a) = .ok a := rfl
theorem pl_lst (n : Nat) (xs : List D) : pl (n + 1) (.lst xs) = xs.all (pl n) := rfl
theorem pl_tup (n : Nat) (xs : List D) : pl (n + 1) (.tup xs) = xs.all (pl n) := rfl
@[simp] theorem pl_int (n : Nat) (i : Int) : pl n (.int i) = true := by cases n <;> rfl
@[simp] theorem pl_bl (n : Nat) (i : Bool) : pl n (.bl i) = true := by cases n <;> rfl
@[simp] theorem pl_non (n : Nat) : pl n .non = true := by cases n <;> rfl
@[simp] theorem pl_str (n : Nat) (s : Tx) : pl n (.str s) = s.all (· < 0x110000) := by cases n <;> rfl
@[simp] theorem eqv_int (n : Nat) (i j : Int) : eqv n (.int i) (.int j) = (i == j) := by cases n <;> rfl
@[simp] theorem eqv_str (n : Nat) (i j : Tx) : eqv n (.str i) (.str j) = (i == j) := by cases n <;> rfl
theorem eqv_lst (n : Nat) (xs ys : List D) : eqv (n + 1) (.lst xs) (.lst ys) = eqvL (eqv n) xs ys := rfl
theorem eqv_tup (n : Nat) (xs ys : List D) : eqv (n + 1) (.tup xs) (.tup ys) = eqvL (eqv n) xs ys := rfl
theorem dEq_p {d e : D} (h : pl 20 d = true) (k : pl 20 e = true) : dEq d e = .ok (.bl (eqv 20 d e)) := by unfold dEq; rw [if_pos ⟨h, k⟩]
theorem dNe_p {d e : D} (h : pl 20 d = true) (k : pl 20 e = true) : dNe d e = .ok (.bl (!eqv 20 d e)) := by unfold dNe; rw [if_pos ⟨h, k⟩]
theorem i2n_i {i : Int} (h : -(2 ^ 60) ≤ i ∧ i < 2 ^ 60) : i2n (.int i) = .ok i := by simp only [i2n]; rw [if_pos (by omega)]
theorem cell_ok {ns : List Int} (hns : ns.length ≤ 63) {k : Int} (h0 : 0 ≤ k) (h1 : k < 2 ^ 90) : ∃ i, g__law_cell [Lk ns, .int k] = .ok (.int i) := by
  unfold g__law_cell Lk
  rw [fnD_e]
  cases ns with
  | nil =>
    refine ⟨7 * k, ?_⟩
    have e7 : (7 : Int).natAbs < 2 ^ 100 := by decide
    have e : dMul (.int 7) (.int k) = .ok (.int (7 * k)) := dMul_s e7 (by omega)
    simp [m__law_cell, dEq, pl, eqv, eqvL, e]
  | cons n ns =>
    have hl : (0 : Int) < (((n :: ns).length : Nat) : Int) := by simp only [List.length_cons]; omega
    have e1 : dEq (.lst ((n :: ns).map D.int)) (.lst []) = .ok (.bl false) := by
      simp [dEq, pl, eqv, eqvL]
    have hm1 := Int.emod_nonneg k (show (((n :: ns).length : Nat) : Int) ≠ 0 by omega)
    have hm2 := Int.emod_lt_of_pos k hl
    obtain ⟨x, hx, hx1⟩ := at_nat (xs := (n :: ns).map D.int) hm1 (by rw [List.length_map]; exact hm2)
    have hx2 : ∃ j, x = .int j := by
      have := List.mem_of_getElem? hx1
      rw [List.mem_map] at this
      obtain ⟨j, _, rfl⟩ := this
      exact ⟨j, rfl⟩
    obtain ⟨j, rfl⟩ := hx2
    refine ⟨j + 6553 * (k / (((n :: ns).length : Nat) : Int)), ?_⟩
    have e2 : dMod (.int k) (.int (((n :: ns).map D.int).length : Nat)) = .ok (.int (k % (((n :: ns).length : Nat) : Int))) := by rw [List.length_map]; exact dMod_s hl
    have e3 : dDiv (.int k) (.int (((n :: ns).map D.int).length : Nat)) = .ok (.int (k / (((n :: ns).length : Nat) : Int))) := by
      rw [List.length_map]
      exact dDiv_s hl (by omega)
    have hq1 : 0 ≤ k / (((n :: ns).length : Nat) : Int) := Int.ediv_nonneg h0 (by omega)
    have hq2 : k / (((n :: ns).length : Nat) : Int) ≤ k := Int.ediv_le_self _ h0
    have e4 : dMul (.int 6553) (.int (k / (((n :: ns).length : Nat) : Int))) = .ok (.int (6553 * (k / (((n :: ns).length : Nat) : Int)))) := dMul_s (by omega) (by omega)
    generalize (List.map D.int (n :: ns)) = L at *
    generalize (((n :: ns).length : Nat) : Int) = m at *
    simp [m__law_cell, lim_val, e1, e2, e3, e4, hx]
def drawnF (ns : List Int) (k m : Int) : Int := match g__law_drawn [Lk ns, .int k, .int m] with
  | .ok (.int i) => i
  | _ => 0
theorem drawn_ok {ns : List Int} (hns : ns.length ≤ 63) {k m : Int} (h0 : 0 ≤ k) (h1 : k < 2 ^ 60) (hm : 0 < m) : g__law_drawn [Lk ns, .int k, .int m] = .ok (.int (drawnF ns k m)) ∧ 0 ≤ drawnF ns k m ∧ drawnF ns k m < m := by
  have key : ∃ i, g__law_drawn [Lk ns, .int k, .int m] = .ok (.int (i % m)) := by
    obtain ⟨c, hc⟩ := cell_ok hns h0 (show k < 2 ^ 90 by omega)
    have b1 := Int.emod_nonneg c (show (2147483563 : Int) ≠ 0 by decide)
    have b2 := Int.emod_lt_of_pos c (show (0 : Int) < 2147483563 by decide)
    have e1 : dMul (.int (c % 2147483563)) (.int 69069) = .ok (.int (c % 2147483563 * 69069)) := dMul_s (by omega) (by omega)
    have e2 : dMul (.int 104723) (.int (k + 1)) = .ok (.int (104723 * (k + 1))) := dMul_s (by omega) (by omega)
    obtain ⟨x, hx⟩ : ∃ x, x = (c % 2147483563 * 69069 + 104723 * (k + 1)) % 2147483563 := ⟨_, rfl⟩
    have x1 : 0 ≤ x := by rw [hx]; exact Int.emod_nonneg _ (by decide)
    have x2 : x < 2147483563 := by rw [hx]; exact Int.emod_lt_of_pos _ (by decide)
    have e3 : dMul (.int x) (.int x) = .ok (.int (x * x)) := dMul_s (by omega) (by omega)
    obtain ⟨y, hy⟩ : ∃ y, y = (x * x + x / 3) % 2147483399 := ⟨_, rfl⟩
    have y1 : 0 ≤ y := by rw [hy]; exact Int.emod_nonneg _ (by decide)
    have y2 : y < 2147483399 := by rw [hy]; exact Int.emod_lt_of_pos _ (by decide)
    have e4 : dMul (.int y) (.int y) = .ok (.int (y * y)) := dMul_s (by omega) (by omega)
    have md : ∀ {a b : Int}, 0 < b → dMod (.int a) (.int b) = .ok (.int (a % b)) := fun h => dMod_s h
    have dv : ∀ {a b : Int}, 0 < b → b < 1000 → dDiv (.int a) (.int b) = .ok (.int (a / b)) := fun h k => dDiv_s h (by omega)
    refine ⟨(y * y + y / 7) % 2147483647 / 11, ?_⟩
    unfold g__law_drawn
    rw [fnD_e]
    simp [m__law_drawn, hc, md, dv, e1, e2, hm, ← hx, e3, ← hy, e4]
  obtain ⟨i, hi⟩ := key
  have : drawnF ns k m = i % m := by unfold drawnF; rw [hi]
  rw [this]
  exact ⟨hi, Int.emod_nonneg _ (by omega), Int.emod_lt_of_pos _ hm⟩
/-! ### comprehensions, loops -/
section
variable {bd : D → Ga → R Ga} {ifs : Ga → R Bool} {elt : Ga → R D} {γ : Ga}
theorem lcGo_fil {α : Type} {inj : α → D} {p : α → Bool} {f : α → D} : ∀ {l : List α}, (∀ a ∈ l, ∃ γ1, bd (inj a) γ = .ok γ1 ∧ ifs γ1 = .ok (p a) ∧ (p a = true → elt γ1 = .ok (f a))) → lcGo bd ifs elt γ (l.map inj) = .ok ((l.filter p).map f)
  | [], _ => rfl
  | a :: l, h => by
    obtain ⟨γ1, h1, h2, h3⟩ := h a List.mem_cons_self
    have ih := lcGo_fil (l := l) fun b hb => h b (List.mem_cons_of_mem _ hb)
    rw [List.map_cons]
    unfold lcGo
    cases hp : p a with
    | true => simp [h1, h2, hp, h3 hp, ih]
    | false => simp [h1, h2, hp, ih]
theorem lcGo_map {α : Type} {inj f : α → D} {l : List α} (h : ∀ a ∈ l, ∃ γ1, bd (inj a) γ = .ok γ1 ∧ elt γ1 = .ok (f a)) : lcGo bd yes elt γ (l.map inj) = .ok (l.map f) := by
  have := lcGo_fil (bd := bd) (ifs := yes) (elt := elt) (γ := γ) (inj := inj) (p := fun _ => true) (f := f) (l := l) fun a ha => by
    obtain ⟨γ1, h1, h2⟩ := h a ha
    exact ⟨γ1, h1, rfl, fun _ => h2⟩
  rw [this]
  congr 2
  exact List.filter_eq_self.mpr fun _ _ => rfl
theorem lcGo_ex {α : Type} {inj : α → D} {P : D → Prop} : ∀ {l : List α}, (∀ a ∈ l, ∃ γ1 d, bd (inj a) γ = .ok γ1 ∧ elt γ1 = .ok d ∧ P d) → ∃ ds, lcGo bd yes elt γ (l.map inj) = .ok ds ∧ ds.length = l.length ∧ ∀ d ∈ ds, P d
  | [], _ => ⟨[], rfl, rfl, fun _ h => nomatch h⟩
  | a :: l, h => by
    obtain ⟨γ1, d, h1, h2, h3⟩ := h a List.mem_cons_self
    obtain ⟨ds, i1, i2, i3⟩ := lcGo_ex (l := l) fun b hb => h b (List.mem_cons_of_mem _ hb)
    refine ⟨d :: ds, ?_, by simp [i2], fun e he => ?_⟩
    · rw [List.map_cons]
      unfold lcGo
      simp [h1, h2, i1, yes]
    · rcases List.mem_cons.mp he with rfl | he
      · exact h3
      · exact i3 e he
theorem lcOut_e {vs : List Nat} {ds ys : List D} (h : lcGo bd ifs elt (wipeG γ vs) ds = .ok ys) (hl : ys.length ≤ lim) : lcOut bd ifs elt vs γ ds = .ok (.lst ys) := by
  unfold lcOut
  rw [h]
  simp [hl]
variable {body : Ga → R Fl}
/-- a loop that ends well, by an invariant -/
theorem forGo_inv {α : Type} {inj : α → D} {I : List α → Ga → Prop} {l0 : List α} {γ : Ga} (step : ∀ done a rest γ, l0 = done ++ a :: rest → I done γ → ∃ γ1, bd (inj a) γ = .ok γ1 ∧ ∃ γ2, (body γ1 = .ok (.nx γ2) ∨ body γ1 = .ok (.ct γ2)) ∧ I (done ++ [a]) γ2) (h0 : I [] γ) : ∃ γ', forGo bd body (l0.map inj) γ = .ok (.nx γ') ∧ I l0 γ' := by
  have aux : ∀ (l done : List α) (γ : Ga), l0 = done ++ l → I done γ → ∃ γ', forGo bd body (l.map inj) γ = .ok (.nx γ') ∧ I l0 γ' := by
    intro l
    induction l with
    | nil => intro done γ e h; exact ⟨γ, rfl, by rw [e]; simpa using h⟩
    | cons a l ih =>
      intro done γ e h
      obtain ⟨γ1, h1, γ2, h2, h3⟩ := step done a l γ e h
      obtain ⟨γ', i1, i2⟩ := ih (done ++ [a]) γ2 (by rw [e]; simp) h3
      refine ⟨γ', ?_, i2⟩
      rw [List.map_cons]
      unfold forGo
      rcases h2 with h2 | h2 <;> simp [h1, h2, i1]
  exact aux l0 [] γ rfl h0
theorem range_split {n i : Nat} {done rest : List Nat} (h : List.range n = done ++ i :: rest) : i = done.length ∧ done.length < n := by
  have e : (List.range n)[done.length]? = some i := by rw [h]; simp
  have l : done.length < n := by
    have := congrArg List.length h
    simp at this; omega
  rw [List.getElem?_range l] at e
  cases e; exact ⟨rfl, l⟩
end
theorem joinT_nil : ∀ ts : List Tx, joinT [] ts = ts.flatten
  | [] => rfl
  | [x] => by simp [joinT]
  | x :: y :: r => by rw [joinT, joinT_nil (y :: r)]; simp
theorem rng_e {n : Nat} {lo : Int} : rngD lo n = (List.range n).map fun i => .int (lo + (i : Nat)) := rfl
/-- letters of the laws' names -/
def ltr (c : Nat) : Prop := c = 97 ∨ c = 98 ∨ c = 122
def nameF (ns : List Int) (at_ most : Int) : Tx := match g__law_name [Lk ns, .int at_, .int most] with
  | .ok (.str s) => s
  | _ => []
theorem one_letters : ∀ {ds : List D}, (∀ d ∈ ds, ∃ c, ltr c ∧ d = .str [c]) → ∃ cs : List Nat, ds = cs.map (fun c => .str [c]) ∧ ∀ c ∈ cs, ltr c
  | [], _ => ⟨[], rfl, fun _ h => nomatch h⟩
  | d :: ds, h => by
    obtain ⟨c, hc, rfl⟩ := h d List.mem_cons_self
    obtain ⟨cs, rfl, h2⟩ := one_letters (ds := ds) fun e he => h e (List.mem_cons_of_mem _ he)
    exact ⟨c :: cs, rfl, fun e he => by
      rcases List.mem_cons.mp he with rfl | he
      · exact hc
      · exact h2 e he⟩
theorem asTxs_one (cs : List Nat) : asTxs (cs.map fun c => D.str [c]) = some (cs.map fun c => [c]) := by
  induction cs with
  | nil => rfl
  | cons c cs ih => simp [asTxs, ih]
theorem flat_one (cs : List Nat) : (cs.map fun c => [c]).flatten = cs := by
  induction cs with
  | nil => rfl
  | cons c cs ih => simp [ih]
theorem sum_one (cs : List Nat) : ((cs.map fun c => [c]).map List.length).sum = cs.length := by
  induction cs with
  | nil => rfl
  | cons c cs ih => rw [List.map_cons, List.map_cons, List.sum_cons, ih, List.length_cons]; simp; omega
theorem join_one {cs : List Nat} (h : cs.length ≤ lim) : dJoin [] (.lst (cs.map fun c => .str [c])) = .ok (.str cs) := by
  show ((o2r (asTxs (cs.map fun c => D.str [c]))).bind fun ts => if (ts.map (·.length)).sum + ts.length * ([] : Tx).length ≤ lim then R.ok (D.str (joinT [] ts)) else R.no) = _
  rw [asTxs_one, o2r_some]
  show (if ((cs.map fun c => [c]).map List.length).sum + _ ≤ lim then _ else _) = _
  rw [sum_one, joinT_nil, flat_one, if_pos (by simpa using h)]
theorem name_ok {ns : List Int} (hns : ns.length ≤ 63) {k m : Int} (h0 : 0 ≤ k) (h1 : k < 2 ^ 50) (hm : 0 < m) (hm2 : m < 1000) : g__law_name [Lk ns, .int k, .int m] = .ok (.str (nameF ns k m)) ∧ 0 < (nameF ns k m).length ∧ ((nameF ns k m).length : Int) ≤ m ∧ ∀ c ∈ nameF ns k m, ltr c := by
  have key : ∃ cs : Tx, g__law_name [Lk ns, .int k, .int m] = .ok (.str cs) ∧ 0 < cs.length ∧ (cs.length : Int) ≤ m ∧ ∀ c ∈ cs, ltr c := by
    obtain ⟨d1, d2, d3⟩ := drawn_ok hns h0 (show k < 2 ^ 60 by omega) hm
    obtain ⟨e1, e2, e3⟩ := drawn_ok hns (show 0 ≤ k + 9 by omega) (show k + 9 < 2 ^ 60 by omega) (show (0 : Int) < 3 by decide)
    generalize drawnF ns k m = n at *
    generalize drawnF ns (k + 9) 3 = j at *
    obtain ⟨L, hL, hLl, hLc⟩ : ∃ L : Tx, L2.atI [D.str [97, 98], D.str [97, 98], D.str [97, 98, 122]] j = some (.str L) ∧ (L.length = 2 ∨ L.length = 3) ∧ ∀ c ∈ L, ltr c := by
      have : j = 0 ∨ j = 1 ∨ j = 2 := by omega
      rcases this with rfl | rfl | rfl
      · exact ⟨[97, 98], rfl, .inl rfl, by simp [ltr]⟩
      · exact ⟨[97, 98], rfl, .inl rfl, by simp [ltr]⟩
      · exact ⟨[97, 98, 122], rfl, .inr rfl, by simp [ltr]⟩
    have hn : -(2 ^ 60) ≤ 1 + n ∧ 1 + n < 2 ^ 60 := by omega
    have comp : ∃ ds, lcGo (bdN 5) yes (b2 dIx (bVar 4) (bCall g__law_drawn (bCons (bVar 0) (bCons (b2 dAdd (b2 dAdd (bVar 1) (bC (.int 1))) (bVar 5)) (bCons (bN dLen (bCons (bVar 4) (bNil))) (bNil)))))) (wipeG [.va (Lk ns), .va (.int k), .va (.int m), .va (.int (1 + n)), .va (.str L), .un] [5]) ((List.range (1 + n).toNat).map fun i => .int (0 + (i : Nat))) = .ok ds ∧ ds.length = (List.range (1 + n).toNat).length ∧ ∀ d ∈ ds, ∃ c, ltr c ∧ d = .str [c] := by
      refine lcGo_ex fun i hi => ?_
      have hi := List.mem_range.mp hi
      have hLL : ((L.length : Nat) : Int) ≤ 3 := by omega
      obtain ⟨f1, f2, f3⟩ := drawn_ok hns (show 0 ≤ k + 1 + (0 + (i : Nat)) by omega) (show k + 1 + (0 + (i : Nat)) < 2 ^ 60 by omega) (show (0 : Int) < (L.length : Nat) by omega)
      obtain ⟨c, hc1, hc2⟩ := at_nat (xs := L) f2 f3
      refine ⟨_, .str [c], rfl, ?_, c, hLc c (List.mem_of_getElem? hc2), rfl⟩
      have l1 : L.length ≤ lim := by rw [lim_val]; omega
      simp [wipeG, dLen, dIx, l1, f1, hc1] at f1 hc1 ⊢
      simp [f1, hc1]
      exact l1
    obtain ⟨ds, c1, c2, c3⟩ := comp
    obtain ⟨cs, rfl, c4⟩ := one_letters c3
    rw [List.length_map, List.length_range] at c2
    have c5 := lcOut_e c1 (by rw [lim_val, List.length_map]; omega)
    refine ⟨cs, ?_, by omega, by omega, c4⟩
    have j1 : dJoin [] (.lst (cs.map fun c => .str [c])) = .ok (.str cs) := join_one (by rw [lim_val]; omega)
    unfold g__law_name
    rw [fnD_e]
    have c6 : bLcI (iR1 (bVar 3)) [5] (bdN 5) yes (b2 dIx (bVar 4) (bCall g__law_drawn (bCons (bVar 0) (bCons (b2 dAdd (b2 dAdd (bVar 1) (bC (.int 1))) (bVar 5)) (bCons (bN dLen (bCons (bVar 4) (bNil))) (bNil)))))) [.va (Lk ns), .va (.int k), .va (.int m), .va (.int (1 + n)), .va (.str L), .un] = .ok (.lst (cs.map fun c => .str [c])) := by
      unfold bLcI iR1
      simp [i2n_i hn, rng_e]
      simpa using c5
    simp [m__law_name, d1, e1, hL, lim_val, b2s, c6, j1]
  obtain ⟨cs, h⟩ := key
  have : nameF ns k m = cs := by unfold nameF; rw [h.1]
  rw [this]
  exact h
/-- a book -/
def bkD (b : List Tx) : D := .tup (b.map .str)
def goodN (m : Int) (x : Tx) : Prop := 0 < x.length ∧ (x.length : Int) ≤ m ∧ ∀ c ∈ x, ltr c
def bookF (ns : List Int) (at_ many most : Int) : List Tx := match g__law_book [Lk ns, .int at_, .int many, .int most] with
  | .ok (.tup xs) => (asTxs xs).getD []
  | _ => []
theorem book_ok {ns : List Int} (hns : ns.length ≤ 63) {k many m : Int} (h0 : 0 ≤ k) (h1 : k < 2 ^ 40) (hmy : 0 < many) (hmy2 : many < 1000) (hm : 0 < m) (hm2 : m < 1000) :
    g__law_book [Lk ns, .int k, .int many, .int m] = .ok (bkD (bookF ns k many m)) ∧ 0 < (bookF ns k many m).length ∧ ((bookF ns k many m).length : Int) ≤ many ∧ ∀ x ∈ bookF ns k many m, goodN m x := by
  have key : ∃ b : List Tx, g__law_book [Lk ns, .int k, .int many, .int m] = .ok (bkD b) ∧ 0 < b.length ∧ (b.length : Int) ≤ many ∧ ∀ x ∈ b, goodN m x := by
    obtain ⟨d1, d2, d3⟩ := drawn_ok hns h0 (show k < 2 ^ 60 by omega) hmy
    generalize drawnF ns k many = n at *
    have hn : -(2 ^ 60) ≤ 1 + n ∧ 1 + n < 2 ^ 60 := by omega
    have loop := forGo_inv (bd := bdN 5) (body := fSet 4 (b2 dAdd (bVar 4) (bTup (bCons (bCall g__law_name (bCons (bVar 0) (bCons (b2 dAdd (b2 dAdd (bVar 1) (bC (.int 1))) (b2 dMul (bC (.int 10)) (bVar 5))) (bCons (bVar 3) (bNil))))) (bNil)))))
      (inj := fun i : Nat => D.int (0 + (i : Nat))) (l0 := List.range (1 + n).toNat)
      (I := fun done γ => ∃ b s5, γ = [.va (Lk ns), .va (.int k), .va (.int many), .va (.int m), .va (bkD b), s5] ∧ b.length = done.length ∧ ∀ x ∈ b, goodN m x)
      (γ := [.va (Lk ns), .va (.int k), .va (.int many), .va (.int m), .va (.tup []), .un]) (fun done i rest γ hr hI => by
        obtain ⟨hi1, hi⟩ := range_split hr
        obtain ⟨b, s5, rfl, hb, hg⟩ := hI
        have e1 : dMul (.int 10) (.int (i : Nat)) = .ok (.int (10 * (i : Nat))) := dMul_s (by decide) (by omega)
        obtain ⟨f1, f2, f3, f4⟩ := name_ok hns (show 0 ≤ k + 1 + 10 * (i : Nat) by omega) (show k + 1 + 10 * (i : Nat) < 2 ^ 50 by omega) hm hm2
        refine ⟨_, rfl, [.va (Lk ns), .va (.int k), .va (.int many), .va (.int m), .va (bkD (b ++ [nameF ns (k + 1 + 10 * (i : Nat)) m])), .va (.int (i : Nat))], .inl ?_, _, _, rfl, ?_, ?_⟩
        · have e2 : dAdd (bkD b) (.tup [.str (nameF ns (k + 1 + 10 * (i : Nat)) m)]) = .ok (bkD (b ++ [nameF ns (k + 1 + 10 * (i : Nat)) m])) := by
            unfold bkD dAdd
            simp only
            rw [if_pos (by rw [lim_val]; simp; omega)]
            simp
          simp [e1, f1, lim_val, e2]
        · simp [hb]
        · intro x hx
          rcases List.mem_append.mp hx with hx | hx
          · exact hg x hx
          · rw [List.mem_singleton.mp hx]; exact ⟨f2, f3, f4⟩) ⟨[], _, rfl, rfl, fun _ h => nomatch h⟩
    obtain ⟨γ', l1, l2⟩ := loop
    obtain ⟨b, s5, rfl, hb, hg⟩ := l2
    have hb' : b.length = (1 + n).toNat := by simpa using hb
    refine ⟨b, ?_, by omega, by omega, hg⟩
    unfold g__law_book
    rw [fnD_e]
    simp [m__law_book, d1, lim_val, fForI, iR1, i2n_i hn, rng_e]
    simp at l1
    simp [l1]
  obtain ⟨b, h⟩ := key
  have : bookF ns k many m = b := by unfold bookF; rw [h.1]; simp [bkD]
  rw [this]
  exact h
end
end KN
/-! PB: association lists, tables of counts, no program in sight -/
namespace KN
open PySem PySem.Spec PyProof.Rows L2
/-! ### association lists -/
section
variable {α β : Type}
def lk : List (Tx × α) → Tx → Option α
  | [], _ => none
  | (k, r) :: es, x => if k = x then some r else lk es x
def pt : List (Tx × α) → Tx → α → List (Tx × α)
  | [], x, r => [(x, r)]
  | (k, r0) :: es, x, r => if k = x then (k, r) :: es else (k, r0) :: pt es x r
def ks (r : List (Tx × α)) : List Tx := r.map (·.1)
theorem lk_pt (r : List (Tx × α)) (x y : Tx) (v : α) : lk (pt r x v) y = if x = y then some v else lk r y := by
  induction r with
  | nil => simp [pt, lk]
  | cons e r ih =>
    obtain ⟨k, r0⟩ := e
    unfold pt
    by_cases h : k = x
    · subst h
      by_cases h2 : k = y <;> simp [lk, h2]
    · by_cases h2 : k = y
      · subst h2
        have : ¬ x = k := fun z => h z.symm
        simp [h, lk, this]
      · simp [h, lk, h2, ih]
theorem lk_none {r : List (Tx × α)} {x : Tx} : lk r x = none ↔ x ∉ ks r := by
  induction r with
  | nil => simp [lk, ks]
  | cons e r ih =>
    obtain ⟨k, r0⟩ := e
    unfold lk
    by_cases h : k = x
    · subst h; simp [ks]
    · have h' : ¬ x = k := fun z => h z.symm
      simp only [h, if_false, ih, ks, List.map_cons, List.mem_cons, h', false_or]
theorem mem_lk {r : List (Tx × α)} (nd : (ks r).Nodup) {x : Tx} {v : α} (h : (x, v) ∈ r) : lk r x = some v := by
  induction r with
  | nil => cases h
  | cons e r ih =>
    obtain ⟨k, r0⟩ := e
    unfold lk
    rw [ks, List.map_cons, List.nodup_cons] at nd
    rcases List.mem_cons.mp h with h | h
    · cases h; simp
    · have : k ≠ x := by rintro rfl; exact nd.1 (List.mem_map.mpr ⟨_, h, rfl⟩)
      rw [if_neg this]; exact ih nd.2 h
theorem ks_pt (r : List (Tx × α)) (x : Tx) (v : α) : ks (pt r x v) = if x ∈ ks r then ks r else ks r ++ [x] := by
  induction r with
  | nil => simp [pt, ks]
  | cons e r ih =>
    obtain ⟨k, r0⟩ := e
    unfold pt
    by_cases h : k = x
    · subst h; simp [ks]
    · have h' : ¬ x = k := fun z => h z.symm
      rw [if_neg h]
      show k :: ks (pt r x v) = _
      rw [ih]
      by_cases m : x ∈ ks r
      · have : x ∈ ks ((k, r0) :: r) := List.mem_cons_of_mem _ m
        rw [if_pos m, if_pos this]; rfl
      · have : x ∉ ks ((k, r0) :: r) := fun z => by
          rcases List.mem_cons.mp z with z | z
          · exact h' z
          · exact m z
        rw [if_neg m, if_neg this]; rfl
theorem nd_pt {r : List (Tx × α)} (nd : (ks r).Nodup) (x : Tx) (v : α) : (ks (pt r x v)).Nodup := by
  rw [ks_pt]
  split
  · exact nd
  · rename_i h
    rw [List.nodup_append]
    exact ⟨nd, by simp, fun a ha b hb => by rw [List.mem_singleton.mp hb]; rintro rfl; exact h ha⟩
theorem len_pt (r : List (Tx × α)) (x : Tx) (v : α) : (pt r x v).length ≤ r.length + 1 := by
  have := congrArg List.length (ks_pt r x v)
  have e1 : (pt r x v).length = (ks (pt r x v)).length := by simp [ks]
  have e2 : (ks r).length = r.length := by simp [ks]
  rw [e1, this]
  split <;> simp [e2]
theorem lk_map (f : α → β) (r : List (Tx × α)) (x : Tx) : lk (r.map fun e => (e.1, f e.2)) x = (lk r x).map f := by
  induction r with
  | nil => rfl
  | cons e r ih =>
    obtain ⟨k, r0⟩ := e
    simp only [List.map_cons, lk]
    split
    · rfl
    · exact ih
theorem pt_map (f : α → β) (r : List (Tx × α)) (x : Tx) (v : α) : (pt r x v).map (fun e => (e.1, f e.2)) = pt (r.map fun e => (e.1, f e.2)) x (f v) := by
  induction r with
  | nil => rfl
  | cons e r ih =>
    obtain ⟨k, r0⟩ := e
    simp only [List.map_cons, pt]
    split
    · rfl
    · rw [List.map_cons, ih]
theorem ks_map (f : α → β) (r : List (Tx × α)) : ks (r.map fun e => (e.1, f e.2)) = ks r := by
  simp [ks]
/-- sorted by keys -/
def lst (d : α) (r : List (Tx × α)) : List (Tx × α) := (sortT (ks r)).map fun l => (l, (lk r l).getD d)
/-- strictly rising keys -/
def SS (r : List (Tx × α)) : Prop := (ks r).Pairwise (· < ·)
theorem SS.nd {r : List (Tx × α)} (h : SS r) : (ks r).Nodup := List.Pairwise.imp (R := fun a b : Tx => a < b) (S := fun a b : Tx => a ≠ b) (fun {a b} h e => by subst e; exact List.lt_irrefl _ h) h
theorem le_lt {a b : Tx} (h : leT a b = true) (n : a ≠ b) : a < b := by
  unfold leT at h
  simp only [Bool.not_eq_true', decide_eq_false_iff_not, List.not_lt] at h
  rcases Decidable.em (a < b) with h2 | h2
  · exact h2
  · exact absurd (List.le_antisymm h (List.not_lt.mp h2)) n
theorem ks_lst (d : α) (r : List (Tx × α)) : ks (lst d r) = sortT (ks r) := by
  unfold lst ks
  rw [List.map_map]
  exact List.map_id _
theorem lst_ss (d : α) {r : List (Tx × α)} (nd : (ks r).Nodup) : SS (lst d r) := by
  unfold SS
  rw [ks_lst]
  have n2 : (sortT (ks r)).Nodup := (sortT_perm _).nodup_iff.mpr nd
  exact ((sortT_pw (ks r)).and n2).imp fun h => le_lt h.1 h.2
theorem self_map (d : α) {r : List (Tx × α)} (nd : (ks r).Nodup) : r = (ks r).map fun l => (l, (lk r l).getD d) := by
  unfold ks
  rw [List.map_map]
  conv => lhs; rw [← List.map_id r]
  refine List.map_congr_left fun e he => ?_
  have := mem_lk nd (show (e.1, e.2) ∈ r from he)
  simp [this]
end
/-! ### tables of counts -/
abbrev Rw := List (Tx × Int)
abbrev Tt := List (Tx × Rw)
abbrev Ev := Tx × Tx
def bump (t : Tt) (e : Ev) : Tt := pt t e.1 (pt ((lk t e.1).getD []) e.2 ((lk ((lk t e.1).getD []) e.2).getD 0 + 1))
def rowOf (t : Tt) (c : Tx) : Rw := (lk t c).getD []
def tabOf (es : List Ev) : Tt := es.foldl bump []
/-- the row of what a context was followed by -/
structure TabOk (t : Tt) (es : List Ev) : Prop where
  nd : (ks t).Nodup
  rnd : ∀ c, (ks (rowOf t c)).Nodup
  len : t.length ≤ es.length
  rlen : ∀ c, (rowOf t c).length ≤ es.length
  key : ∀ c, lk t c = none ↔ ∀ l, (c, l) ∉ es
  val : ∀ c l, lk (rowOf t c) l = if es.count (c, l) = 0 then none else some (es.count (c, l) : Int)
theorem rowOf_bump (t : Tt) (e : Ev) (c : Tx) : rowOf (bump t e) c = if e.1 = c then pt (rowOf t c) e.2 ((lk (rowOf t c) e.2).getD 0 + 1) else rowOf t c := by
  unfold rowOf bump
  rw [lk_pt]
  split
  · rename_i h; subst h; rfl
  · rfl
theorem TabOk.step {t : Tt} {es : List Ev} (h : TabOk t es) (e : Ev) : TabOk (bump t e) (es ++ [e]) := by
  refine ⟨nd_pt h.nd _ _, fun c => ?_, ?_, fun c => ?_, fun c => ?_, fun c l => ?_⟩
  · rw [rowOf_bump]
    split
    · exact nd_pt (h.rnd c) _ _
    · exact h.rnd c
  · refine Nat.le_trans (len_pt _ _ _) ?_
    have := h.len; simp; omega
  · rw [rowOf_bump]
    have := h.rlen c
    split
    · refine Nat.le_trans (len_pt _ _ _) ?_
      simp; omega
    · simp; omega
  · unfold bump
    rw [lk_pt]
    by_cases q : e.1 = c
    · subst q
      simp only [if_pos, reduceCtorEq, false_iff]
      intro z
      exact z e.2 (by simp)
    · rw [if_neg q, h.key c]
      constructor
      · intro z l m
        rcases List.mem_append.mp m with m | m
        · exact z l m
        · rw [← List.mem_singleton.mp m] at q; exact q rfl
      · intro z l m
        exact z l (List.mem_append_left _ m)
  · rw [rowOf_bump, List.count_append]
    by_cases q : e.1 = c
    · subst q
      rw [if_pos rfl, lk_pt, h.val]
      by_cases q2 : e.2 = l
      · subst q2
        have : List.count (e.1, e.2) [e] = 1 := by simp
        rw [if_pos rfl, this]
        by_cases z : es.count (e.1, e.2) = 0
        · simp [z]
        · simp [z]
      · have : List.count (e.1, l) [e] = 0 := by
          rw [List.count_eq_zero]
          intro m
          have := List.mem_singleton.mp m
          exact q2 (by rw [← this])
        rw [if_neg q2, this, Nat.add_zero, h.val]
    · have : List.count (c, l) [e] = 0 := by
        rw [List.count_eq_zero]
        intro m
        have := List.mem_singleton.mp m
        exact q (by rw [← this])
      rw [if_neg q, this, Nat.add_zero, h.val]
theorem tabOk (es : List Ev) : TabOk (tabOf es) es := by
  have aux : ∀ (es done : List Ev) (t : Tt), TabOk t done → TabOk (es.foldl bump t) (done ++ es) := by
    intro es
    induction es with
    | nil => intro done t h; simpa using h
    | cons e es ih =>
      intro done t h
      have := ih (done ++ [e]) (bump t e) (h.step e)
      simpa using this
  have := aux es [] [] ⟨by simp [ks], fun c => by simp [rowOf, lk, ks], by simp, fun c => by simp [rowOf, lk], fun c => by simp [lk], fun c l => by simp [rowOf, lk]⟩
  simpa [tabOf] using this
/-- what follows c, with its counts, by rising letters -/
def rowL (es : List Ev) (c : Tx) : Rw := lst 0 (rowOf (tabOf es) c)
theorem rowL_ss (es : List Ev) (c : Tx) : SS (rowL es c) := lst_ss 0 ((tabOk es).rnd c)
end KN
/-! PC: names, books, contexts, counts: what the defs answer -/
namespace KN
open PySem PySem.Spec PyProof.Rows L2
noncomputable section
def rowD (r : Rw) : List (Tx × D) := r.map fun e => (e.1, .int e.2)
def tabD (t : Tt) : Tb := t.map fun e => (e.1, rowD e.2)
theorem lookN_lk (es : Tb) (c : Tx) : lookN es c = lk es c := by
  induction es with
  | nil => rfl
  | cons e es ih => obtain ⟨k, r⟩ := e; simp only [lookN, lk, ih]
theorem putN_pt (es : Tb) (c : Tx) (r : List (Tx × D)) : putN es c r = pt es c r := by
  induction es with
  | nil => rfl
  | cons e es ih => obtain ⟨k, r⟩ := e; simp only [putN, pt, ih]
theorem lookK_lk (es : List (Tx × D)) (c : Tx) : lookK es c = lk es c := by
  unfold lookK
  induction es with
  | nil => rfl
  | cons e es ih =>
    obtain ⟨k, r⟩ := e
    rw [List.find?_cons]
    unfold lk
    by_cases h : k = c
    · subst h; simp
    · have : (k == c) = false := by simp [h]
      simp only [this, h, if_false]; exact ih
theorem putD_pt {es : List (Tx × D)} (nd : (ks es).Nodup) (c : Tx) (d : D) : putD es c d = pt es c d := by
  unfold putD
  induction es with
  | nil => rfl
  | cons e es ih =>
    obtain ⟨k, r⟩ := e
    rw [ks, List.map_cons, List.nodup_cons] at nd
    unfold pt
    by_cases h : k = c
    · subst h
      rw [if_pos (by simp), if_pos rfl, List.map_cons]
      simp only [beq_self_eq_true, if_true]
      congr 1
      conv => rhs; rw [← List.map_id es]
      refine List.map_congr_left fun e he => ?_
      have : e.1 ≠ k := by rintro rfl; exact nd.1 (List.mem_map.mpr ⟨_, he, rfl⟩)
      simp [this]
    · have hk : (k == c) = false := by simp [h]
      rw [if_neg h, List.any_cons]
      simp only [hk, Bool.false_or]
      rw [← ih nd.2]
      split
      · rw [List.map_cons]
        simp only [hk, Bool.false_eq_true, if_false]
      · rfl
theorem lk_rowD (r : Rw) (l : Tx) : lk (rowD r) l = (lk r l).map .int := lk_map D.int r l
theorem pt_rowD (r : Rw) (l : Tx) (n : Int) : pt (rowD r) l (.int n) = rowD (pt r l n) := (pt_map D.int r l n).symm
theorem lk_tabD (t : Tt) (c : Tx) : lk (tabD t) c = (lk t c).map rowD := lk_map rowD t c
theorem pt_tabD (t : Tt) (c : Tx) (r : Rw) : pt (tabD t) c (rowD r) = tabD (pt t c r) := (pt_map rowD t c r).symm
theorem ks_rowD (r : Rw) : ks (rowD r) = ks r := ks_map D.int r
theorem len_rowD (r : Rw) : (rowD r).length = r.length := by simp [rowD]
theorem len_tabD (t : Tt) : (tabD t).length = t.length := by simp [tabD]
theorem look_tabD (t : Tt) (c : Tx) : (lookN (tabD t) c).getD [] = rowD (rowOf t c) := by
  rw [lookN_lk, lk_tabD]
  unfold rowOf
  cases lk t c <;> rfl
theorem fBump_ok {i r c l : Nat} {γ : Ga} {t : Tt} {es : List Ev} (h : TabOk t es) (hl : es.length < 1000) {ck lt : Tx} (h1 : γ[i]? = some (.nd (tabD t))) (h2 : γ[c]? = some (.va (.str ck))) (h3 : γ[l]? = some (.va (.str lt))) (h4 : r < γ.length) :
    fBump i r c l γ = .ok (.nx ((γ.set i (.nd (tabD (bump t (ck, lt))))).set r .un)) := by
  unfold fBump
  rw [h1, h2, h3]
  simp only [look_tabD]
  have e1 : (lookK (rowD (rowOf t ck)) lt).getD (.int 0) = .int ((lk (rowOf t ck) lt).getD 0) := by
    rw [lookK_lk, lk_rowD]
    cases lk (rowOf t ck) lt <;> rfl
  rw [e1]
  simp only
  have l1 := h.len
  have l2 := h.rlen ck
  rw [if_pos ⟨⟨by rw [len_tabD, lim_val]; omega, by rw [len_rowD, lim_val]; omega⟩, h4⟩]
  have e2 : putD (rowD (rowOf t ck)) lt (.int ((lk (rowOf t ck) lt).getD 0 + 1)) = rowD (pt (rowOf t ck) lt ((lk (rowOf t ck) lt).getD 0 + 1)) := by
    rw [putD_pt (by rw [ks_rowD]; exact h.rnd ck), pt_rowD]
  rw [e2, putN_pt, pt_tabD]
  rfl
/-! ### contexts -/
def endT (o : Nat) (t : Tx) : Tx := t.drop (t.length - o)
theorem cut_from {α : Type} (xs : List α) (k : Nat) : cutL xs (some (k : Int)) none = xs.drop k := by
  unfold cutL
  rw [HT.sIx_nat, HT.sIx_none]
  rcases Nat.le_total k xs.length with h | h
  · rw [Nat.min_eq_left h]
    exact List.take_of_length_le (by simp)
  · rw [Nat.min_eq_right h, List.drop_eq_nil_of_le h]; simp
theorem cut_to {α : Type} (xs : List α) (k : Nat) : cutL xs none (some (k : Int)) = xs.take k := by
  unfold cutL
  rw [HT.sIx_nat, HT.sIx_none]
  rcases Nat.le_total k xs.length with h | h
  · rw [Nat.min_eq_left h]; simp
  · rw [Nat.min_eq_right h, List.take_of_length_le h]; simp
theorem cut_mid {α : Type} (xs : List α) (i j : Nat) : cutL xs (some (i : Int)) (some (j : Int)) = (xs.drop i).take (j - i) := by
  unfold cutL
  rw [HT.sIx_nat, HT.sIx_nat]
  rcases Nat.le_total i xs.length with h | h
  · rw [Nat.min_eq_left h]
    rcases Nat.le_total j xs.length with h2 | h2
    · rw [Nat.min_eq_left h2]
    · rw [Nat.min_eq_right h2, List.take_of_length_le (by simp), List.take_of_length_le (by simp; omega)]
  · rw [Nat.min_eq_right h, List.drop_eq_nil_of_le h]; simp
theorem end_ok (o : Nat) {t : Tx} (h : t.length ≤ 1000) : g_end_of [.int o, .str t] = .ok (.str (endT o t)) := by
  have hl : t.length ≤ lim := by rw [lim_val]; omega
  unfold g_end_of
  rw [fnD_e]
  have e : max (0 : Int) ((t.length : Nat) - (o : Nat)) = ((t.length - o : Nat) : Int) := by omega
  simp [m_end_of, bSl, pSo, pNo, dLen, hl, dMax, toI, e, dSl, cut_from, endT]
/-- what a name tells -/
def evs (o : Nat) (x : Tx) : List Ev := (List.range (x.length + 1)).map fun i => (endT o (x.take i), (x.drop i).take 1)
def evB (o : Nat) (b : List Tx) : List Ev := b.flatMap (evs o)
theorem evs_len (o : Nat) (x : Tx) : (evs o x).length = x.length + 1 := by simp [evs]
/-- at most 8 names, of at most 8 letters -/
def smallB (b : List Tx) : Prop := b.length ≤ 8 ∧ ∀ x ∈ b, x.length ≤ 8
theorem evB_len {o : Nat} : ∀ {b : List Tx}, (∀ x ∈ b, x.length ≤ 8) → (evB o b).length ≤ 9 * b.length
  | [], _ => by simp [evB]
  | x :: b, h => by
    have := evB_len (o := o) (b := b) fun y hy => h y (List.mem_cons_of_mem _ hy)
    have h0 := h x List.mem_cons_self
    unfold evB at this ⊢
    rw [List.flatMap_cons, List.length_append, evs_len, List.length_cons]
    omega
theorem tab_app (es fs : List Ev) : tabOf (es ++ fs) = fs.foldl bump (tabOf es) := by simp [tabOf]
def tblD (t : Tt) : D := .dic (t.map fun e => (e.1, .dic (rowD e.2)))
def cStep (x : Tx) (o : Nat) : Nat → Ev := fun i => (endT o (x.take i), (x.drop i).take 1)
theorem evs_e (o : Nat) (x : Tx) : evs o x = (List.range (x.length + 1)).map (cStep x o) := rfl
theorem tab_snoc (es : List Ev) (e : Ev) : tabOf (es ++ [e]) = bump (tabOf es) e := by
  rw [tab_app, List.foldl_cons, List.foldl_nil]
theorem cut1 {x : Tx} (lx : x.length ≤ lim) (i : Nat) : dSl (.str x) none (some (i : Int)) = .ok (.str (x.take i)) := by
  show (if x.length ≤ lim then R.ok (D.str (cutL x none (some (i : Int)))) else .no) = _
  rw [if_pos lx, cut_to]
theorem cut2 {x : Tx} (lx : x.length ≤ lim) (i : Nat) : dSl (.str x) (some (i : Int)) (some ((i : Int) + 1)) = .ok (.str ((x.drop i).take 1)) := by
  have : (i : Int) + 1 = ((i + 1 : Nat) : Int) := by omega
  show (if x.length ≤ lim then R.ok (D.str (cutL x (some (i : Int)) (some ((i : Int) + 1)))) else .no) = _
  rw [if_pos lx, this, cut_mid, Nat.add_sub_cancel_left]
def cIn : Ga → R Fl := fSeq (fSet 5 (bCall g_end_of (bCons (bVar 1) (bCons (bSl (bVar 3) (pNo) (pSo (bVar 4))) (bNil))))) (fSeq (fSet 6 (bSl (bVar 3) (pSo (bVar 4)) (pSo (b2 dAdd (bVar 4) (bC (.int 1)))))) (fBump 2 7 5 6))
def cOut : Ga → R Fl := fForI (iR1 (b2 dAdd (bN dLen (bCons (bVar 3) (bNil))) (bC (.int 1)))) (bdN 4) cIn
theorem m_counted_e : m_counted = fSeq (fNd0 2) (fSeq (fForE (bVar 0) (bdN 3) cOut) (fFz 2 (fRet (bVar 2)))) := rfl
theorem cIn_ok {B : D} {o : Nat} {x : Tx} {es : List Ev} {i : Nat} {s5 s6 s7 : Sl} (hes : es.length < 1000) (hx : x.length ≤ 8) :
    cIn [.va B, .va (.int o), .nd (tabD (tabOf es)), .va (.str x), .va (.int (i : Nat)), s5, s6, s7] = .ok (.nx [.va B, .va (.int o), .nd (tabD (tabOf (es ++ [cStep x o i]))), .va (.str x), .va (.int (i : Nat)), .va (.str (endT o (x.take i))), .va (.str ((x.drop i).take 1)), .un]) := by
  have lx : x.length ≤ lim := by rw [lim_val]; omega
  have c1 := cut1 lx i
  have c2 := cut2 lx i
  have c3 := end_ok o (t := x.take i) (by simp; omega)
  have fb := fBump_ok (i := 2) (r := 7) (c := 5) (l := 6) (tabOk es) hes (ck := endT o (x.take i)) (lt := (x.drop i).take 1) (γ := [.va B, .va (.int o), .nd (tabD (tabOf es)), .va (.str x), .va (.int (i : Nat)), .va (.str (endT o (x.take i))), .va (.str ((x.drop i).take 1)), s7]) rfl rfl rfl (by simp)
  rw [tab_snoc]
  unfold cStep
  generalize endT o (x.take i) = ck at *
  generalize (x.drop i).take 1 = lt at *
  simp at fb
  simp [cIn, bSl, pNo, pSo, toI, c1, c2, c3, fb]
theorem cOut_ok {B : D} {o : Nat} {x : Tx} {es : List Ev} {s4 s5 s6 s7 : Sl} (hes : es.length < 900) (hx : x.length ≤ 8) :
    ∃ s4' s5' s6' s7', cOut [.va B, .va (.int o), .nd (tabD (tabOf es)), .va (.str x), s4, s5, s6, s7] = .ok (.nx [.va B, .va (.int o), .nd (tabD (tabOf (es ++ evs o x))), .va (.str x), s4', s5', s6', s7']) := by
  have inner := forGo_inv (bd := bdN 4) (inj := fun i : Nat => D.int (0 + (i : Nat))) (l0 := List.range (x.length + 1)) (body := cIn)
    (I := fun dn γ => ∃ s4 s5 s6 s7, γ = [.va B, .va (.int o), .nd (tabD (tabOf (es ++ dn.map (cStep x o)))), .va (.str x), s4, s5, s6, s7])
    (γ := [.va B, .va (.int o), .nd (tabD (tabOf es)), .va (.str x), s4, s5, s6, s7]) (fun dn i rest γ hr hI => by
      obtain ⟨s4, s5, s6, s7, rfl⟩ := hI
      obtain ⟨hi1, hi2⟩ := range_split hr
      have st := cIn_ok (B := B) (o := o) (x := x) (es := es ++ dn.map (cStep x o)) (i := i) (s5 := s5) (s6 := s6) (s7 := s7) (by simp; omega) hx
      refine ⟨_, rfl, [.va B, .va (.int o), .nd (tabD (tabOf (es ++ dn.map (cStep x o) ++ [cStep x o i]))), .va (.str x), .va (.int (i : Nat)), .va (.str (endT o (x.take i))), .va (.str ((x.drop i).take 1)), .un], .inl ?_, ?_⟩
      · rw [← st]; simp
      · exact ⟨_, _, _, _, by rw [List.map_append, List.append_assoc, List.map_cons, List.map_nil]⟩) ⟨s4, s5, s6, s7, by simp⟩
  obtain ⟨γ', i1, s4', s5', s6', s7', rfl⟩ := inner
  refine ⟨s4', s5', s6', s7', ?_⟩
  have lx : x.length ≤ lim := by rw [lim_val]; omega
  have e5 : i2n (.int ((x.length : Int) + 1)) = .ok ((x.length : Int) + 1) := i2n_i (by omega)
  have e6 : ((x.length : Int) + 1).toNat = x.length + 1 := by omega
  rw [← evs_e] at i1
  simp at i1
  simp [cOut, fForI, iR1, dLen, lx, e5, e6, rng_e, i1]
theorem counted_ok {b : List Tx} (hb : smallB b) (o : Nat) : g_counted [bkD b, .int o] = .ok (tblD (tabOf (evB o b))) := by
  have outer := forGo_inv (bd := bdN 3) (inj := D.str) (l0 := b) (body := cOut)
    (I := fun done γ => ∃ s3 s4 s5 s6 s7, γ = [.va (bkD b), .va (.int o), .nd (tabD (tabOf (evB o done))), s3, s4, s5, s6, s7])
    (γ := [.va (bkD b), .va (.int o), .nd [], .un, .un, .un, .un, .un]) (fun done x rest γ hx hI => by
      obtain ⟨s3, s4, s5, s6, s7, rfl⟩ := hI
      have hxl : x.length ≤ 8 := hb.2 x (by rw [hx]; simp)
      have hdl : (evB o done).length ≤ 72 := by
        have := evB_len (o := o) (b := done) fun y hy => hb.2 y (by rw [hx]; simp [hy])
        have h8 := hb.1
        rw [hx] at h8
        simp at h8
        omega
      obtain ⟨s4', s5', s6', s7', st⟩ := cOut_ok (B := bkD b) (o := o) (x := x) (es := evB o done) (s4 := s4) (s5 := s5) (s6 := s6) (s7 := s7) (by omega) hxl
      refine ⟨_, rfl, _, .inl st, .va (.str x), s4', s5', s6', s7', ?_⟩
      rw [show evB o (done ++ [x]) = evB o done ++ evs o x by unfold evB; rw [List.flatMap_append]; simp]) ⟨.un, .un, .un, .un, .un, rfl⟩
  obtain ⟨γ', o1, s3, s4, s5, s6, s7, rfl⟩ := outer
  unfold g_counted
  rw [fnD_e, m_counted_e]
  unfold bkD at o1 ⊢
  simp [fForE, items]
  simp [o1, tblD, tabD]
/-! ### names and books -/
def nameOk (s : Tx) : Prop := 1 ≤ s.length ∧ s.length ≤ 8 ∧ ∀ c ∈ s, 97 ≤ c ∧ c ≤ 122
def bookOk (b : List Tx) : Prop := 1 ≤ b.length ∧ b.length ≤ 8 ∧ ∀ x ∈ b, nameOk x
theorem bookOk.small {b : List Tx} (h : bookOk b) : smallB b := ⟨h.2.1, fun x hx => (h.2.2 x hx).2.1⟩
theorem letter_in {c : Nat} (h : 97 ≤ c ∧ c ≤ 122) : dIn (.str [c]) (.str [97, 98, 99, 100, 101, 102, 103, 104, 105, 106, 107, 108, 109, 110, 111, 112, 113, 114, 115, 116, 117, 118, 119, 120, 121, 122]) = .ok (.bl true) := by
  have : c ∈ (List.range' 97 26) := by rw [List.mem_range'_1]; omega
  have all : ∀ c ∈ List.range' 97 26, subT [c] [97, 98, 99, 100, 101, 102, 103, 104, 105, 106, 107, 108, 109, 110, 111, 112, 113, 114, 115, 116, 117, 118, 119, 120, 121, 122] = true := by decide
  unfold dIn dInB
  simp [all c this]
theorem all_true {α : Type} (l : List α) : dAll [.lst (l.map fun _ => D.bl true)] = .ok (.bl true) := by
  have e : (l.map fun _ => D.bl true) = (l.map fun _ => true).map D.bl := by rw [List.map_map]; rfl
  rw [e]
  generalize hz : (l.map fun _ => true) = z
  have hz2 : z.all id = true := by rw [← hz]; simp
  show ((o2r (asBls (z.map D.bl))).bind fun ns => R.ok (D.bl (ns.all id))) = _
  rw [asBls_map, o2r_some]
  show R.ok (D.bl (z.all id)) = _
  rw [hz2]
theorem isName_ok {s : Tx} (h : nameOk s) : g_is_name [.str s] = .ok (.bl true) := by
  obtain ⟨h1, h2, h3⟩ := h
  have hl : s.length ≤ lim := by rw [lim_val]; omega
  have h1' : (1 : Int) ≤ s.length := by omega
  have h2' : (s.length : Int) ≤ 8 := by omega
  unfold g_is_name
  rw [fnD_e]
  have comp := lcGo_map (bd := bdN 1) (elt := b2 dIn (bVar 1) (bC (.str [97, 98, 99, 100, 101, 102, 103, 104, 105, 106, 107, 108, 109, 110, 111, 112, 113, 114, 115, 116, 117, 118, 119, 120, 121, 122]))) (γ := wipeG [.va (.str s), .un] [1]) (inj := fun c : Nat => D.str [c]) (f := fun _ => .bl true) (l := s) fun c hc => ⟨_, rfl, by
    have := letter_in (h3 c hc)
    simp [wipeG, this]⟩
  have c2 := lcOut_e comp (by rw [List.length_map]; exact hl)
  have a1 := all_true s
  simp [m_is_name, bAnd, dIsi, isT, bCh, dLen, hl, h1', h2', bLcE, items, sgn, c2, a1]
theorem isBook_ok {b : List Tx} (h : bookOk b) : g_is_book [bkD b] = .ok (.bl true) := by
  obtain ⟨h1, h2, h3⟩ := h
  have hl : b.length ≤ lim := by rw [lim_val]; omega
  have h1' : (1 : Int) ≤ b.length := by omega
  have h2' : (b.length : Int) ≤ 8 := by omega
  unfold g_is_book
  rw [fnD_e]
  have comp := lcGo_map (bd := bdN 1) (elt := bCall g_is_name (bCons (bVar 1) (bNil))) (γ := wipeG [.va (bkD b), .un] [1]) (inj := D.str) (f := fun _ => .bl true) (l := b) fun c hc => ⟨_, rfl, by
    have := isName_ok (h3 c hc)
    simp [wipeG, this]⟩
  have c2 := lcOut_e comp (by rw [List.length_map]; exact hl)
  have a1 := all_true b
  unfold bkD at c2 ⊢
  simp [m_is_book, bAnd, dIsi, isT, bCh, h1', h2', bLcE, items, c2, a1]
theorem needBook_ok {b : List Tx} (h : bookOk b) : g_need_book [bkD b] = .ok .non := by
  have := isBook_ok h
  unfold g_need_book
  rw [fnD_e]
  simp [m_need_book, this]
theorem needName_ok {s : Tx} (h : nameOk s) : g_need_name [.str s] = .ok .non := by
  have := isName_ok h
  unfold g_need_name
  rw [fnD_e]
  simp [m_need_name, this]
theorem isNumber_ok {i lo hi : Int} : g_is_number [.int i, .int lo, .int hi] = .ok (.bl (decide (lo ≤ i ∧ i ≤ hi))) := by
  unfold g_is_number
  rw [fnD_e]
  by_cases h : lo ≤ i <;> simp [m_is_number, bAnd, dIsi, isT, bCh, dNot, h]
theorem needOrder_ok {o : Nat} (h : 1 ≤ o ∧ o ≤ 3) : g_need_order [.int o] = .ok .non := by
  have := isNumber_ok (i := (o : Int)) (lo := 1) (hi := 3)
  unfold g_need_order
  rw [fnD_e]
  have e : decide ((1 : Int) ≤ o ∧ (o : Int) ≤ 3) = true := by simp; omega
  rw [e] at this
  simp [m_need_order, this]
/-! ### rows -/
def rowT (r : Rw) : List D := r.map fun e => .tup [.str e.1, .int e.2]
theorem listed_ok {r : Rw} (nd : (ks r).Nodup) (hl : r.length < 64) : g_listed [.dic (rowD r)] = .ok (.tup (rowT (lst 0 r))) := by
  unfold g_listed
  rw [fnD_e]
  have e1 : (rowD r).map (·.1) = ks r := ks_rowD r
  have s1 : dSort [.dic (rowD r)] = .ok (.lst ((sortT (ks r)).map D.str)) := by
    unfold dSort dSorted
    simp [len_rowD, hl, e1]
  have comp := lcGo_map (bd := bdN 1) (elt := bTup (bCons (bVar 1) (bCons (b2 dIx (bVar 0) (bVar 1)) (bNil)))) (γ := wipeG [.va (.dic (rowD r)), .un] [1]) (inj := D.str) (f := fun l => .tup [.str l, .int ((lk r l).getD 0)]) (l := sortT (ks r)) fun l hl => ⟨_, rfl, by
    have hm : l ∈ ks r := (sortT_perm _).mem_iff.mp hl
    have : ∃ n, lk r l = some n := by
      cases z : lk r l with
      | none => exact absurd hm (lk_none.mp z)
      | some n => exact ⟨n, rfl⟩
    obtain ⟨n, hn⟩ := this
    have lk1 : lookK (rowD r) l = some (.int n) := by rw [lookK_lk, lk_rowD, hn]; rfl
    simp [wipeG, lk1, hn, lim_val]⟩
  have hln : (sortT (ks r)).length = r.length := by rw [(sortT_perm _).length_eq]; simp [ks]
  have c2 := lcOut_e comp (by rw [List.length_map, lim_val]; omega)
  have e2 : rowT (lst 0 r) = (sortT (ks r)).map fun l => .tup [.str l, .int ((lk r l).getD 0)] := by
    unfold rowT lst; rw [List.map_map]; rfl
  rw [e2]
  simp [m_listed, s1, bLcE, items, c2, dTuple]
end
end KN
/-! PD: behind and table -/
namespace KN
open PySem PySem.Spec PyProof.Rows L2
noncomputable section
theorem look_tbl (t : Tt) (c : Tx) : lookK (t.map fun e => (e.1, D.dic (rowD e.2))) c = (lk t c).map fun r => .dic (rowD r) := by
  rw [lookK_lk]
  exact lk_map (fun r => D.dic (rowD r)) t c
theorem get_tbl (t : Tt) (c : Tx) : (lookK (t.map fun e => (e.1, D.dic (rowD e.2))) c).getD (.dic []) = .dic (rowD (rowOf t c)) := by
  rw [look_tbl]
  unfold rowOf
  cases lk t c <;> rfl
theorem nameOk.pl {s : Tx} (h : nameOk s) : s.all (· < 0x110000) = true := by
  rw [List.all_eq_true]
  intro c hc
  have := (h.2.2 c hc).2
  simp; omega
theorem evB_small {b : List Tx} (hb : smallB b) (o : Nat) : (evB o b).length ≤ 72 := by
  have := evB_len (o := o) hb.2
  have := hb.1
  omega
/-- letters of a row: at most 27 differ -/
theorem behind_ok {b : List Tx} (hb : bookOk b) {o : Nat} (ho : 1 ≤ o ∧ o ≤ 3) {t : Tx} (ht : t = [] ∨ nameOk t) (hr : (rowOf (tabOf (evB o b)) (endT o t)).length < 64) :
    g_behind [bkD b, .int o, .str t] = .ok (.lst (rowT (rowL (evB o b) (endT o t)))) := by
  have h1 := needBook_ok hb
  have h2 := needOrder_ok ho
  have h3 := counted_ok hb.small o
  have hp : t.all (· < 0x110000) = true := by
    rcases ht with rfl | h
    · rfl
    · exact h.pl
  have h4 := end_ok o (t := t) (by rcases ht with rfl | h; · simp
                                   · have := h.2.1; omega)
  have h5 := listed_ok ((tabOk (evB o b)).rnd (endT o t)) hr
  have h6 : dNe (.str t) (.str []) = .ok (.bl (!(t == []))) := by
    rw [dNe_p (by rw [pl_str]; exact hp) (by simp), eqv_str]
  unfold g_behind
  rw [fnD_e]
  unfold tblD at h3
  unfold rowL
  rcases ht with rfl | ht
  · have h6' : dNe (.str []) (.str []) = .ok (.bl false) := h6
    simp [m_behind, h1, h2, h3, h4, h6', bGet, get_tbl, h5, dList]
  · have h7 := needName_ok ht
    have h6' : dNe (.str t) (.str []) = .ok (.bl true) := by
      rw [h6]
      cases t with
      | nil => exact absurd ht.1 (by simp)
      | cons _ _ => rfl
    simp [m_behind, h1, h2, h3, h4, h6', h7, bGet, get_tbl, h5, dList]
end
end KN
/-! PE1: laws about rows, contexts, events -/
namespace KN
open PySem PySem.Spec PyProof.Rows L2
noncomputable section
/-! ### equal to itself -/
theorem eqvL_refl {f : D → D → Bool} : ∀ {xs : List D}, (∀ x ∈ xs, f x x = true) → eqvL f xs xs = true
  | [], _ => rfl
  | x :: xs, h => by
    show (f x x && eqvL f xs xs) = true
    rw [h x List.mem_cons_self, eqvL_refl fun y hy => h y (List.mem_cons_of_mem _ hy)]; rfl
theorem eqv_refl : ∀ (n : Nat) (d : D), pl n d = true → eqv n d d = true
  | n, .non, _ => by cases n <;> rfl
  | n, .bl b, _ => by cases n <;> simp [eqv]
  | n, .int i, _ => by simp
  | n, .str s, _ => by simp
  | 0, .lst _, h => nomatch h
  | 0, .tup _, h => nomatch h
  | n + 1, .lst xs, h => by
    rw [eqv_lst]
    rw [pl_lst, List.all_eq_true] at h
    exact eqvL_refl fun x hx => eqv_refl n x (h x hx)
  | n + 1, .tup xs, h => by
    rw [eqv_tup]
    rw [pl_tup, List.all_eq_true] at h
    exact eqvL_refl fun x hx => eqv_refl n x (h x hx)
  | n, .dic _, h => by cases n <;> exact nomatch h
theorem dNe_self {d : D} (h : pl 20 d = true) : dNe d d = .ok (.bl false) := by rw [dNe_p h h, eqv_refl 20 d h]; rfl
theorem dEq_self {d : D} (h : pl 20 d = true) : dEq d d = .ok (.bl true) := by rw [dEq_p h h, eqv_refl 20 d h]
def chs (s : Tx) : Prop := ∀ c ∈ s, c < 0x110000
theorem chs.all {s : Tx} (h : chs s) : s.all (· < 0x110000) = true := by
  rw [List.all_eq_true]; intro c hc; simpa using h c hc
/-! ### contexts -/
theorem endT_nil (o : Nat) : endT o [] = [] := by simp [endT]
theorem endT_mem {o : Nat} {t : Tx} {c : Nat} (h : c ∈ endT o t) : c ∈ t := List.mem_of_mem_drop h
theorem endT_len (o : Nat) (t : Tx) : (endT o t).length ≤ t.length := by simp [endT]
theorem endT_eq_nil {o : Nat} (ho : 1 ≤ o) {t : Tx} : endT o t = [] ↔ t = [] := by
  unfold endT
  rw [List.drop_eq_nil_iff]
  constructor
  · intro h
    rw [← List.length_eq_zero_iff]; omega
  · rintro rfl; simp
/-- nothing, or a name -/
def txtOk (t : Tx) : Prop := t = [] ∨ nameOk t
theorem txtOk.chs {t : Tx} (h : txtOk t) : chs t := by
  intro c hc
  rcases h with rfl | h
  · cases hc
  · have := (h.2.2 c hc).2; omega
theorem txtOk.len {t : Tx} (h : txtOk t) : t.length ≤ 8 := by
  rcases h with rfl | h
  · simp
  · exact h.2.1
/-! ### events -/
theorem evB_mem {o : Nat} {b : List Tx} {e : Ev} (h : e ∈ evB o b) : ∃ x ∈ b, ∃ i, i ≤ x.length ∧ e = (endT o (x.take i), (x.drop i).take 1) := by
  unfold evB at h
  obtain ⟨x, hx, h⟩ := List.mem_flatMap.mp h
  unfold evs at h
  obtain ⟨i, hi, rfl⟩ := List.mem_map.mp h
  exact ⟨x, hx, i, by have := List.mem_range.mp hi; omega, rfl⟩
/-! ### sorted rows are sorted -/
/-! ### sums -/
theorem perm_sum {l m : List Int} (p : l.Perm m) : l.sum = m.sum := by
  induction p with
  | nil => rfl
  | cons x _ ih => simp [ih]
  | swap x y l => simp; omega
  | trans _ _ h1 h2 => exact h1.trans h2
def rsum (r : Rw) : Int := (r.map (·.2)).sum
theorem rsum_pt (r : Rw) (nd : (ks r).Nodup) (l : Tx) (n : Int) : rsum (pt r l n) = rsum r - (lk r l).getD 0 + n := by
  induction r with
  | nil => simp [rsum, pt, lk]
  | cons e r ih =>
    obtain ⟨k, m⟩ := e
    rw [ks, List.map_cons, List.nodup_cons] at nd
    have ih := ih nd.2
    unfold rsum at ih ⊢
    unfold pt lk
    by_cases h : k = l
    · simp [h]; omega
    · simp [h, ih]; omega
theorem rsum_lst {r : Rw} (nd : (ks r).Nodup) : rsum (lst 0 r) = rsum r := by
  unfold rsum lst
  rw [List.map_map]
  conv => rhs; rw [self_map 0 nd, List.map_map]
  exact perm_sum ((sortT_perm _).map _)
theorem rowsum (es : List Ev) (c : Tx) : rsum (rowL es c) = (es.countP fun e => e.1 == c : Nat) := by
  unfold rowL
  rw [rsum_lst ((tabOk es).rnd c)]
  have aux : ∀ (fs done : List Ev), rsum (rowOf (tabOf done) c) = (done.countP fun e => e.1 == c : Nat) → rsum (rowOf (tabOf (done ++ fs)) c) = ((done ++ fs).countP fun e => e.1 == c : Nat) := by
    intro fs
    induction fs with
    | nil => intro done h; simpa using h
    | cons f fs ih =>
      intro done h
      have := ih (done ++ [f]) (by
        rw [tab_snoc, rowOf_bump, List.countP_append]
        by_cases z : f.1 = c
        · rw [if_pos z, rsum_pt _ ((tabOk done).rnd c), h]
          simp [z]; omega
        · rw [if_neg z, h]; simp [z])
      simpa using this
  have := aux es [] (by simp [rowOf, tabOf, lk, rsum])
  simpa using this
end
end KN
/-! PF: fractions -/
namespace KN
open PySem PySem.Spec PyProof.Rows L2
noncomputable section
def frD (q : Rat) : D := .tup [.int q.num, .int (q.den : Int)]
/-- neither part is long -/
def sz (n : Nat) (q : Rat) : Prop := 0 ≤ q.num ∧ q.num < 2 ^ n ∧ q.den < 2 ^ n
theorem log_lt {n m : Nat} (h : n < 2 ^ m) : n.log2 ≤ m := by
  rcases Nat.eq_zero_or_pos n with rfl | hp
  · simp
  · have := (Nat.log2_lt (by omega)).mpr h; omega
theorem dMul_l {i j : Int} {a b : Nat} (h : i.natAbs < 2 ^ a) (k : j.natAbs < 2 ^ b) (ab : a + b ≤ 9000) : dMul (.int i) (.int j) = .ok (.int (i * j)) := by
  have h1 := log_lt h
  have h2 := log_lt k
  rw [dMul_i, if_pos (by omega)]
theorem dDiv_l {i j : Int} {b : Nat} (h : 0 < j) (k : j.natAbs < 2 ^ b) (hb : b ≤ 8000) : dDiv (.int i) (.int j) = .ok (.int (i / j)) := by
  have h2 := log_lt k
  rw [dDiv_i, if_pos ⟨h, by omega⟩]
def lowP : Ga → R Bool := tVal (b2 dGt (bVar 2) (bC (.int 0)))
def lowB : Ga → R Fl := fPar 2 3 (b2 dMod (bVar 3) (bVar 2)) (bVar 2)
theorem low_loop (a0 a1 : Sl) : ∀ (n u d : Nat), u ≤ n → ∃ N, whN lowP lowB N [a0, a1, .va (.int u), .va (.int d)] = some (.ok (.nx [a0, a1, .va (.int 0), .va (.int (Nat.gcd u d : Nat))]))
  | n, 0, d, _ => by
    refine ⟨1, ?_⟩
    simp [whN, lowP]
  | 0, u + 1, d, h => by omega
  | n + 1, u + 1, d, h => by
    have hlt : d % (u + 1) ≤ n := by have := Nat.mod_lt d (show 0 < u + 1 by omega); omega
    obtain ⟨N, hN⟩ := low_loop a0 a1 n (d % (u + 1)) (u + 1) hlt
    refine ⟨N + 1, ?_⟩
    have e1 : dMod (.int (d : Nat)) (.int ((u + 1 : Nat) : Int)) = .ok (.int ((d % (u + 1) : Nat) : Int)) := by
      rw [dMod_s (by omega), Int.natCast_emod]
    have e2 : lowP [a0, a1, .va (.int ((u + 1 : Nat) : Int)), .va (.int d)] = .ok true := by
      have : (0 : Int) < ((u + 1 : Nat) : Int) := by omega
      simp only [lowP, tVal_e, b2_e, bVar_e, bC_e, List.getElem?_cons_succ, List.getElem?_cons_zero, R.bind, dGt_i, tB_e, this, decide_true]
    have e3 : lowB [a0, a1, .va (.int ((u + 1 : Nat) : Int)), .va (.int d)] = .ok (.nx [a0, a1, .va (.int ((d % (u + 1) : Nat) : Int)), .va (.int ((u + 1 : Nat) : Int))]) := by
      simp only [lowB, fPar, b2_e, bVar_e, List.getElem?_cons_succ, List.getElem?_cons_zero, R.bind, e1]
      rfl
    rw [Nat.gcd_succ]
    simp only [whN, e2, e3, if_true]
    exact hN
theorem m_lowest_e : m_lowest = fSeq (fSet 2 (bVar 0)) (fSeq (fSet 3 (bVar 1)) (fSeq (fWh lowP lowB) (fRet (bTup (bCons (b2 dDiv (bVar 0) (bVar 3)) (bCons (b2 dDiv (bVar 1) (bVar 3)) (bNil))))))) := rfl
theorem lowest_ok (u d : Nat) (hd : 0 < d) {m : Nat} (hm : d < 2 ^ m) (hm2 : m ≤ 8000) : g_lowest [.int u, .int d] = .ok (frD (mkRat u d)) := by
  obtain ⟨N, hN⟩ := low_loop (.va (.int u)) (.va (.int d)) u u d (Nat.le_refl _)
  have hw := fWh_eq hN
  have g0 : 0 < Nat.gcd u d := Nat.gcd_pos_of_pos_right _ hd
  have g1 : Nat.gcd u d ≤ d := Nat.gcd_le_right _ hd
  have hd0 : d ≠ 0 := by omega
  have e1 : dDiv (.int u) (.int (Nat.gcd u d : Nat)) = .ok (.int ((mkRat u d).num)) := by
    rw [dDiv_l (b := m) (by omega) (by omega) hm2, Rat.num_mkRat, if_neg hd0, Nat.gcd_comm d]; rfl
  have e2 : dDiv (.int d) (.int (Nat.gcd u d : Nat)) = .ok (.int ((mkRat u d).den : Int)) := by
    rw [dDiv_l (b := m) (by omega) (by omega) hm2, Rat.den_mkRat, if_neg hd0, Nat.gcd_comm d]; rfl
  generalize Nat.gcd u d = g at *
  unfold g_lowest
  rw [fnD_e, m_lowest_e]
  simp only [fSeq_e, fSet_e, bVar_e, R.bind, List.map_cons, List.map_nil, List.length_cons, List.length_nil, List.replicate, List.cons_append, List.nil_append, List.getElem?_cons_succ, List.getElem?_cons_zero, List.set_cons_succ, List.set_cons_zero, hw]
  simp [e1, e2, lim_val, frD]
theorem at0 (a b : D) : L2.atI [a, b] 0 = some a := rfl
theorem at1 (a b : D) : L2.atI [a, b] 1 = some b := rfl
theorem sz.abs {n : Nat} {q : Rat} (h : sz n q) : q.num.natAbs < 2 ^ n := by
  obtain ⟨h1, h2, _⟩ := h
  have : ((2 ^ n : Nat) : Int) = 2 ^ n := by simp
  omega
theorem nat_of {i : Int} (h : 0 ≤ i) : ∃ n : Nat, i = n := ⟨i.toNat, by omega⟩
theorem times_ok {p q : Rat} {a b : Nat} (hp : sz a p) (hq : sz b q) (hab : a + b ≤ 8000) : g_times [frD p, frD q] = .ok (frD (p * q)) := by
  have h1 := hp.abs
  have h2 := hq.abs
  have e1 : dMul (.int p.num) (.int q.num) = .ok (.int (p.num * q.num)) := dMul_l h1 h2 (by omega)
  have e2 : dMul (.int (p.den : Int)) (.int (q.den : Int)) = .ok (.int ((p.den * q.den : Nat) : Int)) := by
    rw [dMul_l (a := a) (b := b) (by have := hp.2.2; omega) (by have := hq.2.2; omega) (by omega), Int.natCast_mul]
  obtain ⟨u, hu⟩ := nat_of (Int.mul_nonneg hp.1 hq.1)
  have hd : p.den * q.den < 2 ^ (a + b) := by rw [Nat.pow_add]; exact Nat.mul_lt_mul'' hp.2.2 hq.2.2
  have l := lowest_ok u (p.den * q.den) (Nat.mul_pos p.den_pos q.den_pos) hd (by omega)
  rw [Rat.mul_def', hu]
  rw [hu] at e1
  unfold g_times frD
  rw [fnD_e]
  simp [m_times, at0, at1, e1, e2] at l ⊢
  simp [l, frD]
theorem sz_mono {n m : Nat} {q : Rat} (h : sz n q) (k : n ≤ m) : sz m q := by
  have : 2 ^ n ≤ 2 ^ m := Nat.pow_le_pow_right (by decide) k
  have c1 : ((2 ^ n : Nat) : Int) = 2 ^ n := by simp
  have c2 : ((2 ^ m : Nat) : Int) = 2 ^ m := by simp
  obtain ⟨h1, h2, h3⟩ := h
  refine ⟨h1, ?_, by omega⟩
  omega
theorem sz_mk {u d n : Nat} (hd : 0 < d) (hu : u < 2 ^ n) (hd2 : d < 2 ^ n) : sz n (mkRat u d) := by
  have hd0 : d ≠ 0 := by omega
  unfold sz
  rw [Rat.num_mkRat, Rat.den_mkRat, if_neg hd0, if_neg hd0]
  have c1 : ((2 ^ n : Nat) : Int) = 2 ^ n := by simp
  have g : 0 < Nat.gcd d u := Nat.gcd_pos_of_pos_left _ hd
  have e : ((u : Int)) / ((Nat.gcd d (u : Int).natAbs : Nat) : Int) = ((u / Nat.gcd d u : Nat) : Int) := by simp
  have l1 : u / Nat.gcd d u ≤ u := Nat.div_le_self _ _
  have l2 : d / Nat.gcd d u ≤ d := Nat.div_le_self _ _
  rw [e]
  refine ⟨Int.natCast_nonneg _, ?_, ?_⟩
  · rw [← c1]; exact Int.ofNat_lt.mpr (Nat.lt_of_le_of_lt l1 hu)
  · simpa using Nat.lt_of_le_of_lt l2 hd2
theorem sz_mul {p q : Rat} {a b : Nat} (hp : sz a p) (hq : sz b q) : sz (a + b) (p * q) := by
  rw [Rat.mul_def']
  obtain ⟨u, hu⟩ := nat_of (Int.mul_nonneg hp.1 hq.1)
  obtain ⟨x, hx⟩ := nat_of hp.1
  obtain ⟨y, hy⟩ := nat_of hq.1
  have h1 := hp.abs
  have h2 := hq.abs
  rw [hu]
  refine sz_mk (Nat.mul_pos p.den_pos q.den_pos) ?_ ?_
  · rw [hx, hy] at hu
    rw [hx] at h1
    rw [hy] at h2
    have : u = x * y := by rw [← Int.natCast_mul] at hu; omega
    rw [this, Nat.pow_add]
    exact Nat.mul_lt_mul'' (by simpa using h1) (by simpa using h2)
  · rw [Nat.pow_add]; exact Nat.mul_lt_mul'' hp.2.2 hq.2.2
theorem fr_zero : frD 0 = .tup [.int 0, .int 1] := rfl
end
end KN
/-! PG: shares of names -/
namespace KN
open PySem PySem.Spec PyProof.Rows L2
noncomputable section
def tot (es : List Ev) (c : Tx) : Nat := es.countP fun e => e.1 == c
/-- how often l is behind c, of all behind c -/
def pq (es : List Ev) (e : Ev) : Rat := mkRat (es.count e) (tot es e.1)
theorem count_le_tot (es : List Ev) (e : Ev) : es.count e ≤ tot es e.1 := by
  unfold tot List.count
  exact List.countP_mono_left fun x _ h => by
    have : x = e := by simpa using h
    subst this; simp
theorem tot_le (es : List Ev) (c : Tx) : tot es c ≤ es.length := List.countP_le_length
theorem pq_sz {es : List Ev} (h : es.length < 2 ^ 8) (e : Ev) : sz 8 (pq es e) := by
  have h1 := count_le_tot es e
  have h2 := tot_le es e.1
  unfold pq
  by_cases z : tot es e.1 = 0
  · rw [z, Rat.mkRat_zero]; exact ⟨by decide, by decide, by decide⟩
  · exact sz_mk (by omega) (by omega) (by omega)
theorem pq_zero {es : List Ev} {e : Ev} (h : es.count e = 0) : pq es e = 0 := by
  unfold pq
  rw [h]; exact Rat.zero_mkRat _
theorem sum_vals {r : Rw} (nd : (ks r).Nodup) : ((ks r).map fun l => (lk r l).getD 0).sum = rsum r := by
  unfold rsum
  conv => rhs; rw [self_map 0 nd, List.map_map]
  rfl
theorem rsum_row (es : List Ev) (c : Tx) : rsum (rowOf (tabOf es) c) = (tot es c : Nat) := by
  have := rowsum es c
  unfold rowL at this
  rw [rsum_lst ((tabOk es).rnd c)] at this
  exact this
theorem part_ok {es : List Ev} (hes : es.length < 2 ^ 8) (c l : Tx) : g_part_of [tblD (tabOf es), .str c, .str l] = .ok (frD (pq es (c, l))) := by
  have T := tabOk es
  have hg := get_tbl (tabOf es) c
  have hv := T.val c l
  have hnd := T.rnd c
  have hlen := T.rlen c
  have hrs := rsum_row es c
  have e1 : lookK (rowD (rowOf (tabOf es) c)) l = (lk (rowOf (tabOf es) c) l).map .int := by rw [lookK_lk, lk_rowD]
  unfold g_part_of
  rw [fnD_e]
  unfold tblD
  by_cases z : es.count (c, l) = 0
  · rw [if_pos z] at hv
    rw [pq_zero z, fr_zero]
    have e2 : dNotIn (.str l) (.dic (rowD (rowOf (tabOf es) c))) = .ok (.bl true) := by
      unfold dNotIn dInB; simp [e1, hv]
    simp [m_part_of, bGet, hg, e2, lim_val]
  · rw [if_neg z] at hv
    have e2 : dNotIn (.str l) (.dic (rowD (rowOf (tabOf es) c))) = .ok (.bl false) := by
      unfold dNotIn dInB; simp [e1, hv]
    have e3 : lookK (rowD (rowOf (tabOf es) c)) l = some (.int (es.count (c, l) : Nat)) := by rw [e1, hv]; rfl
    have hk : keysD (rowD (rowOf (tabOf es) c)) = (ks (rowOf (tabOf es) c)).map D.str := by
      unfold keysD rowD ks; rw [List.map_map, List.map_map]; rfl
    have comp := lcGo_map (bd := bdN 4) (elt := b2 dIx (bVar 3) (bVar 4)) (γ := wipeG [.va (.dic ((tabOf es).map fun e => (e.1, D.dic (rowD e.2)))), .va (.str c), .va (.str l), .va (.dic (rowD (rowOf (tabOf es) c))), .un] [4]) (inj := D.str) (f := fun l => .int ((lk (rowOf (tabOf es) c) l).getD 0)) (l := ks (rowOf (tabOf es) c)) fun k hk => ⟨_, rfl, by
      have : ∃ n, lk (rowOf (tabOf es) c) k = some n := by
        cases z : lk (rowOf (tabOf es) c) k with
        | none => exact absurd hk (lk_none.mp z)
        | some n => exact ⟨n, rfl⟩
      obtain ⟨n, hn⟩ := this
      have lk1 : lookK (rowD (rowOf (tabOf es) c)) k = some (.int n) := by rw [lookK_lk, lk_rowD, hn]; rfl
      simp [wipeG, lk1, hn]⟩
    have hl2 : (ks (rowOf (tabOf es) c)).length = (rowOf (tabOf es) c).length := by simp [ks]
    have c2 := lcOut_e comp (by rw [List.length_map, lim_val]; omega)
    have e5 : ((ks (rowOf (tabOf es) c)).map fun l => D.int ((lk (rowOf (tabOf es) c) l).getD 0)) = ((ks (rowOf (tabOf es) c)).map fun l => (lk (rowOf (tabOf es) c) l).getD 0).map D.int := by rw [List.map_map]; rfl
    have e6 : dSum [.lst ((ks (rowOf (tabOf es) c)).map fun l => D.int ((lk (rowOf (tabOf es) c) l).getD 0))] = .ok (.int (tot es c : Nat)) := by
      rw [e5]
      show (o2r (asInts _)).bind (fun ns => R.ok (D.int ns.sum)) = _
      rw [asInts_map, o2r_some]
      show R.ok (D.int _) = _
      rw [sum_vals hnd, hrs]
    have hc := count_le_tot es (c, l)
    have ht := tot_le es c
    have hc : es.count (c, l) ≤ tot es c := hc
    have lo := lowest_ok (es.count (c, l)) (tot es c) (by omega) (m := 8) (by omega) (by omega)
    have hpq : pq es (c, l) = mkRat (es.count (c, l) : Nat) (tot es c) := rfl
    rw [hpq]
    generalize rowD (rowOf (tabOf es) c) = RD at *
    generalize ks (rowOf (tabOf es) c) = KS at *
    generalize (tabOf es).map (fun e => (e.1, D.dic (rowD e.2))) = TD at *
    simp [m_part_of, bGet, hg, e2, e3, bLcE, items, hk, c2, e6, lo]
/-! ### steps -/
def stepD (es : List Ev) (e : Ev) : D := .tup [.str e.1, .str e.2, frD (pq es e)]
def stepsD (es : List Ev) (o : Nat) (x : Tx) : D := .lst ((evs o x).map (stepD es))
def sIn : Ga → R Fl := fSeq (fSet 6 (bCall g_end_of (bCons (bVar 1) (bCons (bSl (bVar 2) (pNo) (pSo (bVar 5))) (bNil))))) (fSeq (fSet 7 (bSl (bVar 2) (pSo (bVar 5)) (pSo (b2 dAdd (bVar 5) (bC (.int 1)))))) (fApp 4 (bTup (bCons (bVar 6) (bCons (bVar 7) (bCons (bCall g_part_of (bCons (bVar 3) (bCons (bVar 6) (bCons (bVar 7) (bNil))))) (bNil)))))))
theorem m_steps_e : m_steps = fSeq (fExpr (bCall g_need_book (bCons (bVar 0) (bNil)))) (fSeq (fExpr (bCall g_need_order (bCons (bVar 1) (bNil)))) (fSeq (fExpr (bCall g_need_name (bCons (bVar 2) (bNil)))) (fSeq (fSet 3 (bCall g_counted (bCons (bVar 0) (bCons (bVar 1) (bNil))))) (fSeq (fOwn 4 (bLst (bNil))) (fSeq (fForI (iR1 (b2 dAdd (bN dLen (bCons (bVar 2) (bNil))) (bC (.int 1)))) (bdN 5) sIn) (fFz 4 (fRet (bVar 4)))))))) := rfl
theorem dLen_s {x : Tx} (h : x.length ≤ lim) : dLen [.str x] = .ok (.int x.length) := by
  show (if x.length ≤ lim then R.ok (D.int x.length) else .no) = _
  rw [if_pos h]
theorem iR1_s {fa : Ga → R D} {γ : Ga} {n : Nat} (h : fa γ = .ok (.int n)) (hn : n < 2 ^ 60) : iR1 fa γ = .ok ((List.range n).map fun i => .int (0 + (i : Nat))) := by
  have e : i2n (.int n) = .ok (n : Int) := i2n_i (by omega)
  unfold iR1
  simp [h, e, rng_e]
theorem steps_ok {b : List Tx} (hb : bookOk b) {o : Nat} (ho : 1 ≤ o ∧ o ≤ 3) {x : Tx} (hx : nameOk x) : g_steps [bkD b, .int o, .str x] = .ok (stepsD (evB o b) o x) := by
  have h1 := needBook_ok hb
  have h2 := needOrder_ok ho
  have h3 := needName_ok hx
  have h4 := counted_ok hb.small o
  have lx : x.length ≤ lim := by have := hx.2.1; rw [lim_val]; omega
  have hes : (evB o b).length < 2 ^ 8 := by have := evB_small hb.small o; omega
  have loop := forGo_inv (bd := bdN 5) (inj := fun i : Nat => D.int (0 + (i : Nat))) (l0 := List.range (x.length + 1)) (body := sIn)
    (I := fun dn γ => ∃ s5 s6 s7, γ = [.va (bkD b), .va (.int o), .va (.str x), .va (tblD (tabOf (evB o b))), .ow (.lst (dn.map fun i => stepD (evB o b) (cStep x o i))), s5, s6, s7])
    (γ := [.va (bkD b), .va (.int o), .va (.str x), .va (tblD (tabOf (evB o b))), .ow (.lst []), .un, .un, .un]) (fun dn i rest γ hr hI => by
      obtain ⟨s5, s6, s7, rfl⟩ := hI
      obtain ⟨hi1, hi2⟩ := range_split hr
      have c1 := cut1 lx i
      have c2 := cut2 lx i
      have c3 := end_ok o (t := x.take i) (by have := hx.2.1; simp; omega)
      have c4 := part_ok hes (endT o (x.take i)) ((x.drop i).take 1)
      have c5 : (dn.map fun i => stepD (evB o b) (cStep x o i)).length < lim := by have := hx.2.1; rw [List.length_map, lim_val]; omega
      refine ⟨_, rfl, [.va (bkD b), .va (.int o), .va (.str x), .va (tblD (tabOf (evB o b))), .ow (.lst ((dn.map fun i => stepD (evB o b) (cStep x o i)) ++ [stepD (evB o b) (cStep x o i)])), .va (.int (i : Nat)), .va (.str (endT o (x.take i))), .va (.str ((x.drop i).take 1))], .inl ?_, ?_⟩
      · have e : stepD (evB o b) (cStep x o i) = .tup [.str (endT o (x.take i)), .str ((x.drop i).take 1), frD (pq (evB o b) (endT o (x.take i), (x.drop i).take 1))] := rfl
        rw [e]
        generalize (dn.map fun i => stepD (evB o b) (cStep x o i)) = DN at *
        generalize tblD (tabOf (evB o b)) = TB at *
        generalize frD (pq (evB o b) (endT o (x.take i), (x.drop i).take 1)) = FR at *
        generalize endT o (x.take i) = ck at *
        generalize (x.drop i).take 1 = lt at *
        have l3 : 3 ≤ lim := by decide
        simp [sIn, bSl, pNo, pSo, toI, c1, c2, c3, c4, fApp, owL, l3, c5]
      · exact ⟨_, _, _, by rw [List.map_append, List.map_cons, List.map_nil]⟩) ⟨.un, .un, .un, rfl⟩
  obtain ⟨γ', l1, s5, s6, s7, rfl⟩ := loop
  have e0 : (b2 dAdd (bN dLen (bCons (bVar 2) (bNil))) (bC (.int 1))) [.va (bkD b), .va (.int o), .va (.str x), .va (tblD (tabOf (evB o b))), .ow (.lst []), .un, .un, .un] = .ok (.int ((x.length + 1 : Nat) : Int)) := by
    simp [dLen_s lx]
  have i1 := iR1_s e0 (by have := hx.2.1; omega)
  have f1 : fForI (iR1 (b2 dAdd (bN dLen (bCons (bVar 2) (bNil))) (bC (.int 1)))) (bdN 5) sIn [.va (bkD b), .va (.int o), .va (.str x), .va (tblD (tabOf (evB o b))), .ow (.lst []), .un, .un, .un] = .ok (.nx [.va (bkD b), .va (.int o), .va (.str x), .va (tblD (tabOf (evB o b))), .ow (.lst ((List.range (x.length + 1)).map fun i => stepD (evB o b) (cStep x o i))), s5, s6, s7]) := by
    unfold fForI
    rw [i1]
    exact l1
  have e9 : stepsD (evB o b) o x = .lst ((List.range (x.length + 1)).map fun i => stepD (evB o b) (cStep x o i)) := by
    unfold stepsD
    rw [evs_e, List.map_map]; rfl
  rw [e9]
  unfold g_steps
  rw [fnD_e, m_steps_e]
  generalize (List.range (x.length + 1)).map (fun i => stepD (evB o b) (cStep x o i)) = DN at *
  generalize tblD (tabOf (evB o b)) = TB at *
  generalize bkD b = B at *
  simp [h1, h2, h3, h4, f1, lim_val]
/-! ### shares -/
def shq (es : List Ev) (l : List Ev) : Rat := l.foldl (fun q e => q * pq es e) 1
def shareQ (es : List Ev) (o : Nat) (x : Tx) : Rat := shq es (evs o x)
theorem shq_sz {es : List Ev} (hes : es.length < 2 ^ 8) (l : List Ev) : sz (8 * l.length + 1) (shq es l) := by
  have aux : ∀ (l : List Ev) (q : Rat) (n : Nat), sz n q → sz (8 * l.length + n) (l.foldl (fun q e => q * pq es e) q) := by
    intro l
    induction l with
    | nil => intro q n h; simpa using h
    | cons e l ih =>
      intro q n h
      have := ih (q * pq es e) (n + 8) (sz_mul h (pq_sz hes e))
      rw [List.foldl_cons, List.length_cons]
      exact sz_mono this (by omega)
  exact aux l 1 1 ⟨by decide, by decide, by decide⟩
theorem share_ok {b : List Tx} (hb : bookOk b) {o : Nat} (ho : 1 ≤ o ∧ o ≤ 3) {x : Tx} (hx : nameOk x) : g_share [bkD b, .int o, .str x] = .ok (frD (shareQ (evB o b) o x)) := by
  have h1 := steps_ok hb ho hx
  have hes : (evB o b).length < 2 ^ 8 := by have := evB_small hb.small o; omega
  have hl : (evs o x).length ≤ 9 := by rw [evs_len]; have := hx.2.1; omega
  have loop := forGo_inv (bd := bdT [4, 5, 6]) (inj := stepD (evB o b)) (l0 := evs o x) (body := fSet 3 (bCall g_times (bCons (bVar 3) (bCons (bVar 6) (bNil)))))
    (I := fun dn γ => ∃ s4 s5 s6, γ = [.va (bkD b), .va (.int o), .va (.str x), .va (frD (shq (evB o b) dn)), s4, s5, s6])
    (γ := [.va (bkD b), .va (.int o), .va (.str x), .va (frD 1), .un, .un, .un]) (fun dn e rest γ hr hI => by
      obtain ⟨s4, s5, s6, rfl⟩ := hI
      have hdl : dn.length ≤ 9 := by have := congrArg List.length hr; simp at this; omega
      have t := times_ok (shq_sz hes dn) (pq_sz hes e) (by omega)
      have e1 : shq (evB o b) (dn ++ [e]) = shq (evB o b) dn * pq (evB o b) e := by unfold shq; rw [List.foldl_append]; rfl
      refine ⟨_, rfl, [.va (bkD b), .va (.int o), .va (.str x), .va (frD (shq (evB o b) (dn ++ [e]))), .va (.str e.1), .va (.str e.2), .va (frD (pq (evB o b) e))], .inl ?_, _, _, _, rfl⟩
      rw [e1]
      simp [t]) ⟨.un, .un, .un, rfl⟩
  obtain ⟨γ', l1, s4, s5, s6, rfl⟩ := loop
  unfold g_share
  rw [fnD_e]
  unfold stepsD at h1
  have l2 : forGo (bdT [4, 5, 6]) (fSet 3 (bCall g_times (bCons (bVar 3) (bCons (bVar 6) (bNil))))) ((evs o x).map (stepD (evB o b))) [.va (bkD b), .va (.int o), .va (.str x), .va (.tup [.int 1, .int 1]), .un, .un, .un] = _ := l1
  generalize (evs o x).map (stepD (evB o b)) = SD at *
  generalize bkD b = B at *
  simp [m_share, fForE, items, h1, lim_val, l2]
  rfl
theorem num_pos {q : Rat} : decide (0 < q.num) = decide (0 < q) := by
  have e := Rat.lt_iff 0 q
  have : (0 : Rat) < q ↔ 0 < q.num := by rw [e]; simp
  simp [this]
theorem makes_ok {b : List Tx} (hb : bookOk b) {o : Nat} (ho : 1 ≤ o ∧ o ≤ 3) {x : Tx} (hx : nameOk x) : g_makes [bkD b, .int o, .str x] = .ok (.bl (decide (0 < shareQ (evB o b) o x))) := by
  have h1 := share_ok hb ho hx
  unfold g_makes
  rw [fnD_e, ← num_pos]
  unfold frD at h1
  simp [m_makes, h1, at0]
end
end KN
/-! PH: steps through a body, frames; more about shares -/
namespace KN
open PySem PySem.Spec PyProof.Rows L2
noncomputable section
section
variable {f g : Ga → R Fl} {γ γ' : Ga} {p : Ga → R Bool} {d : D} {i : Nat}
theorem seq_nx (h : f γ = .ok (.nx γ')) : fSeq f g γ = g γ' := by rw [fSeq_e, h]
theorem if_f (h : p γ = .ok false) : fIf p f fNil γ = .ok (.nx γ) := by rw [fIf_e, h]; rfl
theorem fn_rt {n : Nat} {ds : List D} (h : f (ds.map .va ++ List.replicate (n - ds.length) .un) = .ok (.rt d)) : fnD n f ds = .ok d := by rw [fnD_e, h]
theorem set_e {fa : Ga → R D} (h : fa γ = .ok d) : fSet i fa γ = .ok (.nx (γ.set i (.va d))) := by rw [fSet_e, h]; rfl
theorem ret_e {fa : Ga → R D} (h : fa γ = .ok d) : fRet fa γ = .ok (.rt d) := by rw [fRet_e, h]; rfl
theorem forE_e {fe : Ga → R D} {bd : D → Ga → R Ga} {ds : List D} {r : R Fl} (h : fe γ = .ok d) (hd : items d = .ok ds) (hn : ∀ es, d ≠ .dic es) (k : forGo bd g ds γ = r) : fForE fe bd g γ = r := by
  unfold fForE
  rw [h]
  cases d <;> first | exact absurd rfl (hn _) | (simp only [R.bind]; rw [hd]; exact k)
theorem lcE_e {fe elt : Ga → R D} {vs : List Nat} {bd : D → Ga → R Ga} {ifs : Ga → R Bool} {ds ys : List D} (h : fe γ = .ok d) (hd : items d = .ok ds) (k : lcGo bd ifs elt (wipeG γ vs) ds = .ok ys) (hl : ys.length ≤ lim) : bLcE fe vs bd ifs elt γ = .ok (.lst ys) := by
  unfold bLcE
  rw [h]
  simp only [R.bind]
  rw [hd]
  exact lcOut_e k hl
/-- a slot that holds d -/
abbrev At (γ : Ga) (i : Nat) (d : D) : Prop := γ[i]? = some (.va d)
theorem At.v (h : At γ i d) : bVar i γ = .ok d := by
  unfold At at h
  rw [bVar_e, h]
theorem At.set {s : Sl} {j : Nat} (h : At γ i d) (n : j ≠ i) : At (γ.set j s) i d := by
  unfold At at h ⊢
  rw [List.getElem?_set_ne n]; exact h
theorem At.new (h : i < γ.length) : At (γ.set i (.va d)) i d := by
  unfold At
  rw [List.getElem?_set_self h]
theorem At.wipe {vs : List Nat} (h : At γ i d) (n : i ∉ vs) : At (wipeG γ vs) i d := by
  induction vs with
  | nil => exact h
  | cons v vs ih =>
    simp only [List.mem_cons, not_or] at n
    exact (ih n.2).set (fun e => n.1 e.symm)
end
/-! ### shares -/
theorem pq_nonneg (es : List Ev) (e : Ev) : 0 ≤ pq es e := by
  have : 0 ≤ (pq es e).num := by
    unfold pq
    rw [Rat.num_mkRat]
    split
    · decide
    · exact Int.ediv_nonneg (by omega) (by omega)
  exact Rat.num_nonneg.mp this
theorem pq_pos {es : List Ev} {e : Ev} (h : e ∈ es) : 0 < pq es e := by
  have h0 := pq_nonneg es e
  have hc := List.count_pos_iff.mpr h
  have ht := count_le_tot es e
  have : pq es e ≠ 0 := by
    unfold pq
    rw [Rat.mkRat_ne_zero (by omega)]
    omega
  exact Rat.lt_of_le_of_ne h0 (Ne.symm this)
theorem shq_pos {es : List Ev} : ∀ {l : List Ev}, (∀ e ∈ l, e ∈ es) → ∀ q : Rat, 0 < q → 0 < l.foldl (fun q e => q * pq es e) q
  | [], _, q, h => h
  | e :: l, hl, q, h => shq_pos (l := l) (fun f hf => hl f (List.mem_cons_of_mem _ hf)) _ (Rat.mul_pos h (pq_pos (hl e List.mem_cons_self)))
theorem told_mem {o : Nat} {b : List Tx} {x : Tx} (h : x ∈ b) {e : Ev} (he : e ∈ evs o x) : e ∈ evB o b := List.mem_flatMap.mpr ⟨x, h, he⟩
end
end KN
/-! PI: small things that many laws ask -/
namespace KN
open PySem PySem.Spec PyProof.Rows L2
noncomputable section
theorem nameOk.chs {x : Tx} (h : nameOk x) : chs x := fun c hc => by have := (h.2.2 c hc).2; omega
theorem goodN.nm {m : Int} (hm : m ≤ 8) {x : Tx} (h : goodN m x) : nameOk x := ⟨by have := h.1; omega, by have := h.2.1; omega, fun c hc => by
  rcases h.2.2 c hc with rfl | rfl | rfl <;> decide⟩
theorem evLe {o : Nat} {m : Nat} : ∀ {b : List Tx}, (∀ x ∈ b, x.length ≤ m) → (evB o b).length ≤ (m + 1) * b.length
  | [], _ => by simp [evB]
  | x :: b, h => by
    have := evLe (o := o) (b := b) fun y hy => h y (List.mem_cons_of_mem _ hy)
    have h0 := h x List.mem_cons_self
    unfold evB at this ⊢
    rw [List.flatMap_cons, List.length_append, evs_len, List.length_cons, Nat.mul_add]
    omega
/-! ### products -/
end
end KN
set_option maxHeartbeats 400000
/-! PJ: the best of many books -/
set_option maxHeartbeats 400000
/-! PK: makers, best_maker; laws of the best -/
set_option maxHeartbeats 400000
/-! PL: all that a book makes -/
namespace KN
open PySem PySem.Spec PyProof.Rows L2
noncomputable section
def nxt (es : List Ev) (c : Tx) : List Tx := (sortT (ks (rowOf (tabOf es) c))).filter fun l => !(l == [])
theorem row_mem2 {es : List Ev} {c l : Tx} : l ∈ ks (rowOf (tabOf es) c) ↔ (c, l) ∈ es := by
  have h := (tabOk es).val c l
  constructor
  · intro hl
    have : lk (rowOf (tabOf es) c) l ≠ none := fun z => lk_none.mp z hl
    rw [h] at this
    split at this
    · exact absurd rfl this
    · rename_i z
      exact Decidable.byContradiction fun y => z (List.count_eq_zero.mpr y)
  · intro hl
    refine Decidable.byContradiction fun y => ?_
    have := lk_none.mpr y
    rw [h] at this
    split at this
    · rename_i z; exact List.count_eq_zero.mp z hl
    · cases this
theorem in_row {es : List Ev} (c l : Tx) : dIn (.str l) (.dic (rowD (rowOf (tabOf es) c))) = .ok (.bl (decide ((c, l) ∈ es))) := by
  show (R.ok (lookK (rowD (rowOf (tabOf es) c)) l).isSome).bind (fun b => R.ok (D.bl b)) = _
  rw [lookK_lk, lk_rowD, (tabOk es).val]
  show R.ok (D.bl _) = _
  congr 2
  rw [Bool.eq_iff_iff]
  by_cases z : es.count (c, l) = 0
  · have := List.count_eq_zero.mp z
    simp [z, this]
  · have : (c, l) ∈ es := Decidable.byContradiction fun y => z (List.count_eq_zero.mpr y)
    simp [z, this]
end
end KN
set_option maxHeartbeats 400000
/-! PM: what is made, by its shares -/
set_option maxHeartbeats 400000
/-! PN: ways: numbers and shares by contexts -/
namespace KN
open PySem PySem.Spec PyProof.Rows L2
noncomputable section
/-! ### no denominator is long -/
def fct : Nat → Nat
  | 0 => 1
  | n + 1 => (n + 1) * fct n
/-- a share of n steps, summed over m -/
def Fr (n m : Nat) (q : Rat) : Prop := ∃ a : Nat, q = mkRat a (fct 72 ^ n) ∧ a ≤ m * fct 72 ^ n
theorem Fr.one : Fr 0 1 1 := ⟨1, rfl, by simp⟩
end
end KN
set_option maxHeartbeats 400000
/-! PO: ways, evaluated -/
namespace KN
open PySem PySem.Spec PyProof.Rows L2
noncomputable section
structure Wk (es : List Ev) (o : Nat) (n : D) (γ : Ga) : Prop where
  len : γ.length = 13
  t : At γ 0 (tblD (tabOf es))
  o : At γ 1 (.int o)
  n : At γ 2 n
abbrev Ao' (γ : Ga) (i : Nat) (d : D) : Prop := γ[i]? = some (.ow d)
theorem Wk.set {es : List Ev} {o : Nat} {n : D} {γ : Ga} {s : Sl} {j : Nat} (F : Wk es o n γ) (h1 : 3 ≤ j) : Wk es o n (γ.set j s) :=
  ⟨by simp [F.len], F.t.set (by omega), F.o.set (by omega), F.n.set (by omega)⟩
theorem Ao'.set {γ : Ga} {s : Sl} {i j : Nat} {d : D} (h : Ao' γ i d) (n : j ≠ i) : Ao' (γ.set j s) i d := by
  unfold Ao' at h ⊢
  rw [List.getElem?_set_ne n]; exact h
/-! ### the letters behind a context -/
end
end KN
set_option maxHeartbeats 400000
/-! PP: what ways come to, in plain words -/
namespace KN
open PySem PySem.Spec PyProof.Rows L2
noncomputable section
/-! ### sums -/
/-! ### a sum over contexts -/
structure Lin (es : List Ev) (π : Int × Rat → Rat) (w : Ev → Rat) : Prop where
  zero : π (0, 0) = 0
  one : π (1, 1) = 1
  add : ∀ a b : Int × Rat, π (a.1 + b.1, a.2 + b.2) = π a + π b
  mul : ∀ (v : Int × Rat) (e : Ev), π (v.1, v.2 * pq es e) = π v * w e
section
variable {es : List Ev} {π : Int × Rat → Rat} {w : Ev → Rat} (L : Lin es π w)
include L
omit L in
theorem end_app (o : Nat) (t l : Tx) : endT o (endT o t ++ l) = endT o (t ++ l) := by
  unfold endT
  rw [List.length_append, List.length_append, List.length_drop]
  have e : t.drop (t.length - o) ++ l = (t ++ l).drop (t.length - o) := (List.drop_append_of_le_length (by omega)).symm
  rw [e, List.drop_drop]
  congr 1; omega
end
/-! ### sizes -/
end
end KN
set_option maxHeartbeats 400000
/-! PQ: ways, evaluated; how_many, share_of_length, lengths -/
set_option maxHeartbeats 400000
/-! PR: how_many, share_of_length, lengths -/
set_option maxHeartbeats 400000
/-! PS: guards; lists of texts; what is made is a name -/
namespace KN
open PySem PySem.Spec PyProof.Rows L2
noncomputable section
section
variable {fe fa fb elt : Ga → R D} {vs : List Nat} {bd : D → Ga → R Ga} {ifs : Ga → R Bool} {f : Ga → R Fl} {γ : Ga} {d : D}
theorem nilE : bLst bNil γ = .ok (.lst []) := by rw [bLst_e, bNil_e]; simp [R.bind]
end
/-! ### lists of texts -/
/-! ### what is made is a name -/
end
end KN
set_option maxHeartbeats 400000
/-! PW: what the laws count themselves -/
set_option maxHeartbeats 400000
/-! PX: the laws' own shares -/
set_option maxHeartbeats 400000
/-! PY: what is a name, a book, of whatever thing; refusals; the laws' own rows -/
namespace KN
open PySem PySem.Spec PyProof.Rows L2
noncomputable section
def ltrB (c : Nat) : Bool := decide (97 ≤ c ∧ c ≤ 122)
def isNameD : D → Bool
  | .str s => decide (1 ≤ s.length) && (decide (s.length ≤ 8) && s.all ltrB)
  | _ => false
abbrev LET : Tx := [97, 98, 99, 100, 101, 102, 103, 104, 105, 106, 107, 108, 109, 110, 111, 112, 113, 114, 115, 116, 117, 118, 119, 120, 121, 122]
theorem sub_mem {c : Nat} {t : Tx} (h : subT [c] t = true) : c ∈ t := by
  unfold subT at h
  obtain ⟨i, hi, h⟩ := List.any_eq_true.mp h
  rw [Bool.and_eq_true] at h
  have h2 : (t.drop i).take 1 = [c] := by simpa using h.2
  have : c ∈ (t.drop i).take 1 := by rw [h2]; simp
  exact List.mem_of_mem_drop (List.mem_of_mem_take this)
theorem letterIn (c : Nat) : dInB (.str [c]) (.str LET) = .ok (ltrB c) := by
  by_cases h : 97 ≤ c ∧ c ≤ 122
  · have := letter_in h
    have e : ltrB c = true := decide_eq_true h
    rw [e]
    have : (dInB (.str [c]) (.str LET)).bind (fun b => R.ok (D.bl b)) = .ok (.bl true) := this
    show R.ok (subT [c] LET) = _
    have z : R.ok (D.bl (subT [c] LET)) = .ok (.bl true) := this
    injection z with z
    injection z with z
    rw [z]
  · have e : ltrB c = false := decide_eq_false h
    rw [e]
    show R.ok (subT [c] LET) = _
    cases z : subT [c] LET with
    | false => rfl
    | true =>
      have m := sub_mem z
      have e2 : LET = List.range' 97 26 := by decide
      rw [e2, List.mem_range'_1] at m
      omega
theorem all_bl {α : Type} (f : α → Bool) (l : List α) : dAll [.lst (l.map fun a => D.bl (f a))] = .ok (.bl (l.all f)) := by
  have e : (l.map fun a => D.bl (f a)) = (l.map f).map D.bl := by rw [List.map_map]; rfl
  rw [e]
  show ((o2r (asBls ((l.map f).map D.bl))).bind fun ns => R.ok (D.bl (ns.all id))) = _
  rw [asBls_map, o2r_some]
  show R.ok (D.bl ((l.map f).all id)) = _
  rw [List.all_map]
  rfl
theorem isNameG {d : D} (h : ∀ s, d = .str s → s.length ≤ lim) : g_is_name [d] = .ok (.bl (isNameD d)) := by
  unfold g_is_name
  rw [fnD_e]
  cases d with
  | str s =>
    have hl := h s rfl
    have comp := lcGo_map (bd := bdN 1) (elt := b2 dIn (bVar 1) (bC (.str [97, 98, 99, 100, 101, 102, 103, 104, 105, 106, 107, 108, 109, 110, 111, 112, 113, 114, 115, 116, 117, 118, 119, 120, 121, 122]))) (γ := wipeG [.va (.str s), .un] [1]) (inj := fun c : Nat => D.str [c]) (f := fun c => .bl (ltrB c)) (l := s) fun c hc => ⟨_, rfl, by
      have : dIn (.str [c]) (.str LET) = .ok (.bl (ltrB c)) := by unfold dIn; rw [letterIn]; rfl
      simp [wipeG, this]⟩
    have c2 := lcOut_e comp (by rw [List.length_map]; exact hl)
    have a1 := all_bl ltrB s
    by_cases h1 : (1 : Int) ≤ s.length
    · have h1' : 1 ≤ s.length := by omega
      by_cases h2 : (s.length : Int) ≤ 8
      · have h2' : s.length ≤ 8 := by omega
        simp [m_is_name, bAnd, dIsi, isT, bCh, dLen, hl, h1, h2, h1', h2', bLcE, items, sgn, c2, a1, isNameD]
      · have h2' : ¬ s.length ≤ 8 := by omega
        simp [m_is_name, bAnd, dIsi, isT, bCh, dLen, hl, h1, h2, h1', h2', isNameD]
    · have h1' : ¬ 1 ≤ s.length := by omega
      simp [m_is_name, bAnd, dIsi, isT, bCh, dLen, hl, h1, h1', isNameD]
  | _ => simp [m_is_name, bAnd, dIsi, isT, isNameD]
/-! ### the laws' own rows -/
/-! ### what sorted(row.items()) tells -/
end
end KN
set_option maxHeartbeats 400000
/-! PZ: the laws' own shares, name by name; sums -/
set_option maxHeartbeats 400000
/-! QK: books and tables written -/
namespace KN
open PySem PySem.Spec PyProof.Rows L2
noncomputable section
theorem addT {s t : Tx} (h : s.length + t.length ≤ lim) : dAdd (.str s) (.str t) = .ok (.str (s ++ t)) := by
  show (if s.length + t.length ≤ lim then R.ok (D.str (s ++ t)) else .no) = _
  rw [if_pos h]
theorem eqNilT {t : Tx} (h : chs t) : dEq (.str t) (.str []) = .ok (.bl (t == [])) := by
  rw [dEq_p (by rw [pl_str]; exact h.all) (by simp), eqv_str]
/-! ### letters with how often -/
def ltx (l : Tx) (n : Nat) : Tx := (if l = [] then [46] else l) ++ TL.numL n
theorem num_len {n : Nat} (h : n < 1000) : (TL.numL n).length ≤ 3 := TL.numL_len (by decide) h
theorem ltx_len {l : Tx} {n : Nat} (hl : l.length ≤ 8) (h : n < 1000) : (ltx l n).length ≤ 11 := by
  have := num_len h
  unfold ltx
  rw [List.length_append]
  split
  · show 1 + _ ≤ _; omega
  · omega
/-! ### joining -/
theorem join_len (s : Tx) : ∀ ts : List Tx, (joinT s ts).length ≤ (ts.map (·.length)).sum + ts.length * s.length
  | [] => Nat.zero_le _
  | [x] => by show x.length ≤ _; simp
  | x :: y :: r => by
    have := join_len s (y :: r)
    show (x ++ (s ++ joinT s (y :: r))).length ≤ _
    rw [List.length_append, List.length_append, List.map_cons, List.sum_cons, List.length_cons, Nat.succ_mul]
    omega
theorem sum_le {m : Nat} : ∀ {ts : List Tx}, (∀ t ∈ ts, t.length ≤ m) → (ts.map (·.length)).sum ≤ ts.length * m
  | [], _ => Nat.zero_le _
  | t :: ts, h => by
    have := sum_le (ts := ts) fun t ht => h t (List.mem_cons_of_mem _ ht)
    have := h t List.mem_cons_self
    rw [List.map_cons, List.sum_cons, List.length_cons, Nat.succ_mul]
    omega
/-! ### books -/
/-! ### cutting -/
/-! ### tables -/
def rowN (es : List Ev) (c : Tx) : List (Tx × Nat) := (sortT (ks (rowOf (tabOf es) c))).map fun l => (l, es.count (c, l))
theorem rowN_L (es : List Ev) (c : Tx) : rowL es c = (rowN es c).map fun e => (e.1, (e.2 : Int)) := by
  unfold rowL lst rowN
  rw [List.map_map]
  refine List.map_congr_left fun l hl => ?_
  have hm : l ∈ ks (rowOf (tabOf es) c) := (sortT_perm _).mem_iff.mp hl
  have hv := (tabOk es).val c l
  rw [hv]
  have : es.count (c, l) ≠ 0 := fun z => by
    have := List.count_pos_iff.mpr (row_mem2.mp hm)
    omega
  rw [if_neg this]; rfl
def wordsN (es : List Ev) (c : Tx) : List Tx := (rowN es c).map fun e => ltx e.1 e.2
def headT (c : Tx) : Tx := if c = [] then [45] else c
def lineT (es : List Ev) (c : Tx) : Tx := headT c ++ [58, 32] ++ joinT [32] (wordsN es c) ++ [10]
def ctxL (es : List Ev) : List Tx := sortT (ks (tabOf es))
structure Sm (es : List Ev) : Prop where
  few : es.length < 64
  ok : ∀ e ∈ es, chs e.1 ∧ e.1.length ≤ 8 ∧ chs e.2 ∧ e.2.length ≤ 8
theorem Sm.row {es : List Ev} (h : Sm es) (c : Tx) : ∀ e ∈ rowN es c, chs e.1 ∧ e.1.length ≤ 8 ∧ e.2 < 64 ∧ 0 < e.2 := fun e he => by
  obtain ⟨l, hl, rfl⟩ := List.mem_map.mp he
  have hm := row_mem2.mp ((sortT_perm _).mem_iff.mp hl)
  have o := h.ok _ hm
  have cl : es.count (c, l) ≤ es.length := List.count_le_length
  have := h.few
  exact ⟨o.2.2.1, o.2.2.2, by show es.count (c, l) < 64; omega, List.count_pos_iff.mpr hm⟩
theorem Sm.rowLen {es : List Ev} (h : Sm es) (c : Tx) : (rowN es c).length < 64 := by
  unfold rowN
  rw [List.length_map, (sortT_perm _).length_eq]
  have : (ks (rowOf (tabOf es) c)).length = (rowOf (tabOf es) c).length := by simp [ks]
  have := (tabOk es).rlen c
  have := h.few
  omega
theorem Sm.ctx {es : List Ev} (h : Sm es) : ∀ c ∈ ctxL es, chs c ∧ c.length ≤ 8 ∧ rowN es c ≠ [] := fun c hc => by
  have hm : c ∈ ks (tabOf es) := (sortT_perm _).mem_iff.mp hc
  have hk : ¬ lk (tabOf es) c = none := fun z => (lk_none.mp z) hm
  rw [(tabOk es).key c] at hk
  obtain ⟨l, hl⟩ : ∃ l, (c, l) ∈ es := Classical.byContradiction fun z => hk fun l hl => z ⟨l, hl⟩
  have o := h.ok _ hl
  refine ⟨o.1, o.2.1, fun z => ?_⟩
  have : l ∈ (sortT (ks (rowOf (tabOf es) c))) := (sortT_perm _).mem_iff.mpr (row_mem2.mpr hl)
  unfold rowN at z
  rw [List.map_eq_nil_iff.mp z] at this
  cases this
theorem Sm.words {es : List Ev} (h : Sm es) (c : Tx) : ∀ t ∈ wordsN es c, t.length ≤ 11 := fun t ht => by
  obtain ⟨e, he, rfl⟩ := List.mem_map.mp ht
  have := h.row c e he
  exact ltx_len this.2.1 (by omega)
theorem Sm.jlen {es : List Ev} (h : Sm es) (c : Tx) : (joinT [32] (wordsN es c)).length ≤ 64 * 12 := by
  have h1 := join_len [32] (wordsN es c)
  have h2 := sum_le (h.words c)
  have h3 : (wordsN es c).length < 64 := by unfold wordsN; rw [List.length_map]; exact h.rowLen c
  simp only [List.length_cons, List.length_nil] at h1
  omega
theorem head_len {c : Tx} (h : c.length ≤ 8) : (headT c).length ≤ 8 := by
  unfold headT; split
  · decide
  · exact h
theorem Sm.line {es : List Ev} (h : Sm es) {c : Tx} (hc : c ∈ ctxL es) : (lineT es c).length ≤ 800 := by
  have h1 := h.jlen c
  have h2 := head_len (h.ctx c hc).2.1
  unfold lineT
  simp only [List.length_append, List.length_cons, List.length_nil]
  omega
end
end KN
set_option maxHeartbeats 400000
/-! QL: a table's text -/
namespace KN
open PySem PySem.Spec PyProof.Rows L2
noncomputable section
def tt2b1 : Ga → R Fl := fOwn 5 (bLcE (bVar 4) [6, 7] (bdT [6, 7]) yes (bCall g_letter_text (bCons (bVar 6) (bCons (bVar 7) bNil))))
def tt2b2 : Ga → R Fl := fApp 2 (b2 dAdd (b2 dAdd (b2 dAdd (bIf (tVal (b2 dNe (bVar 3) (bC (.str [])))) (bVar 3) (bC (.str [45]))) (bC (.str [58, 32]))) (b2s dJoin (bC (.str [32])) (bRd 5))) (bC (.str [10])))
def tt2b : Ga → R Fl := fSeq tt2b1 (tt2b2)
def tt2 : Ga → R Fl := fForE (bCall g_table (bCons (bVar 0) (bCons (bVar 1) bNil))) (bdT [3, 4]) tt2b
def tt : Ga → R Fl := fSeq (fOwn 2 (bLst bNil)) (fSeq tt2 ((fRet (b2s dJoin (bC (.str [])) (bRd 2)))))
theorem fApp_e {γ : Ga} {i : Nat} {xs : List D} {fe : Ga → R D} {d : D} (h : γ[i]? = some (.ow (.lst xs))) (h2 : fe γ = .ok d) (hl : xs.length < lim) : fApp i fe γ = .ok (.nx (γ.set i (.ow (.lst (xs ++ [d]))))) := by
  unfold fApp owL
  rw [h]
  simp only [h2, R.bind, hl, if_true]
theorem rowT_N (es : List Ev) (c : Tx) : rowT (rowL es c) = (rowN es c).map fun e => .tup [.str e.1, .int (e.2 : Nat)] := by
  rw [rowN_L]
  unfold rowT
  rw [List.map_map]; rfl
end
end KN
set_option maxHeartbeats 400000
/-! QM: wishes -/
namespace KN
open PySem PySem.Spec PyProof.Rows L2
noncomputable section
structure Wi where
  lo : Nat
  hi : Nat
  hd : Tx
  tl : Tx
  bar : List Tx
  told : Bool
def wiD (w : Wi) : D := .tup [.int (w.lo : Nat), .int (w.hi : Nat), .str w.hd, .str w.tl, .tup (w.bar.map .str), .bl w.told]
def endOk (t : Tx) : Prop := t.length ≤ 3 ∧ ∀ c ∈ t, 97 ≤ c ∧ c ≤ 122
structure WiOk (w : Wi) : Prop where
  lo1 : 1 ≤ w.lo
  lh : w.lo ≤ w.hi
  hi8 : w.hi ≤ 8
  hd : endOk w.hd
  tl : endOk w.tl
  few : w.bar.length ≤ 6
  names : ∀ x ∈ w.bar, nameOk x
  up : w.bar.Pairwise (· < ·)
theorem endOk.chs {t : Tx} (h : endOk t) : chs t := fun c hc => by have := (h.2 c hc).2; omega
theorem is_end_ok {t : Tx} (h : endOk t) : g_is_end [.str t] = .ok (.bl true) := by
  have ll : dLen [.str t] = .ok (.int (t.length : Nat)) := by
    show (if t.length ≤ lim then R.ok (D.int (t.length : Nat)) else .no) = _
    rw [if_pos (by have := h.1; rw [lim_val]; omega)]
  have le : dLe (.int (t.length : Nat)) (.int 3) = .ok (.bl true) := by
    show R.ok (D.bl (decide _)) = _
    rw [decide_eq_true (by have := h.1; omega)]
  have comp := lcGo_map (bd := bdN 1) (elt := b2 dIn (bVar 1) (bC (.str LET))) (γ := wipeG [.va (.str t), .un] [1]) (inj := fun c : Nat => D.str [c]) (f := fun _ => .bl true) (l := t) fun c hc => ⟨_, rfl, by
    have := letter_in (h.2 c hc)
    simp [wipeG]
    exact this⟩
  have cl := lcE_e (fe := bVar 0) (γ := [.va (.str t), .un]) (d := .str t) rfl rfl comp (by rw [List.length_map, lim_val]; have := h.1; omega)
  have al : dAll [.lst (t.map fun _ => D.bl true)] = .ok (.bl true) := by
    have := all_bl (fun _ : Nat => true) t
    have e : (t.all fun _ => true) = true := by simp
    rw [e] at this
    exact this
  have i1 : dIsi .str (.str t) = .ok (.bl true) := rfl
  unfold g_is_end
  refine fn_rt ?_
  show fRet _ [.va (.str t), .un] = _
  refine ret_e ?_
  have e3 : bN dAll (bCons (bLcE (bVar 0) [1] (bdN 1) yes (b2 dIn (bVar 1) (bC (.str LET)))) bNil) [.va (.str t), .un] = .ok (.bl true) := by
    rw [bN_e, bCons_e, cl, bNil_e]
    exact al
  show bAnd _ (bAnd _ (bN dAll (bCons (bLcE (bVar 0) [1] (bdN 1) yes (b2 dIn (bVar 1) (bC (.str LET)))) bNil))) [.va (.str t), .un] = _
  generalize bN dAll (bCons (bLcE (bVar 0) [1] (bdN 1) yes (b2 dIn (bVar 1) (bC (.str LET)))) bNil) = A at *
  simp [bAnd, i1, ll, le, e3]
section
variable {w : Wi}
theorem wi0 : dIx (wiD w) (.int 0) = .ok (.int (w.lo : Nat)) := rfl
theorem wi1 : dIx (wiD w) (.int 1) = .ok (.int (w.hi : Nat)) := rfl
theorem wi2 : dIx (wiD w) (.int 2) = .ok (.str w.hd) := rfl
theorem wi3 : dIx (wiD w) (.int 3) = .ok (.str w.tl) := rfl
theorem wi4 : dIx (wiD w) (.int 4) = .ok (.tup (w.bar.map .str)) := rfl
theorem wi5 : dIx (wiD w) (.int 5) = .ok (.bl w.told) := rfl
end
def isw1 : Ga → R Fl := fIf (tOr (tNot (tVal (b1 (dIsi .tup) (bVar 0)))) (tOr (tVal (b2 dNe (bN dLen (bCons (bVar 0) (bNil))) (bC (.int 6)))) (tNot (tVal (bCall g_is_number (bCons (b2 dIx (bVar 0) (bC (.int 0))) (bCons (bC (.int 1)) (bCons (bC (.int 8)) (bNil))))))))) (fRet (bC (.bl false))) (fNil)
def isw2 : Ga → R Fl := fIf (tOr (tNot (tVal (bCall g_is_number (bCons (b2 dIx (bVar 0) (bC (.int 1))) (bCons (b2 dIx (bVar 0) (bC (.int 0))) (bCons (bC (.int 8)) (bNil))))))) (tOr (tNot (tVal (bCall g_is_end (bCons (b2 dIx (bVar 0) (bC (.int 2))) (bNil))))) (tNot (tVal (bCall g_is_end (bCons (b2 dIx (bVar 0) (bC (.int 3))) (bNil))))))) (fRet (bC (.bl false))) (fNil)
def isw3 : Ga → R Fl := fIf (tOr (tNot (tVal (b1 (dIsi .tup) (b2 dIx (bVar 0) (bC (.int 4)))))) (tOr (tVal (b2 dGt (bN dLen (bCons (b2 dIx (bVar 0) (bC (.int 4))) (bNil))) (bC (.int 6)))) (tNot (tVal (bN dAll (bCons (bLcE (b2 dIx (bVar 0) (bC (.int 4))) [1] (bdN 1) yes (bCall g_is_name (bCons (bVar 1) (bNil)))) (bNil))))))) (fRet (bC (.bl false))) (fNil)
def isw4 : Ga → R Fl := fRet (bAnd (bN dAll (bCons (bLcI (iZpA (b2 dIx (bVar 0) (bC (.int 4))) (bSl (b2 dIx (bVar 0) (bC (.int 4))) (pSo (bC (.int 1))) (pNo))) [1, 2] (bdT [1, 2]) yes (b2 dLt (bVar 1) (bVar 2))) (bNil))) (b1 (dIsi .bool) (b2 dIx (bVar 0) (bC (.int 5)))))
theorem m_is_wish_e : m_is_wish = fSeq isw1 (fSeq isw2 (fSeq isw3 isw4)) := rfl
theorem is_wish_ok {w : Wi} (h : WiOk w) : g_is_wish [wiD w] = .ok (.bl true) := by
  have n0 := isNumber_ok (i := (w.lo : Nat)) (lo := 1) (hi := 8)
  rw [decide_eq_true (by have := h.lo1; have := h.lh; have := h.hi8; omega)] at n0
  have n1 := isNumber_ok (i := (w.hi : Nat)) (lo := (w.lo : Nat)) (hi := 8)
  rw [decide_eq_true (by have := h.lh; have := h.hi8; omega)] at n1
  have e2 := is_end_ok h.hd
  have e3 := is_end_ok h.tl
  have i0 := wi0 (w := w)
  have i1 := wi1 (w := w)
  have i2 := wi2 (w := w)
  have i3 := wi3 (w := w)
  have i4 := wi4 (w := w)
  have i5 := wi5 (w := w)
  have t0 : dIsi .tup (wiD w) = .ok (.bl true) := rfl
  have l0 : dLen [wiD w] = .ok (.int 6) := rfl
  have t4 : dIsi .tup (.tup (w.bar.map .str)) = .ok (.bl true) := rfl
  have l4 : dLen [.tup (w.bar.map .str)] = .ok (.int (w.bar.length : Nat)) := by
    show R.ok (D.int _) = _
    rw [List.length_map]
  have g4 : dGt (.int (w.bar.length : Nat)) (.int 6) = .ok (.bl false) := by
    show R.ok (D.bl (decide _)) = _
    rw [decide_eq_false (by have := h.few; omega)]
  have n6 : dNe (.int 6) (.int 6) = .ok (.bl false) := rfl
  have b5 : dIsi .bool (.bl w.told) = .ok (.bl true) := rfl
  have comp := lcGo_map (bd := bdN 1) (elt := bCall g_is_name (bCons (bVar 1) (bNil))) (γ := wipeG [.va (wiD w), .un, .un] [1]) (inj := D.str) (f := fun _ => .bl true) (l := w.bar) fun x hx => ⟨_, rfl, by
    have := isName_ok (h.names x hx)
    generalize wiD w = WD at *
    simp [wipeG, this]⟩
  have cl := lcE_e (fe := b2 dIx (bVar 0) (bC (.int 4))) (γ := [.va (wiD w), .un, .un]) (d := .tup (w.bar.map .str)) rfl rfl comp (by rw [List.length_map, lim_val]; have := h.few; omega)
  have al : bN dAll (bCons (bLcE (b2 dIx (bVar 0) (bC (.int 4))) [1] (bdN 1) yes (bCall g_is_name (bCons (bVar 1) (bNil)))) (bNil)) [.va (wiD w), .un, .un] = .ok (.bl true) := by
    rw [bN_e, bCons_e, cl, bNil_e]
    have := all_bl (fun _ : Tx => true) w.bar
    have e : (w.bar.all fun _ => true) = true := by simp
    rw [e] at this
    exact this
  have k1 : isw1 [.va (wiD w), .un, .un] = .ok (.nx [.va (wiD w), .un, .un]) := by
    refine if_f ?_
    generalize wiD w = WD at *
    simp [t0, l0, n6, i0, n0]
  have k2 : isw2 [.va (wiD w), .un, .un] = .ok (.nx [.va (wiD w), .un, .un]) := by
    refine if_f ?_
    generalize wiD w = WD at *
    simp [i0, i1, n1, i2, e2, i3, e3]
  have k3 : isw3 [.va (wiD w), .un, .un] = .ok (.nx [.va (wiD w), .un, .un]) := by
    refine if_f ?_
    generalize bN dAll (bCons (bLcE (b2 dIx (bVar 0) (bC (.int 4))) [1] (bdN 1) yes (bCall g_is_name (bCons (bVar 1) (bNil)))) (bNil)) = A at *
    generalize wiD w = WD at *
    generalize D.tup (w.bar.map .str) = BT at *
    simp [i4, t4, l4, g4, al]
  have sl : dSl (.tup (w.bar.map .str)) (some 1) none = .ok (.tup ((w.bar.drop 1).map .str)) := by
    show R.ok (D.tup (cutL (w.bar.map D.str) (some ((1 : Nat) : Int)) none)) = _
    rw [cut_from, List.map_drop]
  have zi : zipA (.tup (w.bar.map .str)) (.tup ((w.bar.drop 1).map .str)) = .ok ((w.bar.zip (w.bar.drop 1)).map fun p => D.tup [.str p.1, .str p.2]) := by
    show R.ok (zipD _ _) = _
    unfold zipD
    rw [List.zip_map, List.map_map]; rfl
  have ez : iZpA (b2 dIx (bVar 0) (bC (.int 4))) (bSl (b2 dIx (bVar 0) (bC (.int 4))) (pSo (bC (.int 1))) (pNo)) [.va (wiD w), .un, .un] = .ok ((w.bar.zip (w.bar.drop 1)).map fun p => D.tup [.str p.1, .str p.2]) := by
    unfold iZpA
    generalize wiD w = WD at *
    generalize ((w.bar.zip (w.bar.drop 1)).map fun p => D.tup [.str p.1, .str p.2]) = ZL at *
    generalize D.tup ((w.bar.drop 1).map .str) = B1 at *
    generalize D.tup (w.bar.map .str) = BT at *
    simp [i4, bSl, pSo, pNo, toI, sl, zi]
  have up : ∀ p ∈ w.bar.zip (w.bar.drop 1), p.1 < p.2 := fun p hp => by
    obtain ⟨i, hi⟩ := List.mem_iff_getElem?.mp hp
    rw [List.getElem?_zip_eq_some] at hi
    obtain ⟨h1, h2⟩ := hi
    rw [List.getElem?_drop] at h2
    obtain ⟨l1, e1⟩ := List.getElem?_eq_some_iff.mp h1
    obtain ⟨l2, e2⟩ := List.getElem?_eq_some_iff.mp h2
    rw [← e1, ← e2]
    exact List.pairwise_iff_getElem.mp h.up i (1 + i) l1 l2 (by omega)
  have comp2 := lcGo_map (bd := bdT [1, 2]) (elt := b2 dLt (bVar 1) (bVar 2)) (γ := wipeG [.va (wiD w), .un, .un] [1, 2]) (inj := fun p : Tx × Tx => D.tup [.str p.1, .str p.2]) (f := fun _ => .bl true) (l := w.bar.zip (w.bar.drop 1)) fun p hp => ⟨[.va (wiD w), .va (.str p.1), .va (.str p.2)], rfl, by
    have := up p hp
    show R.ok (D.bl (decide (p.1 < p.2))) = _
    rw [decide_eq_true this]⟩
  have co : bLcI (iZpA (b2 dIx (bVar 0) (bC (.int 4))) (bSl (b2 dIx (bVar 0) (bC (.int 4))) (pSo (bC (.int 1))) (pNo))) [1, 2] (bdT [1, 2]) yes (b2 dLt (bVar 1) (bVar 2)) [.va (wiD w), .un, .un] = .ok (.lst ((w.bar.zip (w.bar.drop 1)).map fun _ => D.bl true)) := by
    unfold bLcI
    rw [ez]
    refine lcOut_e comp2 ?_
    rw [List.length_map, List.length_zip, lim_val]
    have := h.few
    omega
  have al2 : bN dAll (bCons (bLcI (iZpA (b2 dIx (bVar 0) (bC (.int 4))) (bSl (b2 dIx (bVar 0) (bC (.int 4))) (pSo (bC (.int 1))) (pNo))) [1, 2] (bdT [1, 2]) yes (b2 dLt (bVar 1) (bVar 2))) (bNil)) [.va (wiD w), .un, .un] = .ok (.bl true) := by
    rw [bN_e, bCons_e, co, bNil_e]
    have := all_bl (fun _ : Tx × Tx => true) (w.bar.zip (w.bar.drop 1))
    have e : ((w.bar.zip (w.bar.drop 1)).all fun _ => true) = true := by simp
    rw [e] at this
    exact this
  unfold g_is_wish
  refine fn_rt ?_
  rw [m_is_wish_e]
  show fSeq _ _ [.va (wiD w), .un, .un] = _
  rw [seq_nx k1, seq_nx k2, seq_nx k3]
  unfold isw4
  refine ret_e ?_
  generalize bN dAll (bCons (bLcI (iZpA (b2 dIx (bVar 0) (bC (.int 4))) (bSl (b2 dIx (bVar 0) (bC (.int 4))) (pSo (bC (.int 1))) (pNo))) [1, 2] (bdT [1, 2]) yes (b2 dLt (bVar 1) (bVar 2))) (bNil)) = A at *
  generalize wiD w = WD at *
  simp [bAnd, al2, i5, b5]
theorem needWish_ok {w : Wi} (h : WiOk w) : g_need_wish [wiD w] = .ok .non := by
  have i := is_wish_ok h
  unfold g_need_wish
  rw [fnD_e]
  generalize wiD w = WD at *
  simp [m_need_wish, i]
/-! ### which names are wanted -/
def fitP (b : List Tx) (w : Wi) (x : Tx) : Bool := decide (w.lo ≤ x.length ∧ x.length ≤ w.hi) && (decide (w.hd.length ≤ x.length) && (x.take w.hd.length == w.hd)) && (decide (w.tl.length ≤ x.length) && (x.drop (x.length - w.tl.length) == w.tl)) && !(w.bar.contains x) && (w.told || !(b.contains x))
theorem in_txs {x : Tx} {l : List Tx} (hx : chs x) (hl : ∀ y ∈ l, chs y) : dInB (.str x) (.tup (l.map .str)) = .ok (l.contains x) := by
  have f1 : flatD (.str x) = true := by show x.all (· < 0x110000) = true; exact hx.all
  have f2 : (l.map D.str).all flatD = true := by
    rw [List.all_eq_true]
    intro d hd
    obtain ⟨y, hy, rfl⟩ := List.mem_map.mp hd
    show y.all (· < 0x110000) = true
    exact (hl y hy).all
  have e : ((l.map D.str).any fun z => eqv 20 z (.str x)) = l.contains x := by
    rw [List.any_map, Bool.eq_iff_iff, List.any_eq_true]
    simp only [Function.comp, eqv_str, beq_iff_eq, List.contains_iff_mem]
    exact ⟨fun ⟨y, hy, e⟩ => e ▸ hy, fun h => ⟨x, h, rfl⟩⟩
  show (if flatD (.str x) = true ∧ (l.map D.str).all flatD = true then R.ok ((l.map D.str).any fun z => eqv 20 z (.str x)) else R.no) = _
  rw [if_pos ⟨f1, f2⟩, e]
theorem len_str {x : Tx} (h : x.length ≤ lim) : dLen [.str x] = .ok (.int (x.length : Nat)) := by
  show (if x.length ≤ lim then R.ok (D.int (x.length : Nat)) else .no) = _
  rw [if_pos h]
section
variable {b : List Tx} {w : Wi} {x : Tx}
theorem is_fit_ok (hb : bookOk b) (hw : WiOk w) (hx : chs x) (hl : x.length ≤ 1000) : g_is_fit [bkD b, wiD w, .str x] = .ok (.bl (fitP b w x)) := by
  have ll := len_str (x := x) (by rw [lim_val]; omega)
  have n1 : dNotIn (.str x) (.tup (w.bar.map .str)) = .ok (.bl (!(w.bar.contains x))) := by
    unfold dNotIn; rw [in_txs hx fun y hy => (hw.names y hy).chs]; rfl
  have n2 : dNotIn (.str x) (bkD b) = .ok (.bl (!(b.contains x))) := by
    unfold dNotIn bkD; rw [in_txs hx fun y hy => (hb.2.2 y hy).chs]; rfl
  have s1 : dSw x (.str w.hd) = .ok (.bl (decide (w.hd.length ≤ x.length) && (x.take w.hd.length == w.hd))) := rfl
  have s2 : dEw x (.str w.tl) = .ok (.bl (decide (w.tl.length ≤ x.length) && (x.drop (x.length - w.tl.length) == w.tl))) := rfl
  have c1 : dLe (.int (w.lo : Nat)) (.int (x.length : Nat)) = .ok (.bl (decide (w.lo ≤ x.length))) := by
    show R.ok (D.bl (decide _)) = _
    congr 2; rw [decide_eq_decide]; omega
  have c2 : dLe (.int (x.length : Nat)) (.int (w.hi : Nat)) = .ok (.bl (decide (x.length ≤ w.hi))) := by
    show R.ok (D.bl (decide _)) = _
    congr 2; rw [decide_eq_decide]; omega
  have bd : fBd (bdT [3, 4, 5, 6, 7, 8]) (bVar 1) [.va (bkD b), .va (wiD w), .va (.str x), .un, .un, .un, .un, .un, .un] = .ok (.nx [.va (bkD b), .va (wiD w), .va (.str x), .va (.int (w.lo : Nat)), .va (.int (w.hi : Nat)), .va (.str w.hd), .va (.str w.tl), .va (.tup (w.bar.map .str)), .va (.bl w.told)]) := rfl
  unfold g_is_fit
  rw [fnD_e]
  show (match m_is_fit [.va (bkD b), .va (wiD w), .va (.str x), .un, .un, .un, .un, .un, .un] with
    | R.ok (Fl.rt d) => R.ok d
    | R.ok (Fl.nx γ) => R.ok D.non
    | R.ex c => R.ex c
    | x => R.no) = _
  unfold m_is_fit fitP
  rw [seq_nx bd]
  generalize (decide (w.hd.length ≤ x.length) && (x.take w.hd.length == w.hd)) = p1 at *
  generalize (decide (w.tl.length ≤ x.length) && (x.drop (x.length - w.tl.length) == w.tl)) = p2 at *
  generalize w.bar.contains x = p3 at *
  generalize b.contains x = p4 at *
  generalize bkD b = B at *
  generalize wiD w = WD at *
  generalize w.bar.map D.str = BR at *
  generalize ((x.length : Nat) : Int) = xl at *
  generalize ((w.lo : Nat) : Int) = lo at *
  generalize ((w.hi : Nat) : Int) = hi at *
  generalize w.told = td at *
  by_cases z1 : w.lo ≤ x.length
  · rw [decide_eq_true z1] at c1
    by_cases z2 : x.length ≤ w.hi
    · rw [decide_eq_true z2] at c2
      rw [decide_eq_true ⟨z1, z2⟩]
      cases p1 <;> cases p2 <;> cases p3 <;> cases td <;> simp [bCh, ll, c1, c2, b2s, s1, s2, n1, n2, bAnd, bOr]
    · rw [decide_eq_false z2] at c2
      rw [decide_eq_false (fun h => z2 h.2)]
      simp [bCh, ll, c1, c2]
  · rw [decide_eq_false z1] at c1
    rw [decide_eq_false (fun h => z1 h.1)]
    simp [bCh, ll, c1]
theorem fits_ok (hb : bookOk b) (hw : WiOk w) (hx : nameOk x) : g_fits [bkD b, wiD w, .str x] = .ok (.bl (fitP b w x)) := by
  have f := is_fit_ok hb hw hx.chs (by have := hx.2.1; omega)
  have n1 := needBook_ok hb
  have n2 := needWish_ok hw
  have n3 := needName_ok hx
  unfold g_fits
  rw [fnD_e]
  generalize fitP b w x = p at *
  generalize bkD b = B at *
  generalize wiD w = WD at *
  simp [m_fits, n1, n2, n3, f]
end
end
end KN
set_option maxHeartbeats 400000
/-! QN: the laws' own wishes -/
namespace KN
open PySem PySem.Spec PyProof.Rows L2
noncomputable section
def barN : List Tx := [[97], [97, 97], [97, 98], [98], [98, 97], [122]]
def endN : List Tx := [[], [], [97], [98], [97, 98], [97, 98, 97], [122]]
def lwL : Ga → R Fl := fIf (tVal (b2 dEq (bCall g__law_drawn (bCons (bVar 0) (bCons (b2 dAdd (b2 dAdd (bVar 1) (bC (.int 4))) (bVar 7)) (bCons (bC (.int 3)) (bNil))))) (bC (.int 0)))) (fApp 5 (bVar 8)) (fNil)
def lwE : Ga → R D := bLst (bCons (bC (.str [])) (bCons (bC (.str [])) (bCons (bC (.str [97])) (bCons (bC (.str [98])) (bCons (bC (.str [97, 98])) (bCons (bC (.str [97, 98, 97])) (bCons (bC (.str [122])) (bNil))))))))
def lwN : Ga → R D := bLst (bCons (bC (.str [97])) (bCons (bC (.str [97, 97])) (bCons (bC (.str [97, 98])) (bCons (bC (.str [98])) (bCons (bC (.str [98, 97])) (bCons (bC (.str [122])) (bNil)))))))
def lwR : Ga → R Fl := fRet (bTup (bCons (bVar 2) (bCons (bVar 3) (bCons (bVar 6) (bCons (b2 dIx (bVar 4) (bCall g__law_drawn (bCons (bVar 0) (bCons (b2 dAdd (bVar 1) (bC (.int 3))) (bCons (bC (.int 7)) (bNil)))))) (bCons (bN dTuple (bCons (bRd 5) (bNil))) (bCons (b2 dEq (bCall g__law_drawn (bCons (bVar 0) (bCons (b2 dAdd (bVar 1) (bC (.int 10))) (bCons (bC (.int 2)) (bNil))))) (bC (.int 0))) (bNil))))))))
def lw1 : Ga → R Fl := fSet 2 (b2 dAdd (bC (.int 1)) (bCall g__law_drawn (bCons (bVar 0) (bCons (bVar 1) (bCons (bC (.int 3)) (bNil))))))
def lw2 : Ga → R Fl := fSet 3 (b2 dAdd (bVar 2) (bCall g__law_drawn (bCons (bVar 0) (bCons (b2 dAdd (bVar 1) (bC (.int 1))) (bCons (b2 dSub (bC (.int 5)) (bVar 2)) (bNil))))))
def lw6 : Ga → R Fl := fSet 6 (b2 dIx (bVar 4) (bCall g__law_drawn (bCons (bVar 0) (bCons (b2 dAdd (bVar 1) (bC (.int 2))) (bCons (bC (.int 7)) (bNil))))))
theorem m__law_wish_e : m__law_wish = fSeq lw1 (fSeq lw2 (fSeq (fSet 4 lwE) (fSeq (fOwn 5 (bLst (bNil))) (fSeq (fForI (iEn lwN) (bdT [7, 8]) lwL) (fSeq lw6 lwR))))) := rfl
theorem endN_ok : ∀ t ∈ endN, endOk t := fun t ht => by
  simp only [endN, List.mem_cons, List.not_mem_nil, or_false] at ht
  rcases ht with rfl | rfl | rfl | rfl | rfl | rfl | rfl <;> exact ⟨by decide, by decide⟩
theorem barN_ok : ∀ t ∈ barN, nameOk t := fun t ht => by
  simp only [barN, List.mem_cons, List.not_mem_nil, or_false] at ht
  rcases ht with rfl | rfl | rfl | rfl | rfl | rfl <;> exact ⟨by decide, by decide, by decide⟩
theorem barN_up : barN.Pairwise (· < ·) := by decide
theorem law_wish_ok {ns : List Int} (hns : ns.length ≤ 63) {k : Int} (h0 : 0 ≤ k) (h1 : k < 2 ^ 40) : ∃ w : Wi, WiOk w ∧ w.hi ≤ 4 ∧ g__law_wish [Lk ns, .int k] = .ok (wiD w) := by
  obtain ⟨a1, a2, a3⟩ := drawn_ok hns (k := k) (m := 3) h0 (by omega) (by decide)
  obtain ⟨lo, hlo⟩ : ∃ n : Nat, (1 : Int) + drawnF ns k 3 = n := ⟨(1 + drawnF ns k 3).toNat, by omega⟩
  generalize drawnF ns k 3 = va at *
  obtain ⟨b1', b2', b3'⟩ := drawn_ok hns (k := k + 1) (m := 5 - (lo : Nat)) (by omega) (by omega) (by omega)
  obtain ⟨hi, hhi⟩ : ∃ n : Nat, (lo : Int) + drawnF ns (k + 1) (5 - (lo : Nat)) = n := ⟨(lo + drawnF ns (k + 1) (5 - (lo : Nat))).toNat, by omega⟩
  generalize drawnF ns (k + 1) (5 - (lo : Nat)) = vb at *
  obtain ⟨c1, c2, c3⟩ := drawn_ok hns (k := k + 2) (m := 7) (by omega) (by omega) (by decide)
  generalize drawnF ns (k + 2) 7 = vc at *
  obtain ⟨e1, e2, e3⟩ := drawn_ok hns (k := k + 3) (m := 7) (by omega) (by omega) (by decide)
  generalize drawnF ns (k + 3) 7 = ve at *
  obtain ⟨f1, f2, f3⟩ := drawn_ok hns (k := k + 10) (m := 2) (by omega) (by omega) (by decide)
  generalize drawnF ns (k + 10) 2 = vf at *
  have ixE : ∀ j : Int, 0 ≤ j → j < 7 → ∃ t ∈ endN, dIx (.lst (endN.map .str)) (.int j) = .ok (.str t) := fun j j0 j7 => by
    obtain ⟨n, rfl⟩ : ∃ n : Nat, j = n := ⟨j.toNat, by omega⟩
    have hn : n < endN.length := by show n < 7; omega
    refine ⟨endN[n], List.getElem_mem hn, ?_⟩
    show o2r (L2.atI (endN.map D.str) (n : Int)) = _
    rw [L2.atI_nat (v := .str endN[n]) (by rw [List.getElem?_map, List.getElem?_eq_getElem hn]; rfl)]; rfl
  obtain ⟨hd, hhd, ihd⟩ := ixE vc c2 (by omega)
  obtain ⟨tl, htl, itl⟩ := ixE ve e2 (by omega)
  let p : Tx × Nat → Bool := fun q => drawnF ns (k + 4 + (q.2 : Nat)) 3 == 0
  let bar := (barN.zipIdx.filter p).map (·.1)
  have sub : bar.Sublist barN := by
    have h1 : (barN.zipIdx.filter p).Sublist barN.zipIdx := List.filter_sublist
    have h2 := h1.map (·.1)
    have e : barN.zipIdx.map (·.1) = barN := by simp [List.zipIdx_map_fst]
    rw [e] at h2
    exact h2
  have bl : bar.length ≤ 6 := sub.length_le
  have l2 : 2 ≤ lim := by decide
  have l6 : 6 ≤ lim := by decide
  have l7 : 7 ≤ lim := by decide
  refine ⟨⟨lo, hi, hd, tl, bar, vf == 0⟩, ⟨by show 1 ≤ lo; omega, by show lo ≤ hi; omega, by show hi ≤ 8; omega, endN_ok hd hhd, endN_ok tl htl, bl, fun x hx => barN_ok x (sub.subset hx), barN_up.sublist sub⟩, by show hi ≤ 4; omega, ?_⟩
  generalize hL : Lk ns = L at *
  obtain ⟨γ', l1, s7, s8, rfl⟩ := forGo_inv (bd := bdT [7, 8]) (inj := fun q : Tx × Nat => D.tup [.int (q.2 : Nat), .str q.1]) (l0 := barN.zipIdx) (body := lwL)
    (I := fun dn γ => ∃ s7 s8, γ = [.va L, .va (.int k), .va (.int (lo : Nat)), .va (.int (hi : Nat)), .va (.lst (endN.map .str)), .ow (.lst (((dn.filter p).map (·.1)).map .str)), .un, s7, s8])
    (γ := [.va L, .va (.int k), .va (.int (lo : Nat)), .va (.int (hi : Nat)), .va (.lst (endN.map .str)), .ow (.lst []), .un, .un, .un]) (fun dn q rest γ hr hI => by
      obtain ⟨s7, s8, rfl⟩ := hI
      have hq : q ∈ barN.zipIdx := by rw [hr]; simp
      have q6 : q.2 < 6 := by
        obtain ⟨x, i⟩ := q
        have := List.mem_zipIdx hq
        have e : barN.length = 6 := rfl
        show i < 6
        omega
      have dl : dn.length ≤ 6 := by
        have := congrArg List.length hr
        have e : barN.zipIdx.length = 6 := rfl
        rw [e] at this
        simp at this; omega
      obtain ⟨g1, g2, g3⟩ := drawn_ok hns (k := k + 4 + (q.2 : Nat)) (m := 3) (by omega) (by omega) (by decide)
      rw [hL] at g1
      refine ⟨[.va L, .va (.int k), .va (.int (lo : Nat)), .va (.int (hi : Nat)), .va (.lst (endN.map .str)), .ow (.lst (((dn.filter p).map (·.1)).map .str)), .un, .va (.int (q.2 : Nat)), .va (.str q.1)], rfl, [.va L, .va (.int k), .va (.int (lo : Nat)), .va (.int (hi : Nat)), .va (.lst (endN.map .str)), .ow (.lst ((((dn ++ [q]).filter p).map (·.1)).map .str)), .un, .va (.int (q.2 : Nat)), .va (.str q.1)], .inl ?_, _, _, rfl⟩
      have hp : p q = (drawnF ns (k + 4 + (q.2 : Nat)) 3 == 0) := rfl
      have test : tVal (b2 dEq (bCall g__law_drawn (bCons (bVar 0) (bCons (b2 dAdd (b2 dAdd (bVar 1) (bC (.int 4))) (bVar 7)) (bCons (bC (.int 3)) (bNil))))) (bC (.int 0))) [.va L, .va (.int k), .va (.int (lo : Nat)), .va (.int (hi : Nat)), .va (.lst (endN.map .str)), .ow (.lst (((dn.filter p).map (·.1)).map .str)), .un, .va (.int (q.2 : Nat)), .va (.str q.1)] = .ok (p q) := by
        rw [hp]
        generalize drawnF ns (k + 4 + (q.2 : Nat)) 3 = v at *
        have qe : dEq (.int v) (.int 0) = .ok (.bl (v == 0)) := by rw [dEq_p (by simp) (by simp), eqv_int]
        generalize (v == 0) = c at *
        generalize ((dn.filter p).map (·.1)).map D.str = BS at *
        generalize endN.map D.str = ES at *
        simp [g1, qe]
      unfold lwL
      rw [fIf_e, test, List.filter_append]
      cases z : p q with
      | false =>
        have : [q].filter p = [] := by simp [z]
        rw [this, List.append_nil]; rfl
      | true =>
        have : [q].filter p = [q] := by simp [z]
        rw [this]
        have fl := List.length_filter_le p dn
        generalize dn.filter p = dd at *
        simp only [R.bind, if_true]
        rw [fApp_e (xs := (dd.map (·.1)).map .str) (d := .str q.1) rfl rfl (by rw [List.length_map, List.length_map, lim_val]; omega)]
        rw [List.map_append, List.map_append]
        rfl) ⟨_, _, rfl⟩
  have ei : iEn lwN [.va L, .va (.int k), .va (.int (lo : Nat)), .va (.int (hi : Nat)), .va (.lst (endN.map .str)), .ow (.lst []), .un, .un, .un] = .ok (barN.zipIdx.map fun q : Tx × Nat => D.tup [.int (q.2 : Nat), .str q.1]) := by
    have e : lwN [.va L, .va (.int k), .va (.int (lo : Nat)), .va (.int (hi : Nat)), .va (.lst (endN.map .str)), .ow (.lst []), .un, .un, .un] = .ok (.lst (barN.map .str)) := by
      unfold lwN
      generalize endN.map D.str = ES at *
      simp [l6, barN]
    unfold iEn
    rw [e]
    show R.ok (enuD (barN.map D.str)) = _
    unfold enuD
    rw [List.zipIdx_map, List.map_map]; rfl
  unfold g__law_wish
  refine fn_rt ?_
  rw [m__law_wish_e]
  show fSeq _ _ [.va L, .va (.int k), .un, .un, .un, .un, .un, .un, .un] = _
  rw [seq_nx (γ' := [.va L, .va (.int k), .va (.int (lo : Nat)), .un, .un, .un, .un, .un, .un]) (set_e (by simp [a1, hlo]))]
  rw [seq_nx (γ' := [.va L, .va (.int k), .va (.int (lo : Nat)), .va (.int (hi : Nat)), .un, .un, .un, .un, .un]) (set_e (by simp [b1', hhi]))]
  rw [seq_nx (γ' := [.va L, .va (.int k), .va (.int (lo : Nat)), .va (.int (hi : Nat)), .va (.lst (endN.map .str)), .un, .un, .un, .un]) (set_e (by simp [lwE, l7, endN]))]
  rw [seq_nx (γ' := [.va L, .va (.int k), .va (.int (lo : Nat)), .va (.int (hi : Nat)), .va (.lst (endN.map .str)), .ow (.lst []), .un, .un, .un]) (by rw [fOwn_e, nilE]; rfl)]
  have k5 : fForI (iEn lwN) (bdT [7, 8]) lwL [.va L, .va (.int k), .va (.int (lo : Nat)), .va (.int (hi : Nat)), .va (.lst (endN.map .str)), .ow (.lst []), .un, .un, .un] = .ok (.nx [.va L, .va (.int k), .va (.int (lo : Nat)), .va (.int (hi : Nat)), .va (.lst (endN.map .str)), .ow (.lst (bar.map .str)), .un, s7, s8]) := by
    unfold fForI
    rw [ei]
    exact l1
  rw [seq_nx k5]
  rw [seq_nx (γ' := [.va L, .va (.int k), .va (.int (lo : Nat)), .va (.int (hi : Nat)), .va (.lst (endN.map .str)), .ow (.lst (bar.map .str)), .va (.str hd), s7, s8]) (set_e (by
    generalize bar.map D.str = BS at *
    generalize D.lst (endN.map D.str) = ES at *
    simp [c1, ihd]))]
  unfold lwR
  refine ret_e ?_
  have tu : dTuple [.lst (bar.map .str)] = .ok (.tup (bar.map .str)) := rfl
  have qe : dEq (.int vf) (.int 0) = .ok (.bl (vf == 0)) := by rw [dEq_p (by simp) (by simp), eqv_int]
  show _ = R.ok (D.tup [.int (lo : Nat), .int (hi : Nat), .str hd, .str tl, .tup (bar.map .str), .bl (vf == 0)])
  generalize (vf == 0) = c at *
  generalize bar.map D.str = BS at *
  generalize D.lst (endN.map D.str) = ES at *
  simp [bRd, e1, itl, tu, f1, qe, l6]
end
end KN
set_option maxHeartbeats 400000
/-! QO: names drawn by numbers -/
namespace KN
open PySem PySem.Spec PyProof.Rows L2
noncomputable section
section
variable {bd : D → Ga → R Ga} {body : Ga → R Fl} {d : D} {ds : List D} {γ γ1 γ2 : Ga}
theorem go_nx (h : bd d γ = .ok γ1) (h2 : body γ1 = .ok (.nx γ2)) : forGo bd body (d :: ds) γ = forGo bd body ds γ2 := by
  rw [forGo]
  simp [h, h2]
theorem go_rt {v : D} (h : bd d γ = .ok γ1) (h2 : body γ1 = .ok (.rt v)) : forGo bd body (d :: ds) γ = .ok (.rt v) := by
  rw [forGo]
  simp [h, h2]
theorem sq_rt {f g : Ga → R Fl} {v : D} (h : f γ = .ok (.rt v)) : fSeq f g γ = .ok (.rt v) := by rw [fSeq_e, h]
theorem if_t {p : Ga → R Bool} {f g : Ga → R Fl} (h : p γ = .ok true) : fIf p f g γ = f γ := by
  rw [fIf_e, h]
  simp only [R.bind, if_true]
theorem go_ex {c : Nat} (h : bd d γ = .ok γ1) (h2 : body γ1 = .ex c) : forGo bd body (d :: ds) γ = .ex c := by
  rw [forGo]
  simp [h, h2]
end
/-! ### the letter picked -/
def pk : List (Tx × Nat) → Nat → Tx
  | [], _ => []
  | (l, m) :: r, k => if k < m then l else pk r (k - m)
def tN (r : List (Tx × Nat)) : Nat := (r.map (·.2)).sum
def rN (r : List (Tx × Nat)) : List D := r.map fun e => .tup [.str e.1, .int (e.2 : Nat)]
theorem tN_cons (e : Tx × Nat) (r : List (Tx × Nat)) : tN (e :: r) = e.2 + tN r := by unfold tN; simp
theorem pk_mem : ∀ {r : List (Tx × Nat)} {k : Nat}, k < tN r → pk r k ∈ r.map (·.1)
  | [], k, h => absurd h (Nat.not_lt_zero _)
  | (l, m) :: r, k, h => by
    unfold pk
    rw [tN_cons] at h
    split
    · exact List.mem_map.mpr ⟨(l, m), List.mem_cons_self, rfl⟩
    · have := pk_mem (r := r) (k := k - m) (by simp at h; omega)
      rw [List.map_cons]
      exact List.mem_cons_of_mem _ this
def pkB : Ga → R Fl := fSeq (fIf (tVal (b2 dLt (bVar 2) (bVar 4))) (fRet (bVar 3)) (fNil)) (fSet 2 (b2 dSub (bVar 2) (bVar 4)))
theorem m_picked_e : m_picked = fSeq (fSet 2 (b2 dMod (bVar 1) (bN dSum (bCons (bLcE (bVar 0) [3, 4] (bdT [3, 4]) yes (bVar 4)) (bNil))))) (fSeq (fForE (bVar 0) (bdT [3, 4]) pkB) (fRet (bC (.str [])))) := rfl
theorem pk_loop {A B : D} : ∀ (r : List (Tx × Nat)) (k : Nat) (s3 s4 : Sl), k < tN r → forGo (bdT [3, 4]) pkB (rN r) [.va A, .va B, .va (.int (k : Nat)), s3, s4] = .ok (.rt (.str (pk r k)))
  | [], k, _, _, h => absurd h (Nat.not_lt_zero _)
  | (l, m) :: r, k, s3, s4, h => by
    have ih := pk_loop (A := A) (B := B) r (k - m) (.va (.str l)) (.va (.int (m : Nat)))
    rw [tN_cons] at h
    unfold pk
    show forGo (bdT [3, 4]) pkB (.tup [.str l, .int (m : Nat)] :: rN r) _ = _
    have hb : bdT [3, 4] (.tup [.str l, .int (m : Nat)]) [.va A, .va B, .va (.int (k : Nat)), s3, s4] = .ok [.va A, .va B, .va (.int (k : Nat)), .va (.str l), .va (.int (m : Nat))] := rfl
    by_cases z : k < m
    · rw [if_pos z]
      refine go_rt hb ?_
      have lt : dLt (.int (k : Nat)) (.int (m : Nat)) = .ok (.bl true) := by
        show R.ok (D.bl (decide _)) = _
        rw [decide_eq_true (by omega)]
      generalize ((k : Nat) : Int) = kz at *
      generalize ((m : Nat) : Int) = mz at *
      unfold pkB
      refine sq_rt ?_
      rw [fIf_e]
      simp only [tVal_e, b2_e, bVar_e, List.getElem?_cons_succ, List.getElem?_cons_zero, R.bind, lt, tB_e, if_true]
      rfl
    · rw [if_neg z]
      have lt : dLt (.int (k : Nat)) (.int (m : Nat)) = .ok (.bl false) := by
        show R.ok (D.bl (decide _)) = _
        rw [decide_eq_false (by omega)]
      have sb : dSub (.int (k : Nat)) (.int (m : Nat)) = .ok (.int ((k - m : Nat) : Int)) := by
        show R.ok (D.int _) = _
        congr 2; omega
      have st : pkB [.va A, .va B, .va (.int (k : Nat)), .va (.str l), .va (.int (m : Nat))] = .ok (.nx [.va A, .va B, .va (.int ((k - m : Nat) : Int)), .va (.str l), .va (.int (m : Nat))]) := by
        generalize ((k - m : Nat) : Int) = dz at *
        generalize ((k : Nat) : Int) = kz at *
        generalize ((m : Nat) : Int) = mz at *
        unfold pkB
        rw [seq_nx (γ' := [.va A, .va B, .va (.int kz), .va (.str l), .va (.int mz)]) (by
          refine if_f ?_
          simp only [tVal_e, b2_e, bVar_e, List.getElem?_cons_succ, List.getElem?_cons_zero, R.bind, lt, tB_e])]
        refine set_e ?_
        simp only [b2_e, bVar_e, List.getElem?_cons_succ, List.getElem?_cons_zero, R.bind, sb]
      rw [go_nx hb st]
      exact ih (by simp at h; omega)
theorem sum_cast : ∀ l : List Nat, (l.map fun n : Nat => (n : Int)).sum = (l.sum : Nat)
  | [] => rfl
  | a :: l => by rw [List.map_cons, List.sum_cons, List.sum_cons, sum_cast l]; omega
theorem dSum_N (l : List Nat) : dSum [.lst (l.map fun n : Nat => D.int (n : Nat))] = .ok (.int (l.sum : Nat)) := by
  have e : (l.map fun n : Nat => D.int (n : Nat)) = (l.map fun n : Nat => (n : Int)).map D.int := by rw [List.map_map]; rfl
  show (o2r (asInts _)).bind _ = _
  rw [e, asInts_map]
  show R.ok (D.int _) = _
  rw [sum_cast]
theorem picked_ok {r : List (Tx × Nat)} (h0 : 0 < tN r) (hl : r.length ≤ 1000) (n : Nat) : g_picked [.tup (rN r), .int (n : Nat)] = .ok (.str (pk r (n % tN r))) := by
  have comp := lcGo_map (bd := bdT [3, 4]) (elt := bVar 4) (γ := wipeG [.va (.tup (rN r)), .va (.int (n : Nat)), .un, .un, .un] [3, 4]) (inj := fun e : Tx × Nat => D.tup [.str e.1, .int (e.2 : Nat)]) (f := fun e => .int (e.2 : Nat)) (l := r) fun e he => ⟨[.va (.tup (rN r)), .va (.int (n : Nat)), .un, .va (.str e.1), .va (.int (e.2 : Nat))], rfl, rfl⟩
  have cl := lcE_e (fe := bVar 0) (γ := [.va (.tup (rN r)), .va (.int (n : Nat)), .un, .un, .un]) (d := .tup (rN r)) rfl rfl comp (by rw [List.length_map, lim_val]; omega)
  have e1 : (r.map fun e => D.int (e.2 : Nat)) = (r.map (·.2)).map fun n : Nat => D.int (n : Nat) := by rw [List.map_map]; rfl
  rw [e1] at cl
  have ds := dSum_N (r.map (·.2))
  have md : dMod (.int (n : Nat)) (.int ((r.map (·.2)).sum : Nat)) = .ok (.int ((n % tN r : Nat) : Int)) := by
    show (if (0 : Int) < ((r.map (·.2)).sum : Nat) then R.ok (D.int ((n : Int) % ((r.map (·.2)).sum : Nat))) else .no) = _
    have : 0 < (r.map (·.2)).sum := h0
    rw [if_pos (by omega)]
    rfl
  have lp := pk_loop (A := .tup (rN r)) (B := .int (n : Nat)) r (n % tN r) .un .un (Nat.mod_lt _ h0)
  unfold g_picked
  refine fn_rt ?_
  rw [m_picked_e]
  show fSeq _ _ [.va (.tup (rN r)), .va (.int (n : Nat)), .un, .un, .un] = _
  rw [seq_nx (γ' := [.va (.tup (rN r)), .va (.int (n : Nat)), .va (.int ((n % tN r : Nat) : Int)), .un, .un]) (set_e (by
    rw [b2_e, bN_e, bCons_e, cl, bNil_e]
    show R.bind (R.bind _ dSum) (fun y => dMod (.int (n : Nat)) y) = _
    simp only [R.bind, ds, md]))]
  exact sq_rt (forE_e (fe := bVar 0) (d := .tup (rN r)) rfl rfl (fun es h => nomatch h) lp)
/-! ### the law's own pick -/
def expd (r : List (Tx × Nat)) : List Tx := r.flatMap fun e => List.replicate e.2 e.1
theorem expd_len (r : List (Tx × Nat)) : (expd r).length = tN r := by
  induction r with
  | nil => rfl
  | cons e r ih =>
    unfold expd at *
    rw [List.flatMap_cons, List.length_append, ih, List.length_replicate, tN_cons]
theorem expd_at : ∀ (r : List (Tx × Nat)) (k : Nat), k < tN r → (expd r)[k]? = some (pk r k)
  | [], k, h => absurd h (Nat.not_lt_zero _)
  | (l, m) :: r, k, h => by
    have e : expd ((l, m) :: r) = List.replicate m l ++ expd r := by unfold expd; rw [List.flatMap_cons]
    rw [e]
    unfold pk
    rw [tN_cons] at h
    by_cases z : k < m
    · rw [if_pos z, List.getElem?_append_left (by rw [List.length_replicate]; exact z), List.getElem?_replicate, if_pos z]
    · rw [if_neg z, List.getElem?_append_right (by rw [List.length_replicate]; omega), List.length_replicate]
      exact expd_at r (k - m) (by simp at h; omega)
/-! ### texts drawn -/
def dw (es : List Ev) (o : Nat) : List Nat → Tx → Nat → Option (Tx × Nat)
  | [], _, _ => none
  | n :: ns, t, k => let l := pk (rowN es (endT o t)) (n % tN (rowN es (endT o t))); if l = [] then some (t, k + 1) else dw es o ns (t ++ l) (k + 1)
def opD : Option (Tx × Nat) → D
  | none => .non
  | some (t, k) => .tup [.str t, .int (k : Nat)]
def Live (es : List Ev) (o : Nat) (t : Tx) : Prop := ∃ l, (endT o t, l) ∈ es
structure Nx (es : List Ev) (o : Nat) : Prop where
  sm : Sm es
  one : ∀ e ∈ es, e.2.length ≤ 1
  go : ∀ t l, (endT o t, l) ∈ es → l ≠ [] → Live es o (t ++ l)
  start : Live es o []
theorem nx_of {b : List Tx} {o : Nat} (hb : bookOk b) (h : Sm (evB o b)) : Nx (evB o b) o where
  sm := h
  one := fun e he => by
    obtain ⟨x, _, i, _, rfl⟩ := evB_mem he
    simp; omega
  go := fun t l he hl => by
    obtain ⟨x, hx, i, hi, e⟩ := evB_mem he
    have e1 := congrArg Prod.fst e
    have e2 := congrArg Prod.snd e
    simp only at e1 e2
    have li : i < x.length := by
      refine Nat.lt_of_le_of_ne hi fun z => hl ?_
      rw [e2, z]; simp
    refine ⟨(x.drop (i + 1)).take 1, ?_⟩
    have et : endT o (t ++ l) = endT o (x.take (i + 1)) := by
      rw [← end_app o t l, e1, end_app, e2]
      congr 1
      exact (List.take_add (l := x) (i := i) (j := 1)).symm
    rw [et]
    unfold evB
    refine List.mem_flatMap.mpr ⟨x, hx, ?_⟩
    unfold evs
    exact List.mem_map.mpr ⟨i + 1, List.mem_range.mpr (by omega), rfl⟩
  start := by
    obtain ⟨u, hu⟩ : ∃ u, u ∈ b := by
      cases b with
      | nil => have := hb.1; simp at this
      | cons u _ => exact ⟨u, List.mem_cons_self⟩
    refine ⟨u.take 1, ?_⟩
    unfold evB
    refine List.mem_flatMap.mpr ⟨u, hu, ?_⟩
    unfold evs
    exact List.mem_map.mpr ⟨0, List.mem_range.mpr (by omega), by simp⟩
section
variable {es : List Ev} {o : Nat}
theorem row_pos (h : Nx es o) {t : Tx} (ht : Live es o t) : 0 < tN (rowN es (endT o t)) := by
  obtain ⟨l, hl⟩ := ht
  have hm : l ∈ sortT (ks (rowOf (tabOf es) (endT o t))) := (sortT_perm _).mem_iff.mpr (row_mem2.mpr hl)
  have hr : (l, es.count (endT o t, l)) ∈ rowN es (endT o t) := List.mem_map.mpr ⟨l, hm, rfl⟩
  have hc := List.count_pos_iff.mpr hl
  have : ∀ (r : List (Tx × Nat)) (e : Tx × Nat), e ∈ r → e.2 ≤ tN r := by
    intro r
    induction r with
    | nil => intro e h; cases h
    | cons a r ih =>
      intro e h
      rw [tN_cons]
      rcases List.mem_cons.mp h with rfl | h
      · omega
      · have := ih e h; omega
  have := this _ _ hr
  simp only at this
  omega
theorem pk_ev (h : Nx es o) {t : Tx} (ht : Live es o t) (n : Nat) : (endT o t, pk (rowN es (endT o t)) (n % tN (rowN es (endT o t)))) ∈ es := by
  have := pk_mem (Nat.mod_lt n (row_pos h ht))
  obtain ⟨e, he, e2⟩ := List.mem_map.mp this
  obtain ⟨l, hl, rfl⟩ := List.mem_map.mp he
  rw [← e2]
  exact row_mem2.mp ((sortT_perm _).mem_iff.mp hl)
theorem live_ctx {t : Tx} (ht : Live es o t) : endT o t ∈ ctxL es := by
  obtain ⟨l, hl⟩ := ht
  refine (sortT_perm _).mem_iff.mpr ?_
  refine Classical.byContradiction fun z => ?_
  exact ((tabOk es).key (endT o t)).mp (lk_none.mpr z) l hl
theorem ixTbl {c : Tx} (h : c ∈ ctxL es) : dIx (tblD (tabOf es)) (.str c) = .ok (.dic (rowD (rowOf (tabOf es) c))) := by
  have hm : c ∈ ks (tabOf es) := (sortT_perm _).mem_iff.mp h
  show o2r (lookK ((tabOf es).map fun e => (e.1, D.dic (rowD e.2))) c) = _
  rw [look_tbl]
  unfold rowOf
  cases z : lk (tabOf es) c with
  | none => exact absurd hm (lk_none.mp z)
  | some r => rfl
def numsD (ns : List Nat) : List D := ns.map fun n : Nat => .int (n : Nat)
def odB : Ga → R Fl := fSeq (fSet 6 (bCall g_picked (bCons (bCall g_listed (bCons (b2 dIx (bVar 0) (bCall g_end_of (bCons (bVar 1) (bCons (bVar 3) (bNil))))) (bNil))) (bCons (bVar 5) (bNil))))) (fSeq (fIf (tVal (b2 dEq (bVar 6) (bC (.str [])))) (fRet (bTup (bCons (bVar 3) (bCons (b2 dAdd (bVar 4) (bC (.int 1))) (bNil))))) (fNil)) (fSet 3 (b2 dAdd (bVar 3) (bVar 6))))
theorem m_one_drawn_e : m_one_drawn = fSeq (fSet 3 (bC (.str []))) (fSeq (fForI (iEn (bVar 2)) (bdT [4, 5]) odB) (fRet (bC .non))) := rfl
theorem od_loop (h : Nx es o) {N : D} : ∀ (ns : List Nat) (t : Tx) (k : Nat) (s4 s5 s6 : Sl), Live es o t → chs t → t.length + ns.length ≤ 900 →
    (∀ p, dw es o ns t k = some p → forGo (bdT [4, 5]) odB ((ns.zipIdx k).map fun q => D.tup [.int (q.2 : Nat), .int (q.1 : Nat)]) [.va (tblD (tabOf es)), .va (.int o), .va N, .va (.str t), s4, s5, s6] = .ok (.rt (opD (some p)))) ∧
    (dw es o ns t k = none → ∃ γ', forGo (bdT [4, 5]) odB ((ns.zipIdx k).map fun q => D.tup [.int (q.2 : Nat), .int (q.1 : Nat)]) [.va (tblD (tabOf es)), .va (.int o), .va N, .va (.str t), s4, s5, s6] = .ok (.nx γ'))
  | [], t, k, s4, s5, s6, _, _, _ => ⟨fun p hp => (nomatch hp), fun _ => ⟨_, rfl⟩⟩
  | n :: ns, t, k, s4, s5, s6, ht, hc, hl => by
    have ev := pk_ev h ht n
    have rp := row_pos h ht
    have lc := live_ctx ht
    have ic := ixTbl lc
    have en := end_ok o (t := t) (by simp at hl; omega)
    have li := listed_ok ((tabOk es).rnd (endT o t)) (Nat.lt_of_le_of_lt ((tabOk es).rlen (endT o t)) h.sm.few)
    have er : rowT (lst 0 (rowOf (tabOf es) (endT o t))) = rN (rowN es (endT o t)) := rowT_N es (endT o t)
    rw [er] at li
    have pi := picked_ok rp (by have := h.sm.rowLen (endT o t); omega) n
    have cl := (h.sm.ok _ ev).2.2.1
    have ll : (pk (rowN es (endT o t)) (n % tN (rowN es (endT o t)))).length ≤ 1 := h.one _ ev
    have gl := fun z => h.go t _ ev z
    have eq := eqNilT cl
    have de : dw es o (n :: ns) t k = if pk (rowN es (endT o t)) (n % tN (rowN es (endT o t))) = [] then some (t, k + 1) else dw es o ns (t ++ pk (rowN es (endT o t)) (n % tN (rowN es (endT o t)))) (k + 1) := rfl
    rw [de]
    generalize pk (rowN es (endT o t)) (n % tN (rowN es (endT o t))) = l at *
    have hb : bdT [4, 5] (.tup [.int (k : Nat), .int (n : Nat)]) [.va (tblD (tabOf es)), .va (.int o), .va N, .va (.str t), s4, s5, s6] = .ok [.va (tblD (tabOf es)), .va (.int o), .va N, .va (.str t), .va (.int (k : Nat)), .va (.int (n : Nat)), s6] := rfl
    have k1 : fSet 6 (bCall g_picked (bCons (bCall g_listed (bCons (b2 dIx (bVar 0) (bCall g_end_of (bCons (bVar 1) (bCons (bVar 3) (bNil))))) (bNil))) (bCons (bVar 5) (bNil)))) [.va (tblD (tabOf es)), .va (.int o), .va N, .va (.str t), .va (.int (k : Nat)), .va (.int (n : Nat)), s6] = .ok (.nx [.va (tblD (tabOf es)), .va (.int o), .va N, .va (.str t), .va (.int (k : Nat)), .va (.int (n : Nat)), .va (.str l)]) := set_e (by
      generalize tblD (tabOf es) = TT at *
      generalize rN (rowN es (endT o t)) = RN at *
      generalize D.dic (rowD (rowOf (tabOf es) (endT o t))) = RD at *
      generalize endT o t = c at *
      generalize ((n : Nat) : Int) = nz at *
      simp only [bCall_e, bCons_e, bNil_e, b2_e, bVar_e, List.getElem?_cons_succ, List.getElem?_cons_zero, R.bind, en, ic, li, pi])
    have tst : tVal (b2 dEq (bVar 6) (bC (.str []))) [.va (tblD (tabOf es)), .va (.int o), .va N, .va (.str t), .va (.int (k : Nat)), .va (.int (n : Nat)), .va (.str l)] = .ok (l == []) := by
      generalize tblD (tabOf es) = TT at *
      simp only [tVal_e, b2_e, bVar_e, bC_e, List.getElem?_cons_succ, List.getElem?_cons_zero, R.bind, eq, tB_e]
    show (∀ p, _ → forGo (bdT [4, 5]) odB (.tup [.int (k : Nat), .int (n : Nat)] :: (ns.zipIdx (k + 1)).map fun q => D.tup [.int (q.2 : Nat), .int (q.1 : Nat)]) _ = _) ∧ (_ → ∃ γ', forGo (bdT [4, 5]) odB (.tup [.int (k : Nat), .int (n : Nat)] :: (ns.zipIdx (k + 1)).map fun q => D.tup [.int (q.2 : Nat), .int (q.1 : Nat)]) _ = .ok (.nx γ'))
    by_cases z : l = []
    · rw [if_pos z]
      refine ⟨fun p hp => ?_, fun hp => (nomatch hp)⟩
      cases hp
      refine go_rt hb ?_
      unfold odB
      rw [seq_nx k1]
      refine sq_rt ?_
      rw [if_t (by rw [tst, z]; rfl)]
      have l2 : 2 ≤ lim := by decide
      generalize tblD (tabOf es) = TT at *
      simp [l2, opD]
    · rw [if_neg z]
      have st : odB [.va (tblD (tabOf es)), .va (.int o), .va N, .va (.str t), .va (.int (k : Nat)), .va (.int (n : Nat)), s6] = .ok (.nx [.va (tblD (tabOf es)), .va (.int o), .va N, .va (.str (t ++ l)), .va (.int (k : Nat)), .va (.int (n : Nat)), .va (.str l)]) := by
        have ad := addT (s := t) (t := l) (by rw [lim_val]; simp at hl; omega)
        have zb : (l == []) = false := by simpa using z
        unfold odB
        rw [seq_nx k1, seq_nx (γ' := [.va (tblD (tabOf es)), .va (.int o), .va N, .va (.str t), .va (.int (k : Nat)), .va (.int (n : Nat)), .va (.str l)]) (if_f (by rw [tst, zb]))]
        refine set_e ?_
        generalize tblD (tabOf es) = TT at *
        simp only [b2_e, bVar_e, List.getElem?_cons_succ, List.getElem?_cons_zero, R.bind, ad]
      have ih := od_loop h (N := N) ns (t ++ l) (k + 1) (.va (.int (k : Nat))) (.va (.int (n : Nat))) (.va (.str l)) (gl z) (fun c hcc => by
        rcases List.mem_append.mp hcc with w | w
        · exact hc c w
        · exact cl c w) (by rw [List.length_append]; simp at hl; omega)
      rw [go_nx hb st]
      exact ih
theorem one_drawn_ok (h : Nx es o) {ns : List Nat} (hl : ns.length ≤ 800) : g_one_drawn [tblD (tabOf es), .int o, .lst (numsD ns)] = .ok (opD (dw es o ns [] 0)) := by
  have lp := od_loop h (N := .lst (numsD ns)) ns [] 0 .un .un .un h.start (fun c hc => absurd hc List.not_mem_nil) (by simp; omega)
  have ei : iEn (bVar 2) [.va (tblD (tabOf es)), .va (.int o), .va (.lst (numsD ns)), .va (.str []), .un, .un, .un] = .ok ((ns.zipIdx 0).map fun q => D.tup [.int (q.2 : Nat), .int (q.1 : Nat)]) := by
    show R.ok (enuD (numsD ns)) = _
    unfold enuD numsD
    rw [List.zipIdx_map, List.map_map]; rfl
  unfold g_one_drawn
  cases z : dw es o ns [] 0 with
  | some p =>
    refine fn_rt ?_
    rw [m_one_drawn_e]
    show fSeq _ _ [.va (tblD (tabOf es)), .va (.int o), .va (.lst (numsD ns)), .un, .un, .un, .un] = _
    rw [seq_nx (γ' := [.va (tblD (tabOf es)), .va (.int o), .va (.lst (numsD ns)), .va (.str []), .un, .un, .un]) rfl]
    refine sq_rt ?_
    unfold fForI
    rw [ei]
    exact lp.1 p z
  | none =>
    obtain ⟨γ', l1⟩ := lp.2 z
    refine fn_rt ?_
    rw [m_one_drawn_e]
    show fSeq _ _ [.va (tblD (tabOf es)), .va (.int o), .va (.lst (numsD ns)), .un, .un, .un, .un] = _
    rw [seq_nx (γ' := [.va (tblD (tabOf es)), .va (.int o), .va (.lst (numsD ns)), .va (.str []), .un, .un, .un]) rfl]
    have k2 : fForI (iEn (bVar 2)) (bdT [4, 5]) odB [.va (tblD (tabOf es)), .va (.int o), .va (.lst (numsD ns)), .va (.str []), .un, .un, .un] = .ok (.nx γ') := by
      unfold fForI
      rw [ei]
      exact l1
    rw [seq_nx k2]
    rfl
theorem dw_facts (h : Nx es o) : ∀ (ns : List Nat) (t : Tx) (k : Nat) (u : Tx) (j : Nat), Live es o t → chs t → dw es o ns t k = some (u, j) → k < j ∧ j ≤ k + ns.length ∧ chs u ∧ u.length ≤ t.length + ns.length
  | [], t, k, u, j, _, _, e => (nomatch e)
  | n :: ns, t, k, u, j, ht, hc, e => by
    have ev := pk_ev h ht n
    have cl := (h.sm.ok _ ev).2.2.1
    have ll : (pk (rowN es (endT o t)) (n % tN (rowN es (endT o t)))).length ≤ 1 := h.one _ ev
    have gl := fun z => h.go t _ ev z
    have de : dw es o (n :: ns) t k = if pk (rowN es (endT o t)) (n % tN (rowN es (endT o t))) = [] then some (t, k + 1) else dw es o ns (t ++ pk (rowN es (endT o t)) (n % tN (rowN es (endT o t)))) (k + 1) := rfl
    rw [de] at e
    generalize pk (rowN es (endT o t)) (n % tN (rowN es (endT o t))) = l at *
    by_cases z : l = []
    · rw [if_pos z] at e
      cases e
      exact ⟨by omega, by rw [List.length_cons]; omega, hc, by omega⟩
    · rw [if_neg z] at e
      have ih := dw_facts h ns (t ++ l) (k + 1) u j (gl z) (fun c hcc => by
        rcases List.mem_append.mp hcc with w | w
        · exact hc c w
        · exact cl c w) e
      rw [List.length_append] at ih
      refine ⟨by omega, by rw [List.length_cons]; omega, ih.2.2.1, by rw [List.length_cons]; omega⟩
end
/-! ### numbers to draw by -/
def numD (tp : Bool) (ns : List Nat) : D := if tp then .tup (numsD ns) else .lst (numsD ns)
def okNums (ns : List Nat) : Prop := ns.length ≤ 99 ∧ ∀ n ∈ ns, n ≤ 9999
theorem num_list (tp : Bool) (ns : List Nat) : dList [numD tp ns] = .ok (.lst (numsD ns)) := by cases tp <;> rfl
theorem are_numbers_ok {ns : List Nat} (h : okNums ns) (tp : Bool) : g_are_numbers [numD tp ns] = .ok (.bl true) := by
  have i1 : dIsi2 .lst .tup (numD tp ns) = .ok (.bl true) := by cases tp <;> rfl
  have ll : dLen [numD tp ns] = .ok (.int (ns.length : Nat)) := by
    cases tp <;> (show R.ok (D.int _) = _; unfold numsD; rw [List.length_map])
  have gt : dGt (.int (ns.length : Nat)) (.int 99) = .ok (.bl false) := by
    show R.ok (D.bl (decide _)) = _
    rw [decide_eq_false (by have := h.1; omega)]
  have comp := lcGo_map (bd := bdN 1) (elt := bAnd (b1 (dIsi .int) (bVar 1)) (bAnd (b1 dNot (b1 (dIsi .bool) (bVar 1))) (bCh dLe dLe (bC (.int 0)) (bVar 1) (bC (.int 9999))))) (γ := wipeG [.va (numD tp ns), .un] [1]) (inj := fun n : Nat => D.int (n : Nat)) (f := fun _ => .bl true) (l := ns) fun n hn => ⟨_, rfl, by
    have i1 : dIsi .int (.int (n : Nat)) = .ok (.bl true) := rfl
    have i2 : dIsi .bool (.int (n : Nat)) = .ok (.bl false) := rfl
    have c1 : dLe (.int 0) (.int (n : Nat)) = .ok (.bl true) := by
      show R.ok (D.bl (decide ((0 : Int) ≤ (n : Nat)))) = _
      rw [decide_eq_true (by omega)]
    have c2 : dLe (.int (n : Nat)) (.int 9999) = .ok (.bl true) := by
      show R.ok (D.bl (decide _)) = _
      rw [decide_eq_true (by have := h.2 n hn; omega)]
    generalize numD tp ns = ND at *
    generalize ((n : Nat) : Int) = nz at *
    simp only [wipeG, bAnd, bCh, b1_e, bVar_e, bC_e, List.set_cons_succ, List.set_cons_zero, List.getElem?_cons_succ, List.getElem?_cons_zero, R.bind, i1, i2, c1, c2, dNot, Bool.not_false]⟩
  have cl := lcE_e (fe := bVar 0) (γ := [.va (numD tp ns), .un]) (d := numD tp ns) rfl (by cases tp <;> rfl) comp (by rw [List.length_map, lim_val]; have := h.1; omega)
  have al : bN dAll (bCons (bLcE (bVar 0) [1] (bdN 1) yes (bAnd (b1 (dIsi .int) (bVar 1)) (bAnd (b1 dNot (b1 (dIsi .bool) (bVar 1))) (bCh dLe dLe (bC (.int 0)) (bVar 1) (bC (.int 9999)))))) (bNil)) [.va (numD tp ns), .un] = .ok (.bl true) := by
    rw [bN_e, bCons_e, cl, bNil_e]
    have := all_bl (fun _ : Nat => true) ns
    have e : (ns.all fun _ => true) = true := by simp
    rw [e] at this
    exact this
  unfold g_are_numbers
  refine fn_rt ?_
  show fSeq _ _ [.va (numD tp ns), .un] = _
  rw [seq_nx (γ' := [.va (numD tp ns), .un]) (by
    refine if_f ?_
    generalize numD tp ns = ND at *
    simp [i1, ll, gt])]
  exact ret_e al
theorem needNumbers_ok {ns : List Nat} (h : okNums ns) (tp : Bool) : g_need_numbers [numD tp ns] = .ok .non := by
  have i := are_numbers_ok h tp
  unfold g_need_numbers
  rw [fnD_e]
  generalize numD tp ns = ND at *
  simp [m_need_numbers, i]
/-! ### drawn -/
def drawR (p : Option (Tx × Nat)) : R D := match p with
  | none => .ex 6
  | some q => .ok (opD (some q))
theorem drawn_by_ok {b : List Tx} (hb : bookOk b) {o : Nat} (ho : 1 ≤ o ∧ o ≤ 3) (h : Sm (evB o b)) {ns : List Nat} (hn : okNums ns) (tp : Bool) : g_drawn [bkD b, .int o, numD tp ns] = drawR (dw (evB o b) o ns [] 0) := by
  have n1 := needBook_ok hb
  have n2 := needOrder_ok ho
  have n3 := needNumbers_ok hn tp
  have ct := counted_ok hb.small o
  have od := one_drawn_ok (nx_of hb h) (ns := ns) (by have := hn.1; omega)
  have nl := num_list tp ns
  unfold g_drawn
  rw [fnD_e]
  show (match m_drawn [.va (bkD b), .va (.int o), .va (numD tp ns), .un] with
    | R.ok (Fl.rt d) => R.ok d
    | R.ok (Fl.nx γ) => R.ok D.non
    | R.ex c => R.ex c
    | x => R.no) = _
  unfold m_drawn
  generalize numD tp ns = ND at *
  generalize D.lst (numsD ns) = NL at *
  generalize tblD (tabOf (evB o b)) = TT at *
  generalize bkD b = B at *
  cases z : dw (evB o b) o ns [] 0 with
  | none =>
    rw [z] at od
    have isn : dIsN (opD none) .non = .ok (.bl true) := rfl
    generalize opD none = OD at *
    simp [n1, n2, n3, ct, nl, od, isn, fRaise, drawR]
  | some p =>
    rw [z] at od
    have isn : dIsN (opD (some p)) .non = .ok (.bl false) := rfl
    show _ = R.ok (opD (some p))
    generalize opD (some p) = OD at *
    simp [n1, n2, n3, ct, nl, od, isn]
/-! ### the first that is wanted -/
def dfit (P : Tx → Bool) (es : List Ev) (o : Nat) (ns : List Nat) : Nat → Nat → Option (Tx × Nat)
  | 0, _ => none
  | f + 1, a => match dw es o (ns.drop a) [] 0 with
    | none => none
    | some (t, k) => if P t then some (t, a + k) else dfit P es o ns f (a + k)
def ftP : Ga → R Bool := tVal (b2 dNotN (bVar 6) (bC .non))
def ftB : Ga → R Fl := fSeq (fSet 5 (b2 dAdd (bVar 5) (b2 dIx (bVar 6) (bC (.int 1))))) (fSeq (fIf (tVal (bCall g_is_fit (bCons (bVar 0) (bCons (bVar 2) (bCons (b2 dIx (bVar 6) (bC (.int 0))) (bNil)))))) (fRet (bTup (bCons (b2 dIx (bVar 6) (bC (.int 0))) (bCons (bVar 5) (bNil))))) (fNil)) (fSet 6 (bCall g_one_drawn (bCons (bVar 4) (bCons (bVar 1) (bCons (bSl (bN dList (bCons (bVar 3) (bNil))) (pSo (bVar 5)) (pNo)) (bNil)))))))
theorem m_fitting_of_e : m_fitting_of = fSeq (fSet 4 (bCall g_counted (bCons (bVar 0) (bCons (bVar 1) (bNil))))) (fSeq (fSet 5 (bC (.int 0))) (fSeq (fSet 6 (bCall g_one_drawn (bCons (bVar 4) (bCons (bVar 1) (bCons (bN dList (bCons (bVar 3) (bNil))) (bNil)))))) (fSeq (fWh ftP ftB) (fRaise 6)))) := rfl
theorem wh_f {p : Ga → R Bool} {body : Ga → R Fl} {n : Nat} {γ : Ga} (h : p γ = .ok false) : whN p body (n + 1) γ = some (.ok (.nx γ)) := by
  rw [whN]; simp [h]
theorem wh_nx {p : Ga → R Bool} {body : Ga → R Fl} {n : Nat} {γ γ2 : Ga} (h : p γ = .ok true) (h2 : body γ = .ok (.nx γ2)) : whN p body (n + 1) γ = whN p body n γ2 := by
  rw [whN]; simp [h, h2]
theorem wh_rt {p : Ga → R Bool} {body : Ga → R Fl} {n : Nat} {γ : Ga} {d : D} (h : p γ = .ok true) (h2 : body γ = .ok (.rt d)) : whN p body (n + 1) γ = some (.ok (.rt d)) := by
  rw [whN]; simp [h, h2]
theorem notN_op (p : Option (Tx × Nat)) : dNotN (opD p) .non = .ok (.bl p.isSome) := by cases p <;> rfl
section
variable {b : List Tx} {o : Nat} {w : Wi} {ns : List Nat}
theorem ft_loop (hb : bookOk b) (h : Sm (evB o b)) (hw : WiOk w) (hn : okNums ns) (tp : Bool) : ∀ (f a : Nat), ns.length < a + f →
    (∀ q, dfit (fitP b w) (evB o b) o ns f a = some q → whN ftP ftB f [.va (bkD b), .va (.int o), .va (wiD w), .va (numD tp ns), .va (tblD (tabOf (evB o b))), .va (.int (a : Nat)), .va (opD (dw (evB o b) o (ns.drop a) [] 0))] = some (.ok (.rt (opD (some q))))) ∧
    (dfit (fitP b w) (evB o b) o ns f a = none → ∃ γ', whN ftP ftB (f + 1) [.va (bkD b), .va (.int o), .va (wiD w), .va (numD tp ns), .va (tblD (tabOf (evB o b))), .va (.int (a : Nat)), .va (opD (dw (evB o b) o (ns.drop a) [] 0))] = some (.ok (.nx γ')))
  | 0, a, hl => by
    have e : ns.drop a = [] := List.drop_eq_nil_of_le (by omega)
    rw [e]
    refine ⟨fun q hq => (nomatch hq), fun _ => ⟨_, wh_f ?_⟩⟩
    have nn := notN_op (dw (evB o b) o [] [] 0)
    unfold ftP
    generalize opD (dw (evB o b) o [] [] 0) = OD at *
    simp only [tVal_e, b2_e, bVar_e, bC_e, List.getElem?_cons_succ, List.getElem?_cons_zero, R.bind, nn, tB_e]
    rfl
  | f + 1, a, hl => by
    have nn := notN_op (dw (evB o b) o (ns.drop a) [] 0)
    have de : dfit (fitP b w) (evB o b) o ns (f + 1) a = match dw (evB o b) o (ns.drop a) [] 0 with
      | none => none
      | some (t, k) => if fitP b w t then some (t, a + k) else dfit (fitP b w) (evB o b) o ns f (a + k) := rfl
    rw [de]
    cases z : dw (evB o b) o (ns.drop a) [] 0 with
    | none =>
      rw [z] at nn
      refine ⟨fun q hq => (nomatch hq), fun _ => ⟨_, wh_f ?_⟩⟩
      unfold ftP
      generalize opD none = OD at *
      simp only [tVal_e, b2_e, bVar_e, bC_e, List.getElem?_cons_succ, List.getElem?_cons_zero, R.bind, nn, tB_e]
      rfl
    | some p =>
      obtain ⟨t, k⟩ := p
      rw [z] at nn
      have nx := nx_of hb h
      have fa := dw_facts nx (ns.drop a) [] 0 t k nx.start (fun c hc => absurd hc List.not_mem_nil) z
      rw [List.length_drop] at fa
      have hl99 := hn.1
      have tl : t.length ≤ 99 := by have := fa.2.2.2; simp at this; omega
      have fit := is_fit_ok hb hw fa.2.2.1 (by omega)
      have i0 : dIx (opD (some (t, k))) (.int 0) = .ok (.str t) := rfl
      have i1 : dIx (opD (some (t, k))) (.int 1) = .ok (.int (k : Nat)) := rfl
      have ad : dAdd (.int (a : Nat)) (.int (k : Nat)) = .ok (.int ((a + k : Nat) : Int)) := by
        show R.ok (D.int _) = _
        congr 2
      have pt : ftP [.va (bkD b), .va (.int o), .va (wiD w), .va (numD tp ns), .va (tblD (tabOf (evB o b))), .va (.int (a : Nat)), .va (opD (some (t, k)))] = .ok true := by
        unfold ftP
        generalize opD (some (t, k)) = OD at *
        simp only [tVal_e, b2_e, bVar_e, bC_e, List.getElem?_cons_succ, List.getElem?_cons_zero, R.bind, nn, tB_e]
        rfl
      have k1 : fSet 5 (b2 dAdd (bVar 5) (b2 dIx (bVar 6) (bC (.int 1)))) [.va (bkD b), .va (.int o), .va (wiD w), .va (numD tp ns), .va (tblD (tabOf (evB o b))), .va (.int (a : Nat)), .va (opD (some (t, k)))] = .ok (.nx [.va (bkD b), .va (.int o), .va (wiD w), .va (numD tp ns), .va (tblD (tabOf (evB o b))), .va (.int ((a + k : Nat) : Int)), .va (opD (some (t, k)))]) := set_e (by
        generalize opD (some (t, k)) = OD at *
        simp only [b2_e, bVar_e, bC_e, List.getElem?_cons_succ, List.getElem?_cons_zero, R.bind, i1, ad])
      have tst : tVal (bCall g_is_fit (bCons (bVar 0) (bCons (bVar 2) (bCons (b2 dIx (bVar 6) (bC (.int 0))) (bNil))))) [.va (bkD b), .va (.int o), .va (wiD w), .va (numD tp ns), .va (tblD (tabOf (evB o b))), .va (.int ((a + k : Nat) : Int)), .va (opD (some (t, k)))] = .ok (fitP b w t) := by
        generalize opD (some (t, k)) = OD at *
        generalize fitP b w t = c at *
        simp only [tVal_e, bCall_e, bCons_e, bNil_e, b2_e, bVar_e, bC_e, List.getElem?_cons_succ, List.getElem?_cons_zero, R.bind, i0, fit, tB_e]
      show (∀ q, (if fitP b w t = true then some (t, a + k) else dfit (fitP b w) (evB o b) o ns f (a + k)) = some q → _) ∧ ((if fitP b w t = true then some (t, a + k) else dfit (fitP b w) (evB o b) o ns f (a + k)) = none → _)
      cases y : fitP b w t with
      | true =>
        rw [if_pos rfl]
        refine ⟨fun q hq => ?_, fun hq => (nomatch hq)⟩
        cases hq
        refine wh_rt pt ?_
        unfold ftB
        rw [seq_nx k1]
        refine sq_rt ?_
        rw [if_t (by rw [tst, y])]
        have l2 : 2 ≤ lim := by decide
        refine ret_e ?_
        show _ = R.ok (D.tup [.str t, .int ((a + k : Nat) : Int)])
        generalize opD (some (t, k)) = OD at *
        generalize bkD b = B at *
        generalize wiD w = WD at *
        generalize tblD (tabOf (evB o b)) = TT at *
        generalize ((a + k : Nat) : Int) = az at *
        simp [i0, l2]
      | false =>
        rw [if_neg (by simp)]
        have nl := num_list tp ns
        have sl : dSl (.lst (numsD ns)) (some ((a + k : Nat) : Int)) none = .ok (.lst (numsD (ns.drop (a + k)))) := by
          show R.ok (D.lst (cutL (numsD ns) (some ((a + k : Nat) : Int)) none)) = _
          rw [cut_from]
          unfold numsD
          rw [List.map_drop]
        have od := one_drawn_ok nx (ns := ns.drop (a + k)) (by rw [List.length_drop]; omega)
        have st : ftB [.va (bkD b), .va (.int o), .va (wiD w), .va (numD tp ns), .va (tblD (tabOf (evB o b))), .va (.int (a : Nat)), .va (opD (some (t, k)))] = .ok (.nx [.va (bkD b), .va (.int o), .va (wiD w), .va (numD tp ns), .va (tblD (tabOf (evB o b))), .va (.int ((a + k : Nat) : Int)), .va (opD (dw (evB o b) o (ns.drop (a + k)) [] 0))]) := by
          unfold ftB
          rw [seq_nx k1, seq_nx (γ' := [.va (bkD b), .va (.int o), .va (wiD w), .va (numD tp ns), .va (tblD (tabOf (evB o b))), .va (.int ((a + k : Nat) : Int)), .va (opD (some (t, k)))]) (if_f (by rw [tst, y]))]
          refine set_e ?_
          generalize opD (dw (evB o b) o (ns.drop (a + k)) [] 0) = O2 at *
          generalize opD (some (t, k)) = OD at *
          generalize D.lst (numsD (ns.drop (a + k))) = NE at *
          generalize D.lst (numsD ns) = NL at *
          generalize numD tp ns = ND at *
          generalize tblD (tabOf (evB o b)) = TT at *
          generalize bkD b = B at *
          generalize wiD w = WD at *
          generalize ((a + k : Nat) : Int) = az at *
          simp [bSl, pSo, pNo, toI, nl, sl, od]
        have ih := ft_loop hb h hw hn tp f (a + k) (by omega)
        refine ⟨fun q hq => ?_, fun hq => ?_⟩
        · rw [wh_nx pt st]
          exact ih.1 q hq
        · obtain ⟨γ', e⟩ := ih.2 hq
          exact ⟨γ', by rw [wh_nx pt st]; exact e⟩
theorem fitting_of_ok (hb : bookOk b) (h : Sm (evB o b)) (hw : WiOk w) (hn : okNums ns) (tp : Bool) : g_fitting_of [bkD b, .int o, wiD w, numD tp ns] = drawR (dfit (fitP b w) (evB o b) o ns (ns.length + 1) 0) := by
  have ct := counted_ok hb.small o
  have nl := num_list tp ns
  have od := one_drawn_ok (nx_of hb h) (ns := ns) (by have := hn.1; omega)
  have lp := ft_loop hb h hw hn tp (ns.length + 1) 0 (by omega)
  rw [List.drop_zero] at lp
  have pre : m_fitting_of [.va (bkD b), .va (.int o), .va (wiD w), .va (numD tp ns), .un, .un, .un] = fSeq (fWh ftP ftB) (fRaise 6) [.va (bkD b), .va (.int o), .va (wiD w), .va (numD tp ns), .va (tblD (tabOf (evB o b))), .va (.int ((0 : Nat) : Int)), .va (opD (dw (evB o b) o ns [] 0))] := by
    rw [m_fitting_of_e]
    generalize opD (dw (evB o b) o ns [] 0) = OD at *
    generalize D.lst (numsD ns) = NL at *
    generalize numD tp ns = ND at *
    generalize tblD (tabOf (evB o b)) = TT at *
    generalize bkD b = B at *
    generalize wiD w = WD at *
    rw [seq_nx (γ' := [.va B, .va (.int o), .va WD, .va ND, .va TT, .un, .un]) (set_e (by simp [ct]))]
    rw [seq_nx (γ' := [.va B, .va (.int o), .va WD, .va ND, .va TT, .va (.int ((0 : Nat) : Int)), .un]) rfl]
    rw [seq_nx (γ' := [.va B, .va (.int o), .va WD, .va ND, .va TT, .va (.int ((0 : Nat) : Int)), .va OD]) (set_e (by simp [nl, od]))]
  unfold g_fitting_of
  rw [fnD_e]
  show (match m_fitting_of [.va (bkD b), .va (.int o), .va (wiD w), .va (numD tp ns), .un, .un, .un] with
    | R.ok (Fl.rt d) => R.ok d
    | R.ok (Fl.nx γ) => R.ok D.non
    | R.ex c => R.ex c
    | x => R.no) = _
  rw [pre]
  cases z : dfit (fitP b w) (evB o b) o ns (ns.length + 1) 0 with
  | some q =>
    rw [sq_rt (fWh_eq (lp.1 q z))]; rfl
  | none =>
    obtain ⟨γ', e⟩ := lp.2 z
    rw [seq_nx (fWh_eq e)]; rfl
theorem drawn_fitting_ok (hb : bookOk b) (ho : 1 ≤ o ∧ o ≤ 3) (h : Sm (evB o b)) (hw : WiOk w) (hn : okNums ns) (tp : Bool) : g_drawn_fitting [bkD b, .int o, wiD w, numD tp ns] = drawR (dfit (fitP b w) (evB o b) o ns (ns.length + 1) 0) := by
  have n1 := needBook_ok hb
  have n2 := needOrder_ok ho
  have n3 := needNumbers_ok hn tp
  have n4 := needWish_ok hw
  have ff := fitting_of_ok hb h hw hn tp
  unfold g_drawn_fitting
  rw [fnD_e]
  generalize drawR (dfit (fitP b w) (evB o b) o ns (ns.length + 1) 0) = RR at *
  generalize numD tp ns = ND at *
  generalize bkD b = B at *
  generalize wiD w = WD at *
  cases RR <;> simp [m_drawn_fitting, n1, n2, n3, n4, ff]
end
end
end KN
set_option maxHeartbeats 400000
/-! QP: the least numbers for a name; numbers put together -/
namespace KN
open PySem PySem.Spec PyProof.Rows L2
noncomputable section
theorem ix_row {es : List Ev} {c l : Tx} (h : (c, l) ∈ es) : dIx (.dic (rowD (rowOf (tabOf es) c))) (.str l) = .ok (.int (es.count (c, l) : Nat)) := by
  show o2r (lookK (rowD (rowOf (tabOf es) c)) l) = _
  have hv := (tabOk es).val c l
  have : es.count (c, l) ≠ 0 := fun z => by
    have := List.count_pos_iff.mpr h
    omega
  rw [lookK_lk, lk_rowD, hv, if_neg this]; rfl
def nfV (es : List Ev) (c l : Tx) : Nat := (((ks (rowOf (tabOf es) c)).filter fun k => decide (k < l)).map fun k => es.count (c, k)).sum
def nfL (es : List Ev) (o : Nat) (x : Tx) : List Nat → List Nat → Option (List Nat)
  | [], acc => some acc
  | i :: is, acc => if cStep x o i ∈ es then nfL es o x is (acc ++ [nfV es (cStep x o i).1 (cStep x o i).2]) else none
theorem lcSum {es : List Ev} {c l : Tx} {γ : Ga} {i j k : Nat} (hes : es.length < 64) (h1 : At γ i (.dic (rowD (rowOf (tabOf es) c)))) (h2 : At γ j (.str l)) (hk : k < γ.length) (ik : k ≠ i) (jk : k ≠ j) :
    bN dSum (bCons (bLcE (bVar i) [k] (bdN k) (tVal (b2 dLt (bVar k) (bVar j))) (b2 dIx (bVar i) (bVar k))) (bNil)) γ = .ok (.int (nfV es c l : Nat)) := by
  have comp := lcGo_fil (bd := bdN k) (ifs := tVal (b2 dLt (bVar k) (bVar j))) (elt := b2 dIx (bVar i) (bVar k)) (γ := wipeG γ [k]) (inj := D.str) (p := fun y => decide (y < l)) (f := fun y => .int (es.count (c, y) : Nat)) (l := ks (rowOf (tabOf es) c)) fun y hy => ⟨_, rfl, by
    have v1 := ((h2.wipe (vs := [k]) (by simpa using Ne.symm jk)).set (s := .va (.str y)) jk).v
    have v2 := (At.new (γ := wipeG γ [k]) (i := k) (d := .str y) (by simpa [wipeG] using hk)).v
    rw [tVal_e, b2_e, v2, v1]; rfl, fun _ => by
    have v1 := ((h1.wipe (vs := [k]) (by simpa using Ne.symm ik)).set (s := .va (.str y)) ik).v
    have v2 := (At.new (γ := wipeG γ [k]) (i := k) (d := .str y) (by simpa [wipeG] using hk)).v
    rw [b2_e, v1, v2]
    exact ix_row (row_mem2.mp hy)⟩
  have it : items (.dic (rowD (rowOf (tabOf es) c))) = .ok ((ks (rowOf (tabOf es) c)).map .str) := by
    show R.ok (keysD _) = _
    unfold keysD rowD ks
    rw [List.map_map, List.map_map]; rfl
  have rl := (tabOk es).rlen c
  have cl := lcE_e h1.v it comp (by
    rw [List.length_map, lim_val]
    have h1 := List.length_filter_le (fun y : Tx => decide (y < l)) (ks (rowOf (tabOf es) c))
    have h2 : (ks (rowOf (tabOf es) c)).length = (rowOf (tabOf es) c).length := by simp [ks]
    omega)
  have e : (((ks (rowOf (tabOf es) c)).filter fun y => decide (y < l)).map fun y => D.int (es.count (c, y) : Nat)) = (((ks (rowOf (tabOf es) c)).filter fun y => decide (y < l)).map fun y => es.count (c, y)).map fun n : Nat => D.int (n : Nat) := by rw [List.map_map]; rfl
  rw [e] at cl
  rw [bN_e, bCons_e, cl, bNil_e]
  exact dSum_N _
theorem notin_row {es : List Ev} (c l : Tx) : dNotIn (.str l) (.dic (rowD (rowOf (tabOf es) c))) = .ok (.bl (!decide ((c, l) ∈ es))) := by
  have h := in_row (es := es) c l
  unfold dIn at h
  unfold dNotIn
  cases z : dInB (.str l) (.dic (rowD (rowOf (tabOf es) c))) with
  | ok v => rw [z] at h; cases h; rfl
  | ex c => rw [z] at h; cases h
  | no => rw [z] at h; cases h
def nfB : Ga → R Fl := fSeq (fSet 6 (bGet (bVar 3) (bCall g_end_of (bCons (bVar 1) (bCons (bSl (bVar 2) (pNo) (pSo (bVar 5))) (bNil)))) (bC (.dic [])))) (fSeq (fSet 7 (bSl (bVar 2) (pSo (bVar 5)) (pSo (b2 dAdd (bVar 5) (bC (.int 1)))))) (fSeq (fIf (tVal (b2 dNotIn (bVar 7) (bVar 6))) (fRaise 5) (fNil)) (fApp 4 (bN dSum (bCons (bLcE (bVar 6) [8] (bdN 8) (tVal (b2 dLt (bVar 8) (bVar 7))) (b2 dIx (bVar 6) (bVar 8))) (bNil))))))
theorem m_numbers_for_e : m_numbers_for = fSeq (fExpr (bCall g_need_book (bCons (bVar 0) (bNil)))) (fSeq (fExpr (bCall g_need_order (bCons (bVar 1) (bNil)))) (fSeq (fExpr (bCall g_need_name (bCons (bVar 2) (bNil)))) (fSeq (fSet 3 (bCall g_counted (bCons (bVar 0) (bCons (bVar 1) (bNil))))) (fSeq (fOwn 4 (bLst (bNil))) (fSeq (fForI (iR1 (b2 dAdd (bN dLen (bCons (bVar 2) (bNil))) (bC (.int 1)))) (bdN 5) nfB) (fFz 4 (fRet (bVar 4)))))))) := rfl
section
variable {b : List Tx} {o : Nat} {x : Tx}
theorem nf_loop (h : Sm (evB o b)) (hx : nameOk x) : ∀ (is acc : List Nat) (s5 s6 s7 : Sl), (∀ i ∈ is, i ≤ x.length) → acc.length + is.length ≤ 100 →
    (∀ r, nfL (evB o b) o x is acc = some r → ∃ t5 t6 t7, forGo (bdN 5) nfB (is.map fun i : Nat => D.int (0 + (i : Nat))) [.va (bkD b), .va (.int o), .va (.str x), .va (tblD (tabOf (evB o b))), .ow (.lst (numsD acc)), s5, s6, s7, .un] = .ok (.nx [.va (bkD b), .va (.int o), .va (.str x), .va (tblD (tabOf (evB o b))), .ow (.lst (numsD r)), t5, t6, t7, .un])) ∧
    (nfL (evB o b) o x is acc = none → forGo (bdN 5) nfB (is.map fun i : Nat => D.int (0 + (i : Nat))) [.va (bkD b), .va (.int o), .va (.str x), .va (tblD (tabOf (evB o b))), .ow (.lst (numsD acc)), s5, s6, s7, .un] = .ex 5)
  | [], acc, s5, s6, s7, _, _ => ⟨fun r hr => by cases hr; exact ⟨_, _, _, rfl⟩, fun hr => (nomatch hr)⟩
  | i :: is, acc, s5, s6, s7, hi, hl => by
    have e0 : (0 : Int) + (i : Nat) = (i : Nat) := Int.zero_add _
    have hx8 := hx.2.1
    have lx : x.length ≤ lim := by rw [lim_val]; omega
    have c1 := cut1 lx i
    have c2 := cut2 lx i
    have en := end_ok o (t := x.take i) (by rw [List.length_take]; omega)
    have gt := get_tbl (tabOf (evB o b)) (endT o (x.take i))
    have ni := notin_row (es := evB o b) (endT o (x.take i)) ((x.drop i).take 1)
    have de : nfL (evB o b) o x (i :: is) acc = if cStep x o i ∈ evB o b then nfL (evB o b) o x is (acc ++ [nfV (evB o b) (cStep x o i).1 (cStep x o i).2]) else none := rfl
    rw [de]
    have hbd : bdN 5 (.int (0 + (i : Nat))) [.va (bkD b), .va (.int o), .va (.str x), .va (tblD (tabOf (evB o b))), .ow (.lst (numsD acc)), s5, s6, s7, .un] = .ok [.va (bkD b), .va (.int o), .va (.str x), .va (tblD (tabOf (evB o b))), .ow (.lst (numsD acc)), .va (.int (i : Nat)), s6, s7, .un] := by rw [e0]; rfl
    have k1 : fSet 6 (bGet (bVar 3) (bCall g_end_of (bCons (bVar 1) (bCons (bSl (bVar 2) (pNo) (pSo (bVar 5))) (bNil)))) (bC (.dic []))) [.va (bkD b), .va (.int o), .va (.str x), .va (tblD (tabOf (evB o b))), .ow (.lst (numsD acc)), .va (.int (i : Nat)), s6, s7, .un] = .ok (.nx [.va (bkD b), .va (.int o), .va (.str x), .va (tblD (tabOf (evB o b))), .ow (.lst (numsD acc)), .va (.int (i : Nat)), .va (.dic (rowD (rowOf (tabOf (evB o b)) (endT o (x.take i))))), s7, .un]) := set_e (by
      unfold tblD
      generalize D.dic (rowD (rowOf (tabOf (evB o b)) (endT o (x.take i)))) = RD at *
      generalize (tabOf (evB o b)).map (fun e => (e.1, D.dic (rowD e.2))) = TT at *
      generalize bkD b = B at *
      simp [bGet, bSl, pNo, pSo, toI, c1, en, gt])
    have k2 : fSet 7 (bSl (bVar 2) (pSo (bVar 5)) (pSo (b2 dAdd (bVar 5) (bC (.int 1))))) [.va (bkD b), .va (.int o), .va (.str x), .va (tblD (tabOf (evB o b))), .ow (.lst (numsD acc)), .va (.int (i : Nat)), .va (.dic (rowD (rowOf (tabOf (evB o b)) (endT o (x.take i))))), s7, .un] = .ok (.nx [.va (bkD b), .va (.int o), .va (.str x), .va (tblD (tabOf (evB o b))), .ow (.lst (numsD acc)), .va (.int (i : Nat)), .va (.dic (rowD (rowOf (tabOf (evB o b)) (endT o (x.take i))))), .va (.str ((x.drop i).take 1)), .un]) := set_e (by
      generalize D.dic (rowD (rowOf (tabOf (evB o b)) (endT o (x.take i)))) = RD at *
      generalize tblD (tabOf (evB o b)) = TT at *
      generalize bkD b = B at *
      simp [bSl, pNo, pSo, toI, c2])
    have tst : tVal (b2 dNotIn (bVar 7) (bVar 6)) [.va (bkD b), .va (.int o), .va (.str x), .va (tblD (tabOf (evB o b))), .ow (.lst (numsD acc)), .va (.int (i : Nat)), .va (.dic (rowD (rowOf (tabOf (evB o b)) (endT o (x.take i))))), .va (.str ((x.drop i).take 1)), .un] = .ok (!decide ((endT o (x.take i), (x.drop i).take 1) ∈ evB o b)) := by
      generalize D.dic (rowD (rowOf (tabOf (evB o b)) (endT o (x.take i)))) = RD at *
      generalize tblD (tabOf (evB o b)) = TT at *
      generalize bkD b = B at *
      simp only [tVal_e, b2_e, bVar_e, List.getElem?_cons_succ, List.getElem?_cons_zero, R.bind, ni, tB_e]
    show (∀ r, _ → ∃ t5 t6 t7, forGo (bdN 5) nfB (.int (0 + (i : Nat)) :: is.map fun i : Nat => D.int (0 + (i : Nat))) _ = _) ∧ (_ → forGo (bdN 5) nfB (.int (0 + (i : Nat)) :: is.map fun i : Nat => D.int (0 + (i : Nat))) _ = _)
    by_cases z : cStep x o i ∈ evB o b
    · rw [if_pos z]
      have z2 : (endT o (x.take i), (x.drop i).take 1) ∈ evB o b := z
      have sm := lcSum (es := evB o b) (c := endT o (x.take i)) (l := (x.drop i).take 1) (γ := [.va (bkD b), .va (.int o), .va (.str x), .va (tblD (tabOf (evB o b))), .ow (.lst (numsD acc)), .va (.int (i : Nat)), .va (.dic (rowD (rowOf (tabOf (evB o b)) (endT o (x.take i))))), .va (.str ((x.drop i).take 1)), .un]) (i := 6) (j := 7) (k := 8) h.few rfl rfl (by simp) (by decide) (by decide)
      have st : nfB [.va (bkD b), .va (.int o), .va (.str x), .va (tblD (tabOf (evB o b))), .ow (.lst (numsD acc)), .va (.int (i : Nat)), s6, s7, .un] = .ok (.nx [.va (bkD b), .va (.int o), .va (.str x), .va (tblD (tabOf (evB o b))), .ow (.lst (numsD (acc ++ [nfV (evB o b) (cStep x o i).1 (cStep x o i).2]))), .va (.int (i : Nat)), .va (.dic (rowD (rowOf (tabOf (evB o b)) (endT o (x.take i))))), .va (.str ((x.drop i).take 1)), .un]) := by
        unfold nfB
        rw [seq_nx k1, seq_nx k2, seq_nx (γ' := [.va (bkD b), .va (.int o), .va (.str x), .va (tblD (tabOf (evB o b))), .ow (.lst (numsD acc)), .va (.int (i : Nat)), .va (.dic (rowD (rowOf (tabOf (evB o b)) (endT o (x.take i))))), .va (.str ((x.drop i).take 1)), .un]) (if_f (by rw [tst, decide_eq_true z2]; rfl))]
        rw [fApp_e (xs := numsD acc) (d := .int (nfV (evB o b) (cStep x o i).1 (cStep x o i).2 : Nat)) rfl sm (by unfold numsD; rw [List.length_map, lim_val]; simp at hl; omega)]
        unfold numsD
        rw [List.map_append]
        rfl
      have ih := nf_loop h hx is (acc ++ [nfV (evB o b) (cStep x o i).1 (cStep x o i).2]) (.va (.int (i : Nat))) (.va (.dic (rowD (rowOf (tabOf (evB o b)) (endT o (x.take i)))))) (.va (.str ((x.drop i).take 1))) (fun j hj => hi j (List.mem_cons_of_mem _ hj)) (by rw [List.length_append]; simp at hl ⊢; omega)
      rw [go_nx hbd st]
      exact ih
    · rw [if_neg z]
      have z2 : ¬ (endT o (x.take i), (x.drop i).take 1) ∈ evB o b := z
      refine ⟨fun r hr => (nomatch hr), fun _ => ?_⟩
      refine go_ex hbd ?_
      unfold nfB
      rw [seq_nx k1, seq_nx k2, fSeq_e, if_t (by rw [tst, decide_eq_false z2]; rfl)]
      rfl
def nfO (es : List Ev) (o : Nat) (x : Tx) : Option (List Nat) := nfL es o x (List.range (x.length + 1)) []
def nfR (p : Option (List Nat)) : R D := match p with
  | none => .ex 5
  | some r => .ok (.lst (numsD r))
theorem numbers_for_ok (hb : bookOk b) (ho : 1 ≤ o ∧ o ≤ 3) (h : Sm (evB o b)) (hx : nameOk x) : g_numbers_for [bkD b, .int o, .str x] = nfR (nfO (evB o b) o x) := by
  have n1 := needBook_ok hb
  have n2 := needOrder_ok ho
  have n3 := needName_ok hx
  have ct := counted_ok hb.small o
  have hx8 := hx.2.1
  have ll := len_str (x := x) (by rw [lim_val]; omega)
  have lp := nf_loop h hx (List.range (x.length + 1)) [] .un .un .un (fun i hi => by have := List.mem_range.mp hi; omega) (by simp; omega)
  have pre : m_numbers_for [.va (bkD b), .va (.int o), .va (.str x), .un, .un, .un, .un, .un, .un] = fSeq (fForI (iR1 (b2 dAdd (bN dLen (bCons (bVar 2) (bNil))) (bC (.int 1)))) (bdN 5) nfB) (fFz 4 (fRet (bVar 4))) [.va (bkD b), .va (.int o), .va (.str x), .va (tblD (tabOf (evB o b))), .ow (.lst []), .un, .un, .un, .un] := by
    rw [m_numbers_for_e]
    generalize tblD (tabOf (evB o b)) = TT at *
    generalize bkD b = B at *
    rw [seq_nx (γ' := [.va B, .va (.int o), .va (.str x), .un, .un, .un, .un, .un, .un]) (by rw [fExpr_e]; simp [n1])]
    rw [seq_nx (γ' := [.va B, .va (.int o), .va (.str x), .un, .un, .un, .un, .un, .un]) (by rw [fExpr_e]; simp [n2])]
    rw [seq_nx (γ' := [.va B, .va (.int o), .va (.str x), .un, .un, .un, .un, .un, .un]) (by rw [fExpr_e]; simp [n3])]
    rw [seq_nx (γ' := [.va B, .va (.int o), .va (.str x), .va TT, .un, .un, .un, .un, .un]) (set_e (by simp [ct]))]
    rw [seq_nx (γ' := [.va B, .va (.int o), .va (.str x), .va TT, .ow (.lst []), .un, .un, .un, .un]) (by rw [fOwn_e, nilE]; rfl)]
  have ei : iR1 (b2 dAdd (bN dLen (bCons (bVar 2) (bNil))) (bC (.int 1))) [.va (bkD b), .va (.int o), .va (.str x), .va (tblD (tabOf (evB o b))), .ow (.lst []), .un, .un, .un, .un] = .ok ((List.range (x.length + 1)).map fun i : Nat => .int (0 + (i : Nat))) := iR1_s (n := x.length + 1) (by
    generalize tblD (tabOf (evB o b)) = TT at *
    generalize bkD b = B at *
    generalize hz : ((x.length : Nat) : Int) = z at *
    simp [ll]
    omega) (by omega)
  unfold g_numbers_for
  rw [fnD_e]
  show (match m_numbers_for [.va (bkD b), .va (.int o), .va (.str x), .un, .un, .un, .un, .un, .un] with
    | R.ok (Fl.rt d) => R.ok d
    | R.ok (Fl.nx γ) => R.ok D.non
    | R.ex c => R.ex c
    | x => R.no) = _
  rw [pre]
  unfold nfO
  cases z : nfL (evB o b) o x (List.range (x.length + 1)) [] with
  | some r =>
    obtain ⟨t5, t6, t7, e⟩ := lp.1 r z
    have k : fForI (iR1 (b2 dAdd (bN dLen (bCons (bVar 2) (bNil))) (bC (.int 1)))) (bdN 5) nfB [.va (bkD b), .va (.int o), .va (.str x), .va (tblD (tabOf (evB o b))), .ow (.lst []), .un, .un, .un, .un] = .ok (.nx [.va (bkD b), .va (.int o), .va (.str x), .va (tblD (tabOf (evB o b))), .ow (.lst (numsD r)), t5, t6, t7, .un]) := by
      unfold fForI
      rw [ei]
      exact e
    rw [seq_nx k]
    rfl
  | none =>
    have k : fForI (iR1 (b2 dAdd (bN dLen (bCons (bVar 2) (bNil))) (bC (.int 1)))) (bdN 5) nfB [.va (bkD b), .va (.int o), .va (.str x), .va (tblD (tabOf (evB o b))), .ow (.lst []), .un, .un, .un, .un] = .ex 5 := by
      unfold fForI
      rw [ei]
      exact lp.2 z
    rw [fSeq_e, k]
    rfl
end
/-! ### the least numbers draw the name -/
theorem pk_at : ∀ (A B : List (Tx × Nat)) (l : Tx) (m j : Nat), j < m → pk (A ++ (l, m) :: B) (tN A + j) = l
  | [], B, l, m, j, h => by
    show (if tN [] + j < m then l else _) = l
    rw [if_pos (by show 0 + j < m; omega)]
  | (a, n) :: A, B, l, m, j, h => by
    show (if tN ((a, n) :: A) + j < n then a else pk (A ++ (l, m) :: B) (tN ((a, n) :: A) + j - n)) = l
    rw [tN_cons, if_neg (by simp; omega)]
    have : n + tN A + j - n = tN A + j := by omega
    show pk (A ++ (l, m) :: B) (n + tN A + j - n) = l
    rw [this]
    exact pk_at A B l m j h
theorem tN_app (a b : List (Tx × Nat)) : tN (a ++ b) = tN a + tN b := by unfold tN; rw [List.map_append, List.sum_append]
theorem perm_sumN {l m : List Nat} (h : l.Perm m) : l.sum = m.sum := by
  induction h with
  | nil => rfl
  | cons a _ ih => rw [List.sum_cons, List.sum_cons, ih]
  | swap a b l => simp only [List.sum_cons]; omega
  | trans _ _ h1 h2 => rw [h1, h2]
theorem sort_lt {es : List Ev} (c : Tx) : (sortT (ks (rowOf (tabOf es) c))).Pairwise (· < ·) := by
  have := rowL_ss es c
  unfold SS rowL lst at this
  have e : ks ((sortT (ks (rowOf (tabOf es) c))).map fun l => (l, (lk (rowOf (tabOf es) c) l).getD 0)) = sortT (ks (rowOf (tabOf es) c)) := by
    unfold ks
    rw [List.map_map]
    exact List.map_id _
  rw [e] at this
  exact this
theorem nfV_pk {es : List Ev} {c l : Tx} (h : (c, l) ∈ es) : nfV es c l < tN (rowN es c) ∧ pk (rowN es c) (nfV es c l) = l := by
  have hm : l ∈ sortT (ks (rowOf (tabOf es) c)) := (sortT_perm _).mem_iff.mpr (row_mem2.mpr h)
  obtain ⟨A, B, e⟩ := List.append_of_mem hm
  have pw := sort_lt (es := es) c
  rw [e] at pw
  have pa := List.pairwise_append.mp pw
  have pb := List.pairwise_cons.mp pa.2.1
  have fa : (sortT (ks (rowOf (tabOf es) c))).filter (fun k => decide (k < l)) = A := by
    rw [e, List.filter_append]
    have h1 : A.filter (fun k => decide (k < l)) = A := List.filter_eq_self.mpr fun k hk => decide_eq_true (pa.2.2 k hk l List.mem_cons_self)
    have h2 : (l :: B).filter (fun k => decide (k < l)) = [] := List.filter_eq_nil_iff.mpr fun k hk => by
      rcases List.mem_cons.mp hk with rfl | hk
      · simp [List.lt_irrefl]
      · have := pb.1 k hk
        simp only [decide_eq_true_eq]
        exact List.lt_asymm this
    rw [h1, h2, List.append_nil]
  have ev : nfV es c l = tN (A.map fun k => (k, es.count (c, k))) := by
    unfold nfV tN
    rw [List.map_map]
    refine perm_sumN ?_
    have p1 := ((sortT_perm (ks (rowOf (tabOf es) c))).symm.filter fun k => decide (k < l)).map fun k => es.count (c, k)
    rw [fa] at p1
    exact p1
  have er : rowN es c = A.map (fun k => (k, es.count (c, k))) ++ (l, es.count (c, l)) :: B.map (fun k => (k, es.count (c, k))) := by
    unfold rowN
    rw [e, List.map_append, List.map_cons]
  have hc := List.count_pos_iff.mpr h
  rw [ev, er]
  refine ⟨?_, ?_⟩
  · rw [tN_app, tN_cons]
    show _ < _ + (es.count (c, l) + _)
    omega
  · exact pk_at _ _ l _ 0 hc
def valsO (es : List Ev) (o : Nat) (x : Tx) : List Nat := (evs o x).map fun e => nfV es e.1 e.2
theorem nfL_all {es : List Ev} {o : Nat} {x : Tx} : ∀ (is acc : List Nat), (∀ i ∈ is, cStep x o i ∈ es) → nfL es o x is acc = some (acc ++ is.map fun i => nfV es (cStep x o i).1 (cStep x o i).2)
  | [], acc, _ => by show some acc = _; simp
  | i :: is, acc, h => by
    show (if cStep x o i ∈ es then nfL es o x is (acc ++ [nfV es (cStep x o i).1 (cStep x o i).2]) else none) = _
    rw [if_pos (h i List.mem_cons_self), nfL_all is _ fun j hj => h j (List.mem_cons_of_mem _ hj)]
    simp
theorem nfO_told {b : List Tx} {o : Nat} {x : Tx} (hx : x ∈ b) : nfO (evB o b) o x = some (valsO (evB o b) o x) := by
  unfold nfO
  rw [nfL_all _ _ fun i hi => by
    have := List.mem_range.mp hi
    exact told_mem hx (by rw [evs_e]; exact List.mem_map.mpr ⟨i, hi, rfl⟩)]
  unfold valsO
  rw [evs_e, List.map_map]
  rfl
/-- numbers with these rests draw the name -/
theorem dw_name {es : List Ev} {o : Nat} {x : Tx} (hc : ∀ e ∈ evs o x, e ∈ es) {vs r : List Nat} (hv : vs.length = x.length + 1) (hp : ∀ i, i ≤ x.length → pk (rowN es (endT o (x.take i))) (vs.getD i 0 % tN (rowN es (endT o (x.take i)))) = (x.drop i).take 1) : dw es o (vs ++ r) [] 0 = some (x, x.length + 1) := by
  have aux : ∀ (m i : Nat), i + m = x.length → dw es o ((vs.drop i) ++ r) (x.take i) i = some (x, x.length + 1) := by
    intro m
    induction m with
    | zero =>
      intro i hi
      have hi : i = x.length := by omega
      have lt : i < vs.length := by omega
      rw [List.drop_eq_getElem_cons lt]
      have p := hp i (by omega)
      have eg : vs.getD i 0 = vs[i] := by rw [List.getD_eq_getElem?_getD, List.getElem?_eq_getElem lt]; rfl
      rw [eg] at p
      show (if pk (rowN es (endT o (x.take i))) (vs[i] % tN (rowN es (endT o (x.take i)))) = [] then some (x.take i, i + 1) else _) = _
      rw [p, hi]
      simp
    | succ m ih =>
      intro i hi
      have lt : i < vs.length := by omega
      have lx : i < x.length := by omega
      rw [List.drop_eq_getElem_cons lt]
      have p := hp i (by omega)
      have eg : vs.getD i 0 = vs[i] := by rw [List.getD_eq_getElem?_getD, List.getElem?_eq_getElem lt]; rfl
      rw [eg] at p
      have hne : (x.drop i).take 1 ≠ [] := fun z => by
        have := congrArg List.length z
        rw [List.length_take, List.length_drop] at this
        simp at this
        omega
      show (if pk (rowN es (endT o (x.take i))) (vs[i] % tN (rowN es (endT o (x.take i)))) = [] then some (x.take i, i + 1) else dw es o (vs.drop (i + 1) ++ r) (x.take i ++ pk (rowN es (endT o (x.take i))) (vs[i] % tN (rowN es (endT o (x.take i))))) (i + 1)) = _
      rw [p, if_neg hne, ← (List.take_add (l := x) (i := i) (j := 1))]
      exact ih (i + 1) (by omega)
  have := aux x.length 0 (by omega)
  exact this
theorem vals_len (es : List Ev) (o : Nat) (x : Tx) : (valsO es o x).length = x.length + 1 := by unfold valsO; rw [List.length_map, evs_e, List.length_map, List.length_range]
theorem vals_at (es : List Ev) (o : Nat) (x : Tx) {i : Nat} (hi : i ≤ x.length) : (valsO es o x).getD i 0 = nfV es (endT o (x.take i)) ((x.drop i).take 1) := by
  unfold valsO
  rw [evs_e, List.map_map, List.getD_eq_getElem?_getD, List.getElem?_map, List.getElem?_range (by omega)]
  rfl
theorem dw_vals {es : List Ev} {o : Nat} {x : Tx} (hc : ∀ e ∈ evs o x, e ∈ es) (r : List Nat) : dw es o (valsO es o x ++ r) [] 0 = some (x, x.length + 1) := by
  refine dw_name hc (vals_len es o x) fun i hi => ?_
  rw [vals_at es o x hi]
  have he : (endT o (x.take i), (x.drop i).take 1) ∈ es := hc _ (by rw [evs_e]; exact List.mem_map.mpr ⟨i, List.mem_range.mpr (by omega), rfl⟩)
  obtain ⟨h1, h2⟩ := nfV_pk he
  rw [Nat.mod_eq_of_lt h1, h2]
theorem vals_small {es : List Ev} {o : Nat} {x : Tx} (h : es.length < 64) (hc : ∀ e ∈ evs o x, e ∈ es) : ∀ n ∈ valsO es o x, n ≤ 4096 := fun n hn => by
  obtain ⟨e, he, rfl⟩ := List.mem_map.mp hn
  obtain ⟨h1, _⟩ := nfV_pk (es := es) (c := e.1) (l := e.2) (hc e he)
  have rl : (rowN es e.1).length < 64 := by
    unfold rowN
    rw [List.length_map, (sortT_perm _).length_eq]
    have : (ks (rowOf (tabOf es) e.1)).length = (rowOf (tabOf es) e.1).length := by simp [ks]
    have := (tabOk es).rlen e.1
    omega
  have tb : ∀ r : List (Tx × Nat), (∀ e ∈ r, e.2 ≤ 64) → tN r ≤ r.length * 64 := by
    intro r
    induction r with
    | nil => intro _; exact Nat.zero_le _
    | cons a r ih =>
      intro h
      have h1 := ih fun e he => h e (List.mem_cons_of_mem _ he)
      have h2 := h a List.mem_cons_self
      rw [tN_cons, List.length_cons, Nat.succ_mul]; omega
  have := tb (rowN es e.1) fun q hq => by
    obtain ⟨l, _, rfl⟩ := List.mem_map.mp hq
    have : es.count (e.1, l) ≤ es.length := List.count_le_length
    show es.count (e.1, l) ≤ 64
    omega
  have h64 : (rowN es e.1).length * 64 ≤ 64 * 64 := Nat.mul_le_mul_right 64 (by omega)
  omega
/-! ### more numbers, and fewer -/
section
variable {es : List Ev} {o : Nat}
theorem dw_app (r : List Nat) : ∀ (ns : List Nat) (t : Tx) (k : Nat) (p : Tx × Nat), dw es o ns t k = some p → dw es o (ns ++ r) t k = some p
  | [], _, _, _, h => (nomatch h)
  | n :: ns, t, k, p, h => by
    have h : (if pk (rowN es (endT o t)) (n % tN (rowN es (endT o t))) = [] then some (t, k + 1) else dw es o ns (t ++ pk (rowN es (endT o t)) (n % tN (rowN es (endT o t)))) (k + 1)) = some p := h
    show (if pk (rowN es (endT o t)) (n % tN (rowN es (endT o t))) = [] then some (t, k + 1) else dw es o (ns ++ r) (t ++ pk (rowN es (endT o t)) (n % tN (rowN es (endT o t)))) (k + 1)) = some p
    by_cases z : pk (rowN es (endT o t)) (n % tN (rowN es (endT o t))) = []
    · rw [if_pos z] at h ⊢; exact h
    · rw [if_neg z] at h ⊢; exact dw_app r ns _ _ p h
theorem dw_less : ∀ (ns : List Nat) (t : Tx) (k : Nat) (u : Tx) (j : Nat), dw es o ns t k = some (u, j) → k < j ∧ j ≤ k + ns.length ∧ ∀ m, (j ≤ k + m → dw es o (ns.take m) t k = some (u, j)) ∧ (k + m < j → dw es o (ns.take m) t k = none)
  | [], _, _, _, _, h => (nomatch h)
  | n :: ns, t, k, u, j, h => by
    have h : (if pk (rowN es (endT o t)) (n % tN (rowN es (endT o t))) = [] then some (t, k + 1) else dw es o ns (t ++ pk (rowN es (endT o t)) (n % tN (rowN es (endT o t)))) (k + 1)) = some (u, j) := h
    have step : ∀ m, dw es o ((n :: ns).take (m + 1)) t k = if pk (rowN es (endT o t)) (n % tN (rowN es (endT o t))) = [] then some (t, k + 1) else dw es o (ns.take m) (t ++ pk (rowN es (endT o t)) (n % tN (rowN es (endT o t)))) (k + 1) := fun m => rfl
    by_cases z : pk (rowN es (endT o t)) (n % tN (rowN es (endT o t))) = []
    · rw [if_pos z] at h
      cases h
      refine ⟨by omega, by rw [List.length_cons]; omega, fun m => ?_⟩
      cases m with
      | zero => exact ⟨fun h => by omega, fun _ => rfl⟩
      | succ m => exact ⟨fun _ => by rw [step, if_pos z], fun h => by omega⟩
    · rw [if_neg z] at h
      obtain ⟨h1, h2, h3⟩ := dw_less ns _ _ u j h
      refine ⟨by omega, by rw [List.length_cons]; omega, fun m => ?_⟩
      cases m with
      | zero => exact ⟨fun h => by omega, fun _ => rfl⟩
      | succ m =>
        obtain ⟨a, c⟩ := h3 m
        exact ⟨fun h => by rw [step, if_neg z]; exact a (by omega), fun h => by rw [step, if_neg z]; exact c (by omega)⟩
variable {P : Tx → Bool} {ns : List Nat}
theorem dfit_step (f a : Nat) : dfit P es o ns (f + 1) a = match dw es o (ns.drop a) [] 0 with
    | none => none
    | some (t, k) => if P t then some (t, a + k) else dfit P es o ns f (a + k) := rfl
theorem dfit_le : ∀ (f a : Nat) (t : Tx) (j : Nat), dfit P es o ns f a = some (t, j) → a < j ∧ j ≤ ns.length
  | 0, _, _, _, h => (nomatch h)
  | f + 1, a, t, j, h => by
    rw [dfit_step] at h
    cases z : dw es o (ns.drop a) [] 0 with
    | none => rw [z] at h; cases h
    | some p =>
      obtain ⟨u, k⟩ := p
      rw [z] at h
      obtain ⟨h1, h2, _⟩ := dw_less _ _ _ _ _ z
      rw [List.length_drop] at h2
      have h : (if P u = true then some (u, a + k) else dfit P es o ns f (a + k)) = some (t, j) := h
      by_cases y : P u = true
      · rw [if_pos y] at h; cases h; omega
      · rw [if_neg y] at h
        have := dfit_le f (a + k) t j h
        omega
theorem dfit_take : ∀ (f a : Nat) (t : Tx) (j : Nat), dfit P es o ns f a = some (t, j) → (∀ f', f ≤ f' → dfit P es o (ns.take j) f' a = some (t, j)) ∧ ∀ f', dfit P es o (ns.take (j - 1)) f' a = none
  | 0, _, _, _, h => (nomatch h)
  | f + 1, a, t, j, h => by
    have hle := dfit_le (f + 1) a t j h
    rw [dfit_step] at h
    cases z : dw es o (ns.drop a) [] 0 with
    | none => rw [z] at h; cases h
    | some p =>
      obtain ⟨u, k⟩ := p
      rw [z] at h
      obtain ⟨h1, h2, h3⟩ := dw_less _ _ _ _ _ z
      have h : (if P u = true then some (u, a + k) else dfit P es o ns f (a + k)) = some (t, j) := h
      have dt : ∀ m, (ns.take m).drop a = (ns.drop a).take (m - a) := fun m => List.drop_take
      by_cases y : P u = true
      · rw [if_pos y] at h
        cases h
        refine ⟨fun f' hf => ?_, fun f' => ?_⟩
        · cases f' with
          | zero => omega
          | succ f' =>
            rw [dfit_step, dt, (h3 _).1 (by omega)]
            show (if P t = true then some (t, a + k) else _) = _
            rw [if_pos y]
        · cases f' with
          | zero => rfl
          | succ f' =>
            rw [dfit_step, dt, (h3 _).2 (by omega)]
      · rw [if_neg y] at h
        have hj := dfit_le f (a + k) t j h
        obtain ⟨i1, i2⟩ := dfit_take f (a + k) t j h
        refine ⟨fun f' hf => ?_, fun f' => ?_⟩
        · cases f' with
          | zero => omega
          | succ f' =>
            rw [dfit_step, dt, (h3 _).1 (by omega)]
            show (if P u = true then _ else dfit P es o (ns.take j) f' (a + k)) = _
            rw [if_neg y]
            exact i1 f' (by omega)
        · cases f' with
          | zero => rfl
          | succ f' =>
            rw [dfit_step, dt, (h3 _).1 (by omega)]
            show (if P u = true then _ else dfit P es o (ns.take (j - 1)) f' (a + k)) = _
            rw [if_neg y]
            exact i2 f'
theorem dfit_more : ∀ (f a : Nat), ns.length < a + f → ∀ f', f ≤ f' → dfit P es o ns f' a = dfit P es o ns f a
  | 0, a, h, f', _ => by
    have e : ns.drop a = [] := List.drop_eq_nil_of_le (by omega)
    cases f' with
    | zero => rfl
    | succ f' => rw [dfit_step, e]; rfl
  | f + 1, a, h, 0, hf => absurd hf (by omega)
  | f + 1, a, h, f' + 1, hf => by
    rw [dfit_step, dfit_step]
    cases z : dw es o (ns.drop a) [] 0 with
    | none => rfl
    | some p =>
      obtain ⟨t, k⟩ := p
      have hk := (dw_less _ _ _ _ _ z).1
      show (if P t = true then _ else dfit P es o ns f' (a + k)) = if P t = true then _ else dfit P es o ns f (a + k)
      rw [dfit_more f (a + k) (by omega) f' (by omega)]
/-! ### turn by turn -/
def fin (es : List Ev) (o : Nat) (ns : List Nat) (a : Nat) : Option (Tx × Nat) := match dw es o (ns.drop a) [] 0 with
  | none => none
  | some (t, k) => some (t, a + k)
end
/-- the letters of what is drawn -/
theorem dw_ltr {es : List Ev} {o : Nat} (h : Nx es o) (hl : ∀ e ∈ es, ∀ c ∈ e.2, 97 ≤ c ∧ c ≤ 122) : ∀ (ns : List Nat) (t : Tx) (k : Nat) (u : Tx) (j : Nat), Live es o t → (∀ c ∈ t, 97 ≤ c ∧ c ≤ 122) → dw es o ns t k = some (u, j) → ∀ c ∈ u, 97 ≤ c ∧ c ≤ 122
  | [], _, _, _, _, _, _, e => (nomatch e)
  | n :: ns, t, k, u, j, ht, hc, e => by
    have ev := pk_ev h ht n
    have gl := fun z => h.go t _ ev z
    have cl := hl _ ev
    have e : (if pk (rowN es (endT o t)) (n % tN (rowN es (endT o t))) = [] then some (t, k + 1) else dw es o ns (t ++ pk (rowN es (endT o t)) (n % tN (rowN es (endT o t)))) (k + 1)) = some (u, j) := e
    generalize pk (rowN es (endT o t)) (n % tN (rowN es (endT o t))) = l at *
    by_cases z : l = []
    · rw [if_pos z] at e; cases e; exact hc
    · rw [if_neg z] at e
      exact dw_ltr h hl ns (t ++ l) (k + 1) u j (gl z) (fun c hcc => by
        rcases List.mem_append.mp hcc with w | w
        · exact hc c w
        · exact cl c w) e
end
end KN
namespace KN
open PySem PySem.Spec PyProof.Rows L2
noncomputable section
abbrev erH : List Nat := [0, 1, 2, 3, 4, 5, 6]
structure ErrSub (K : PySem.W.Frag) (e0 e1 e2 e3 e4 e5 e6 : Addr) : Prop where
  s00 : PySem.W.subIn K (.ref e0) (.ref e0) = some true
  s01 : PySem.W.subIn K (.ref e0) (.ref e1) = some false
  s02 : PySem.W.subIn K (.ref e0) (.ref e2) = some false
  s03 : PySem.W.subIn K (.ref e0) (.ref e3) = some false
  s04 : PySem.W.subIn K (.ref e0) (.ref e4) = some false
  s05 : PySem.W.subIn K (.ref e0) (.ref e5) = some false
  s06 : PySem.W.subIn K (.ref e0) (.ref e6) = some false
  s10 : PySem.W.subIn K (.ref e1) (.ref e0) = some false
  s11 : PySem.W.subIn K (.ref e1) (.ref e1) = some true
  s12 : PySem.W.subIn K (.ref e1) (.ref e2) = some false
  s13 : PySem.W.subIn K (.ref e1) (.ref e3) = some false
  s14 : PySem.W.subIn K (.ref e1) (.ref e4) = some false
  s15 : PySem.W.subIn K (.ref e1) (.ref e5) = some false
  s16 : PySem.W.subIn K (.ref e1) (.ref e6) = some false
  s20 : PySem.W.subIn K (.ref e2) (.ref e0) = some false
  s21 : PySem.W.subIn K (.ref e2) (.ref e1) = some false
  s22 : PySem.W.subIn K (.ref e2) (.ref e2) = some true
  s23 : PySem.W.subIn K (.ref e2) (.ref e3) = some false
  s24 : PySem.W.subIn K (.ref e2) (.ref e4) = some false
  s25 : PySem.W.subIn K (.ref e2) (.ref e5) = some false
  s26 : PySem.W.subIn K (.ref e2) (.ref e6) = some false
  s30 : PySem.W.subIn K (.ref e3) (.ref e0) = some false
  s31 : PySem.W.subIn K (.ref e3) (.ref e1) = some false
  s32 : PySem.W.subIn K (.ref e3) (.ref e2) = some false
  s33 : PySem.W.subIn K (.ref e3) (.ref e3) = some true
  s34 : PySem.W.subIn K (.ref e3) (.ref e4) = some false
  s35 : PySem.W.subIn K (.ref e3) (.ref e5) = some false
  s36 : PySem.W.subIn K (.ref e3) (.ref e6) = some false
  s40 : PySem.W.subIn K (.ref e4) (.ref e0) = some false
  s41 : PySem.W.subIn K (.ref e4) (.ref e1) = some false
  s42 : PySem.W.subIn K (.ref e4) (.ref e2) = some false
  s43 : PySem.W.subIn K (.ref e4) (.ref e3) = some false
  s44 : PySem.W.subIn K (.ref e4) (.ref e4) = some true
  s45 : PySem.W.subIn K (.ref e4) (.ref e5) = some false
  s46 : PySem.W.subIn K (.ref e4) (.ref e6) = some false
  s50 : PySem.W.subIn K (.ref e5) (.ref e0) = some false
  s51 : PySem.W.subIn K (.ref e5) (.ref e1) = some false
  s52 : PySem.W.subIn K (.ref e5) (.ref e2) = some false
  s53 : PySem.W.subIn K (.ref e5) (.ref e3) = some false
  s54 : PySem.W.subIn K (.ref e5) (.ref e4) = some false
  s55 : PySem.W.subIn K (.ref e5) (.ref e5) = some true
  s56 : PySem.W.subIn K (.ref e5) (.ref e6) = some false
  s60 : PySem.W.subIn K (.ref e6) (.ref e0) = some false
  s61 : PySem.W.subIn K (.ref e6) (.ref e1) = some false
  s62 : PySem.W.subIn K (.ref e6) (.ref e2) = some false
  s63 : PySem.W.subIn K (.ref e6) (.ref e3) = some false
  s64 : PySem.W.subIn K (.ref e6) (.ref e4) = some false
  s65 : PySem.W.subIn K (.ref e6) (.ref e5) = some false
  s66 : PySem.W.subIn K (.ref e6) (.ref e6) = some true
def errs_mk {K : PySem.W.Frag} {h : Heap} {mg : Str → Option Value} {e0 e1 e2 e3 e4 e5 e6 L : Addr} (X : K.In h) (G : h.Ns mainGlobals mg) (EL : ErrL K L) (E0 : ErrOne K "NoBook" e0 L) (E1 : ErrOne K "NoOrder" e1 L) (E2 : ErrOne K "NoName" e2 L) (E3 : ErrOne K "NoWish" e3 L) (E4 : ErrOne K "NoNumber" e4 L) (E5 : ErrOne K "NotMade" e5 L) (E6 : ErrOne K "TooShort" e6 L) (S : ErrSub K e0 e1 e2 e3 e4 e5 e6) : Errs erH K mg where
  e := fun c => match c with
    | 0 => e0
    | 1 => e1
    | 2 => e2
    | 3 => e3
    | 4 => e4
    | 5 => e5
    | 6 => e6
    | _ => e0
  L := L
  g := PySem.W.mg_of X G EL.n
  x := fun c h => by
    simp only [erH, List.mem_cons, List.not_mem_nil, or_false] at h
    rcases h with rfl | rfl | rfl | rfl | rfl | rfl | rfl
    · exact E0.x X G
    · exact E1.x X G
    · exact E2.x X G
    · exact E3.x X G
    · exact E4.x X G
    · exact E5.x X G
    · exact E6.x X G
  c := fun c h => by
    simp only [erH, List.mem_cons, List.not_mem_nil, or_false] at h
    rcases h with rfl | rfl | rfl | rfl | rfl | rfl | rfl
    · exact E0.c
    · exact E1.c
    · exact E2.c
    · exact E3.c
    · exact E4.c
    · exact E5.c
    · exact E6.c
  val := fun c h => by
    simp only [erH, List.mem_cons, List.not_mem_nil, or_false] at h
    rcases h with rfl | rfl | rfl | rfl | rfl | rfl | rfl
    · exact kit_val E0.v
    · exact kit_val E1.v
    · exact kit_val E2.v
    · exact kit_val E3.v
    · exact kit_val E4.v
    · exact kit_val E5.v
    · exact kit_val E6.v
  exm := fun c h => by
    simp only [erH, List.mem_cons, List.not_mem_nil, or_false] at h
    rcases h with rfl | rfl | rfl | rfl | rfl | rfl | rfl
    · exact PySem.W.exm_ref EL.b EL.hd EL.t E0.l
    · exact PySem.W.exm_ref EL.b EL.hd EL.t E1.l
    · exact PySem.W.exm_ref EL.b EL.hd EL.t E2.l
    · exact PySem.W.exm_ref EL.b EL.hd EL.t E3.l
    · exact PySem.W.exm_ref EL.b EL.hd EL.t E4.l
    · exact PySem.W.exm_ref EL.b EL.hd EL.t E5.l
    · exact PySem.W.exm_ref EL.b EL.hd EL.t E6.l
  kit := fun c i h1 h2 => by
    simp only [erH, List.mem_cons, List.not_mem_nil, or_false] at h1 h2
    rcases h1 with rfl | rfl | rfl | rfl | rfl | rfl | rfl <;> rcases h2 with rfl | rfl | rfl | rfl | rfl | rfl | rfl
    · exact kit_cls E0.hd E0.t S.s00 S.s00
    · exact kit_cls E1.hd E1.t S.s01 S.s11
    · exact kit_cls E2.hd E2.t S.s02 S.s22
    · exact kit_cls E3.hd E3.t S.s03 S.s33
    · exact kit_cls E4.hd E4.t S.s04 S.s44
    · exact kit_cls E5.hd E5.t S.s05 S.s55
    · exact kit_cls E6.hd E6.t S.s06 S.s66
    · exact kit_cls E0.hd E0.t S.s10 S.s00
    · exact kit_cls E1.hd E1.t S.s11 S.s11
    · exact kit_cls E2.hd E2.t S.s12 S.s22
    · exact kit_cls E3.hd E3.t S.s13 S.s33
    · exact kit_cls E4.hd E4.t S.s14 S.s44
    · exact kit_cls E5.hd E5.t S.s15 S.s55
    · exact kit_cls E6.hd E6.t S.s16 S.s66
    · exact kit_cls E0.hd E0.t S.s20 S.s00
    · exact kit_cls E1.hd E1.t S.s21 S.s11
    · exact kit_cls E2.hd E2.t S.s22 S.s22
    · exact kit_cls E3.hd E3.t S.s23 S.s33
    · exact kit_cls E4.hd E4.t S.s24 S.s44
    · exact kit_cls E5.hd E5.t S.s25 S.s55
    · exact kit_cls E6.hd E6.t S.s26 S.s66
    · exact kit_cls E0.hd E0.t S.s30 S.s00
    · exact kit_cls E1.hd E1.t S.s31 S.s11
    · exact kit_cls E2.hd E2.t S.s32 S.s22
    · exact kit_cls E3.hd E3.t S.s33 S.s33
    · exact kit_cls E4.hd E4.t S.s34 S.s44
    · exact kit_cls E5.hd E5.t S.s35 S.s55
    · exact kit_cls E6.hd E6.t S.s36 S.s66
    · exact kit_cls E0.hd E0.t S.s40 S.s00
    · exact kit_cls E1.hd E1.t S.s41 S.s11
    · exact kit_cls E2.hd E2.t S.s42 S.s22
    · exact kit_cls E3.hd E3.t S.s43 S.s33
    · exact kit_cls E4.hd E4.t S.s44 S.s44
    · exact kit_cls E5.hd E5.t S.s45 S.s55
    · exact kit_cls E6.hd E6.t S.s46 S.s66
    · exact kit_cls E0.hd E0.t S.s50 S.s00
    · exact kit_cls E1.hd E1.t S.s51 S.s11
    · exact kit_cls E2.hd E2.t S.s52 S.s22
    · exact kit_cls E3.hd E3.t S.s53 S.s33
    · exact kit_cls E4.hd E4.t S.s54 S.s44
    · exact kit_cls E5.hd E5.t S.s55 S.s55
    · exact kit_cls E6.hd E6.t S.s56 S.s66
    · exact kit_cls E0.hd E0.t S.s60 S.s00
    · exact kit_cls E1.hd E1.t S.s61 S.s11
    · exact kit_cls E2.hd E2.t S.s62 S.s22
    · exact kit_cls E3.hd E3.t S.s63 S.s33
    · exact kit_cls E4.hd E4.t S.s64 S.s44
    · exact kit_cls E5.hd E5.t S.s65 S.s55
    · exact kit_cls E6.hd E6.t S.s66 S.s66
  exo := fun c i h1 h2 => by
    simp only [erH, List.mem_cons, List.not_mem_nil, or_false] at h1 h2
    rcases h1 with rfl | rfl | rfl | rfl | rfl | rfl | rfl <;> rcases h2 with rfl | rfl | rfl | rfl | rfl | rfl | rfl
    · exact PySem.W.exm_ref E0.b E0.hd E0.t S.s00
    · exact PySem.W.exm_ref E1.b E1.hd E1.t S.s01
    · exact PySem.W.exm_ref E2.b E2.hd E2.t S.s02
    · exact PySem.W.exm_ref E3.b E3.hd E3.t S.s03
    · exact PySem.W.exm_ref E4.b E4.hd E4.t S.s04
    · exact PySem.W.exm_ref E5.b E5.hd E5.t S.s05
    · exact PySem.W.exm_ref E6.b E6.hd E6.t S.s06
    · exact PySem.W.exm_ref E0.b E0.hd E0.t S.s10
    · exact PySem.W.exm_ref E1.b E1.hd E1.t S.s11
    · exact PySem.W.exm_ref E2.b E2.hd E2.t S.s12
    · exact PySem.W.exm_ref E3.b E3.hd E3.t S.s13
    · exact PySem.W.exm_ref E4.b E4.hd E4.t S.s14
    · exact PySem.W.exm_ref E5.b E5.hd E5.t S.s15
    · exact PySem.W.exm_ref E6.b E6.hd E6.t S.s16
    · exact PySem.W.exm_ref E0.b E0.hd E0.t S.s20
    · exact PySem.W.exm_ref E1.b E1.hd E1.t S.s21
    · exact PySem.W.exm_ref E2.b E2.hd E2.t S.s22
    · exact PySem.W.exm_ref E3.b E3.hd E3.t S.s23
    · exact PySem.W.exm_ref E4.b E4.hd E4.t S.s24
    · exact PySem.W.exm_ref E5.b E5.hd E5.t S.s25
    · exact PySem.W.exm_ref E6.b E6.hd E6.t S.s26
    · exact PySem.W.exm_ref E0.b E0.hd E0.t S.s30
    · exact PySem.W.exm_ref E1.b E1.hd E1.t S.s31
    · exact PySem.W.exm_ref E2.b E2.hd E2.t S.s32
    · exact PySem.W.exm_ref E3.b E3.hd E3.t S.s33
    · exact PySem.W.exm_ref E4.b E4.hd E4.t S.s34
    · exact PySem.W.exm_ref E5.b E5.hd E5.t S.s35
    · exact PySem.W.exm_ref E6.b E6.hd E6.t S.s36
    · exact PySem.W.exm_ref E0.b E0.hd E0.t S.s40
    · exact PySem.W.exm_ref E1.b E1.hd E1.t S.s41
    · exact PySem.W.exm_ref E2.b E2.hd E2.t S.s42
    · exact PySem.W.exm_ref E3.b E3.hd E3.t S.s43
    · exact PySem.W.exm_ref E4.b E4.hd E4.t S.s44
    · exact PySem.W.exm_ref E5.b E5.hd E5.t S.s45
    · exact PySem.W.exm_ref E6.b E6.hd E6.t S.s46
    · exact PySem.W.exm_ref E0.b E0.hd E0.t S.s50
    · exact PySem.W.exm_ref E1.b E1.hd E1.t S.s51
    · exact PySem.W.exm_ref E2.b E2.hd E2.t S.s52
    · exact PySem.W.exm_ref E3.b E3.hd E3.t S.s53
    · exact PySem.W.exm_ref E4.b E4.hd E4.t S.s54
    · exact PySem.W.exm_ref E5.b E5.hd E5.t S.s55
    · exact PySem.W.exm_ref E6.b E6.hd E6.t S.s56
    · exact PySem.W.exm_ref E0.b E0.hd E0.t S.s60
    · exact PySem.W.exm_ref E1.b E1.hd E1.t S.s61
    · exact PySem.W.exm_ref E2.b E2.hd E2.t S.s62
    · exact PySem.W.exm_ref E3.b E3.hd E3.t S.s63
    · exact PySem.W.exm_ref E4.b E4.hd E4.t S.s64
    · exact PySem.W.exm_ref E5.b E5.hd E5.t S.s65
    · exact PySem.W.exm_ref E6.b E6.hd E6.t S.s66
def topS (i : Nat) : Stmt := PySem.Challenge.pw_kinnames_k41_whole_drawing.main.body.getD i (.Pass ⟨0, 0, 0, 0⟩)
structure Top (K : PySem.W.Frag) (mg : Str → Option Value) where
  er : Errs erH K mg
  f__law_cell : Addr
  fd__law_cell : FuncData
  F__law_cell : Fun K "_law_cell" "_law_cell" (topS 50) f__law_cell fd__law_cell
  b__law_cell : Binds K fd__law_cell ["_law_script", "_law_k"] []
  m__law_cell : mg "_law_cell" = some (.ref f__law_cell)
  f__law_drawn : Addr
  fd__law_drawn : FuncData
  F__law_drawn : Fun K "_law_drawn" "_law_drawn" (topS 51) f__law_drawn fd__law_drawn
  b__law_drawn : Binds K fd__law_drawn ["_law_script", "_law_k", "_law_many"] []
  m__law_drawn : mg "_law_drawn" = some (.ref f__law_drawn)
  f__law_name : Addr
  fd__law_name : FuncData
  F__law_name : Fun K "_law_name" "_law_name" (topS 52) f__law_name fd__law_name
  b__law_name : Binds K fd__law_name ["_law_script", "_law_at", "_law_most"] []
  m__law_name : mg "_law_name" = some (.ref f__law_name)
  f__law_book : Addr
  fd__law_book : FuncData
  F__law_book : Fun K "_law_book" "_law_book" (topS 53) f__law_book fd__law_book
  b__law_book : Binds K fd__law_book ["_law_script", "_law_at", "_law_many", "_law_most"] []
  m__law_book : mg "_law_book" = some (.ref f__law_book)
  f_end_of : Addr
  fd_end_of : FuncData
  F_end_of : Fun K "end_of" "end_of" (topS 20) f_end_of fd_end_of
  b_end_of : Binds K fd_end_of ["order", "text"] []
  m_end_of : mg "end_of" = some (.ref f_end_of)
  f_counted : Addr
  fd_counted : FuncData
  F_counted : Fun K "counted" "counted" (topS 21) f_counted fd_counted
  b_counted : Binds K fd_counted ["book", "order"] []
  m_counted : mg "counted" = some (.ref f_counted)
  f_is_fit : Addr
  fd_is_fit : FuncData
  F_is_fit : Fun K "is_fit" "is_fit" (topS 30) f_is_fit fd_is_fit
  b_is_fit : Binds K fd_is_fit ["book", "wish", "name"] []
  m_is_fit : mg "is_fit" = some (.ref f_is_fit)
  f_listed : Addr
  fd_listed : FuncData
  F_listed : Fun K "listed" "listed" (topS 22) f_listed fd_listed
  b_listed : Binds K fd_listed ["row"] []
  m_listed : mg "listed" = some (.ref f_listed)
  f_picked : Addr
  fd_picked : FuncData
  F_picked : Fun K "picked" "picked" (topS 36) f_picked fd_picked
  b_picked : Binds K fd_picked ["row", "number"] []
  m_picked : mg "picked" = some (.ref f_picked)
  f_one_drawn : Addr
  fd_one_drawn : FuncData
  F_one_drawn : Fun K "one_drawn" "one_drawn" (topS 37) f_one_drawn fd_one_drawn
  b_one_drawn : Binds K fd_one_drawn ["rows", "order", "numbers"] []
  m_one_drawn : mg "one_drawn" = some (.ref f_one_drawn)
  f_fitting_of : Addr
  fd_fitting_of : FuncData
  F_fitting_of : Fun K "fitting_of" "fitting_of" (topS 40) f_fitting_of fd_fitting_of
  b_fitting_of : Binds K fd_fitting_of ["book", "order", "wish", "numbers"] []
  m_fitting_of : mg "fitting_of" = some (.ref f_fitting_of)
  f_is_name : Addr
  fd_is_name : FuncData
  F_is_name : Fun K "is_name" "is_name" (topS 15) f_is_name fd_is_name
  b_is_name : Binds K fd_is_name ["thing"] []
  m_is_name : mg "is_name" = some (.ref f_is_name)
  f_is_book : Addr
  fd_is_book : FuncData
  F_is_book : Fun K "is_book" "is_book" (topS 16) f_is_book fd_is_book
  b_is_book : Binds K fd_is_book ["thing"] []
  m_is_book : mg "is_book" = some (.ref f_is_book)
  f_need_book : Addr
  fd_need_book : FuncData
  F_need_book : Fun K "need_book" "need_book" (topS 17) f_need_book fd_need_book
  b_need_book : Binds K fd_need_book ["book"] []
  m_need_book : mg "need_book" = some (.ref f_need_book)
  f_are_numbers : Addr
  fd_are_numbers : FuncData
  F_are_numbers : Fun K "are_numbers" "are_numbers" (topS 34) f_are_numbers fd_are_numbers
  b_are_numbers : Binds K fd_are_numbers ["thing"] []
  m_are_numbers : mg "are_numbers" = some (.ref f_are_numbers)
  f_need_numbers : Addr
  fd_need_numbers : FuncData
  F_need_numbers : Fun K "need_numbers" "need_numbers" (topS 35) f_need_numbers fd_need_numbers
  b_need_numbers : Binds K fd_need_numbers ["numbers"] []
  m_need_numbers : mg "need_numbers" = some (.ref f_need_numbers)
  f_is_number : Addr
  fd_is_number : FuncData
  F_is_number : Fun K "is_number" "is_number" (topS 14) f_is_number fd_is_number
  b_is_number : Binds K fd_is_number ["thing", "low", "high"] []
  m_is_number : mg "is_number" = some (.ref f_is_number)
  f_need_order : Addr
  fd_need_order : FuncData
  F_need_order : Fun K "need_order" "need_order" (topS 18) f_need_order fd_need_order
  b_need_order : Binds K fd_need_order ["order"] []
  m_need_order : mg "need_order" = some (.ref f_need_order)
  f_is_end : Addr
  fd_is_end : FuncData
  F_is_end : Fun K "is_end" "is_end" (topS 27) f_is_end fd_is_end
  b_is_end : Binds K fd_is_end ["thing"] []
  m_is_end : mg "is_end" = some (.ref f_is_end)
  f_is_wish : Addr
  fd_is_wish : FuncData
  F_is_wish : Fun K "is_wish" "is_wish" (topS 28) f_is_wish fd_is_wish
  b_is_wish : Binds K fd_is_wish ["thing"] []
  m_is_wish : mg "is_wish" = some (.ref f_is_wish)
  f_need_wish : Addr
  fd_need_wish : FuncData
  F_need_wish : Fun K "need_wish" "need_wish" (topS 29) f_need_wish fd_need_wish
  b_need_wish : Binds K fd_need_wish ["wish"] []
  m_need_wish : mg "need_wish" = some (.ref f_need_wish)
  f_drawn_fitting : Addr
  fd_drawn_fitting : FuncData
  F_drawn_fitting : Fun K "drawn_fitting" "drawn_fitting" (topS 39) f_drawn_fitting fd_drawn_fitting
  b_drawn_fitting : Binds K fd_drawn_fitting ["book", "order", "wish", "numbers"] []
  m_drawn_fitting : mg "drawn_fitting" = some (.ref f_drawn_fitting)
  f__law_fitting : Addr
  fd__law_fitting : FuncData
  F__law_fitting : Fun K "_law_fitting" "_law_fitting" (topS 57) f__law_fitting fd__law_fitting
  b__law_fitting : Binds K fd__law_fitting ["_law_book_here", "_law_order", "_law_wish_here", "_law_numbers"] []
  m__law_fitting : mg "_law_fitting" = some (.ref f__law_fitting)
  f_drawn : Addr
  fd_drawn : FuncData
  F_drawn : Fun K "drawn" "drawn" (topS 38) f_drawn fd_drawn
  b_drawn : Binds K fd_drawn ["book", "order", "numbers"] []
  m_drawn : mg "drawn" = some (.ref f_drawn)
  f__law_text : Addr
  fd__law_text : FuncData
  F__law_text : Fun K "_law_text" "_law_text" (topS 56) f__law_text fd__law_text
  b__law_text : Binds K fd__law_text ["_law_book_here", "_law_order", "_law_numbers"] []
  m__law_text : mg "_law_text" = some (.ref f__law_text)
  f_need_name : Addr
  fd_need_name : FuncData
  F_need_name : Fun K "need_name" "need_name" (topS 19) f_need_name fd_need_name
  b_need_name : Binds K fd_need_name ["name"] []
  m_need_name : mg "need_name" = some (.ref f_need_name)
  f_lowest : Addr
  fd_lowest : FuncData
  F_lowest : Fun K "lowest" "lowest" (topS 43) f_lowest fd_lowest
  b_lowest : Binds K fd_lowest ["up", "down"] []
  m_lowest : mg "lowest" = some (.ref f_lowest)
  f_part_of : Addr
  fd_part_of : FuncData
  F_part_of : Fun K "part_of" "part_of" (topS 45) f_part_of fd_part_of
  b_part_of : Binds K fd_part_of ["rows", "context", "letter"] []
  m_part_of : mg "part_of" = some (.ref f_part_of)
  f_steps : Addr
  fd_steps : FuncData
  F_steps : Fun K "steps" "steps" (topS 46) f_steps fd_steps
  b_steps : Binds K fd_steps ["book", "order", "name"] []
  m_steps : mg "steps" = some (.ref f_steps)
  f_times : Addr
  fd_times : FuncData
  F_times : Fun K "times" "times" (topS 44) f_times fd_times
  b_times : Binds K fd_times ["one", "other"] []
  m_times : mg "times" = some (.ref f_times)
  f_share : Addr
  fd_share : FuncData
  F_share : Fun K "share" "share" (topS 47) f_share fd_share
  b_share : Binds K fd_share ["book", "order", "name"] []
  m_share : mg "share" = some (.ref f_share)
  f_makes : Addr
  fd_makes : FuncData
  F_makes : Fun K "makes" "makes" (topS 48) f_makes fd_makes
  b_makes : Binds K fd_makes ["book", "order", "name"] []
  m_makes : mg "makes" = some (.ref f_makes)
  f__law_drawn_well : Addr
  fd__law_drawn_well : FuncData
  F__law_drawn_well : Fun K "_law_drawn_well" "_law_drawn_well" (topS 59) f__law_drawn_well fd__law_drawn_well
  b__law_drawn_well : Binds K fd__law_drawn_well ["_law_book_here", "_law_order", "_law_numbers", "_law_found"] []
  m__law_drawn_well : mg "_law_drawn_well" = some (.ref f__law_drawn_well)
  f_behind : Addr
  fd_behind : FuncData
  F_behind : Fun K "behind" "behind" (topS 23) f_behind fd_behind
  b_behind : Binds K fd_behind ["book", "order", "text"] []
  m_behind : mg "behind" = some (.ref f_behind)
  f__law_picks_fit : Addr
  fd__law_picks_fit : FuncData
  F__law_picks_fit : Fun K "_law_picks_fit" "_law_picks_fit" (topS 58) f__law_picks_fit fd__law_picks_fit
  b__law_picks_fit : Binds K fd__law_picks_fit ["_law_book_here", "_law_order"] []
  m__law_picks_fit : mg "_law_picks_fit" = some (.ref f__law_picks_fit)
  f__law_wish : Addr
  fd__law_wish : FuncData
  F__law_wish : Fun K "_law_wish" "_law_wish" (topS 54) f__law_wish fd__law_wish
  b__law_wish : Binds K fd__law_wish ["_law_script", "_law_at"] []
  m__law_wish : mg "_law_wish" = some (.ref f__law_wish)
  f_fits : Addr
  fd_fits : FuncData
  F_fits : Fun K "fits" "fits" (topS 31) f_fits fd_fits
  b_fits : Binds K fd_fits ["book", "wish", "name"] []
  m_fits : mg "fits" = some (.ref f_fits)
  f_numbers_for : Addr
  fd_numbers_for : FuncData
  F_numbers_for : Fun K "numbers_for" "numbers_for" (topS 41) f_numbers_for fd_numbers_for
  b_numbers_for : Binds K fd_numbers_for ["book", "order", "name"] []
  m_numbers_for : mg "numbers_for" = some (.ref f_numbers_for)
  f_law : Addr
  fd_law : FuncData
  F_law : Fun K "law" "law" (topS 60) f_law fd_law
  b_law : Binds K fd_law ["_law_script"] []
  m_law : mg "law" = some (.ref f_law)
  z_all : mg "all" = none
  z_bool : mg "bool" = none
  z_enumerate : mg "enumerate" = none
  z_int : mg "int" = none
  z_isinstance : mg "isinstance" = none
  z_len : mg "len" = none
  z_list : mg "list" = none
  z_max : mg "max" = none
  z_range : mg "range" = none
  z_sorted : mg "sorted" = none
  z_str : mg "str" = none
  z_sum : mg "sum" = none
  z_tuple : mg "tuple" = none
  z_zip : mg "zip" = none
  g_LETTERS : ∃ t, mg "LETTERS" = some (.str (toS [97, 98, 99, 100, 101, 102, 103, 104, 105, 106, 107, 108, 109, 110, 111, 112, 113, 114, 115, 116, 117, 118, 119, 120, 121, 122]) t)
  g_MOST_LETTERS : ∃ t, mg "MOST_LETTERS" = some (.int 8 t)
  g_MOST_NAMES : ∃ t, mg "MOST_NAMES" = some (.int 8 t)
  g_MOST_ORDER : ∃ t, mg "MOST_ORDER" = some (.int 3 t)
  g_MOST_BARRED : ∃ t, mg "MOST_BARRED" = some (.int 6 t)
  g_MOST_ENDS : ∃ t, mg "MOST_ENDS" = some (.int 3 t)
  g_MOST_PICK : ∃ t, mg "MOST_PICK" = some (.int 9999 t)
def m__law_fitting : Ga → R Fl := fTryN 6 (fRet (bCall g_drawn_fitting (bCons (bVar 0) (bCons (bVar 1) (bCons (bVar 2) (bCons (bVar 3) (bNil)))))))
def g__law_fitting : List D → R D := fnD 4 m__law_fitting
def m__law_text : Ga → R Fl := fTryN 6 (fRet (bCall g_drawn (bCons (bVar 0) (bCons (bVar 1) (bCons (bVar 2) (bNil))))))
def g__law_text : List D → R D := fnD 3 m__law_text
def m__law_drawn_well : Ga → R Fl := fSeq (fBd (bdT [6, 7]) (bVar 3)) (fSeq (fOwn 4 (bLcE (bVar 0) [8] (bdN 8) yes (b2 dIx (bVar 8) (bC (.int 0))))) (fSeq (fOwn 5 (bLcE (bVar 0) [8] (bdN 8) yes (b2 dIx (bVar 8) (b1 dNeg (bC (.int 1)))))) (fSeq (fIf (tOr (tVal (b2 dNotIn (b2 dIx (bVar 6) (bC (.int 0))) (bRd 4))) (tOr (tVal (b2 dNotIn (b2 dIx (bVar 6) (b1 dNeg (bC (.int 1)))) (bRd 5))) (tVal (b2 dNe (bVar 7) (b2 dAdd (bN dLen (bCons (bVar 6) (bNil))) (bC (.int 1))))))) (fRet (bC (.bl false))) (fNil)) (fSeq (fIf (tAnd (tVal (bCall g_is_name (bCons (bVar 6) (bNil)))) (tNot (tVal (bCall g_makes (bCons (bVar 0) (bCons (bVar 1) (bCons (bVar 6) (bNil)))))))) (fRet (bC (.bl false))) (fNil)) (fSeq (fIf (tOr (tVal (b2 dNe (bCall g_drawn (bCons (bVar 0) (bCons (bVar 1) (bCons (b2 dAdd (bSl (bVar 2) (pNo) (pSo (bVar 7))) (bLst (bCons (bC (.int 9)) (bNil)))) (bNil))))) (bVar 3))) (tVal (b2 dNotN (bCall g__law_text (bCons (bVar 0) (bCons (bVar 1) (bCons (bSl (bVar 2) (pNo) (pSo (b2 dSub (bVar 7) (bC (.int 1))))) (bNil))))) (bC .non)))) (fRet (bC (.bl false))) (fNil)) (fRet (bOr (b2 dGt (bN dLen (bCons (bVar 6) (bNil))) (bC (.int 8))) (b2 dEq (bCall g__law_fitting (bCons (bVar 0) (bCons (bVar 1) (bCons (bTup (bCons (bC (.int 1)) (bCons (bC (.int 8)) (bCons (bC (.str [])) (bCons (bC (.str [])) (bCons (bTup (bNil)) (bCons (bC (.bl true)) (bNil)))))))) (bCons (bVar 2) (bNil)))))) (bVar 3)))))))))
def g__law_drawn_well : List D → R D := fnD 9 m__law_drawn_well
def m__law_picks_fit : Ga → R Fl := fSeq (fSet 2 (bCall g_behind (bCons (bVar 0) (bCons (bVar 1) (bCons (bC (.str [])) (bNil)))))) (fSeq (fOwn 3 (bLst (bNil))) (fSeq (fForI (iR1 (bN dSum (bCons (bLcE (bVar 2) [6, 7] (bdT [6, 7]) yes (bVar 7)) (bNil)))) (bdN 4) (fSeq (fSet 5 (bCall g__law_text (bCons (bVar 0) (bCons (bVar 1) (bCons (b2 dAdd (bLst (bCons (bVar 4) (bNil))) (b2 dRep (bLst (bCons (bC (.int 0)) (bNil))) (bC (.int 60)))) (bNil)))))) (fIf (tVal (b2 dNotN (bVar 5) (bC .non))) (fApp 3 (b2 dIx (b2 dIx (bVar 5) (bC (.int 0))) (bC (.int 0)))) (fNil)))) (fRet (b2 dEq (bLcE (bVar 2) [6, 7] (bdT [6, 7]) (tVal (b2 dNotIn (bM1 dCountS (bRd 3) (bVar 6)) (bTup (bCons (bC (.int 0)) (bCons (bVar 7) (bNil)))))) (bVar 6)) (bLst (bNil))))))
def g__law_picks_fit : List D → R D := fnD 8 m__law_picks_fit
def m_law_k41 : Ga → R Fl := fSeq (fSet 1 (bCall g__law_book (bCons (bVar 0) (bCons (bC (.int 0)) (bCons (bC (.int 4)) (bCons (bC (.int 4)) (bNil))))))) (fSeq (fSet 2 (b2 dAdd (bC (.int 1)) (bCall g__law_drawn (bCons (bVar 0) (bCons (bC (.int 50)) (bCons (bC (.int 3)) (bNil))))))) (fSeq (fSet 3 (bCall g__law_wish (bCons (bVar 0) (bCons (bC (.int 60)) (bNil))))) (fSeq (fSet 4 (b2 dIx (bVar 1) (bCall g__law_drawn (bCons (bVar 0) (bCons (bC (.int 51)) (bCons (bN dLen (bCons (bVar 1) (bNil))) (bNil))))))) (fSeq (fSet 5 (bCall g_numbers_for (bCons (bVar 1) (bCons (bVar 2) (bCons (bVar 4) (bNil)))))) (fSeq (fIf (tVal (b2 dNe (bCall g_drawn (bCons (bVar 1) (bCons (bVar 2) (bCons (bVar 5) (bNil))))) (bTup (bCons (bVar 4) (bCons (b2 dAdd (bN dLen (bCons (bVar 4) (bNil))) (bC (.int 1))) (bNil)))))) (fRet (bC (.bl false))) (fNil)) (fSeq (fIf (tVal (b2 dNe (bCall g_drawn (bCons (bVar 1) (bCons (bVar 2) (bCons (b2 dAdd (bN dTuple (bCons (bVar 5) (bNil))) (bTup (bCons (bC (.int 7)) (bNil)))) (bNil))))) (bTup (bCons (bVar 4) (bCons (b2 dAdd (bN dLen (bCons (bVar 4) (bNil))) (bC (.int 1))) (bNil)))))) (fRet (bC (.bl false))) (fNil)) (fSeq (fOwn 6 (bLst (bNil))) (fSeq (fForI (iEn (bVar 5)) (bdT [10, 11]) (fApp 6 (b2 dAdd (bVar 11) (bN dSum (bCons (bLcE (bCall g_behind (bCons (bVar 1) (bCons (bVar 2) (bCons (bSl (bVar 4) (pNo) (pSo (bVar 10))) (bNil))))) [13, 14] (bdT [13, 14]) yes (bVar 14)) (bNil)))))) (fFz 6 (fSeq (fIf (tVal (b2 dNe (bCall g_drawn (bCons (bVar 1) (bCons (bVar 2) (bCons (bVar 6) (bNil))))) (bTup (bCons (bVar 4) (bCons (b2 dAdd (bN dLen (bCons (bVar 4) (bNil))) (bC (.int 1))) (bNil)))))) (fRet (bC (.bl false))) (fNil)) (fSeq (fIf (tNot (tVal (bCall g__law_picks_fit (bCons (bVar 1) (bCons (bVar 2) (bNil)))))) (fRet (bC (.bl false))) (fNil)) (fSeq (fOwn 7 (bLcI (iR1 (bCall g__law_drawn (bCons (bVar 0) (bCons (bC (.int 52)) (bCons (bC (.int 31)) (bNil)))))) [12] (bdN 12) yes (bCall g__law_drawn (bCons (bVar 0) (bCons (b2 dAdd (bC (.int 100)) (bVar 12)) (bCons (bC (.int 50)) (bNil))))))) (fFz 7 (fSeq (fSet 8 (bCall g__law_text (bCons (bVar 1) (bCons (bVar 2) (bCons (bVar 7) (bNil)))))) (fSeq (fIf (tAnd (tVal (b2 dNotN (bVar 8) (bC .non))) (tNot (tVal (bCall g__law_drawn_well (bCons (bVar 1) (bCons (bVar 2) (bCons (bVar 7) (bCons (bVar 8) (bNil))))))))) (fRet (bC (.bl false))) (fNil)) (fSeq (fSet 9 (bCall g__law_fitting (bCons (bVar 1) (bCons (bVar 2) (bCons (bVar 3) (bCons (bVar 7) (bNil))))))) (fSeq (fIf (tVal (b2 dIsN (bVar 9) (bC .non))) (fRet (bC (.bl true))) (fNil)) (fSeq (fIf (tOr (tNot (tVal (bCall g_fits (bCons (bVar 1) (bCons (bVar 3) (bCons (b2 dIx (bVar 9) (bC (.int 0))) (bNil))))))) (tNot (tVal (bCall g_makes (bCons (bVar 1) (bCons (bVar 2) (bCons (b2 dIx (bVar 9) (bC (.int 0))) (bNil)))))))) (fRet (bC (.bl false))) (fNil)) (fRet (b2 dEq (bCall g__law_fitting (bCons (bVar 1) (bCons (bVar 2) (bCons (bVar 3) (bCons (bSl (bVar 7) (pNo) (pSo (b2 dIx (bVar 9) (bC (.int 1))))) (bNil)))))) (bVar 9)))))))))))))))))))))
def g_law_k41 : List D → R D := fnD 15 m_law_k41
variable {P : Program} {w : World} {K : PySem.W.Frag} {mg : Str → Option Value} {base : Heap}
theorem sc__law_cell : FnScope ["_law_script", "_law_k"] ["_law_script", "_law_k"] (defScope (topS 50)) := ⟨rfl, rfl, rfl, by decide +kernel, rfl, by decide +kernel, by decide +kernel⟩
theorem ok__law_cell (T : Top K mg) : FnOk P w K mg base (L2.CX P w) 1 T.f__law_cell T.fd__law_cell ["_law_script", "_law_k"] (spD K (clE T.er) 2 g__law_cell) := by
  refine fok T.F__law_cell sc__law_cell rfl rfl fun cdv A outer s H E hr => ?_
  have nd := sc__law_cell.nd
  have hu64 := hr.units
  have hu65 := hu65_of hr
  have hu1 := hu_of hr
  exact js_cons (js_if (jt_cmp (o_eq hu64) (J.r (j_var 0)) (JF.r (jf_lst (ja_nil)))) (js_one (js_ret (j_op o_mul (J.r (j_int)) (J.r (j_var 1))))) (js_nil)) (js_one (js_ret (j_op o_add (J.r (j_ix hu1 (J.r (j_var 0)) (J.r (j_op o_mod (J.r (j_var 1)) (J.r (j_b c_len T.z_len PySem.boot_len (ja1_cons (J.r (j_var 0)) (ja1_nil)))))))) (J.r (j_op o_mul (J.r (j_int)) (J.r (j_op o_div (J.r (j_var 1)) (J.r (j_b c_len T.z_len PySem.boot_len (ja1_cons (J.r (j_var 0)) (ja1_nil)))))))))))
theorem sc__law_drawn : FnScope ["_law_script", "_law_k", "_law_many", "_law_cell_here"] ["_law_script", "_law_k", "_law_many"] (defScope (topS 51)) := ⟨rfl, rfl, rfl, by decide +kernel, rfl, by decide +kernel, by decide +kernel⟩
theorem ok__law_drawn (T : Top K mg) : FnOk P w K mg base (L2.CX P w) 2 T.f__law_drawn T.fd__law_drawn ["_law_script", "_law_k", "_law_many"] (spD K (clE T.er) 3 g__law_drawn) := by
  refine fok T.F__law_drawn sc__law_drawn rfl rfl fun cdv A outer s H E hr => ?_
  have nd := sc__law_drawn.nd
  have hu64 := hr.units
  have hu65 := hu65_of hr
  have hu1 := hu_of hr
  exact js_cons (js_set nd (j_op o_mod (J.r (j_op o_add (J.r (j_op o_mul (J.r (j_op o_mod (J.r (j_call (ok__law_cell T) (hr.mono (by decide)) T.m__law_cell T.F__law_cell.kp T.b__law_cell takes_D (ja_cons (j_var 0) (ja_cons (j_var 1) (ja_nil))) (bCons_len (bCons_len bNil_len)))) (J.r (j_int)))) (J.r (j_int)))) (J.r (j_op o_mul (J.r (j_int)) (J.r (j_op o_add (J.r (j_var 1)) (J.r (j_int)))))))) (J.r (j_int)))) (js_cons (js_set nd (j_op o_mod (J.r (j_op o_add (J.r (j_op o_mul (J.r (j_var 3)) (J.r (j_var 3)))) (J.r (j_op o_div (J.r (j_var 3)) (J.r (j_int)))))) (J.r (j_int)))) (js_one (js_ret (j_op o_mod (J.r (j_op o_div (J.r (j_op o_mod (J.r (j_op o_add (J.r (j_op o_mul (J.r (j_var 3)) (J.r (j_var 3)))) (J.r (j_op o_div (J.r (j_var 3)) (J.r (j_int)))))) (J.r (j_int)))) (J.r (j_int)))) (J.r (j_var 2))))))
theorem sc__law_name : FnScope ["_law_script", "_law_at", "_law_most", "_law_size", "_law_letters", "_law_k"] ["_law_script", "_law_at", "_law_most"] (defScope (topS 52)) := ⟨rfl, rfl, rfl, by decide +kernel, rfl, by decide +kernel, by decide +kernel⟩
theorem ok__law_name (T : Top K mg) : FnOk P w K mg base (L2.CX P w) 3 T.f__law_name T.fd__law_name ["_law_script", "_law_at", "_law_most"] (spD K (clE T.er) 3 g__law_name) := by
  refine fok T.F__law_name sc__law_name rfl rfl fun cdv A outer s H E hr => ?_
  have nd := sc__law_name.nd
  have hu64 := hr.units
  have hu65 := hu65_of hr
  have hu1 := hu_of hr
  exact js_cons (js_set nd (j_op o_add (J.r (j_int)) (J.r (j_call (ok__law_drawn T) (hr.mono (by decide)) T.m__law_drawn T.F__law_drawn.kp T.b__law_drawn takes_D (ja_cons (j_var 0) (ja_cons (j_var 1) (ja_cons (j_var 2) (ja_nil)))) (bCons_len (bCons_len (bCons_len bNil_len))))))) (js_cons (js_set nd (j_ix hu1 (JF.r (jf_lst (ja_cons (j_str) (ja_cons (j_str) (ja_cons (j_str) (ja_nil)))))) (J.r (j_call (ok__law_drawn T) (hr.mono (by decide)) T.m__law_drawn T.F__law_drawn.kp T.b__law_drawn takes_D (ja_cons (j_var 0) (ja_cons (j_op o_add (J.r (j_var 1)) (J.r (j_int))) (ja_cons (j_int) (ja_nil)))) (bCons_len (bCons_len (bCons_len bNil_len))))))) (js_one (js_ret (j_join (J.r (j_str)) (JF.r (jf_lcI (own := [("_law_k", 5)]) rfl nd (ji_r1 T.z_range (j_var 3)) ⟨blkOk_by (own := [("_law_k", 5)]) (by first | (show blkC ["_law_script", "_law_at", "_law_most", "_law_size", "_law_letters", "_law_k"] (defScope (topS 52)) _ _ = true; decide +kernel) | rfl), fun _ _ _ _ _ => jg_n nd, fun _ _ _ _ _ => jifs_nil, fun _ _ _ _ _ => j_ix hu1 (J.r (j_var 4)) (J.r (j_call (ok__law_drawn T) (hr.mono (by decide)) T.m__law_drawn T.F__law_drawn.kp T.b__law_drawn takes_W0 (ja_cons (j_var 0) (ja_cons (j_op o_add (J.r (j_op o_add (J.r (j_var 1)) (J.r (j_int)))) (J.r (j_var 5))) (ja_cons (j_b c_len T.z_len PySem.boot_len (ja1_cons (J.r (j_var 4)) (ja1_nil))) (ja_nil)))) (bCons_len (bCons_len (bCons_len bNil_len)))))⟩))))))
theorem sc__law_book : FnScope ["_law_script", "_law_at", "_law_many", "_law_most", "_law_found", "_law_k"] ["_law_script", "_law_at", "_law_many", "_law_most"] (defScope (topS 53)) := ⟨rfl, rfl, rfl, by decide +kernel, rfl, by decide +kernel, by decide +kernel⟩
theorem ok__law_book (T : Top K mg) : FnOk P w K mg base (L2.CX P w) 4 T.f__law_book T.fd__law_book ["_law_script", "_law_at", "_law_many", "_law_most"] (spD K (clE T.er) 4 g__law_book) := by
  refine fok T.F__law_book sc__law_book rfl rfl fun cdv A outer s H E hr => ?_
  have nd := sc__law_book.nd
  have hu64 := hr.units
  have hu65 := hu65_of hr
  have hu1 := hu_of hr
  exact js_cons (js_set nd (j_tup (ja_nil))) (js_cons (js_forI passes_D rfl bdN_ok (ji_r1 T.z_range (j_op o_add (J.r (j_int)) (J.r (j_call (ok__law_drawn T) (hr.mono (by decide)) T.m__law_drawn T.F__law_drawn.kp T.b__law_drawn takes_D (ja_cons (j_var 0) (ja_cons (j_var 1) (ja_cons (j_var 2) (ja_nil)))) (bCons_len (bCons_len (bCons_len bNil_len))))))) (jg_n nd) (js_one (js_set nd (j_op o_add (J.r (j_var 4)) (J.r (j_tup (ja_cons (j_call (ok__law_name T) (hr.mono (by decide)) T.m__law_name T.F__law_name.kp T.b__law_name takes_D (ja_cons (j_var 0) (ja_cons (j_op o_add (J.r (j_op o_add (J.r (j_var 1)) (J.r (j_int)))) (J.r (j_op o_mul (J.r (j_int)) (J.r (j_var 5))))) (ja_cons (j_var 3) (ja_nil)))) (bCons_len (bCons_len (bCons_len bNil_len)))) (ja_nil)))))))) (js_one (js_ret (j_var 4))))
theorem sc_end_of : FnScope ["order", "text"] ["order", "text"] (defScope (topS 20)) := ⟨rfl, rfl, rfl, by decide +kernel, rfl, by decide +kernel, by decide +kernel⟩
theorem ok_end_of (T : Top K mg) : FnOk P w K mg base (L2.CX P w) 1 T.f_end_of T.fd_end_of ["order", "text"] (spD K (clE T.er) 2 g_end_of) := by
  refine fok T.F_end_of sc_end_of rfl rfl fun cdv A outer s H E hr => ?_
  have nd := sc_end_of.nd
  have hu64 := hr.units
  have hu65 := hu65_of hr
  have hu1 := hu_of hr
  exact js_one (js_ret (j_slice (J.r (j_var 1)) (jo_some (J.r (j_b (c_max rfl) T.z_max PyProof.Rows.boot_max (ja1_cons (J.r (j_int)) (ja1_cons (J.r (j_op o_sub (J.r (j_b c_len T.z_len PySem.boot_len (ja1_cons (J.r (j_var 1)) (ja1_nil)))) (J.r (j_var 0)))) (ja1_nil)))))) (jo_none)))
theorem sc_counted : FnScope ["book", "order", "found", "name", "size", "context", "letter", "row"] ["book", "order"] (defScope (topS 21)) := ⟨rfl, rfl, rfl, by decide +kernel, rfl, by decide +kernel, by decide +kernel⟩
theorem ok_counted (T : Top K mg) : FnOk P w K mg base (L2.CX P w) 2 T.f_counted T.fd_counted ["book", "order"] (spD K (clE T.er) 2 g_counted) := by
  refine fok T.F_counted sc_counted rfl rfl fun cdv A outer s H E hr => ?_
  have nd := sc_counted.nd
  have hu64 := hr.units
  have hu65 := hu65_of hr
  have hu1 := hu_of hr
  exact js_cons (js_nd0 2 nd) (js_cons (js_forE passes_D rfl bdN_ok (j_var 0) (jg_n nd) (js_one (js_forI passes_D rfl bdN_ok (ji_r1 T.z_range (j_op o_add (J.r (j_b c_len T.z_len PySem.boot_len (ja1_cons (J.r (j_var 3)) (ja1_nil)))) (J.r (j_int)))) (jg_n nd) (js_cons (js_set nd (j_call (ok_end_of T) (hr.mono (by decide)) T.m_end_of T.F_end_of.kp T.b_end_of takes_D (ja_cons (j_var 1) (ja_cons (j_slice (J.r (j_var 3)) (jo_none) (jo_some (J.r (j_var 4)))) (ja_nil))) (bCons_len (bCons_len bNil_len)))) (js_cons (js_set nd (j_slice (J.r (j_var 3)) (jo_some (J.r (j_var 4))) (jo_some (J.r (j_op o_add (J.r (j_var 4)) (J.r (j_int))))))) (jss_bump 2 7 5 6 nd hu1)))))) (jss_fz 2 (js_one (js_ret (j_var 2)))))
theorem sc_is_fit : FnScope ["book", "wish", "name", "least", "most", "head", "tail", "barred", "told"] ["book", "wish", "name"] (defScope (topS 30)) := ⟨rfl, rfl, rfl, by decide +kernel, rfl, by decide +kernel, by decide +kernel⟩
theorem ok_is_fit (T : Top K mg) : FnOk P w K mg base (L2.CX P w) 1 T.f_is_fit T.fd_is_fit ["book", "wish", "name"] (spD K (clE T.er) 3 g_is_fit) := by
  refine fok T.F_is_fit sc_is_fit rfl rfl fun cdv A outer s H E hr => ?_
  have nd := sc_is_fit.nd
  have hu64 := hr.units
  have hu65 := hu65_of hr
  have hu1 := hu_of hr
  exact js_cons (js_unp (j_var 1) (jg_tK (K := K) rfl rfl (jgs_cons nd (jgs_cons nd (jgs_cons nd (jgs_cons nd (jgs_cons nd (jgs_cons nd (jgs_nil))))))))) (js_cons (js_if (JW.t (jw_or (jt_not (jt_chain o_le o_le (J.r (j_var 3)) (J.r (j_b c_len T.z_len PySem.boot_len (ja1_cons (J.r (j_var 2)) (ja1_nil)))) (J.r (j_var 4)))) (jw_or (jt_not (jt_val (j_sw (J.r (j_var 2)) (J.r (j_var 5))))) (jw_or1 (jt_not (jt_val (j_ew (J.r (j_var 2)) (J.r (j_var 6))))))))) (js_one (js_ret (j_bl))) (js_nil)) (js_one (js_ret (j_and (j_cmp (o_notin hu65) (J.r (j_var 2)) (J.r (j_var 7))) (j_one (j_or (j_var 8) (j_one (j_cmp (o_notin hu65) (J.r (j_var 2)) (J.r (j_var 0))))))))))
theorem sc_listed : FnScope ["row", "letter"] ["row"] (defScope (topS 22)) := ⟨rfl, rfl, rfl, by decide +kernel, rfl, by decide +kernel, by decide +kernel⟩
theorem ok_listed (T : Top K mg) : FnOk P w K mg base (L2.CX P w) 1 T.f_listed T.fd_listed ["row"] (spD K (clE T.er) 1 g_listed) := by
  refine fok T.F_listed sc_listed rfl rfl fun cdv A outer s H E hr => ?_
  have nd := sc_listed.nd
  have hu64 := hr.units
  have hu65 := hu65_of hr
  have hu1 := hu_of hr
  exact js_one (js_ret (j_ty c_tuple T.z_tuple PyProof.Rows.boot_tuple (ja1_cons (JF.r (jf_lcE (own := [("letter", 1)]) rfl nd (JF.v (jf_b (c_sort rfl) T.z_sorted PyProof.Rows.boot_sorted (ja1_cons (J.r (j_var 0)) (ja1_nil)))) ⟨blkOk_by (own := [("letter", 1)]) (by first | (show blkC ["row", "letter"] (defScope (topS 22)) _ _ = true; decide +kernel) | rfl), fun _ _ _ _ _ => jg_n nd, fun _ _ _ _ _ => jifs_nil, fun _ _ _ _ _ => j_tup (ja_cons (j_var 1) (ja_cons (j_ix hu1 (J.r (j_var 0)) (J.r (j_var 1))) (ja_nil)))⟩)) (ja1_nil))))
theorem sc_picked : FnScope ["row", "number", "left", "letter", "many"] ["row", "number"] (defScope (topS 36)) := ⟨rfl, rfl, rfl, by decide +kernel, rfl, by decide +kernel, by decide +kernel⟩
theorem ok_picked (T : Top K mg) : FnOk P w K mg base (L2.CX P w) 1 T.f_picked T.fd_picked ["row", "number"] (spD K (clE T.er) 2 g_picked) := by
  refine fok T.F_picked sc_picked rfl rfl fun cdv A outer s H E hr => ?_
  have nd := sc_picked.nd
  have hu64 := hr.units
  have hu65 := hu65_of hr
  have hu1 := hu_of hr
  exact js_cons (js_set nd (j_op o_mod (J.r (j_var 1)) (J.r (j_b (c_sum rfl) T.z_sum PyProof.Rows.boot_sum (ja1_cons (JF.r (jf_lcE (own := [("letter", 3), ("many", 4)]) rfl nd (j_var 0) ⟨blkOk_by (own := [("letter", 3), ("many", 4)]) (by first | (show blkC ["row", "number", "left", "letter", "many"] (defScope (topS 36)) _ _ = true; decide +kernel) | rfl), fun _ _ _ _ _ => jg_tK (K := K) rfl rfl (jgs_cons nd (jgs_cons nd (jgs_nil))), fun _ _ _ _ _ => jifs_nil, fun _ _ _ _ _ => j_var 4⟩)) (ja1_nil)))))) (js_cons (js_forE passes_D rfl bdT_ok (j_var 0) (jg_tK (K := K) rfl rfl (jgs_cons nd (jgs_cons nd (jgs_nil)))) (js_cons (js_if (jt_cmp o_lt (J.r (j_var 2)) (J.r (j_var 4))) (js_one (js_ret (j_var 3))) (js_nil)) (js_one (js_set nd (j_op o_sub (J.r (j_var 2)) (J.r (j_var 4))))))) (js_one (js_ret (j_str))))
theorem sc_one_drawn : FnScope ["rows", "order", "numbers", "text", "at", "number", "letter"] ["rows", "order", "numbers"] (defScope (topS 37)) := ⟨rfl, rfl, rfl, by decide +kernel, rfl, by decide +kernel, by decide +kernel⟩
theorem ok_one_drawn (T : Top K mg) : FnOk P w K mg base (L2.CX P w) 2 T.f_one_drawn T.fd_one_drawn ["rows", "order", "numbers"] (spD K (clE T.er) 3 g_one_drawn) := by
  refine fok T.F_one_drawn sc_one_drawn rfl rfl fun cdv A outer s H E hr => ?_
  have nd := sc_one_drawn.nd
  have hu64 := hr.units
  have hu65 := hu65_of hr
  have hu1 := hu_of hr
  exact js_cons (js_set nd (j_str)) (js_cons (js_forI passes_D rfl bdT_ok (ji_en T.z_enumerate (j_var 2)) (jg_tK (K := K) rfl rfl (jgs_cons nd (jgs_cons nd (jgs_nil)))) (js_cons (js_set nd (j_call (ok_picked T) (hr.mono (by decide)) T.m_picked T.F_picked.kp T.b_picked takes_D (ja_cons (j_call (ok_listed T) (hr.mono (by decide)) T.m_listed T.F_listed.kp T.b_listed takes_D (ja_cons (j_ix hu1 (J.r (j_var 0)) (J.r (j_call (ok_end_of T) (hr.mono (by decide)) T.m_end_of T.F_end_of.kp T.b_end_of takes_D (ja_cons (j_var 1) (ja_cons (j_var 3) (ja_nil))) (bCons_len (bCons_len bNil_len))))) (ja_nil)) (bCons_len bNil_len)) (ja_cons (j_var 5) (ja_nil))) (bCons_len (bCons_len bNil_len)))) (js_cons (js_if (jt_cmp (o_eq hu64) (J.r (j_var 6)) (J.r (j_str))) (js_one (js_ret (j_tup (ja_cons (j_var 3) (ja_cons (j_op o_add (J.r (j_var 4)) (J.r (j_int))) (ja_nil)))))) (js_nil)) (js_one (js_set nd (j_op o_add (J.r (j_var 3)) (J.r (j_var 6)))))))) (js_one (js_ret (j_non))))
theorem sc_fitting_of : FnScope ["book", "order", "wish", "numbers", "rows", "taken", "found"] ["book", "order", "wish", "numbers"] (defScope (topS 40)) := ⟨rfl, rfl, rfl, by decide +kernel, rfl, by decide +kernel, by decide +kernel⟩
theorem ok_fitting_of (T : Top K mg) : FnOk P w K mg base (L2.CX P w) 3 T.f_fitting_of T.fd_fitting_of ["book", "order", "wish", "numbers"] (spD K (clE T.er) 4 g_fitting_of) := by
  refine fok T.F_fitting_of sc_fitting_of rfl rfl fun cdv A outer s H E hr => ?_
  have nd := sc_fitting_of.nd
  have hu64 := hr.units
  have hu65 := hu65_of hr
  have hu1 := hu_of hr
  exact js_cons (js_set nd (j_call (ok_counted T) (hr.mono (by decide)) T.m_counted T.F_counted.kp T.b_counted takes_D (ja_cons (j_var 0) (ja_cons (j_var 1) (ja_nil))) (bCons_len (bCons_len bNil_len)))) (js_cons (js_set nd (j_int)) (js_cons (js_set nd (j_call (ok_one_drawn T) (hr.mono (by decide)) T.m_one_drawn T.F_one_drawn.kp T.b_one_drawn takes_D (ja_cons (j_var 4) (ja_cons (j_var 1) (ja_cons (JF.v (jf_ty c_list T.z_list PyProof.Rows.boot_list (ja1_cons (J.r (j_var 3)) (ja1_nil)))) (ja_nil)))) (bCons_len (bCons_len (bCons_len bNil_len))))) (js_cons (js_while passes_D (jt_cmp o_notN (J.r (j_var 6)) (J.r (j_non))) (js_cons (js_set nd (j_op o_add (J.r (j_var 5)) (J.r (j_ix hu1 (J.r (j_var 6)) (J.r (j_int)))))) (js_cons (js_if (jt_val (j_call (ok_is_fit T) (hr.mono (by decide)) T.m_is_fit T.F_is_fit.kp T.b_is_fit takes_D (ja_cons (j_var 0) (ja_cons (j_var 2) (ja_cons (j_ix hu1 (J.r (j_var 6)) (J.r (j_int))) (ja_nil)))) (bCons_len (bCons_len (bCons_len bNil_len))))) (js_one (js_ret (j_tup (ja_cons (j_ix hu1 (J.r (j_var 6)) (J.r (j_int))) (ja_cons (j_var 5) (ja_nil)))))) (js_nil)) (js_one (js_set nd (j_call (ok_one_drawn T) (hr.mono (by decide)) T.m_one_drawn T.F_one_drawn.kp T.b_one_drawn takes_D (ja_cons (j_var 4) (ja_cons (j_var 1) (ja_cons (j_slice (JF.r (jf_ty c_list T.z_list PyProof.Rows.boot_list (ja1_cons (J.r (j_var 3)) (ja1_nil)))) (jo_some (J.r (j_var 5))) (jo_none)) (ja_nil)))) (bCons_len (bCons_len (bCons_len bNil_len))))))))) (js_one (js_raise (cl := clE T.er) (c := 6) (C := T.er.e 6) rfl (T.er.x 6 (by decide)) rfl takes_D)))))
theorem sc_is_name : FnScope ["thing", "sign"] ["thing"] (defScope (topS 15)) := ⟨rfl, rfl, rfl, by decide +kernel, rfl, by decide +kernel, by decide +kernel⟩
theorem ok_is_name (T : Top K mg) : FnOk P w K mg base (L2.CX P w) 1 T.f_is_name T.fd_is_name ["thing"] (spD K (clE T.er) 1 g_is_name) := by
  refine fok T.F_is_name sc_is_name rfl rfl fun cdv A outer s H E hr => ?_
  have nd := sc_is_name.nd
  have hu64 := hr.units
  have hu65 := hu65_of hr
  have hu1 := hu_of hr
  exact js_one (js_ret (j_and (j_isi .str (J.r (j_var 0)) PyProof.Rows.boot_str T.z_isinstance T.z_str) (j_and (j_chain o_le o_le (J.r (j_int)) (J.r (j_b c_len T.z_len PySem.boot_len (ja1_cons (J.r (j_var 0)) (ja1_nil)))) (J.r (j_globI T.g_MOST_LETTERS))) (j_one (j_b (c_all rfl) T.z_all PyProof.Rows.boot_all (ja1_cons (JF.r (jf_lcE (own := [("sign", 1)]) rfl nd (j_var 0) ⟨blkOk_by (own := [("sign", 1)]) (by first | (show blkC ["thing", "sign"] (defScope (topS 15)) _ _ = true; decide +kernel) | rfl), fun _ _ _ _ _ => jg_n nd, fun _ _ _ _ _ => jifs_nil, fun _ _ _ _ _ => j_cmp (o_in hu65) (J.r (j_var 1)) (J.r (j_globS T.g_LETTERS))⟩)) (ja1_nil)))))))
theorem sc_is_book : FnScope ["thing", "one"] ["thing"] (defScope (topS 16)) := ⟨rfl, rfl, rfl, by decide +kernel, rfl, by decide +kernel, by decide +kernel⟩
theorem ok_is_book (T : Top K mg) : FnOk P w K mg base (L2.CX P w) 2 T.f_is_book T.fd_is_book ["thing"] (spD K (clE T.er) 1 g_is_book) := by
  refine fok T.F_is_book sc_is_book rfl rfl fun cdv A outer s H E hr => ?_
  have nd := sc_is_book.nd
  have hu64 := hr.units
  have hu65 := hu65_of hr
  have hu1 := hu_of hr
  exact js_one (js_ret (j_and (j_isi .tup (J.r (j_var 0)) PyProof.Rows.boot_tuple T.z_isinstance T.z_tuple) (j_and (j_chain o_le o_le (J.r (j_int)) (J.r (j_b c_len T.z_len PySem.boot_len (ja1_cons (J.r (j_var 0)) (ja1_nil)))) (J.r (j_globI T.g_MOST_NAMES))) (j_one (j_b (c_all rfl) T.z_all PyProof.Rows.boot_all (ja1_cons (JF.r (jf_lcE (own := [("one", 1)]) rfl nd (j_var 0) ⟨blkOk_by (own := [("one", 1)]) (by first | (show blkC ["thing", "one"] (defScope (topS 16)) _ _ = true; decide +kernel) | rfl), fun _ _ _ _ _ => jg_n nd, fun _ _ _ _ _ => jifs_nil, fun _ _ _ _ _ => j_call (ok_is_name T) (hr.mono (by decide)) T.m_is_name T.F_is_name.kp T.b_is_name takes_W0 (ja_cons (j_var 1) (ja_nil)) (bCons_len bNil_len)⟩)) (ja1_nil)))))))
theorem sc_need_book : FnScope ["book"] ["book"] (defScope (topS 17)) := ⟨rfl, rfl, rfl, by decide +kernel, rfl, by decide +kernel, by decide +kernel⟩
theorem ok_need_book (T : Top K mg) : FnOk P w K mg base (L2.CX P w) 3 T.f_need_book T.fd_need_book ["book"] (spD K (clE T.er) 1 g_need_book) := by
  refine fok T.F_need_book sc_need_book rfl rfl fun cdv A outer s H E hr => ?_
  have nd := sc_need_book.nd
  have hu64 := hr.units
  have hu65 := hu65_of hr
  have hu1 := hu_of hr
  exact js_one (js_if (jt_not (jt_val (j_call (ok_is_book T) (hr.mono (by decide)) T.m_is_book T.F_is_book.kp T.b_is_book takes_D (ja_cons (j_var 0) (ja_nil)) (bCons_len bNil_len)))) (js_one (js_raise (cl := clE T.er) (c := 0) (C := T.er.e 0) rfl (T.er.x 0 (by decide)) rfl takes_D)) (js_nil))
theorem sc_are_numbers : FnScope ["thing", "one"] ["thing"] (defScope (topS 34)) := ⟨rfl, rfl, rfl, by decide +kernel, rfl, by decide +kernel, by decide +kernel⟩
theorem ok_are_numbers (T : Top K mg) : FnOk P w K mg base (L2.CX P w) 1 T.f_are_numbers T.fd_are_numbers ["thing"] (spD K (clE T.er) 1 g_are_numbers) := by
  refine fok T.F_are_numbers sc_are_numbers rfl rfl fun cdv A outer s H E hr => ?_
  have nd := sc_are_numbers.nd
  have hu64 := hr.units
  have hu65 := hu65_of hr
  have hu1 := hu_of hr
  exact js_cons (js_if (JW.t (jw_or (jt_not (jt_val (j_isi2 .lst .tup (J.r (j_var 0)) PyProof.Rows.boot_list PyProof.Rows.boot_tuple T.z_isinstance T.z_list T.z_tuple))) (jw_or1 (jt_cmp o_gt (J.r (j_b c_len T.z_len PySem.boot_len (ja1_cons (J.r (j_var 0)) (ja1_nil)))) (J.r (j_int)))))) (js_one (js_ret (j_bl))) (js_nil)) (js_one (js_ret (j_b (c_all rfl) T.z_all PyProof.Rows.boot_all (ja1_cons (JF.r (jf_lcE (own := [("one", 1)]) rfl nd (j_var 0) ⟨blkOk_by (own := [("one", 1)]) (by first | (show blkC ["thing", "one"] (defScope (topS 34)) _ _ = true; decide +kernel) | rfl), fun _ _ _ _ _ => jg_n nd, fun _ _ _ _ _ => jifs_nil, fun _ _ _ _ _ => j_and (j_isi .int (J.r (j_var 1)) PyProof.Rows.boot_int T.z_isinstance T.z_int) (j_and (j_not (J.r (j_isi .bool (J.r (j_var 1)) PyProof.Rows.boot_bool T.z_isinstance T.z_bool))) (j_one (j_chain o_le o_le (J.r (j_int)) (J.r (j_var 1)) (J.r (j_globI T.g_MOST_PICK)))))⟩)) (ja1_nil)))))
theorem sc_need_numbers : FnScope ["numbers"] ["numbers"] (defScope (topS 35)) := ⟨rfl, rfl, rfl, by decide +kernel, rfl, by decide +kernel, by decide +kernel⟩
theorem ok_need_numbers (T : Top K mg) : FnOk P w K mg base (L2.CX P w) 2 T.f_need_numbers T.fd_need_numbers ["numbers"] (spD K (clE T.er) 1 g_need_numbers) := by
  refine fok T.F_need_numbers sc_need_numbers rfl rfl fun cdv A outer s H E hr => ?_
  have nd := sc_need_numbers.nd
  have hu64 := hr.units
  have hu65 := hu65_of hr
  have hu1 := hu_of hr
  exact js_one (js_if (jt_not (jt_val (j_call (ok_are_numbers T) (hr.mono (by decide)) T.m_are_numbers T.F_are_numbers.kp T.b_are_numbers takes_D (ja_cons (j_var 0) (ja_nil)) (bCons_len bNil_len)))) (js_one (js_raise (cl := clE T.er) (c := 4) (C := T.er.e 4) rfl (T.er.x 4 (by decide)) rfl takes_D)) (js_nil))
theorem sc_is_number : FnScope ["thing", "low", "high"] ["thing", "low", "high"] (defScope (topS 14)) := ⟨rfl, rfl, rfl, by decide +kernel, rfl, by decide +kernel, by decide +kernel⟩
theorem ok_is_number (T : Top K mg) : FnOk P w K mg base (L2.CX P w) 1 T.f_is_number T.fd_is_number ["thing", "low", "high"] (spD K (clE T.er) 3 g_is_number) := by
  refine fok T.F_is_number sc_is_number rfl rfl fun cdv A outer s H E hr => ?_
  have nd := sc_is_number.nd
  have hu64 := hr.units
  have hu65 := hu65_of hr
  have hu1 := hu_of hr
  exact js_one (js_ret (j_and (j_isi .int (J.r (j_var 0)) PyProof.Rows.boot_int T.z_isinstance T.z_int) (j_and (j_not (J.r (j_isi .bool (J.r (j_var 0)) PyProof.Rows.boot_bool T.z_isinstance T.z_bool))) (j_one (j_chain o_le o_le (J.r (j_var 1)) (J.r (j_var 0)) (J.r (j_var 2)))))))
theorem sc_need_order : FnScope ["order"] ["order"] (defScope (topS 18)) := ⟨rfl, rfl, rfl, by decide +kernel, rfl, by decide +kernel, by decide +kernel⟩
theorem ok_need_order (T : Top K mg) : FnOk P w K mg base (L2.CX P w) 2 T.f_need_order T.fd_need_order ["order"] (spD K (clE T.er) 1 g_need_order) := by
  refine fok T.F_need_order sc_need_order rfl rfl fun cdv A outer s H E hr => ?_
  have nd := sc_need_order.nd
  have hu64 := hr.units
  have hu65 := hu65_of hr
  have hu1 := hu_of hr
  exact js_one (js_if (jt_not (jt_val (j_call (ok_is_number T) (hr.mono (by decide)) T.m_is_number T.F_is_number.kp T.b_is_number takes_D (ja_cons (j_var 0) (ja_cons (j_int) (ja_cons (j_globI T.g_MOST_ORDER) (ja_nil)))) (bCons_len (bCons_len (bCons_len bNil_len)))))) (js_one (js_raise (cl := clE T.er) (c := 1) (C := T.er.e 1) rfl (T.er.x 1 (by decide)) rfl takes_D)) (js_nil))
theorem sc_is_end : FnScope ["thing", "sign"] ["thing"] (defScope (topS 27)) := ⟨rfl, rfl, rfl, by decide +kernel, rfl, by decide +kernel, by decide +kernel⟩
theorem ok_is_end (T : Top K mg) : FnOk P w K mg base (L2.CX P w) 1 T.f_is_end T.fd_is_end ["thing"] (spD K (clE T.er) 1 g_is_end) := by
  refine fok T.F_is_end sc_is_end rfl rfl fun cdv A outer s H E hr => ?_
  have nd := sc_is_end.nd
  have hu64 := hr.units
  have hu65 := hu65_of hr
  have hu1 := hu_of hr
  exact js_one (js_ret (j_and (j_isi .str (J.r (j_var 0)) PyProof.Rows.boot_str T.z_isinstance T.z_str) (j_and (j_cmp o_le (J.r (j_b c_len T.z_len PySem.boot_len (ja1_cons (J.r (j_var 0)) (ja1_nil)))) (J.r (j_globI T.g_MOST_ENDS))) (j_one (j_b (c_all rfl) T.z_all PyProof.Rows.boot_all (ja1_cons (JF.r (jf_lcE (own := [("sign", 1)]) rfl nd (j_var 0) ⟨blkOk_by (own := [("sign", 1)]) (by first | (show blkC ["thing", "sign"] (defScope (topS 27)) _ _ = true; decide +kernel) | rfl), fun _ _ _ _ _ => jg_n nd, fun _ _ _ _ _ => jifs_nil, fun _ _ _ _ _ => j_cmp (o_in hu65) (J.r (j_var 1)) (J.r (j_globS T.g_LETTERS))⟩)) (ja1_nil)))))))
theorem sc_is_wish : FnScope ["thing", "one", "other"] ["thing"] (defScope (topS 28)) := ⟨rfl, rfl, rfl, by decide +kernel, rfl, by decide +kernel, by decide +kernel⟩
theorem ok_is_wish (T : Top K mg) : FnOk P w K mg base (L2.CX P w) 2 T.f_is_wish T.fd_is_wish ["thing"] (spD K (clE T.er) 1 g_is_wish) := by
  refine fok T.F_is_wish sc_is_wish rfl rfl fun cdv A outer s H E hr => ?_
  have nd := sc_is_wish.nd
  have hu64 := hr.units
  have hu65 := hu65_of hr
  have hu1 := hu_of hr
  exact js_cons (js_if (JW.t (jw_or (jt_not (jt_val (j_isi .tup (J.r (j_var 0)) PyProof.Rows.boot_tuple T.z_isinstance T.z_tuple))) (jw_or (jt_cmp (o_ne hu64) (J.r (j_b c_len T.z_len PySem.boot_len (ja1_cons (J.r (j_var 0)) (ja1_nil)))) (J.r (j_int))) (jw_or1 (jt_not (jt_val (j_call (ok_is_number T) (hr.mono (by decide)) T.m_is_number T.F_is_number.kp T.b_is_number takes_D (ja_cons (j_ix hu1 (J.r (j_var 0)) (J.r (j_int))) (ja_cons (j_int) (ja_cons (j_int) (ja_nil)))) (bCons_len (bCons_len (bCons_len bNil_len)))))))))) (js_one (js_ret (j_bl))) (js_nil)) (js_cons (js_if (JW.t (jw_or (jt_not (jt_val (j_call (ok_is_number T) (hr.mono (by decide)) T.m_is_number T.F_is_number.kp T.b_is_number takes_D (ja_cons (j_ix hu1 (J.r (j_var 0)) (J.r (j_int))) (ja_cons (j_ix hu1 (J.r (j_var 0)) (J.r (j_int))) (ja_cons (j_int) (ja_nil)))) (bCons_len (bCons_len (bCons_len bNil_len)))))) (jw_or (jt_not (jt_val (j_call (ok_is_end T) (hr.mono (by decide)) T.m_is_end T.F_is_end.kp T.b_is_end takes_D (ja_cons (j_ix hu1 (J.r (j_var 0)) (J.r (j_int))) (ja_nil)) (bCons_len bNil_len)))) (jw_or1 (jt_not (jt_val (j_call (ok_is_end T) (hr.mono (by decide)) T.m_is_end T.F_is_end.kp T.b_is_end takes_D (ja_cons (j_ix hu1 (J.r (j_var 0)) (J.r (j_int))) (ja_nil)) (bCons_len bNil_len)))))))) (js_one (js_ret (j_bl))) (js_nil)) (js_cons (js_if (JW.t (jw_or (jt_not (jt_val (j_isi .tup (J.r (j_ix hu1 (J.r (j_var 0)) (J.r (j_int)))) PyProof.Rows.boot_tuple T.z_isinstance T.z_tuple))) (jw_or (jt_cmp o_gt (J.r (j_b c_len T.z_len PySem.boot_len (ja1_cons (J.r (j_ix hu1 (J.r (j_var 0)) (J.r (j_int)))) (ja1_nil)))) (J.r (j_globI T.g_MOST_BARRED))) (jw_or1 (jt_not (jt_val (j_b (c_all rfl) T.z_all PyProof.Rows.boot_all (ja1_cons (JF.r (jf_lcE (own := [("one", 1)]) rfl nd (j_ix hu1 (J.r (j_var 0)) (J.r (j_int))) ⟨blkOk_by (own := [("one", 1)]) (by first | (show blkC ["thing", "one", "other"] (defScope (topS 28)) _ _ = true; decide +kernel) | rfl), fun _ _ _ _ _ => jg_n nd, fun _ _ _ _ _ => jifs_nil, fun _ _ _ _ _ => j_call (ok_is_name T) (hr.mono (by decide)) T.m_is_name T.F_is_name.kp T.b_is_name takes_W0 (ja_cons (j_var 1) (ja_nil)) (bCons_len bNil_len)⟩)) (ja1_nil))))))))) (js_one (js_ret (j_bl))) (js_nil)) (js_one (js_ret (j_and (j_b (c_all rfl) T.z_all PyProof.Rows.boot_all (ja1_cons (JF.r (jf_lcI (own := [("one", 1), ("other", 2)]) rfl nd (ji_zpA T.z_zip (j_ix hu1 (J.r (j_var 0)) (J.r (j_int))) (j_slice (J.r (j_ix hu1 (J.r (j_var 0)) (J.r (j_int)))) (jo_some (J.r (j_int))) (jo_none))) ⟨blkOk_by (own := [("one", 1), ("other", 2)]) (by first | (show blkC ["thing", "one", "other"] (defScope (topS 28)) _ _ = true; decide +kernel) | rfl), fun _ _ _ _ _ => jg_tK (K := K) rfl rfl (jgs_cons nd (jgs_cons nd (jgs_nil))), fun _ _ _ _ _ => jifs_nil, fun _ _ _ _ _ => j_cmp o_lt (J.r (j_var 1)) (J.r (j_var 2))⟩)) (ja1_nil))) (j_one (j_isi .bool (J.r (j_ix hu1 (J.r (j_var 0)) (J.r (j_int)))) PyProof.Rows.boot_bool T.z_isinstance T.z_bool)))))))
theorem sc_need_wish : FnScope ["wish"] ["wish"] (defScope (topS 29)) := ⟨rfl, rfl, rfl, by decide +kernel, rfl, by decide +kernel, by decide +kernel⟩
theorem ok_need_wish (T : Top K mg) : FnOk P w K mg base (L2.CX P w) 3 T.f_need_wish T.fd_need_wish ["wish"] (spD K (clE T.er) 1 g_need_wish) := by
  refine fok T.F_need_wish sc_need_wish rfl rfl fun cdv A outer s H E hr => ?_
  have nd := sc_need_wish.nd
  have hu64 := hr.units
  have hu65 := hu65_of hr
  have hu1 := hu_of hr
  exact js_one (js_if (jt_not (jt_val (j_call (ok_is_wish T) (hr.mono (by decide)) T.m_is_wish T.F_is_wish.kp T.b_is_wish takes_D (ja_cons (j_var 0) (ja_nil)) (bCons_len bNil_len)))) (js_one (js_raise (cl := clE T.er) (c := 3) (C := T.er.e 3) rfl (T.er.x 3 (by decide)) rfl takes_D)) (js_nil))
theorem sc_drawn_fitting : FnScope ["book", "order", "wish", "numbers"] ["book", "order", "wish", "numbers"] (defScope (topS 39)) := ⟨rfl, rfl, rfl, by decide +kernel, rfl, by decide +kernel, by decide +kernel⟩
theorem ok_drawn_fitting (T : Top K mg) : FnOk P w K mg base (L2.CX P w) 4 T.f_drawn_fitting T.fd_drawn_fitting ["book", "order", "wish", "numbers"] (spD K (clE T.er) 4 g_drawn_fitting) := by
  refine fok T.F_drawn_fitting sc_drawn_fitting rfl rfl fun cdv A outer s H E hr => ?_
  have nd := sc_drawn_fitting.nd
  have hu64 := hr.units
  have hu65 := hu65_of hr
  have hu1 := hu_of hr
  exact js_cons (js_expr (j_call (ok_need_book T) (hr.mono (by decide)) T.m_need_book T.F_need_book.kp T.b_need_book takes_D (ja_cons (j_var 0) (ja_nil)) (bCons_len bNil_len))) (js_cons (js_expr (j_call (ok_need_order T) (hr.mono (by decide)) T.m_need_order T.F_need_order.kp T.b_need_order takes_D (ja_cons (j_var 1) (ja_nil)) (bCons_len bNil_len))) (js_cons (js_expr (j_call (ok_need_wish T) (hr.mono (by decide)) T.m_need_wish T.F_need_wish.kp T.b_need_wish takes_D (ja_cons (j_var 2) (ja_nil)) (bCons_len bNil_len))) (js_cons (js_expr (j_call (ok_need_numbers T) (hr.mono (by decide)) T.m_need_numbers T.F_need_numbers.kp T.b_need_numbers takes_D (ja_cons (j_var 3) (ja_nil)) (bCons_len bNil_len))) (js_one (js_ret (j_call (ok_fitting_of T) (hr.mono (by decide)) T.m_fitting_of T.F_fitting_of.kp T.b_fitting_of takes_D (ja_cons (j_var 0) (ja_cons (j_var 1) (ja_cons (j_var 2) (ja_cons (j_var 3) (ja_nil))))) (bCons_len (bCons_len (bCons_len (bCons_len bNil_len))))))))))
theorem sc__law_fitting : FnScope ["_law_book_here", "_law_order", "_law_wish_here", "_law_numbers"] ["_law_book_here", "_law_order", "_law_wish_here", "_law_numbers"] (defScope (topS 57)) := ⟨rfl, rfl, rfl, by decide +kernel, rfl, by decide +kernel, by decide +kernel⟩
theorem ok__law_fitting (T : Top K mg) : FnOk P w K mg base (L2.CX P w) 5 T.f__law_fitting T.fd__law_fitting ["_law_book_here", "_law_order", "_law_wish_here", "_law_numbers"] (spD K (clE T.er) 4 g__law_fitting) := by
  refine fok T.F__law_fitting sc__law_fitting rfl rfl fun cdv A outer s H E hr => ?_
  have nd := sc__law_fitting.nd
  have hu64 := hr.units
  have hu65 := hu65_of hr
  have hu1 := hu_of hr
  exact js_one (js_tryN (cl := clE T.er) (c0 := 6) (T.er.exo 6 6 (by decide) (by decide)) (T.er.x 6 (by decide)).g (fun pn xe Wn tk hp => js_one (js_ret (j_call (ok_drawn_fitting T) (hr.mono (by decide)) T.m_drawn_fitting T.F_drawn_fitting.kp T.b_drawn_fitting tk (ja_cons (j_var 0) (ja_cons (j_var 1) (ja_cons (j_var 2) (ja_cons (j_var 3) (ja_nil))))) (bCons_len (bCons_len (bCons_len (bCons_len bNil_len))))))))
theorem sc_drawn : FnScope ["book", "order", "numbers", "found"] ["book", "order", "numbers"] (defScope (topS 38)) := ⟨rfl, rfl, rfl, by decide +kernel, rfl, by decide +kernel, by decide +kernel⟩
theorem ok_drawn (T : Top K mg) : FnOk P w K mg base (L2.CX P w) 4 T.f_drawn T.fd_drawn ["book", "order", "numbers"] (spD K (clE T.er) 3 g_drawn) := by
  refine fok T.F_drawn sc_drawn rfl rfl fun cdv A outer s H E hr => ?_
  have nd := sc_drawn.nd
  have hu64 := hr.units
  have hu65 := hu65_of hr
  have hu1 := hu_of hr
  exact js_cons (js_expr (j_call (ok_need_book T) (hr.mono (by decide)) T.m_need_book T.F_need_book.kp T.b_need_book takes_D (ja_cons (j_var 0) (ja_nil)) (bCons_len bNil_len))) (js_cons (js_expr (j_call (ok_need_order T) (hr.mono (by decide)) T.m_need_order T.F_need_order.kp T.b_need_order takes_D (ja_cons (j_var 1) (ja_nil)) (bCons_len bNil_len))) (js_cons (js_expr (j_call (ok_need_numbers T) (hr.mono (by decide)) T.m_need_numbers T.F_need_numbers.kp T.b_need_numbers takes_D (ja_cons (j_var 2) (ja_nil)) (bCons_len bNil_len))) (js_cons (js_set nd (j_call (ok_one_drawn T) (hr.mono (by decide)) T.m_one_drawn T.F_one_drawn.kp T.b_one_drawn takes_D (ja_cons (j_call (ok_counted T) (hr.mono (by decide)) T.m_counted T.F_counted.kp T.b_counted takes_D (ja_cons (j_var 0) (ja_cons (j_var 1) (ja_nil))) (bCons_len (bCons_len bNil_len))) (ja_cons (j_var 1) (ja_cons (JF.v (jf_ty c_list T.z_list PyProof.Rows.boot_list (ja1_cons (J.r (j_var 2)) (ja1_nil)))) (ja_nil)))) (bCons_len (bCons_len (bCons_len bNil_len))))) (js_cons (js_if (jt_cmp o_isN (J.r (j_var 3)) (J.r (j_non))) (js_one (js_raise (cl := clE T.er) (c := 6) (C := T.er.e 6) rfl (T.er.x 6 (by decide)) rfl takes_D)) (js_nil)) (js_one (js_ret (j_var 3)))))))
theorem sc__law_text : FnScope ["_law_book_here", "_law_order", "_law_numbers"] ["_law_book_here", "_law_order", "_law_numbers"] (defScope (topS 56)) := ⟨rfl, rfl, rfl, by decide +kernel, rfl, by decide +kernel, by decide +kernel⟩
theorem ok__law_text (T : Top K mg) : FnOk P w K mg base (L2.CX P w) 5 T.f__law_text T.fd__law_text ["_law_book_here", "_law_order", "_law_numbers"] (spD K (clE T.er) 3 g__law_text) := by
  refine fok T.F__law_text sc__law_text rfl rfl fun cdv A outer s H E hr => ?_
  have nd := sc__law_text.nd
  have hu64 := hr.units
  have hu65 := hu65_of hr
  have hu1 := hu_of hr
  exact js_one (js_tryN (cl := clE T.er) (c0 := 6) (T.er.exo 6 6 (by decide) (by decide)) (T.er.x 6 (by decide)).g (fun pn xe Wn tk hp => js_one (js_ret (j_call (ok_drawn T) (hr.mono (by decide)) T.m_drawn T.F_drawn.kp T.b_drawn tk (ja_cons (j_var 0) (ja_cons (j_var 1) (ja_cons (j_var 2) (ja_nil)))) (bCons_len (bCons_len (bCons_len bNil_len)))))))
theorem sc_need_name : FnScope ["name"] ["name"] (defScope (topS 19)) := ⟨rfl, rfl, rfl, by decide +kernel, rfl, by decide +kernel, by decide +kernel⟩
theorem ok_need_name (T : Top K mg) : FnOk P w K mg base (L2.CX P w) 2 T.f_need_name T.fd_need_name ["name"] (spD K (clE T.er) 1 g_need_name) := by
  refine fok T.F_need_name sc_need_name rfl rfl fun cdv A outer s H E hr => ?_
  have nd := sc_need_name.nd
  have hu64 := hr.units
  have hu65 := hu65_of hr
  have hu1 := hu_of hr
  exact js_one (js_if (jt_not (jt_val (j_call (ok_is_name T) (hr.mono (by decide)) T.m_is_name T.F_is_name.kp T.b_is_name takes_D (ja_cons (j_var 0) (ja_nil)) (bCons_len bNil_len)))) (js_one (js_raise (cl := clE T.er) (c := 2) (C := T.er.e 2) rfl (T.er.x 2 (by decide)) rfl takes_D)) (js_nil))
theorem sc_lowest : FnScope ["up", "down", "one", "other"] ["up", "down"] (defScope (topS 43)) := ⟨rfl, rfl, rfl, by decide +kernel, rfl, by decide +kernel, by decide +kernel⟩
theorem ok_lowest (T : Top K mg) : FnOk P w K mg base (L2.CX P w) 1 T.f_lowest T.fd_lowest ["up", "down"] (spD K (clE T.er) 2 g_lowest) := by
  refine fok T.F_lowest sc_lowest rfl rfl fun cdv A outer s H E hr => ?_
  have nd := sc_lowest.nd
  have hu64 := hr.units
  have hu65 := hu65_of hr
  have hu1 := hu_of hr
  exact js_cons (js_set nd (j_var 0)) (js_cons (js_set nd (j_var 1)) (js_cons (js_while passes_D (jt_cmp o_gt (J.r (j_var 2)) (J.r (j_int))) (js_one (js_par rfl nd (by decide) (j_op o_mod (J.r (j_var 3)) (J.r (j_var 2))) (j_var 2)))) (js_one (js_ret (j_tup (ja_cons (j_op o_div (J.r (j_var 0)) (J.r (j_var 3))) (ja_cons (j_op o_div (J.r (j_var 1)) (J.r (j_var 3))) (ja_nil))))))))
theorem sc_part_of : FnScope ["rows", "context", "letter", "row", "one"] ["rows", "context", "letter"] (defScope (topS 45)) := ⟨rfl, rfl, rfl, by decide +kernel, rfl, by decide +kernel, by decide +kernel⟩
theorem ok_part_of (T : Top K mg) : FnOk P w K mg base (L2.CX P w) 2 T.f_part_of T.fd_part_of ["rows", "context", "letter"] (spD K (clE T.er) 3 g_part_of) := by
  refine fok T.F_part_of sc_part_of rfl rfl fun cdv A outer s H E hr => ?_
  have nd := sc_part_of.nd
  have hu64 := hr.units
  have hu65 := hu65_of hr
  have hu1 := hu_of hr
  exact js_cons (js_set nd (j_get hu1 (J.r (j_var 0)) (j_var 1) (JF.v (jf_dic0)))) (js_cons (js_if (jt_cmp (o_notin hu65) (J.r (j_var 2)) (J.r (j_var 3))) (js_one (js_ret (j_tup (ja_cons (j_int) (ja_cons (j_int) (ja_nil)))))) (js_nil)) (js_one (js_ret (j_call (ok_lowest T) (hr.mono (by decide)) T.m_lowest T.F_lowest.kp T.b_lowest takes_D (ja_cons (j_ix hu1 (J.r (j_var 3)) (J.r (j_var 2))) (ja_cons (j_b (c_sum rfl) T.z_sum PyProof.Rows.boot_sum (ja1_cons (JF.r (jf_lcE (own := [("one", 4)]) rfl nd (j_var 3) ⟨blkOk_by (own := [("one", 4)]) (by first | (show blkC ["rows", "context", "letter", "row", "one"] (defScope (topS 45)) _ _ = true; decide +kernel) | rfl), fun _ _ _ _ _ => jg_n nd, fun _ _ _ _ _ => jifs_nil, fun _ _ _ _ _ => j_ix hu1 (J.r (j_var 3)) (J.r (j_var 4))⟩)) (ja1_nil))) (ja_nil))) (bCons_len (bCons_len bNil_len))))))
theorem sc_steps : FnScope ["book", "order", "name", "rows", "found", "size", "context", "letter"] ["book", "order", "name"] (defScope (topS 46)) := ⟨rfl, rfl, rfl, by decide +kernel, rfl, by decide +kernel, by decide +kernel⟩
theorem ok_steps (T : Top K mg) : FnOk P w K mg base (L2.CX P w) 4 T.f_steps T.fd_steps ["book", "order", "name"] (spD K (clE T.er) 3 g_steps) := by
  refine fok T.F_steps sc_steps rfl rfl fun cdv A outer s H E hr => ?_
  have nd := sc_steps.nd
  have hu64 := hr.units
  have hu65 := hu65_of hr
  have hu1 := hu_of hr
  exact js_cons (js_expr (j_call (ok_need_book T) (hr.mono (by decide)) T.m_need_book T.F_need_book.kp T.b_need_book takes_D (ja_cons (j_var 0) (ja_nil)) (bCons_len bNil_len))) (js_cons (js_expr (j_call (ok_need_order T) (hr.mono (by decide)) T.m_need_order T.F_need_order.kp T.b_need_order takes_D (ja_cons (j_var 1) (ja_nil)) (bCons_len bNil_len))) (js_cons (js_expr (j_call (ok_need_name T) (hr.mono (by decide)) T.m_need_name T.F_need_name.kp T.b_need_name takes_D (ja_cons (j_var 2) (ja_nil)) (bCons_len bNil_len))) (js_cons (js_set nd (j_call (ok_counted T) (hr.mono (by decide)) T.m_counted T.F_counted.kp T.b_counted takes_D (ja_cons (j_var 0) (ja_cons (j_var 1) (ja_nil))) (bCons_len (bCons_len bNil_len)))) (js_cons (js_own nd (jf_lst (ja_nil))) (js_cons (js_forI passes_D rfl bdN_ok (ji_r1 T.z_range (j_op o_add (J.r (j_b c_len T.z_len PySem.boot_len (ja1_cons (J.r (j_var 2)) (ja1_nil)))) (J.r (j_int)))) (jg_n nd) (js_cons (js_set nd (j_call (ok_end_of T) (hr.mono (by decide)) T.m_end_of T.F_end_of.kp T.b_end_of takes_D (ja_cons (j_var 1) (ja_cons (j_slice (J.r (j_var 2)) (jo_none) (jo_some (J.r (j_var 5)))) (ja_nil))) (bCons_len (bCons_len bNil_len)))) (js_cons (js_set nd (j_slice (J.r (j_var 2)) (jo_some (J.r (j_var 5))) (jo_some (J.r (j_op o_add (J.r (j_var 5)) (J.r (j_int))))))) (js_one (js_app 4 (j_tup (ja_cons (j_var 6) (ja_cons (j_var 7) (ja_cons (j_call (ok_part_of T) (hr.mono (by decide)) T.m_part_of T.F_part_of.kp T.b_part_of takes_D (ja_cons (j_var 3) (ja_cons (j_var 6) (ja_cons (j_var 7) (ja_nil)))) (bCons_len (bCons_len (bCons_len bNil_len)))) (ja_nil)))))))))) (jss_fz 4 (js_one (js_ret (j_var 4)))))))))
theorem sc_times : FnScope ["one", "other"] ["one", "other"] (defScope (topS 44)) := ⟨rfl, rfl, rfl, by decide +kernel, rfl, by decide +kernel, by decide +kernel⟩
theorem ok_times (T : Top K mg) : FnOk P w K mg base (L2.CX P w) 2 T.f_times T.fd_times ["one", "other"] (spD K (clE T.er) 2 g_times) := by
  refine fok T.F_times sc_times rfl rfl fun cdv A outer s H E hr => ?_
  have nd := sc_times.nd
  have hu64 := hr.units
  have hu65 := hu65_of hr
  have hu1 := hu_of hr
  exact js_one (js_ret (j_call (ok_lowest T) (hr.mono (by decide)) T.m_lowest T.F_lowest.kp T.b_lowest takes_D (ja_cons (j_op o_mul (J.r (j_ix hu1 (J.r (j_var 0)) (J.r (j_int)))) (J.r (j_ix hu1 (J.r (j_var 1)) (J.r (j_int))))) (ja_cons (j_op o_mul (J.r (j_ix hu1 (J.r (j_var 0)) (J.r (j_int)))) (J.r (j_ix hu1 (J.r (j_var 1)) (J.r (j_int))))) (ja_nil))) (bCons_len (bCons_len bNil_len))))
theorem sc_share : FnScope ["book", "order", "name", "found", "context", "letter", "part"] ["book", "order", "name"] (defScope (topS 47)) := ⟨rfl, rfl, rfl, by decide +kernel, rfl, by decide +kernel, by decide +kernel⟩
theorem ok_share (T : Top K mg) : FnOk P w K mg base (L2.CX P w) 5 T.f_share T.fd_share ["book", "order", "name"] (spD K (clE T.er) 3 g_share) := by
  refine fok T.F_share sc_share rfl rfl fun cdv A outer s H E hr => ?_
  have nd := sc_share.nd
  have hu64 := hr.units
  have hu65 := hu65_of hr
  have hu1 := hu_of hr
  exact js_cons (js_set nd (j_tup (ja_cons (j_int) (ja_cons (j_int) (ja_nil))))) (js_cons (js_forE passes_D rfl bdT_ok (j_call (ok_steps T) (hr.mono (by decide)) T.m_steps T.F_steps.kp T.b_steps takes_D (ja_cons (j_var 0) (ja_cons (j_var 1) (ja_cons (j_var 2) (ja_nil)))) (bCons_len (bCons_len (bCons_len bNil_len)))) (jg_tK (K := K) rfl rfl (jgs_cons nd (jgs_cons nd (jgs_cons nd (jgs_nil))))) (js_one (js_set nd (j_call (ok_times T) (hr.mono (by decide)) T.m_times T.F_times.kp T.b_times takes_D (ja_cons (j_var 3) (ja_cons (j_var 6) (ja_nil))) (bCons_len (bCons_len bNil_len)))))) (js_one (js_ret (j_var 3))))
theorem sc_makes : FnScope ["book", "order", "name"] ["book", "order", "name"] (defScope (topS 48)) := ⟨rfl, rfl, rfl, by decide +kernel, rfl, by decide +kernel, by decide +kernel⟩
theorem ok_makes (T : Top K mg) : FnOk P w K mg base (L2.CX P w) 6 T.f_makes T.fd_makes ["book", "order", "name"] (spD K (clE T.er) 3 g_makes) := by
  refine fok T.F_makes sc_makes rfl rfl fun cdv A outer s H E hr => ?_
  have nd := sc_makes.nd
  have hu64 := hr.units
  have hu65 := hu65_of hr
  have hu1 := hu_of hr
  exact js_one (js_ret (j_cmp o_gt (J.r (j_ix hu1 (J.r (j_call (ok_share T) (hr.mono (by decide)) T.m_share T.F_share.kp T.b_share takes_D (ja_cons (j_var 0) (ja_cons (j_var 1) (ja_cons (j_var 2) (ja_nil)))) (bCons_len (bCons_len (bCons_len bNil_len))))) (J.r (j_int)))) (J.r (j_int))))
theorem sc__law_drawn_well : FnScope ["_law_book_here", "_law_order", "_law_numbers", "_law_found", "_law_firsts", "_law_lasts", "_law_text_here", "_law_took", "_law_told"] ["_law_book_here", "_law_order", "_law_numbers", "_law_found"] (defScope (topS 59)) := ⟨rfl, rfl, rfl, by decide +kernel, rfl, by decide +kernel, by decide +kernel⟩
theorem ok__law_drawn_well (T : Top K mg) : FnOk P w K mg base (L2.CX P w) 7 T.f__law_drawn_well T.fd__law_drawn_well ["_law_book_here", "_law_order", "_law_numbers", "_law_found"] (spD K (clE T.er) 4 g__law_drawn_well) := by
  refine fok T.F__law_drawn_well sc__law_drawn_well rfl rfl fun cdv A outer s H E hr => ?_
  have nd := sc__law_drawn_well.nd
  have hu64 := hr.units
  have hu65 := hu65_of hr
  have hu1 := hu_of hr
  exact js_cons (js_unp (j_var 3) (jg_tK (K := K) rfl rfl (jgs_cons nd (jgs_cons nd (jgs_nil))))) (js_cons (js_lcE 4 (own := [("_law_told", 8)]) rfl nd (j_var 0) ⟨blkOk_by (own := [("_law_told", 8)]) (by first | (show blkC ["_law_book_here", "_law_order", "_law_numbers", "_law_found", "_law_firsts", "_law_lasts", "_law_text_here", "_law_took", "_law_told"] (defScope (topS 59)) _ _ = true; decide +kernel) | rfl), fun _ _ _ _ _ => jg_n nd, fun _ _ _ _ _ => jifs_nil, fun _ _ _ _ _ => j_ix hu1 (J.r (j_var 8)) (J.r (j_int))⟩) (js_cons (js_lcE 5 (own := [("_law_told", 8)]) rfl nd (j_var 0) ⟨blkOk_by (own := [("_law_told", 8)]) (by first | (show blkC ["_law_book_here", "_law_order", "_law_numbers", "_law_found", "_law_firsts", "_law_lasts", "_law_text_here", "_law_took", "_law_told"] (defScope (topS 59)) _ _ = true; decide +kernel) | rfl), fun _ _ _ _ _ => jg_n nd, fun _ _ _ _ _ => jifs_nil, fun _ _ _ _ _ => j_ix hu1 (J.r (j_var 8)) (J.r (j_neg (J.r (j_int))))⟩) (js_cons (js_if (JW.t (jw_or (jt_cmp (o_notin hu65) (J.r (j_ix hu1 (J.r (j_var 6)) (J.r (j_int)))) (jr_rd 4)) (jw_or (jt_cmp (o_notin hu65) (J.r (j_ix hu1 (J.r (j_var 6)) (J.r (j_neg (J.r (j_int)))))) (jr_rd 5)) (jw_or1 (jt_cmp (o_ne hu64) (J.r (j_var 7)) (J.r (j_op o_add (J.r (j_b c_len T.z_len PySem.boot_len (ja1_cons (J.r (j_var 6)) (ja1_nil)))) (J.r (j_int))))))))) (js_one (js_ret (j_bl))) (js_nil)) (js_cons (js_if (JW.t (jw_and (jt_val (j_call (ok_is_name T) (hr.mono (by decide)) T.m_is_name T.F_is_name.kp T.b_is_name takes_D (ja_cons (j_var 6) (ja_nil)) (bCons_len bNil_len))) (jw_and1 (jt_not (jt_val (j_call (ok_makes T) (hr.mono (by decide)) T.m_makes T.F_makes.kp T.b_makes takes_D (ja_cons (j_var 0) (ja_cons (j_var 1) (ja_cons (j_var 6) (ja_nil)))) (bCons_len (bCons_len (bCons_len bNil_len))))))))) (js_one (js_ret (j_bl))) (js_nil)) (js_cons (js_if (JW.t (jw_or (jt_cmp (o_ne hu64) (J.r (j_call (ok_drawn T) (hr.mono (by decide)) T.m_drawn T.F_drawn.kp T.b_drawn takes_D (ja_cons (j_var 0) (ja_cons (j_var 1) (ja_cons (j_op o_add (J.r (j_slice (J.r (j_var 2)) (jo_none) (jo_some (J.r (j_var 7))))) (JF.r (jf_lst (ja_cons (j_int) (ja_nil))))) (ja_nil)))) (bCons_len (bCons_len (bCons_len bNil_len))))) (J.r (j_var 3))) (jw_or1 (jt_cmp o_notN (J.r (j_call (ok__law_text T) (hr.mono (by decide)) T.m__law_text T.F__law_text.kp T.b__law_text takes_D (ja_cons (j_var 0) (ja_cons (j_var 1) (ja_cons (j_slice (J.r (j_var 2)) (jo_none) (jo_some (J.r (j_op o_sub (J.r (j_var 7)) (J.r (j_int)))))) (ja_nil)))) (bCons_len (bCons_len (bCons_len bNil_len))))) (J.r (j_non)))))) (js_one (js_ret (j_bl))) (js_nil)) (js_one (js_ret (j_or (j_cmp o_gt (J.r (j_b c_len T.z_len PySem.boot_len (ja1_cons (J.r (j_var 6)) (ja1_nil)))) (J.r (j_int))) (j_one (j_cmp (o_eq hu64) (J.r (j_call (ok__law_fitting T) (hr.mono (by decide)) T.m__law_fitting T.F__law_fitting.kp T.b__law_fitting takes_D (ja_cons (j_var 0) (ja_cons (j_var 1) (ja_cons (j_tup (ja_cons (j_int) (ja_cons (j_int) (ja_cons (j_str) (ja_cons (j_str) (ja_cons (j_tup (ja_nil)) (ja_cons (j_bl) (ja_nil)))))))) (ja_cons (j_var 2) (ja_nil))))) (bCons_len (bCons_len (bCons_len (bCons_len bNil_len)))))) (J.r (j_var 3))))))))))))
theorem sc_behind : FnScope ["book", "order", "text"] ["book", "order", "text"] (defScope (topS 23)) := ⟨rfl, rfl, rfl, by decide +kernel, rfl, by decide +kernel, by decide +kernel⟩
theorem ok_behind (T : Top K mg) : FnOk P w K mg base (L2.CX P w) 4 T.f_behind T.fd_behind ["book", "order", "text"] (spD K (clE T.er) 3 g_behind) := by
  refine fok T.F_behind sc_behind rfl rfl fun cdv A outer s H E hr => ?_
  have nd := sc_behind.nd
  have hu64 := hr.units
  have hu65 := hu65_of hr
  have hu1 := hu_of hr
  exact js_cons (js_expr (j_call (ok_need_book T) (hr.mono (by decide)) T.m_need_book T.F_need_book.kp T.b_need_book takes_D (ja_cons (j_var 0) (ja_nil)) (bCons_len bNil_len))) (js_cons (js_expr (j_call (ok_need_order T) (hr.mono (by decide)) T.m_need_order T.F_need_order.kp T.b_need_order takes_D (ja_cons (j_var 1) (ja_nil)) (bCons_len bNil_len))) (js_cons (js_if (jt_cmp (o_ne hu64) (J.r (j_var 2)) (J.r (j_str))) (js_one (js_expr (j_call (ok_need_name T) (hr.mono (by decide)) T.m_need_name T.F_need_name.kp T.b_need_name takes_D (ja_cons (j_var 2) (ja_nil)) (bCons_len bNil_len)))) (js_nil)) (js_one (js_ret (JF.v (jf_ty c_list T.z_list PyProof.Rows.boot_list (ja1_cons (J.r (j_call (ok_listed T) (hr.mono (by decide)) T.m_listed T.F_listed.kp T.b_listed takes_D (ja_cons (j_get hu1 (J.r (j_call (ok_counted T) (hr.mono (by decide)) T.m_counted T.F_counted.kp T.b_counted takes_D (ja_cons (j_var 0) (ja_cons (j_var 1) (ja_nil))) (bCons_len (bCons_len bNil_len)))) (j_call (ok_end_of T) (hr.mono (by decide)) T.m_end_of T.F_end_of.kp T.b_end_of takes_D (ja_cons (j_var 1) (ja_cons (j_var 2) (ja_nil))) (bCons_len (bCons_len bNil_len))) (JF.v (jf_dic0))) (ja_nil)) (bCons_len bNil_len))) (ja1_nil))))))))
theorem sc__law_picks_fit : FnScope ["_law_book_here", "_law_order", "_law_row", "_law_picks", "_law_number", "_law_text_here", "_law_letter", "_law_many"] ["_law_book_here", "_law_order"] (defScope (topS 58)) := ⟨rfl, rfl, rfl, by decide +kernel, rfl, by decide +kernel, by decide +kernel⟩
theorem ok__law_picks_fit (T : Top K mg) : FnOk P w K mg base (L2.CX P w) 6 T.f__law_picks_fit T.fd__law_picks_fit ["_law_book_here", "_law_order"] (spD K (clE T.er) 2 g__law_picks_fit) := by
  refine fok T.F__law_picks_fit sc__law_picks_fit rfl rfl fun cdv A outer s H E hr => ?_
  have nd := sc__law_picks_fit.nd
  have hu64 := hr.units
  have hu65 := hu65_of hr
  have hu1 := hu_of hr
  exact js_cons (js_set nd (j_call (ok_behind T) (hr.mono (by decide)) T.m_behind T.F_behind.kp T.b_behind takes_D (ja_cons (j_var 0) (ja_cons (j_var 1) (ja_cons (j_str) (ja_nil)))) (bCons_len (bCons_len (bCons_len bNil_len))))) (js_cons (js_own nd (jf_lst (ja_nil))) (js_cons (js_forI passes_D rfl bdN_ok (ji_r1 T.z_range (j_b (c_sum rfl) T.z_sum PyProof.Rows.boot_sum (ja1_cons (JF.r (jf_lcE (own := [("_law_letter", 6), ("_law_many", 7)]) rfl nd (j_var 2) ⟨blkOk_by (own := [("_law_letter", 6), ("_law_many", 7)]) (by first | (show blkC ["_law_book_here", "_law_order", "_law_row", "_law_picks", "_law_number", "_law_text_here", "_law_letter", "_law_many"] (defScope (topS 58)) _ _ = true; decide +kernel) | rfl), fun _ _ _ _ _ => jg_tK (K := K) rfl rfl (jgs_cons nd (jgs_cons nd (jgs_nil))), fun _ _ _ _ _ => jifs_nil, fun _ _ _ _ _ => j_var 7⟩)) (ja1_nil)))) (jg_n nd) (js_cons (js_set nd (j_call (ok__law_text T) (hr.mono (by decide)) T.m__law_text T.F__law_text.kp T.b__law_text takes_D (ja_cons (j_var 0) (ja_cons (j_var 1) (ja_cons (j_op o_add (JF.r (jf_lst (ja_cons (j_var 4) (ja_nil)))) (J.r (j_rep (jf_lst (ja_cons (j_int) (ja_nil))) (J.r (j_int))))) (ja_nil)))) (bCons_len (bCons_len (bCons_len bNil_len))))) (js_one (js_if (jt_cmp o_notN (J.r (j_var 5)) (J.r (j_non))) (js_one (js_app 3 (j_ix hu1 (J.r (j_ix hu1 (J.r (j_var 5)) (J.r (j_int)))) (J.r (j_int))))) (js_nil))))) (js_one (js_ret (j_cmp (o_eq hu64) (JF.r (jf_lcE (own := [("_law_letter", 6), ("_law_many", 7)]) rfl nd (j_var 2) ⟨blkOk_by (own := [("_law_letter", 6), ("_law_many", 7)]) (by first | (show blkC ["_law_book_here", "_law_order", "_law_row", "_law_picks", "_law_number", "_law_text_here", "_law_letter", "_law_many"] (defScope (topS 58)) _ _ = true; decide +kernel) | rfl), fun _ _ _ _ _ => jg_tK (K := K) rfl rfl (jgs_cons nd (jgs_cons nd (jgs_nil))), fun _ _ _ _ _ => jifs_oneK (K := K) rfl (jt_cmp (o_notin hu65) (J.r (j_countS (jr_rd 3) (J.r (j_var 6)))) (J.r (j_tup (ja_cons (j_int) (ja_cons (j_var 7) (ja_nil)))))), fun _ _ _ _ _ => j_var 6⟩)) (JF.r (jf_lst (ja_nil))))))))
theorem sc__law_wish : FnScope ["_law_script", "_law_at", "_law_least", "_law_most", "_law_ends", "_law_barred", "_law_head", "_law_k", "_law_name_here"] ["_law_script", "_law_at"] (defScope (topS 54)) := ⟨rfl, rfl, rfl, by decide +kernel, rfl, by decide +kernel, by decide +kernel⟩
theorem ok__law_wish (T : Top K mg) : FnOk P w K mg base (L2.CX P w) 3 T.f__law_wish T.fd__law_wish ["_law_script", "_law_at"] (spD K (clE T.er) 2 g__law_wish) := by
  refine fok T.F__law_wish sc__law_wish rfl rfl fun cdv A outer s H E hr => ?_
  have nd := sc__law_wish.nd
  have hu64 := hr.units
  have hu65 := hu65_of hr
  have hu1 := hu_of hr
  exact js_cons (js_set nd (j_op o_add (J.r (j_int)) (J.r (j_call (ok__law_drawn T) (hr.mono (by decide)) T.m__law_drawn T.F__law_drawn.kp T.b__law_drawn takes_D (ja_cons (j_var 0) (ja_cons (j_var 1) (ja_cons (j_int) (ja_nil)))) (bCons_len (bCons_len (bCons_len bNil_len))))))) (js_cons (js_set nd (j_op o_add (J.r (j_var 2)) (J.r (j_call (ok__law_drawn T) (hr.mono (by decide)) T.m__law_drawn T.F__law_drawn.kp T.b__law_drawn takes_D (ja_cons (j_var 0) (ja_cons (j_op o_add (J.r (j_var 1)) (J.r (j_int))) (ja_cons (j_op o_sub (J.r (j_int)) (J.r (j_var 2))) (ja_nil)))) (bCons_len (bCons_len (bCons_len bNil_len))))))) (js_cons (js_set nd (JF.v (jf_lst (ja_cons (j_str) (ja_cons (j_str) (ja_cons (j_str) (ja_cons (j_str) (ja_cons (j_str) (ja_cons (j_str) (ja_cons (j_str) (ja_nil))))))))))) (js_cons (js_own nd (jf_lst (ja_nil))) (js_cons (js_forI passes_D rfl bdT_ok (ji_en T.z_enumerate (JF.v (jf_lst (ja_cons (j_str) (ja_cons (j_str) (ja_cons (j_str) (ja_cons (j_str) (ja_cons (j_str) (ja_cons (j_str) (ja_nil)))))))))) (jg_tK (K := K) rfl rfl (jgs_cons nd (jgs_cons nd (jgs_nil)))) (js_one (js_if (jt_cmp (o_eq hu64) (J.r (j_call (ok__law_drawn T) (hr.mono (by decide)) T.m__law_drawn T.F__law_drawn.kp T.b__law_drawn takes_D (ja_cons (j_var 0) (ja_cons (j_op o_add (J.r (j_op o_add (J.r (j_var 1)) (J.r (j_int)))) (J.r (j_var 7))) (ja_cons (j_int) (ja_nil)))) (bCons_len (bCons_len (bCons_len bNil_len))))) (J.r (j_int))) (js_one (js_app 5 (j_var 8))) (js_nil)))) (js_cons (js_set nd (j_ix hu1 (J.r (j_var 4)) (J.r (j_call (ok__law_drawn T) (hr.mono (by decide)) T.m__law_drawn T.F__law_drawn.kp T.b__law_drawn takes_D (ja_cons (j_var 0) (ja_cons (j_op o_add (J.r (j_var 1)) (J.r (j_int))) (ja_cons (j_int) (ja_nil)))) (bCons_len (bCons_len (bCons_len bNil_len))))))) (js_one (js_ret (j_tup (ja_cons (j_var 2) (ja_cons (j_var 3) (ja_cons (j_var 6) (ja_cons (j_ix hu1 (J.r (j_var 4)) (J.r (j_call (ok__law_drawn T) (hr.mono (by decide)) T.m__law_drawn T.F__law_drawn.kp T.b__law_drawn takes_D (ja_cons (j_var 0) (ja_cons (j_op o_add (J.r (j_var 1)) (J.r (j_int))) (ja_cons (j_int) (ja_nil)))) (bCons_len (bCons_len (bCons_len bNil_len)))))) (ja_cons (j_ty c_tuple T.z_tuple PyProof.Rows.boot_tuple (ja1_cons (jr_rd 5) (ja1_nil))) (ja_cons (j_cmp (o_eq hu64) (J.r (j_call (ok__law_drawn T) (hr.mono (by decide)) T.m__law_drawn T.F__law_drawn.kp T.b__law_drawn takes_D (ja_cons (j_var 0) (ja_cons (j_op o_add (J.r (j_var 1)) (J.r (j_int))) (ja_cons (j_int) (ja_nil)))) (bCons_len (bCons_len (bCons_len bNil_len))))) (J.r (j_int))) (ja_nil)))))))))))))))
theorem sc_fits : FnScope ["book", "wish", "name"] ["book", "wish", "name"] (defScope (topS 31)) := ⟨rfl, rfl, rfl, by decide +kernel, rfl, by decide +kernel, by decide +kernel⟩
theorem ok_fits (T : Top K mg) : FnOk P w K mg base (L2.CX P w) 4 T.f_fits T.fd_fits ["book", "wish", "name"] (spD K (clE T.er) 3 g_fits) := by
  refine fok T.F_fits sc_fits rfl rfl fun cdv A outer s H E hr => ?_
  have nd := sc_fits.nd
  have hu64 := hr.units
  have hu65 := hu65_of hr
  have hu1 := hu_of hr
  exact js_cons (js_expr (j_call (ok_need_book T) (hr.mono (by decide)) T.m_need_book T.F_need_book.kp T.b_need_book takes_D (ja_cons (j_var 0) (ja_nil)) (bCons_len bNil_len))) (js_cons (js_expr (j_call (ok_need_wish T) (hr.mono (by decide)) T.m_need_wish T.F_need_wish.kp T.b_need_wish takes_D (ja_cons (j_var 1) (ja_nil)) (bCons_len bNil_len))) (js_cons (js_expr (j_call (ok_need_name T) (hr.mono (by decide)) T.m_need_name T.F_need_name.kp T.b_need_name takes_D (ja_cons (j_var 2) (ja_nil)) (bCons_len bNil_len))) (js_one (js_ret (j_call (ok_is_fit T) (hr.mono (by decide)) T.m_is_fit T.F_is_fit.kp T.b_is_fit takes_D (ja_cons (j_var 0) (ja_cons (j_var 1) (ja_cons (j_var 2) (ja_nil)))) (bCons_len (bCons_len (bCons_len bNil_len))))))))
theorem sc_numbers_for : FnScope ["book", "order", "name", "rows", "found", "size", "row", "letter", "one"] ["book", "order", "name"] (defScope (topS 41)) := ⟨rfl, rfl, rfl, by decide +kernel, rfl, by decide +kernel, by decide +kernel⟩
theorem ok_numbers_for (T : Top K mg) : FnOk P w K mg base (L2.CX P w) 4 T.f_numbers_for T.fd_numbers_for ["book", "order", "name"] (spD K (clE T.er) 3 g_numbers_for) := by
  refine fok T.F_numbers_for sc_numbers_for rfl rfl fun cdv A outer s H E hr => ?_
  have nd := sc_numbers_for.nd
  have hu64 := hr.units
  have hu65 := hu65_of hr
  have hu1 := hu_of hr
  exact js_cons (js_expr (j_call (ok_need_book T) (hr.mono (by decide)) T.m_need_book T.F_need_book.kp T.b_need_book takes_D (ja_cons (j_var 0) (ja_nil)) (bCons_len bNil_len))) (js_cons (js_expr (j_call (ok_need_order T) (hr.mono (by decide)) T.m_need_order T.F_need_order.kp T.b_need_order takes_D (ja_cons (j_var 1) (ja_nil)) (bCons_len bNil_len))) (js_cons (js_expr (j_call (ok_need_name T) (hr.mono (by decide)) T.m_need_name T.F_need_name.kp T.b_need_name takes_D (ja_cons (j_var 2) (ja_nil)) (bCons_len bNil_len))) (js_cons (js_set nd (j_call (ok_counted T) (hr.mono (by decide)) T.m_counted T.F_counted.kp T.b_counted takes_D (ja_cons (j_var 0) (ja_cons (j_var 1) (ja_nil))) (bCons_len (bCons_len bNil_len)))) (js_cons (js_own nd (jf_lst (ja_nil))) (js_cons (js_forI passes_D rfl bdN_ok (ji_r1 T.z_range (j_op o_add (J.r (j_b c_len T.z_len PySem.boot_len (ja1_cons (J.r (j_var 2)) (ja1_nil)))) (J.r (j_int)))) (jg_n nd) (js_cons (js_set nd (j_get hu1 (J.r (j_var 3)) (j_call (ok_end_of T) (hr.mono (by decide)) T.m_end_of T.F_end_of.kp T.b_end_of takes_D (ja_cons (j_var 1) (ja_cons (j_slice (J.r (j_var 2)) (jo_none) (jo_some (J.r (j_var 5)))) (ja_nil))) (bCons_len (bCons_len bNil_len))) (JF.v (jf_dic0)))) (js_cons (js_set nd (j_slice (J.r (j_var 2)) (jo_some (J.r (j_var 5))) (jo_some (J.r (j_op o_add (J.r (j_var 5)) (J.r (j_int))))))) (js_cons (js_if (jt_cmp (o_notin hu65) (J.r (j_var 7)) (J.r (j_var 6))) (js_one (js_raise (cl := clE T.er) (c := 5) (C := T.er.e 5) rfl (T.er.x 5 (by decide)) rfl takes_D)) (js_nil)) (js_one (js_app 4 (j_b (c_sum rfl) T.z_sum PyProof.Rows.boot_sum (ja1_cons (JF.r (jf_lcE (own := [("one", 8)]) rfl nd (j_var 6) ⟨blkOk_by (own := [("one", 8)]) (by first | (show blkC ["book", "order", "name", "rows", "found", "size", "row", "letter", "one"] (defScope (topS 41)) _ _ = true; decide +kernel) | rfl), fun _ _ _ _ _ => jg_n nd, fun _ _ _ _ _ => jifs_oneK (K := K) rfl (jt_cmp o_lt (J.r (j_var 8)) (J.r (j_var 7))), fun _ _ _ _ _ => j_ix hu1 (J.r (j_var 6)) (J.r (j_var 8))⟩)) (ja1_nil))))))))) (jss_fz 4 (js_one (js_ret (j_var 4)))))))))
theorem sc_law : FnScope ["_law_script", "_law_book_here", "_law_order", "_law_wish_here", "_law_name_here", "_law_numbers", "_law_raised", "_law_some", "_law_found", "_law_told", "_law_size", "_law_number", "_law_k", "_law_letter", "_law_many"] ["_law_script"] (defScope (topS 60)) := ⟨rfl, rfl, rfl, by decide +kernel, rfl, by decide +kernel, by decide +kernel⟩
theorem ok_law (T : Top K mg) : FnOk P w K mg base (L2.CX P w) 8 T.f_law T.fd_law ["_law_script"] (spD K (clE T.er) 1 g_law_k41) := by
  refine fok T.F_law sc_law rfl rfl fun cdv A outer s H E hr => ?_
  have nd := sc_law.nd
  have hu64 := hr.units
  have hu65 := hu65_of hr
  have hu1 := hu_of hr
  exact js_cons (js_set nd (j_call (ok__law_book T) (hr.mono (by decide)) T.m__law_book T.F__law_book.kp T.b__law_book takes_D (ja_cons (j_var 0) (ja_cons (j_int) (ja_cons (j_int) (ja_cons (j_int) (ja_nil))))) (bCons_len (bCons_len (bCons_len (bCons_len bNil_len)))))) (js_cons (js_set nd (j_op o_add (J.r (j_int)) (J.r (j_call (ok__law_drawn T) (hr.mono (by decide)) T.m__law_drawn T.F__law_drawn.kp T.b__law_drawn takes_D (ja_cons (j_var 0) (ja_cons (j_int) (ja_cons (j_int) (ja_nil)))) (bCons_len (bCons_len (bCons_len bNil_len))))))) (js_cons (js_set nd (j_call (ok__law_wish T) (hr.mono (by decide)) T.m__law_wish T.F__law_wish.kp T.b__law_wish takes_D (ja_cons (j_var 0) (ja_cons (j_int) (ja_nil))) (bCons_len (bCons_len bNil_len)))) (js_cons (js_set nd (j_ix hu1 (J.r (j_var 1)) (J.r (j_call (ok__law_drawn T) (hr.mono (by decide)) T.m__law_drawn T.F__law_drawn.kp T.b__law_drawn takes_D (ja_cons (j_var 0) (ja_cons (j_int) (ja_cons (j_b c_len T.z_len PySem.boot_len (ja1_cons (J.r (j_var 1)) (ja1_nil))) (ja_nil)))) (bCons_len (bCons_len (bCons_len bNil_len))))))) (js_cons (js_set nd (j_call (ok_numbers_for T) (hr.mono (by decide)) T.m_numbers_for T.F_numbers_for.kp T.b_numbers_for takes_D (ja_cons (j_var 1) (ja_cons (j_var 2) (ja_cons (j_var 4) (ja_nil)))) (bCons_len (bCons_len (bCons_len bNil_len))))) (js_cons (js_if (jt_cmp (o_ne hu64) (J.r (j_call (ok_drawn T) (hr.mono (by decide)) T.m_drawn T.F_drawn.kp T.b_drawn takes_D (ja_cons (j_var 1) (ja_cons (j_var 2) (ja_cons (j_var 5) (ja_nil)))) (bCons_len (bCons_len (bCons_len bNil_len))))) (J.r (j_tup (ja_cons (j_var 4) (ja_cons (j_op o_add (J.r (j_b c_len T.z_len PySem.boot_len (ja1_cons (J.r (j_var 4)) (ja1_nil)))) (J.r (j_int))) (ja_nil)))))) (js_one (js_ret (j_bl))) (js_nil)) (js_cons (js_if (jt_cmp (o_ne hu64) (J.r (j_call (ok_drawn T) (hr.mono (by decide)) T.m_drawn T.F_drawn.kp T.b_drawn takes_D (ja_cons (j_var 1) (ja_cons (j_var 2) (ja_cons (j_op o_add (J.r (j_ty c_tuple T.z_tuple PyProof.Rows.boot_tuple (ja1_cons (J.r (j_var 5)) (ja1_nil)))) (J.r (j_tup (ja_cons (j_int) (ja_nil))))) (ja_nil)))) (bCons_len (bCons_len (bCons_len bNil_len))))) (J.r (j_tup (ja_cons (j_var 4) (ja_cons (j_op o_add (J.r (j_b c_len T.z_len PySem.boot_len (ja1_cons (J.r (j_var 4)) (ja1_nil)))) (J.r (j_int))) (ja_nil)))))) (js_one (js_ret (j_bl))) (js_nil)) (js_cons (js_own nd (jf_lst (ja_nil))) (js_cons (js_forI passes_D rfl bdT_ok (ji_en T.z_enumerate (j_var 5)) (jg_tK (K := K) rfl rfl (jgs_cons nd (jgs_cons nd (jgs_nil)))) (js_one (js_app 6 (j_op o_add (J.r (j_var 11)) (J.r (j_b (c_sum rfl) T.z_sum PyProof.Rows.boot_sum (ja1_cons (JF.r (jf_lcE (own := [("_law_letter", 13), ("_law_many", 14)]) rfl nd (j_call (ok_behind T) (hr.mono (by decide)) T.m_behind T.F_behind.kp T.b_behind takes_D (ja_cons (j_var 1) (ja_cons (j_var 2) (ja_cons (j_slice (J.r (j_var 4)) (jo_none) (jo_some (J.r (j_var 10)))) (ja_nil)))) (bCons_len (bCons_len (bCons_len bNil_len)))) ⟨blkOk_by (own := [("_law_letter", 13), ("_law_many", 14)]) (by first | (show blkC ["_law_script", "_law_book_here", "_law_order", "_law_wish_here", "_law_name_here", "_law_numbers", "_law_raised", "_law_some", "_law_found", "_law_told", "_law_size", "_law_number", "_law_k", "_law_letter", "_law_many"] (defScope (topS 60)) _ _ = true; decide +kernel) | rfl), fun _ _ _ _ _ => jg_tK (K := K) rfl rfl (jgs_cons nd (jgs_cons nd (jgs_nil))), fun _ _ _ _ _ => jifs_nil, fun _ _ _ _ _ => j_var 14⟩)) (ja1_nil)))))))) (jss_fz 6 (js_cons (js_if (jt_cmp (o_ne hu64) (J.r (j_call (ok_drawn T) (hr.mono (by decide)) T.m_drawn T.F_drawn.kp T.b_drawn takes_D (ja_cons (j_var 1) (ja_cons (j_var 2) (ja_cons (j_var 6) (ja_nil)))) (bCons_len (bCons_len (bCons_len bNil_len))))) (J.r (j_tup (ja_cons (j_var 4) (ja_cons (j_op o_add (J.r (j_b c_len T.z_len PySem.boot_len (ja1_cons (J.r (j_var 4)) (ja1_nil)))) (J.r (j_int))) (ja_nil)))))) (js_one (js_ret (j_bl))) (js_nil)) (js_cons (js_if (jt_not (jt_val (j_call (ok__law_picks_fit T) (hr.mono (by decide)) T.m__law_picks_fit T.F__law_picks_fit.kp T.b__law_picks_fit takes_D (ja_cons (j_var 1) (ja_cons (j_var 2) (ja_nil))) (bCons_len (bCons_len bNil_len))))) (js_one (js_ret (j_bl))) (js_nil)) (js_cons (js_lcI 7 (own := [("_law_k", 12)]) rfl nd (ji_r1 T.z_range (j_call (ok__law_drawn T) (hr.mono (by decide)) T.m__law_drawn T.F__law_drawn.kp T.b__law_drawn takes_D (ja_cons (j_var 0) (ja_cons (j_int) (ja_cons (j_int) (ja_nil)))) (bCons_len (bCons_len (bCons_len bNil_len))))) ⟨blkOk_by (own := [("_law_k", 12)]) (by first | (show blkC ["_law_script", "_law_book_here", "_law_order", "_law_wish_here", "_law_name_here", "_law_numbers", "_law_raised", "_law_some", "_law_found", "_law_told", "_law_size", "_law_number", "_law_k", "_law_letter", "_law_many"] (defScope (topS 60)) _ _ = true; decide +kernel) | rfl), fun _ _ _ _ _ => jg_n nd, fun _ _ _ _ _ => jifs_nil, fun _ _ _ _ _ => j_call (ok__law_drawn T) (hr.mono (by decide)) T.m__law_drawn T.F__law_drawn.kp T.b__law_drawn takes_W0 (ja_cons (j_var 0) (ja_cons (j_op o_add (J.r (j_int)) (J.r (j_var 12))) (ja_cons (j_int) (ja_nil)))) (bCons_len (bCons_len (bCons_len bNil_len)))⟩) (jss_fz 7 (js_cons (js_set nd (j_call (ok__law_text T) (hr.mono (by decide)) T.m__law_text T.F__law_text.kp T.b__law_text takes_D (ja_cons (j_var 1) (ja_cons (j_var 2) (ja_cons (j_var 7) (ja_nil)))) (bCons_len (bCons_len (bCons_len bNil_len))))) (js_cons (js_if (JW.t (jw_and (jt_cmp o_notN (J.r (j_var 8)) (J.r (j_non))) (jw_and1 (jt_not (jt_val (j_call (ok__law_drawn_well T) (hr.mono (by decide)) T.m__law_drawn_well T.F__law_drawn_well.kp T.b__law_drawn_well takes_D (ja_cons (j_var 1) (ja_cons (j_var 2) (ja_cons (j_var 7) (ja_cons (j_var 8) (ja_nil))))) (bCons_len (bCons_len (bCons_len (bCons_len bNil_len)))))))))) (js_one (js_ret (j_bl))) (js_nil)) (js_cons (js_set nd (j_call (ok__law_fitting T) (hr.mono (by decide)) T.m__law_fitting T.F__law_fitting.kp T.b__law_fitting takes_D (ja_cons (j_var 1) (ja_cons (j_var 2) (ja_cons (j_var 3) (ja_cons (j_var 7) (ja_nil))))) (bCons_len (bCons_len (bCons_len (bCons_len bNil_len)))))) (js_cons (js_if (jt_cmp o_isN (J.r (j_var 9)) (J.r (j_non))) (js_one (js_ret (j_bl))) (js_nil)) (js_cons (js_if (JW.t (jw_or (jt_not (jt_val (j_call (ok_fits T) (hr.mono (by decide)) T.m_fits T.F_fits.kp T.b_fits takes_D (ja_cons (j_var 1) (ja_cons (j_var 3) (ja_cons (j_ix hu1 (J.r (j_var 9)) (J.r (j_int))) (ja_nil)))) (bCons_len (bCons_len (bCons_len bNil_len)))))) (jw_or1 (jt_not (jt_val (j_call (ok_makes T) (hr.mono (by decide)) T.m_makes T.F_makes.kp T.b_makes takes_D (ja_cons (j_var 1) (ja_cons (j_var 2) (ja_cons (j_ix hu1 (J.r (j_var 9)) (J.r (j_int))) (ja_nil)))) (bCons_len (bCons_len (bCons_len bNil_len))))))))) (js_one (js_ret (j_bl))) (js_nil)) (js_one (js_ret (j_cmp (o_eq hu64) (J.r (j_call (ok__law_fitting T) (hr.mono (by decide)) T.m__law_fitting T.F__law_fitting.kp T.b__law_fitting takes_D (ja_cons (j_var 1) (ja_cons (j_var 2) (ja_cons (j_var 3) (ja_cons (j_slice (J.r (j_var 7)) (jo_none) (jo_some (J.r (j_ix hu1 (J.r (j_var 9)) (J.r (j_int)))))) (ja_nil))))) (bCons_len (bCons_len (bCons_len (bCons_len bNil_len)))))) (J.r (j_var 9)))))))))))))))))))))))
end
theorem all_mk {l : PySem.W.OpenLaw} {w : World} {K : PySem.W.Frag} {h : Heap} {mg : Str → Option Value} {fa : Addr} (X : K.In h) (G : h.Ns mainGlobals mg) (hfa : mg "law" = some (.ref fa))
    {f0 : Addr} {od0 an0 : Option Addr} {sl0 : Array (Option Value)} {oc0 kV0 dc0 pm0 cd0 ct0 : Value}
    (a0 : PySem.W.nsIn K mainGlobals "_law_cell" = some (some (.ref f0))) (l0 : K.lookup f0 = some ⟨oc0, od0, .func (PySem.W.fnOf "_law_cell" "_law_cell" (defArgs (topS 50)) (defBody (topS 50)) (defScope (topS 50)) .none kV0 dc0 pm0 an0 cd0 ct0), sl0⟩) (c0 : PySem.W.codeIn K cd0 "_law_cell" = true) (k0 : PySem.W.keepIn K (.ref f0) = true)
    {f1 : Addr} {od1 an1 : Option Addr} {sl1 : Array (Option Value)} {oc1 kV1 dc1 pm1 cd1 ct1 : Value}
    (a1 : PySem.W.nsIn K mainGlobals "_law_drawn" = some (some (.ref f1))) (l1 : K.lookup f1 = some ⟨oc1, od1, .func (PySem.W.fnOf "_law_drawn" "_law_drawn" (defArgs (topS 51)) (defBody (topS 51)) (defScope (topS 51)) .none kV1 dc1 pm1 an1 cd1 ct1), sl1⟩) (c1 : PySem.W.codeIn K cd1 "_law_drawn" = true) (k1 : PySem.W.keepIn K (.ref f1) = true)
    {f2 : Addr} {od2 an2 : Option Addr} {sl2 : Array (Option Value)} {oc2 kV2 dc2 pm2 cd2 ct2 : Value}
    (a2 : PySem.W.nsIn K mainGlobals "_law_name" = some (some (.ref f2))) (l2 : K.lookup f2 = some ⟨oc2, od2, .func (PySem.W.fnOf "_law_name" "_law_name" (defArgs (topS 52)) (defBody (topS 52)) (defScope (topS 52)) .none kV2 dc2 pm2 an2 cd2 ct2), sl2⟩) (c2 : PySem.W.codeIn K cd2 "_law_name" = true) (k2 : PySem.W.keepIn K (.ref f2) = true)
    {f3 : Addr} {od3 an3 : Option Addr} {sl3 : Array (Option Value)} {oc3 kV3 dc3 pm3 cd3 ct3 : Value}
    (a3 : PySem.W.nsIn K mainGlobals "_law_book" = some (some (.ref f3))) (l3 : K.lookup f3 = some ⟨oc3, od3, .func (PySem.W.fnOf "_law_book" "_law_book" (defArgs (topS 53)) (defBody (topS 53)) (defScope (topS 53)) .none kV3 dc3 pm3 an3 cd3 ct3), sl3⟩) (c3 : PySem.W.codeIn K cd3 "_law_book" = true) (k3 : PySem.W.keepIn K (.ref f3) = true)
    {f4 : Addr} {od4 an4 : Option Addr} {sl4 : Array (Option Value)} {oc4 kV4 dc4 pm4 cd4 ct4 : Value}
    (a4 : PySem.W.nsIn K mainGlobals "end_of" = some (some (.ref f4))) (l4 : K.lookup f4 = some ⟨oc4, od4, .func (PySem.W.fnOf "end_of" "end_of" (defArgs (topS 20)) (defBody (topS 20)) (defScope (topS 20)) .none kV4 dc4 pm4 an4 cd4 ct4), sl4⟩) (c4 : PySem.W.codeIn K cd4 "end_of" = true) (k4 : PySem.W.keepIn K (.ref f4) = true)
    {f5 : Addr} {od5 an5 : Option Addr} {sl5 : Array (Option Value)} {oc5 kV5 dc5 pm5 cd5 ct5 : Value}
    (a5 : PySem.W.nsIn K mainGlobals "counted" = some (some (.ref f5))) (l5 : K.lookup f5 = some ⟨oc5, od5, .func (PySem.W.fnOf "counted" "counted" (defArgs (topS 21)) (defBody (topS 21)) (defScope (topS 21)) .none kV5 dc5 pm5 an5 cd5 ct5), sl5⟩) (c5 : PySem.W.codeIn K cd5 "counted" = true) (k5 : PySem.W.keepIn K (.ref f5) = true)
    {f6 : Addr} {od6 an6 : Option Addr} {sl6 : Array (Option Value)} {oc6 kV6 dc6 pm6 cd6 ct6 : Value}
    (a6 : PySem.W.nsIn K mainGlobals "is_fit" = some (some (.ref f6))) (l6 : K.lookup f6 = some ⟨oc6, od6, .func (PySem.W.fnOf "is_fit" "is_fit" (defArgs (topS 30)) (defBody (topS 30)) (defScope (topS 30)) .none kV6 dc6 pm6 an6 cd6 ct6), sl6⟩) (c6 : PySem.W.codeIn K cd6 "is_fit" = true) (k6 : PySem.W.keepIn K (.ref f6) = true)
    {f7 : Addr} {od7 an7 : Option Addr} {sl7 : Array (Option Value)} {oc7 kV7 dc7 pm7 cd7 ct7 : Value}
    (a7 : PySem.W.nsIn K mainGlobals "listed" = some (some (.ref f7))) (l7 : K.lookup f7 = some ⟨oc7, od7, .func (PySem.W.fnOf "listed" "listed" (defArgs (topS 22)) (defBody (topS 22)) (defScope (topS 22)) .none kV7 dc7 pm7 an7 cd7 ct7), sl7⟩) (c7 : PySem.W.codeIn K cd7 "listed" = true) (k7 : PySem.W.keepIn K (.ref f7) = true)
    {f8 : Addr} {od8 an8 : Option Addr} {sl8 : Array (Option Value)} {oc8 kV8 dc8 pm8 cd8 ct8 : Value}
    (a8 : PySem.W.nsIn K mainGlobals "picked" = some (some (.ref f8))) (l8 : K.lookup f8 = some ⟨oc8, od8, .func (PySem.W.fnOf "picked" "picked" (defArgs (topS 36)) (defBody (topS 36)) (defScope (topS 36)) .none kV8 dc8 pm8 an8 cd8 ct8), sl8⟩) (c8 : PySem.W.codeIn K cd8 "picked" = true) (k8 : PySem.W.keepIn K (.ref f8) = true)
    {f9 : Addr} {od9 an9 : Option Addr} {sl9 : Array (Option Value)} {oc9 kV9 dc9 pm9 cd9 ct9 : Value}
    (a9 : PySem.W.nsIn K mainGlobals "one_drawn" = some (some (.ref f9))) (l9 : K.lookup f9 = some ⟨oc9, od9, .func (PySem.W.fnOf "one_drawn" "one_drawn" (defArgs (topS 37)) (defBody (topS 37)) (defScope (topS 37)) .none kV9 dc9 pm9 an9 cd9 ct9), sl9⟩) (c9 : PySem.W.codeIn K cd9 "one_drawn" = true) (k9 : PySem.W.keepIn K (.ref f9) = true)
    {f10 : Addr} {od10 an10 : Option Addr} {sl10 : Array (Option Value)} {oc10 kV10 dc10 pm10 cd10 ct10 : Value}
    (a10 : PySem.W.nsIn K mainGlobals "fitting_of" = some (some (.ref f10))) (l10 : K.lookup f10 = some ⟨oc10, od10, .func (PySem.W.fnOf "fitting_of" "fitting_of" (defArgs (topS 40)) (defBody (topS 40)) (defScope (topS 40)) .none kV10 dc10 pm10 an10 cd10 ct10), sl10⟩) (c10 : PySem.W.codeIn K cd10 "fitting_of" = true) (k10 : PySem.W.keepIn K (.ref f10) = true)
    {f11 : Addr} {od11 an11 : Option Addr} {sl11 : Array (Option Value)} {oc11 kV11 dc11 pm11 cd11 ct11 : Value}
    (a11 : PySem.W.nsIn K mainGlobals "is_name" = some (some (.ref f11))) (l11 : K.lookup f11 = some ⟨oc11, od11, .func (PySem.W.fnOf "is_name" "is_name" (defArgs (topS 15)) (defBody (topS 15)) (defScope (topS 15)) .none kV11 dc11 pm11 an11 cd11 ct11), sl11⟩) (c11 : PySem.W.codeIn K cd11 "is_name" = true) (k11 : PySem.W.keepIn K (.ref f11) = true)
    {f12 : Addr} {od12 an12 : Option Addr} {sl12 : Array (Option Value)} {oc12 kV12 dc12 pm12 cd12 ct12 : Value}
    (a12 : PySem.W.nsIn K mainGlobals "is_book" = some (some (.ref f12))) (l12 : K.lookup f12 = some ⟨oc12, od12, .func (PySem.W.fnOf "is_book" "is_book" (defArgs (topS 16)) (defBody (topS 16)) (defScope (topS 16)) .none kV12 dc12 pm12 an12 cd12 ct12), sl12⟩) (c12 : PySem.W.codeIn K cd12 "is_book" = true) (k12 : PySem.W.keepIn K (.ref f12) = true)
    {f13 : Addr} {od13 an13 : Option Addr} {sl13 : Array (Option Value)} {oc13 kV13 dc13 pm13 cd13 ct13 : Value}
    (a13 : PySem.W.nsIn K mainGlobals "need_book" = some (some (.ref f13))) (l13 : K.lookup f13 = some ⟨oc13, od13, .func (PySem.W.fnOf "need_book" "need_book" (defArgs (topS 17)) (defBody (topS 17)) (defScope (topS 17)) .none kV13 dc13 pm13 an13 cd13 ct13), sl13⟩) (c13 : PySem.W.codeIn K cd13 "need_book" = true) (k13 : PySem.W.keepIn K (.ref f13) = true)
    {f14 : Addr} {od14 an14 : Option Addr} {sl14 : Array (Option Value)} {oc14 kV14 dc14 pm14 cd14 ct14 : Value}
    (a14 : PySem.W.nsIn K mainGlobals "are_numbers" = some (some (.ref f14))) (l14 : K.lookup f14 = some ⟨oc14, od14, .func (PySem.W.fnOf "are_numbers" "are_numbers" (defArgs (topS 34)) (defBody (topS 34)) (defScope (topS 34)) .none kV14 dc14 pm14 an14 cd14 ct14), sl14⟩) (c14 : PySem.W.codeIn K cd14 "are_numbers" = true) (k14 : PySem.W.keepIn K (.ref f14) = true)
    {f15 : Addr} {od15 an15 : Option Addr} {sl15 : Array (Option Value)} {oc15 kV15 dc15 pm15 cd15 ct15 : Value}
    (a15 : PySem.W.nsIn K mainGlobals "need_numbers" = some (some (.ref f15))) (l15 : K.lookup f15 = some ⟨oc15, od15, .func (PySem.W.fnOf "need_numbers" "need_numbers" (defArgs (topS 35)) (defBody (topS 35)) (defScope (topS 35)) .none kV15 dc15 pm15 an15 cd15 ct15), sl15⟩) (c15 : PySem.W.codeIn K cd15 "need_numbers" = true) (k15 : PySem.W.keepIn K (.ref f15) = true)
    {f16 : Addr} {od16 an16 : Option Addr} {sl16 : Array (Option Value)} {oc16 kV16 dc16 pm16 cd16 ct16 : Value}
    (a16 : PySem.W.nsIn K mainGlobals "is_number" = some (some (.ref f16))) (l16 : K.lookup f16 = some ⟨oc16, od16, .func (PySem.W.fnOf "is_number" "is_number" (defArgs (topS 14)) (defBody (topS 14)) (defScope (topS 14)) .none kV16 dc16 pm16 an16 cd16 ct16), sl16⟩) (c16 : PySem.W.codeIn K cd16 "is_number" = true) (k16 : PySem.W.keepIn K (.ref f16) = true)
    {f17 : Addr} {od17 an17 : Option Addr} {sl17 : Array (Option Value)} {oc17 kV17 dc17 pm17 cd17 ct17 : Value}
    (a17 : PySem.W.nsIn K mainGlobals "need_order" = some (some (.ref f17))) (l17 : K.lookup f17 = some ⟨oc17, od17, .func (PySem.W.fnOf "need_order" "need_order" (defArgs (topS 18)) (defBody (topS 18)) (defScope (topS 18)) .none kV17 dc17 pm17 an17 cd17 ct17), sl17⟩) (c17 : PySem.W.codeIn K cd17 "need_order" = true) (k17 : PySem.W.keepIn K (.ref f17) = true)
    {f18 : Addr} {od18 an18 : Option Addr} {sl18 : Array (Option Value)} {oc18 kV18 dc18 pm18 cd18 ct18 : Value}
    (a18 : PySem.W.nsIn K mainGlobals "is_end" = some (some (.ref f18))) (l18 : K.lookup f18 = some ⟨oc18, od18, .func (PySem.W.fnOf "is_end" "is_end" (defArgs (topS 27)) (defBody (topS 27)) (defScope (topS 27)) .none kV18 dc18 pm18 an18 cd18 ct18), sl18⟩) (c18 : PySem.W.codeIn K cd18 "is_end" = true) (k18 : PySem.W.keepIn K (.ref f18) = true)
    {f19 : Addr} {od19 an19 : Option Addr} {sl19 : Array (Option Value)} {oc19 kV19 dc19 pm19 cd19 ct19 : Value}
    (a19 : PySem.W.nsIn K mainGlobals "is_wish" = some (some (.ref f19))) (l19 : K.lookup f19 = some ⟨oc19, od19, .func (PySem.W.fnOf "is_wish" "is_wish" (defArgs (topS 28)) (defBody (topS 28)) (defScope (topS 28)) .none kV19 dc19 pm19 an19 cd19 ct19), sl19⟩) (c19 : PySem.W.codeIn K cd19 "is_wish" = true) (k19 : PySem.W.keepIn K (.ref f19) = true)
    {f20 : Addr} {od20 an20 : Option Addr} {sl20 : Array (Option Value)} {oc20 kV20 dc20 pm20 cd20 ct20 : Value}
    (a20 : PySem.W.nsIn K mainGlobals "need_wish" = some (some (.ref f20))) (l20 : K.lookup f20 = some ⟨oc20, od20, .func (PySem.W.fnOf "need_wish" "need_wish" (defArgs (topS 29)) (defBody (topS 29)) (defScope (topS 29)) .none kV20 dc20 pm20 an20 cd20 ct20), sl20⟩) (c20 : PySem.W.codeIn K cd20 "need_wish" = true) (k20 : PySem.W.keepIn K (.ref f20) = true)
    {f21 : Addr} {od21 an21 : Option Addr} {sl21 : Array (Option Value)} {oc21 kV21 dc21 pm21 cd21 ct21 : Value}
    (a21 : PySem.W.nsIn K mainGlobals "drawn_fitting" = some (some (.ref f21))) (l21 : K.lookup f21 = some ⟨oc21, od21, .func (PySem.W.fnOf "drawn_fitting" "drawn_fitting" (defArgs (topS 39)) (defBody (topS 39)) (defScope (topS 39)) .none kV21 dc21 pm21 an21 cd21 ct21), sl21⟩) (c21 : PySem.W.codeIn K cd21 "drawn_fitting" = true) (k21 : PySem.W.keepIn K (.ref f21) = true)
    {f22 : Addr} {od22 an22 : Option Addr} {sl22 : Array (Option Value)} {oc22 kV22 dc22 pm22 cd22 ct22 : Value}
    (a22 : PySem.W.nsIn K mainGlobals "_law_fitting" = some (some (.ref f22))) (l22 : K.lookup f22 = some ⟨oc22, od22, .func (PySem.W.fnOf "_law_fitting" "_law_fitting" (defArgs (topS 57)) (defBody (topS 57)) (defScope (topS 57)) .none kV22 dc22 pm22 an22 cd22 ct22), sl22⟩) (c22 : PySem.W.codeIn K cd22 "_law_fitting" = true) (k22 : PySem.W.keepIn K (.ref f22) = true)
    {f23 : Addr} {od23 an23 : Option Addr} {sl23 : Array (Option Value)} {oc23 kV23 dc23 pm23 cd23 ct23 : Value}
    (a23 : PySem.W.nsIn K mainGlobals "drawn" = some (some (.ref f23))) (l23 : K.lookup f23 = some ⟨oc23, od23, .func (PySem.W.fnOf "drawn" "drawn" (defArgs (topS 38)) (defBody (topS 38)) (defScope (topS 38)) .none kV23 dc23 pm23 an23 cd23 ct23), sl23⟩) (c23 : PySem.W.codeIn K cd23 "drawn" = true) (k23 : PySem.W.keepIn K (.ref f23) = true)
    {f24 : Addr} {od24 an24 : Option Addr} {sl24 : Array (Option Value)} {oc24 kV24 dc24 pm24 cd24 ct24 : Value}
    (a24 : PySem.W.nsIn K mainGlobals "_law_text" = some (some (.ref f24))) (l24 : K.lookup f24 = some ⟨oc24, od24, .func (PySem.W.fnOf "_law_text" "_law_text" (defArgs (topS 56)) (defBody (topS 56)) (defScope (topS 56)) .none kV24 dc24 pm24 an24 cd24 ct24), sl24⟩) (c24 : PySem.W.codeIn K cd24 "_law_text" = true) (k24 : PySem.W.keepIn K (.ref f24) = true)
    {f25 : Addr} {od25 an25 : Option Addr} {sl25 : Array (Option Value)} {oc25 kV25 dc25 pm25 cd25 ct25 : Value}
    (a25 : PySem.W.nsIn K mainGlobals "need_name" = some (some (.ref f25))) (l25 : K.lookup f25 = some ⟨oc25, od25, .func (PySem.W.fnOf "need_name" "need_name" (defArgs (topS 19)) (defBody (topS 19)) (defScope (topS 19)) .none kV25 dc25 pm25 an25 cd25 ct25), sl25⟩) (c25 : PySem.W.codeIn K cd25 "need_name" = true) (k25 : PySem.W.keepIn K (.ref f25) = true)
    {f26 : Addr} {od26 an26 : Option Addr} {sl26 : Array (Option Value)} {oc26 kV26 dc26 pm26 cd26 ct26 : Value}
    (a26 : PySem.W.nsIn K mainGlobals "lowest" = some (some (.ref f26))) (l26 : K.lookup f26 = some ⟨oc26, od26, .func (PySem.W.fnOf "lowest" "lowest" (defArgs (topS 43)) (defBody (topS 43)) (defScope (topS 43)) .none kV26 dc26 pm26 an26 cd26 ct26), sl26⟩) (c26 : PySem.W.codeIn K cd26 "lowest" = true) (k26 : PySem.W.keepIn K (.ref f26) = true)
    {f27 : Addr} {od27 an27 : Option Addr} {sl27 : Array (Option Value)} {oc27 kV27 dc27 pm27 cd27 ct27 : Value}
    (a27 : PySem.W.nsIn K mainGlobals "part_of" = some (some (.ref f27))) (l27 : K.lookup f27 = some ⟨oc27, od27, .func (PySem.W.fnOf "part_of" "part_of" (defArgs (topS 45)) (defBody (topS 45)) (defScope (topS 45)) .none kV27 dc27 pm27 an27 cd27 ct27), sl27⟩) (c27 : PySem.W.codeIn K cd27 "part_of" = true) (k27 : PySem.W.keepIn K (.ref f27) = true)
    {f28 : Addr} {od28 an28 : Option Addr} {sl28 : Array (Option Value)} {oc28 kV28 dc28 pm28 cd28 ct28 : Value}
    (a28 : PySem.W.nsIn K mainGlobals "steps" = some (some (.ref f28))) (l28 : K.lookup f28 = some ⟨oc28, od28, .func (PySem.W.fnOf "steps" "steps" (defArgs (topS 46)) (defBody (topS 46)) (defScope (topS 46)) .none kV28 dc28 pm28 an28 cd28 ct28), sl28⟩) (c28 : PySem.W.codeIn K cd28 "steps" = true) (k28 : PySem.W.keepIn K (.ref f28) = true)
    {f29 : Addr} {od29 an29 : Option Addr} {sl29 : Array (Option Value)} {oc29 kV29 dc29 pm29 cd29 ct29 : Value}
    (a29 : PySem.W.nsIn K mainGlobals "times" = some (some (.ref f29))) (l29 : K.lookup f29 = some ⟨oc29, od29, .func (PySem.W.fnOf "times" "times" (defArgs (topS 44)) (defBody (topS 44)) (defScope (topS 44)) .none kV29 dc29 pm29 an29 cd29 ct29), sl29⟩) (c29 : PySem.W.codeIn K cd29 "times" = true) (k29 : PySem.W.keepIn K (.ref f29) = true)
    {f30 : Addr} {od30 an30 : Option Addr} {sl30 : Array (Option Value)} {oc30 kV30 dc30 pm30 cd30 ct30 : Value}
    (a30 : PySem.W.nsIn K mainGlobals "share" = some (some (.ref f30))) (l30 : K.lookup f30 = some ⟨oc30, od30, .func (PySem.W.fnOf "share" "share" (defArgs (topS 47)) (defBody (topS 47)) (defScope (topS 47)) .none kV30 dc30 pm30 an30 cd30 ct30), sl30⟩) (c30 : PySem.W.codeIn K cd30 "share" = true) (k30 : PySem.W.keepIn K (.ref f30) = true)
    {f31 : Addr} {od31 an31 : Option Addr} {sl31 : Array (Option Value)} {oc31 kV31 dc31 pm31 cd31 ct31 : Value}
    (a31 : PySem.W.nsIn K mainGlobals "makes" = some (some (.ref f31))) (l31 : K.lookup f31 = some ⟨oc31, od31, .func (PySem.W.fnOf "makes" "makes" (defArgs (topS 48)) (defBody (topS 48)) (defScope (topS 48)) .none kV31 dc31 pm31 an31 cd31 ct31), sl31⟩) (c31 : PySem.W.codeIn K cd31 "makes" = true) (k31 : PySem.W.keepIn K (.ref f31) = true)
    {f32 : Addr} {od32 an32 : Option Addr} {sl32 : Array (Option Value)} {oc32 kV32 dc32 pm32 cd32 ct32 : Value}
    (a32 : PySem.W.nsIn K mainGlobals "_law_drawn_well" = some (some (.ref f32))) (l32 : K.lookup f32 = some ⟨oc32, od32, .func (PySem.W.fnOf "_law_drawn_well" "_law_drawn_well" (defArgs (topS 59)) (defBody (topS 59)) (defScope (topS 59)) .none kV32 dc32 pm32 an32 cd32 ct32), sl32⟩) (c32 : PySem.W.codeIn K cd32 "_law_drawn_well" = true) (k32 : PySem.W.keepIn K (.ref f32) = true)
    {f33 : Addr} {od33 an33 : Option Addr} {sl33 : Array (Option Value)} {oc33 kV33 dc33 pm33 cd33 ct33 : Value}
    (a33 : PySem.W.nsIn K mainGlobals "behind" = some (some (.ref f33))) (l33 : K.lookup f33 = some ⟨oc33, od33, .func (PySem.W.fnOf "behind" "behind" (defArgs (topS 23)) (defBody (topS 23)) (defScope (topS 23)) .none kV33 dc33 pm33 an33 cd33 ct33), sl33⟩) (c33 : PySem.W.codeIn K cd33 "behind" = true) (k33 : PySem.W.keepIn K (.ref f33) = true)
    {f34 : Addr} {od34 an34 : Option Addr} {sl34 : Array (Option Value)} {oc34 kV34 dc34 pm34 cd34 ct34 : Value}
    (a34 : PySem.W.nsIn K mainGlobals "_law_picks_fit" = some (some (.ref f34))) (l34 : K.lookup f34 = some ⟨oc34, od34, .func (PySem.W.fnOf "_law_picks_fit" "_law_picks_fit" (defArgs (topS 58)) (defBody (topS 58)) (defScope (topS 58)) .none kV34 dc34 pm34 an34 cd34 ct34), sl34⟩) (c34 : PySem.W.codeIn K cd34 "_law_picks_fit" = true) (k34 : PySem.W.keepIn K (.ref f34) = true)
    {f35 : Addr} {od35 an35 : Option Addr} {sl35 : Array (Option Value)} {oc35 kV35 dc35 pm35 cd35 ct35 : Value}
    (a35 : PySem.W.nsIn K mainGlobals "_law_wish" = some (some (.ref f35))) (l35 : K.lookup f35 = some ⟨oc35, od35, .func (PySem.W.fnOf "_law_wish" "_law_wish" (defArgs (topS 54)) (defBody (topS 54)) (defScope (topS 54)) .none kV35 dc35 pm35 an35 cd35 ct35), sl35⟩) (c35 : PySem.W.codeIn K cd35 "_law_wish" = true) (k35 : PySem.W.keepIn K (.ref f35) = true)
    {f36 : Addr} {od36 an36 : Option Addr} {sl36 : Array (Option Value)} {oc36 kV36 dc36 pm36 cd36 ct36 : Value}
    (a36 : PySem.W.nsIn K mainGlobals "fits" = some (some (.ref f36))) (l36 : K.lookup f36 = some ⟨oc36, od36, .func (PySem.W.fnOf "fits" "fits" (defArgs (topS 31)) (defBody (topS 31)) (defScope (topS 31)) .none kV36 dc36 pm36 an36 cd36 ct36), sl36⟩) (c36 : PySem.W.codeIn K cd36 "fits" = true) (k36 : PySem.W.keepIn K (.ref f36) = true)
    {f37 : Addr} {od37 an37 : Option Addr} {sl37 : Array (Option Value)} {oc37 kV37 dc37 pm37 cd37 ct37 : Value}
    (a37 : PySem.W.nsIn K mainGlobals "numbers_for" = some (some (.ref f37))) (l37 : K.lookup f37 = some ⟨oc37, od37, .func (PySem.W.fnOf "numbers_for" "numbers_for" (defArgs (topS 41)) (defBody (topS 41)) (defScope (topS 41)) .none kV37 dc37 pm37 an37 cd37 ct37), sl37⟩) (c37 : PySem.W.codeIn K cd37 "numbers_for" = true) (k37 : PySem.W.keepIn K (.ref f37) = true)
    {f38 : Addr} {od38 an38 : Option Addr} {sl38 : Array (Option Value)} {oc38 kV38 dc38 pm38 cd38 ct38 : Value}
    (a38 : PySem.W.nsIn K mainGlobals "law" = some (some (.ref f38))) (l38 : K.lookup f38 = some ⟨oc38, od38, .func (PySem.W.fnOf "law" "law" (defArgs (topS 60)) (defBody (topS 60)) (defScope (topS 60)) .none kV38 dc38 pm38 an38 cd38 ct38), sl38⟩) (c38 : PySem.W.codeIn K cd38 "law" = true) (k38 : PySem.W.keepIn K (.ref f38) = true)
    (z_all : PySem.W.nsIn K mainGlobals "all" = some none)
    (z_bool : PySem.W.nsIn K mainGlobals "bool" = some none)
    (z_enumerate : PySem.W.nsIn K mainGlobals "enumerate" = some none)
    (z_int : PySem.W.nsIn K mainGlobals "int" = some none)
    (z_isinstance : PySem.W.nsIn K mainGlobals "isinstance" = some none)
    (z_len : PySem.W.nsIn K mainGlobals "len" = some none)
    (z_list : PySem.W.nsIn K mainGlobals "list" = some none)
    (z_max : PySem.W.nsIn K mainGlobals "max" = some none)
    (z_range : PySem.W.nsIn K mainGlobals "range" = some none)
    (z_sorted : PySem.W.nsIn K mainGlobals "sorted" = some none)
    (z_str : PySem.W.nsIn K mainGlobals "str" = some none)
    (z_sum : PySem.W.nsIn K mainGlobals "sum" = some none)
    (z_tuple : PySem.W.nsIn K mainGlobals "tuple" = some none)
    (z_zip : PySem.W.nsIn K mainGlobals "zip" = some none)
    {t_LETTERS : Tok} (g_LETTERS : PySem.W.nsIn K mainGlobals "LETTERS" = some (some (.str (toS [97, 98, 99, 100, 101, 102, 103, 104, 105, 106, 107, 108, 109, 110, 111, 112, 113, 114, 115, 116, 117, 118, 119, 120, 121, 122]) t_LETTERS)))
    {t_MOST_LETTERS : Tok} (g_MOST_LETTERS : PySem.W.nsIn K mainGlobals "MOST_LETTERS" = some (some (.int 8 t_MOST_LETTERS)))
    {t_MOST_NAMES : Tok} (g_MOST_NAMES : PySem.W.nsIn K mainGlobals "MOST_NAMES" = some (some (.int 8 t_MOST_NAMES)))
    {t_MOST_ORDER : Tok} (g_MOST_ORDER : PySem.W.nsIn K mainGlobals "MOST_ORDER" = some (some (.int 3 t_MOST_ORDER)))
    {t_MOST_BARRED : Tok} (g_MOST_BARRED : PySem.W.nsIn K mainGlobals "MOST_BARRED" = some (some (.int 6 t_MOST_BARRED)))
    {t_MOST_ENDS : Tok} (g_MOST_ENDS : PySem.W.nsIn K mainGlobals "MOST_ENDS" = some (some (.int 3 t_MOST_ENDS)))
    {t_MOST_PICK : Tok} (g_MOST_PICK : PySem.W.nsIn K mainGlobals "MOST_PICK" = some (some (.int 9999 t_MOST_PICK)))
    {e0 e1 e2 e3 e4 e5 e6 eL : Addr} (EL : ErrL K eL) (E0 : ErrOne K "NoBook" e0 eL) (E1 : ErrOne K "NoOrder" e1 eL) (E2 : ErrOne K "NoName" e2 eL) (E3 : ErrOne K "NoWish" e3 eL) (E4 : ErrOne K "NoNumber" e4 eL) (E5 : ErrOne K "NotMade" e5 eL) (E6 : ErrOne K "TooShort" e6 eL) (ES : ErrSub K e0 e1 e2 e3 e4 e5 e6)
    : ∃ fd : FuncData, (∀ (s : Shared) (v : Value), BindsTo s fd ⟨[v], []⟩ [("_law_script", v)]) ∧ ∀ base : Heap, K.In base → base.Ns mainGlobals mg → FnOk l.prog w K mg base (L2.CX l.prog w) 8 fa fd ["_law_script"] (spOk K 1 g_law_k41) := by
  have e := hfa.symm.trans (PySem.W.mg_of X G a38)
  cases e
  have F0 := fun_mk (st := topS 50) l0 c0 k0
  have F1 := fun_mk (st := topS 51) l1 c1 k1
  have F2 := fun_mk (st := topS 52) l2 c2 k2
  have F3 := fun_mk (st := topS 53) l3 c3 k3
  have F4 := fun_mk (st := topS 20) l4 c4 k4
  have F5 := fun_mk (st := topS 21) l5 c5 k5
  have F6 := fun_mk (st := topS 30) l6 c6 k6
  have F7 := fun_mk (st := topS 22) l7 c7 k7
  have F8 := fun_mk (st := topS 36) l8 c8 k8
  have F9 := fun_mk (st := topS 37) l9 c9 k9
  have F10 := fun_mk (st := topS 40) l10 c10 k10
  have F11 := fun_mk (st := topS 15) l11 c11 k11
  have F12 := fun_mk (st := topS 16) l12 c12 k12
  have F13 := fun_mk (st := topS 17) l13 c13 k13
  have F14 := fun_mk (st := topS 34) l14 c14 k14
  have F15 := fun_mk (st := topS 35) l15 c15 k15
  have F16 := fun_mk (st := topS 14) l16 c16 k16
  have F17 := fun_mk (st := topS 18) l17 c17 k17
  have F18 := fun_mk (st := topS 27) l18 c18 k18
  have F19 := fun_mk (st := topS 28) l19 c19 k19
  have F20 := fun_mk (st := topS 29) l20 c20 k20
  have F21 := fun_mk (st := topS 39) l21 c21 k21
  have F22 := fun_mk (st := topS 57) l22 c22 k22
  have F23 := fun_mk (st := topS 38) l23 c23 k23
  have F24 := fun_mk (st := topS 56) l24 c24 k24
  have F25 := fun_mk (st := topS 19) l25 c25 k25
  have F26 := fun_mk (st := topS 43) l26 c26 k26
  have F27 := fun_mk (st := topS 45) l27 c27 k27
  have F28 := fun_mk (st := topS 46) l28 c28 k28
  have F29 := fun_mk (st := topS 44) l29 c29 k29
  have F30 := fun_mk (st := topS 47) l30 c30 k30
  have F31 := fun_mk (st := topS 48) l31 c31 k31
  have F32 := fun_mk (st := topS 59) l32 c32 k32
  have F33 := fun_mk (st := topS 23) l33 c33 k33
  have F34 := fun_mk (st := topS 58) l34 c34 k34
  have F35 := fun_mk (st := topS 54) l35 c35 k35
  have F36 := fun_mk (st := topS 31) l36 c36 k36
  have F37 := fun_mk (st := topS 41) l37 c37 k37
  have F38 := fun_mk (st := topS 60) l38 c38 k38
  refine ⟨_, fun s v => .of_eq rfl, fun base _ _ => (ok_law {
    er := errs_mk X G EL E0 E1 E2 E3 E4 E5 E6 ES,
    f__law_cell := f0,
    fd__law_cell := _,
    F__law_cell := F0,
    b__law_cell := (F0.binds (ps := ["_law_script", "_law_k"]) fun _ _ _ _ _ _ us hl => match us, hl with | [_, _], _ => rfl),
    m__law_cell := PySem.W.mg_of X G a0,
    f__law_drawn := f1,
    fd__law_drawn := _,
    F__law_drawn := F1,
    b__law_drawn := (F1.binds (ps := ["_law_script", "_law_k", "_law_many"]) fun _ _ _ _ _ _ us hl => match us, hl with | [_, _, _], _ => rfl),
    m__law_drawn := PySem.W.mg_of X G a1,
    f__law_name := f2,
    fd__law_name := _,
    F__law_name := F2,
    b__law_name := (F2.binds (ps := ["_law_script", "_law_at", "_law_most"]) fun _ _ _ _ _ _ us hl => match us, hl with | [_, _, _], _ => rfl),
    m__law_name := PySem.W.mg_of X G a2,
    f__law_book := f3,
    fd__law_book := _,
    F__law_book := F3,
    b__law_book := (F3.binds (ps := ["_law_script", "_law_at", "_law_many", "_law_most"]) fun _ _ _ _ _ _ us hl => match us, hl with | [_, _, _, _], _ => rfl),
    m__law_book := PySem.W.mg_of X G a3,
    f_end_of := f4,
    fd_end_of := _,
    F_end_of := F4,
    b_end_of := (F4.binds (ps := ["order", "text"]) fun _ _ _ _ _ _ us hl => match us, hl with | [_, _], _ => rfl),
    m_end_of := PySem.W.mg_of X G a4,
    f_counted := f5,
    fd_counted := _,
    F_counted := F5,
    b_counted := (F5.binds (ps := ["book", "order"]) fun _ _ _ _ _ _ us hl => match us, hl with | [_, _], _ => rfl),
    m_counted := PySem.W.mg_of X G a5,
    f_is_fit := f6,
    fd_is_fit := _,
    F_is_fit := F6,
    b_is_fit := (F6.binds (ps := ["book", "wish", "name"]) fun _ _ _ _ _ _ us hl => match us, hl with | [_, _, _], _ => rfl),
    m_is_fit := PySem.W.mg_of X G a6,
    f_listed := f7,
    fd_listed := _,
    F_listed := F7,
    b_listed := (F7.binds (ps := ["row"]) fun _ _ _ _ _ _ us hl => match us, hl with | [_], _ => rfl),
    m_listed := PySem.W.mg_of X G a7,
    f_picked := f8,
    fd_picked := _,
    F_picked := F8,
    b_picked := (F8.binds (ps := ["row", "number"]) fun _ _ _ _ _ _ us hl => match us, hl with | [_, _], _ => rfl),
    m_picked := PySem.W.mg_of X G a8,
    f_one_drawn := f9,
    fd_one_drawn := _,
    F_one_drawn := F9,
    b_one_drawn := (F9.binds (ps := ["rows", "order", "numbers"]) fun _ _ _ _ _ _ us hl => match us, hl with | [_, _, _], _ => rfl),
    m_one_drawn := PySem.W.mg_of X G a9,
    f_fitting_of := f10,
    fd_fitting_of := _,
    F_fitting_of := F10,
    b_fitting_of := (F10.binds (ps := ["book", "order", "wish", "numbers"]) fun _ _ _ _ _ _ us hl => match us, hl with | [_, _, _, _], _ => rfl),
    m_fitting_of := PySem.W.mg_of X G a10,
    f_is_name := f11,
    fd_is_name := _,
    F_is_name := F11,
    b_is_name := (F11.binds (ps := ["thing"]) fun _ _ _ _ _ _ us hl => match us, hl with | [_], _ => rfl),
    m_is_name := PySem.W.mg_of X G a11,
    f_is_book := f12,
    fd_is_book := _,
    F_is_book := F12,
    b_is_book := (F12.binds (ps := ["thing"]) fun _ _ _ _ _ _ us hl => match us, hl with | [_], _ => rfl),
    m_is_book := PySem.W.mg_of X G a12,
    f_need_book := f13,
    fd_need_book := _,
    F_need_book := F13,
    b_need_book := (F13.binds (ps := ["book"]) fun _ _ _ _ _ _ us hl => match us, hl with | [_], _ => rfl),
    m_need_book := PySem.W.mg_of X G a13,
    f_are_numbers := f14,
    fd_are_numbers := _,
    F_are_numbers := F14,
    b_are_numbers := (F14.binds (ps := ["thing"]) fun _ _ _ _ _ _ us hl => match us, hl with | [_], _ => rfl),
    m_are_numbers := PySem.W.mg_of X G a14,
    f_need_numbers := f15,
    fd_need_numbers := _,
    F_need_numbers := F15,
    b_need_numbers := (F15.binds (ps := ["numbers"]) fun _ _ _ _ _ _ us hl => match us, hl with | [_], _ => rfl),
    m_need_numbers := PySem.W.mg_of X G a15,
    f_is_number := f16,
    fd_is_number := _,
    F_is_number := F16,
    b_is_number := (F16.binds (ps := ["thing", "low", "high"]) fun _ _ _ _ _ _ us hl => match us, hl with | [_, _, _], _ => rfl),
    m_is_number := PySem.W.mg_of X G a16,
    f_need_order := f17,
    fd_need_order := _,
    F_need_order := F17,
    b_need_order := (F17.binds (ps := ["order"]) fun _ _ _ _ _ _ us hl => match us, hl with | [_], _ => rfl),
    m_need_order := PySem.W.mg_of X G a17,
    f_is_end := f18,
    fd_is_end := _,
    F_is_end := F18,
    b_is_end := (F18.binds (ps := ["thing"]) fun _ _ _ _ _ _ us hl => match us, hl with | [_], _ => rfl),
    m_is_end := PySem.W.mg_of X G a18,
    f_is_wish := f19,
    fd_is_wish := _,
    F_is_wish := F19,
    b_is_wish := (F19.binds (ps := ["thing"]) fun _ _ _ _ _ _ us hl => match us, hl with | [_], _ => rfl),
    m_is_wish := PySem.W.mg_of X G a19,
    f_need_wish := f20,
    fd_need_wish := _,
    F_need_wish := F20,
    b_need_wish := (F20.binds (ps := ["wish"]) fun _ _ _ _ _ _ us hl => match us, hl with | [_], _ => rfl),
    m_need_wish := PySem.W.mg_of X G a20,
    f_drawn_fitting := f21,
    fd_drawn_fitting := _,
    F_drawn_fitting := F21,
    b_drawn_fitting := (F21.binds (ps := ["book", "order", "wish", "numbers"]) fun _ _ _ _ _ _ us hl => match us, hl with | [_, _, _, _], _ => rfl),
    m_drawn_fitting := PySem.W.mg_of X G a21,
    f__law_fitting := f22,
    fd__law_fitting := _,
    F__law_fitting := F22,
    b__law_fitting := (F22.binds (ps := ["_law_book_here", "_law_order", "_law_wish_here", "_law_numbers"]) fun _ _ _ _ _ _ us hl => match us, hl with | [_, _, _, _], _ => rfl),
    m__law_fitting := PySem.W.mg_of X G a22,
    f_drawn := f23,
    fd_drawn := _,
    F_drawn := F23,
    b_drawn := (F23.binds (ps := ["book", "order", "numbers"]) fun _ _ _ _ _ _ us hl => match us, hl with | [_, _, _], _ => rfl),
    m_drawn := PySem.W.mg_of X G a23,
    f__law_text := f24,
    fd__law_text := _,
    F__law_text := F24,
    b__law_text := (F24.binds (ps := ["_law_book_here", "_law_order", "_law_numbers"]) fun _ _ _ _ _ _ us hl => match us, hl with | [_, _, _], _ => rfl),
    m__law_text := PySem.W.mg_of X G a24,
    f_need_name := f25,
    fd_need_name := _,
    F_need_name := F25,
    b_need_name := (F25.binds (ps := ["name"]) fun _ _ _ _ _ _ us hl => match us, hl with | [_], _ => rfl),
    m_need_name := PySem.W.mg_of X G a25,
    f_lowest := f26,
    fd_lowest := _,
    F_lowest := F26,
    b_lowest := (F26.binds (ps := ["up", "down"]) fun _ _ _ _ _ _ us hl => match us, hl with | [_, _], _ => rfl),
    m_lowest := PySem.W.mg_of X G a26,
    f_part_of := f27,
    fd_part_of := _,
    F_part_of := F27,
    b_part_of := (F27.binds (ps := ["rows", "context", "letter"]) fun _ _ _ _ _ _ us hl => match us, hl with | [_, _, _], _ => rfl),
    m_part_of := PySem.W.mg_of X G a27,
    f_steps := f28,
    fd_steps := _,
    F_steps := F28,
    b_steps := (F28.binds (ps := ["book", "order", "name"]) fun _ _ _ _ _ _ us hl => match us, hl with | [_, _, _], _ => rfl),
    m_steps := PySem.W.mg_of X G a28,
    f_times := f29,
    fd_times := _,
    F_times := F29,
    b_times := (F29.binds (ps := ["one", "other"]) fun _ _ _ _ _ _ us hl => match us, hl with | [_, _], _ => rfl),
    m_times := PySem.W.mg_of X G a29,
    f_share := f30,
    fd_share := _,
    F_share := F30,
    b_share := (F30.binds (ps := ["book", "order", "name"]) fun _ _ _ _ _ _ us hl => match us, hl with | [_, _, _], _ => rfl),
    m_share := PySem.W.mg_of X G a30,
    f_makes := f31,
    fd_makes := _,
    F_makes := F31,
    b_makes := (F31.binds (ps := ["book", "order", "name"]) fun _ _ _ _ _ _ us hl => match us, hl with | [_, _, _], _ => rfl),
    m_makes := PySem.W.mg_of X G a31,
    f__law_drawn_well := f32,
    fd__law_drawn_well := _,
    F__law_drawn_well := F32,
    b__law_drawn_well := (F32.binds (ps := ["_law_book_here", "_law_order", "_law_numbers", "_law_found"]) fun _ _ _ _ _ _ us hl => match us, hl with | [_, _, _, _], _ => rfl),
    m__law_drawn_well := PySem.W.mg_of X G a32,
    f_behind := f33,
    fd_behind := _,
    F_behind := F33,
    b_behind := (F33.binds (ps := ["book", "order", "text"]) fun _ _ _ _ _ _ us hl => match us, hl with | [_, _, _], _ => rfl),
    m_behind := PySem.W.mg_of X G a33,
    f__law_picks_fit := f34,
    fd__law_picks_fit := _,
    F__law_picks_fit := F34,
    b__law_picks_fit := (F34.binds (ps := ["_law_book_here", "_law_order"]) fun _ _ _ _ _ _ us hl => match us, hl with | [_, _], _ => rfl),
    m__law_picks_fit := PySem.W.mg_of X G a34,
    f__law_wish := f35,
    fd__law_wish := _,
    F__law_wish := F35,
    b__law_wish := (F35.binds (ps := ["_law_script", "_law_at"]) fun _ _ _ _ _ _ us hl => match us, hl with | [_, _], _ => rfl),
    m__law_wish := PySem.W.mg_of X G a35,
    f_fits := f36,
    fd_fits := _,
    F_fits := F36,
    b_fits := (F36.binds (ps := ["book", "wish", "name"]) fun _ _ _ _ _ _ us hl => match us, hl with | [_, _, _], _ => rfl),
    m_fits := PySem.W.mg_of X G a36,
    f_numbers_for := f37,
    fd_numbers_for := _,
    F_numbers_for := F37,
    b_numbers_for := (F37.binds (ps := ["book", "order", "name"]) fun _ _ _ _ _ _ us hl => match us, hl with | [_, _, _], _ => rfl),
    m_numbers_for := PySem.W.mg_of X G a37,
    f_law := fa,
    fd_law := _,
    F_law := F38,
    b_law := (F38.binds (ps := ["_law_script"]) fun _ _ _ _ _ _ us hl => match us, hl with | [_], _ => rfl),
    m_law := PySem.W.mg_of X G a38,
    z_all := PySem.W.mg_none_of X G z_all,
    z_bool := PySem.W.mg_none_of X G z_bool,
    z_enumerate := PySem.W.mg_none_of X G z_enumerate,
    z_int := PySem.W.mg_none_of X G z_int,
    z_isinstance := PySem.W.mg_none_of X G z_isinstance,
    z_len := PySem.W.mg_none_of X G z_len,
    z_list := PySem.W.mg_none_of X G z_list,
    z_max := PySem.W.mg_none_of X G z_max,
    z_range := PySem.W.mg_none_of X G z_range,
    z_sorted := PySem.W.mg_none_of X G z_sorted,
    z_str := PySem.W.mg_none_of X G z_str,
    z_sum := PySem.W.mg_none_of X G z_sum,
    z_tuple := PySem.W.mg_none_of X G z_tuple,
    z_zip := PySem.W.mg_none_of X G z_zip,
    g_LETTERS := ⟨_, PySem.W.mg_of X G g_LETTERS⟩,
    g_MOST_LETTERS := ⟨_, PySem.W.mg_of X G g_MOST_LETTERS⟩,
    g_MOST_NAMES := ⟨_, PySem.W.mg_of X G g_MOST_NAMES⟩,
    g_MOST_ORDER := ⟨_, PySem.W.mg_of X G g_MOST_ORDER⟩,
    g_MOST_BARRED := ⟨_, PySem.W.mg_of X G g_MOST_BARRED⟩,
    g_MOST_ENDS := ⟨_, PySem.W.mg_of X G g_MOST_ENDS⟩,
    g_MOST_PICK := ⟨_, PySem.W.mg_of X G g_MOST_PICK⟩ }).imp spOk_D⟩
end KN
set_option maxHeartbeats 400000
namespace KN
open PySem PySem.Spec PyProof.Rows L2
noncomputable section
def q1 : Ga → R Fl := fSet 1 (bCall g__law_book (bCons (bVar 0) (bCons (bC (.int 0)) (bCons (bC (.int 4)) (bCons (bC (.int 4)) bNil)))))
def q2 : Ga → R Fl := fSet 2 (b2 dAdd (bC (.int 1)) (bCall g__law_drawn (bCons (bVar 0) (bCons (bC (.int 50)) (bCons (bC (.int 3)) bNil)))))
def q3 : Ga → R Fl := fSet 3 (bCall g__law_wish (bCons (bVar 0) (bCons (bC (.int 60)) bNil)))
def q4 : Ga → R Fl := fSet 4 (b2 dIx (bVar 1) (bCall g__law_drawn (bCons (bVar 0) (bCons (bC (.int 51)) (bCons (bN dLen (bCons (bVar 1) bNil)) bNil)))))
def q5 : Ga → R Fl := fSet 5 (bCall g_numbers_for (bCons (bVar 1) (bCons (bVar 2) (bCons (bVar 4) bNil))))
def q6 : Ga → R Fl := fIf (tVal (b2 dNe (bCall g_drawn (bCons (bVar 1) (bCons (bVar 2) (bCons (bVar 5) bNil)))) (bTup (bCons (bVar 4) (bCons (b2 dAdd (bN dLen (bCons (bVar 4) bNil)) (bC (.int 1))) bNil))))) (fRet (bC (.bl false))) fNil
def q7 : Ga → R Fl := fIf (tVal (b2 dNe (bCall g_drawn (bCons (bVar 1) (bCons (bVar 2) (bCons (b2 dAdd (bN dTuple (bCons (bVar 5) bNil)) (bTup (bCons (bC (.int 7)) bNil))) bNil)))) (bTup (bCons (bVar 4) (bCons (b2 dAdd (bN dLen (bCons (bVar 4) bNil)) (bC (.int 1))) bNil))))) (fRet (bC (.bl false))) fNil
def q9b : Ga → R Fl := fApp 6 (b2 dAdd (bVar 11) (bN dSum (bCons (bLcE (bCall g_behind (bCons (bVar 1) (bCons (bVar 2) (bCons (bSl (bVar 4) pNo (pSo (bVar 10))) bNil)))) [13, 14] (bdT [13, 14]) yes (bVar 14)) bNil)))
def q9 : Ga → R Fl := fForI (iEn (bVar 5)) (bdT [10, 11]) q9b
def q10 : Ga → R Fl := fIf (tVal (b2 dNe (bCall g_drawn (bCons (bVar 1) (bCons (bVar 2) (bCons (bVar 6) bNil)))) (bTup (bCons (bVar 4) (bCons (b2 dAdd (bN dLen (bCons (bVar 4) bNil)) (bC (.int 1))) bNil))))) (fRet (bC (.bl false))) fNil
def q11 : Ga → R Fl := fIf (tNot (tVal (bCall g__law_picks_fit (bCons (bVar 1) (bCons (bVar 2) bNil))))) (fRet (bC (.bl false))) fNil
def q12 : Ga → R Fl := fOwn 7 (bLcI (iR1 (bCall g__law_drawn (bCons (bVar 0) (bCons (bC (.int 52)) (bCons (bC (.int 31)) bNil))))) [12] (bdN 12) yes (bCall g__law_drawn (bCons (bVar 0) (bCons (b2 dAdd (bC (.int 100)) (bVar 12)) (bCons (bC (.int 50)) bNil)))))
def q13 : Ga → R Fl := fSet 8 (bCall g__law_text (bCons (bVar 1) (bCons (bVar 2) (bCons (bVar 7) bNil))))
def q14 : Ga → R Fl := fIf (tAnd (tVal (b2 dNotN (bVar 8) (bC .non))) (tNot (tVal (bCall g__law_drawn_well (bCons (bVar 1) (bCons (bVar 2) (bCons (bVar 7) (bCons (bVar 8) bNil)))))))) (fRet (bC (.bl false))) fNil
def q15 : Ga → R Fl := fSet 9 (bCall g__law_fitting (bCons (bVar 1) (bCons (bVar 2) (bCons (bVar 3) (bCons (bVar 7) bNil)))))
def q16 : Ga → R Fl := fIf (tVal (b2 dIsN (bVar 9) (bC .non))) (fRet (bC (.bl true))) fNil
def q17 : Ga → R Fl := fIf (tOr (tNot (tVal (bCall g_fits (bCons (bVar 1) (bCons (bVar 3) (bCons (b2 dIx (bVar 9) (bC (.int 0))) bNil)))))) (tNot (tVal (bCall g_makes (bCons (bVar 1) (bCons (bVar 2) (bCons (b2 dIx (bVar 9) (bC (.int 0))) bNil))))))) (fRet (bC (.bl false))) fNil
def q18 : Ga → R Fl := fRet (b2 dEq (bCall g__law_fitting (bCons (bVar 1) (bCons (bVar 2) (bCons (bVar 3) (bCons (bSl (bVar 7) pNo (pSo (b2 dIx (bVar 9) (bC (.int 1))))) bNil))))) (bVar 9))
def q : Ga → R Fl := fSeq q1 (fSeq q2 (fSeq q3 (fSeq q4 (fSeq q5 (fSeq q6 (fSeq q7 (fSeq (fOwn 6 (bLst bNil)) (fSeq q9 (fFz 6 (fSeq q10 (fSeq q11 (fSeq q12 (fFz 7 (fSeq q13 (fSeq q14 (fSeq q15 (fSeq q16 (fSeq q17 (q18)))))))))))))))))))
theorem m_law_k41_e : m_law_k41 = q := rfl
def dw_2 : Ga → R Fl := fOwn 4 (bLcE (bVar 0) [8] (bdN 8) yes (b2 dIx (bVar 8) (bC (.int 0))))
def dw_3 : Ga → R Fl := fOwn 5 (bLcE (bVar 0) [8] (bdN 8) yes (b2 dIx (bVar 8) (b1 dNeg (bC (.int 1)))))
def dw_4 : Ga → R Fl := fIf (tOr (tVal (b2 dNotIn (b2 dIx (bVar 6) (bC (.int 0))) (bRd 4))) (tOr (tVal (b2 dNotIn (b2 dIx (bVar 6) (b1 dNeg (bC (.int 1)))) (bRd 5))) (tVal (b2 dNe (bVar 7) (b2 dAdd (bN dLen (bCons (bVar 6) bNil)) (bC (.int 1))))))) (fRet (bC (.bl false))) fNil
def dw_5 : Ga → R Fl := fIf (tAnd (tVal (bCall g_is_name (bCons (bVar 6) bNil))) (tNot (tVal (bCall g_makes (bCons (bVar 0) (bCons (bVar 1) (bCons (bVar 6) bNil))))))) (fRet (bC (.bl false))) fNil
def dw_6 : Ga → R Fl := fIf (tOr (tVal (b2 dNe (bCall g_drawn (bCons (bVar 0) (bCons (bVar 1) (bCons (b2 dAdd (bSl (bVar 2) pNo (pSo (bVar 7))) (bLst (bCons (bC (.int 9)) bNil))) bNil)))) (bVar 3))) (tVal (b2 dNotN (bCall g__law_text (bCons (bVar 0) (bCons (bVar 1) (bCons (bSl (bVar 2) pNo (pSo (b2 dSub (bVar 7) (bC (.int 1))))) bNil)))) (bC .non)))) (fRet (bC (.bl false))) fNil
def dw_7 : Ga → R Fl := fRet (bOr (b2 dGt (bN dLen (bCons (bVar 6) bNil)) (bC (.int 8))) (b2 dEq (bCall g__law_fitting (bCons (bVar 0) (bCons (bVar 1) (bCons (bTup (bCons (bC (.int 1)) (bCons (bC (.int 8)) (bCons (bC (.str [])) (bCons (bC (.str [])) (bCons (bTup bNil) (bCons (bC (.bl true)) bNil))))))) (bCons (bVar 2) bNil))))) (bVar 3)))
def dw_ : Ga → R Fl := fSeq (fBd (bdT [6, 7]) (bVar 3)) (fSeq dw_2 (fSeq dw_3 (fSeq dw_4 (fSeq dw_5 (fSeq dw_6 (dw_7))))))
theorem m__law_drawn_well_e : m__law_drawn_well = dw_ := rfl
def pf1 : Ga → R Fl := fSet 2 (bCall g_behind (bCons (bVar 0) (bCons (bVar 1) (bCons (bC (.str [])) bNil))))
def pf3b1 : Ga → R Fl := fSet 5 (bCall g__law_text (bCons (bVar 0) (bCons (bVar 1) (bCons (b2 dAdd (bLst (bCons (bVar 4) bNil)) (b2 dRep (bLst (bCons (bC (.int 0)) bNil)) (bC (.int 60)))) bNil))))
def pf3b2t : Ga → R Fl := fApp 3 (b2 dIx (b2 dIx (bVar 5) (bC (.int 0))) (bC (.int 0)))
def pf3b2 : Ga → R Fl := fIf (tVal (b2 dNotN (bVar 5) (bC .non))) pf3b2t fNil
def pf3b : Ga → R Fl := fSeq pf3b1 (pf3b2)
def pf3 : Ga → R Fl := fForI (iR1 (bN dSum (bCons (bLcE (bVar 2) [6, 7] (bdT [6, 7]) yes (bVar 7)) bNil))) (bdN 4) pf3b
def pf4 : Ga → R Fl := fRet (b2 dEq (bLcE (bVar 2) [6, 7] (bdT [6, 7]) (tVal (b2 dNotIn (bM1 dCountS (bRd 3) (bVar 6)) (bTup (bCons (bC (.int 0)) (bCons (bVar 7) bNil))))) (bVar 6)) (bLst bNil))
def pf : Ga → R Fl := fSeq pf1 (fSeq (fOwn 3 (bLst bNil)) (fSeq pf3 (pf4)))
theorem m__law_picks_fit_e : m__law_picks_fit = pf := rfl
structure Gd (b : List Tx) : Prop where
  ok : bookOk b
  few : b.length ≤ 4
  four : ∀ x ∈ b, x.length ≤ 4
theorem Gd.ev {b : List Tx} (h : Gd b) (o : Nat) : (evB o b).length < 64 := by
  have := evLe (o := o) (m := 4) h.four
  have h5 : (4 + 1) * b.length ≤ 5 * 4 := Nat.mul_le_mul_left 5 h.few
  omega
theorem Gd.sm {b : List Tx} (h : Gd b) (o : Nat) : Sm (evB o b) := ⟨h.ev o, fun e he => by
  obtain ⟨x, hx, i, hi, rfl⟩ := evB_mem he
  have h5 := h.four x hx
  have hc := (h.ok.2.2 x hx).chs
  refine ⟨fun c hc2 => hc c (List.mem_of_mem_take (endT_mem hc2)), ?_, fun c hc2 => hc c (List.mem_of_mem_drop (List.mem_of_mem_take hc2)), by simp; omega⟩
  have : (endT o (x.take i)).length ≤ (x.take i).length := endT_len _ _
  rw [List.length_take] at this
  show (endT o (x.take i)).length ≤ 8
  omega⟩
theorem Gd.ltr {b : List Tx} (h : Gd b) (o : Nat) : ∀ e ∈ evB o b, ∀ c ∈ e.2, 97 ≤ c ∧ c ≤ 122 := fun e he c hc => by
  obtain ⟨x, hx, i, hi, rfl⟩ := evB_mem he
  exact (h.ok.2.2 x hx).2.2 c (List.mem_of_mem_drop (List.mem_of_mem_take hc))
/-! ### what a text drawn is -/
theorem dw_path {es : List Ev} {o : Nat} (h : Nx es o) : ∀ (ns : List Nat) (t : Tx) (k : Nat) (u : Tx) (j : Nat), Live es o t → dw es o ns t k = some (u, j) → ∃ s, u = t ++ s ∧ j = k + s.length + 1 ∧ ∀ i, i ≤ s.length → cStep u o (t.length + i) ∈ es
  | [], _, _, _, _, _, e => (nomatch e)
  | n :: ns, t, k, u, j, ht, e => by
    have ev := pk_ev h ht n
    have gl := fun z => h.go t _ ev z
    have l1 := h.one _ ev
    have e : (if pk (rowN es (endT o t)) (n % tN (rowN es (endT o t))) = [] then some (t, k + 1) else dw es o ns (t ++ pk (rowN es (endT o t)) (n % tN (rowN es (endT o t)))) (k + 1)) = some (u, j) := e
    generalize pk (rowN es (endT o t)) (n % tN (rowN es (endT o t))) = l at *
    by_cases z : l = []
    · rw [if_pos z] at e
      cases e
      refine ⟨[], (List.append_nil _).symm, rfl, fun i hi => ?_⟩
      have : i = 0 := Nat.le_zero.mp hi
      subst this
      unfold cStep
      rw [Nat.add_zero, List.take_length, List.drop_length]
      rw [z] at ev
      exact ev
    · rw [if_neg z] at e
      obtain ⟨s, h1, h2, h3⟩ := dw_path h ns (t ++ l) (k + 1) u j (gl z) e
      obtain ⟨c, rfl⟩ : ∃ c, l = [c] := by
        match l, z, l1 with
        | [c], _, _ => exact ⟨c, rfl⟩
        | [], z, _ => exact absurd rfl z
        | _ :: _ :: _, _, h => simp at h
      refine ⟨[c] ++ s, by rw [h1, List.append_assoc], by rw [List.length_append]; simp; omega, fun i hi => ?_⟩
      cases i with
      | zero =>
        unfold cStep
        have e1 : u.take (t.length + 0) = t := by rw [h1, Nat.add_zero, List.append_assoc, List.take_left]
        have e2 : (u.drop (t.length + 0)).take 1 = [c] := by rw [h1, Nat.add_zero, List.append_assoc, List.drop_left]; rfl
        rw [e1, e2]
        exact ev
      | succ i =>
        have := h3 i (by rw [List.length_append] at hi; simp at hi; omega)
        rw [List.length_append] at this
        have e1 : t.length + (i + 1) = t.length + [c].length + i := by simp; omega
        rw [e1]
        exact this
section
variable {b : List Tx} {o : Nat}
theorem no_end (hb : bookOk b) (ho : 1 ≤ o) {l : Tx} (h : ([], l) ∈ evB o b) : ∃ x ∈ b, l = x.take 1 ∧ l ≠ [] := by
  obtain ⟨x, hx, i, hi, e⟩ := evB_mem h
  have e1 := congrArg Prod.fst e
  have e2 := congrArg Prod.snd e
  simp only at e1 e2
  have x0 := (hb.2.2 x hx).1
  have : x.take i = [] := (endT_eq_nil ho).mp e1.symm
  have i0 : i = 0 := by
    have := congrArg List.length this
    rw [List.length_take] at this
    have h0 : min i x.length = 0 := this
    omega
  subst i0
  refine ⟨x, hx, e2, fun z => ?_⟩
  rw [z] at e2
  have := congrArg List.length e2
  rw [List.length_take, List.drop_zero] at this
  simp at this
  omega
theorem last_end {o : Nat} (ho : 1 ≤ o) {u : Tx} (hu : u ≠ []) : (endT o u).getLast? = u.getLast? := by
  unfold endT
  rw [List.getLast?_drop]
  have := List.length_pos_iff.mpr hu
  rw [if_neg (by omega)]
structure Dr (b : List Tx) (o : Nat) (u : Tx) (j : Nat) : Prop where
  ne : u ≠ []
  took : j = u.length + 1
  path : ∀ e ∈ evs o u, e ∈ evB o b
  first : ∃ x ∈ b, u.take 1 = x.take 1
  last : ∃ x ∈ b, u.getLast? = x.getLast?
  ltr : ∀ c ∈ u, 97 ≤ c ∧ c ≤ 122
theorem drawn_is (g : Gd b) (ho : 1 ≤ o) {ns : List Nat} {u : Tx} {j : Nat} (e : dw (evB o b) o ns [] 0 = some (u, j)) : Dr b o u j := by
  have nx := nx_of g.ok (g.sm o)
  obtain ⟨s, h1, h2, h3⟩ := dw_path nx ns [] 0 u j nx.start e
  rw [List.nil_append] at h1
  subst h1
  have p : ∀ i, i ≤ u.length → cStep u o i ∈ evB o b := fun i hi => by
    have := h3 i hi
    simp at this
    exact this
  have p0 := p 0 (Nat.zero_le _)
  have pl := p u.length (Nat.le_refl _)
  unfold cStep at p0 pl
  rw [List.take_zero, endT_nil, List.drop_zero] at p0
  rw [List.take_length, List.drop_length] at pl
  obtain ⟨x, hx, f1, f2⟩ := no_end g.ok ho p0
  have une : u ≠ [] := fun z => f2 (by rw [z]; rfl)
  refine ⟨une, by omega, fun e he => ?_, ⟨x, hx, f1⟩, ?_, dw_ltr nx (g.ltr o) ns [] 0 u j nx.start (fun c hc => absurd hc List.not_mem_nil) e⟩
  · rw [evs_e] at he
    obtain ⟨i, hi, rfl⟩ := List.mem_map.mp he
    exact p i (by have := List.mem_range.mp hi; omega)
  · obtain ⟨y, hy, i, hi, ey⟩ := evB_mem pl
    have e1 := congrArg Prod.fst ey
    have e2 := congrArg Prod.snd ey
    simp only at e1 e2
    have y0 := (g.ok.2.2 y hy).1
    have il : i = y.length := by
      have := congrArg List.length e2.symm
      rw [List.length_take, List.length_drop] at this
      have h0 : min 1 (y.length - i) = 0 := this
      omega
    subst il
    rw [List.take_length] at e1
    refine ⟨y, hy, ?_⟩
    rw [← last_end ho une, e1, last_end ho (fun z => by rw [z] at y0; simp at y0)]
theorem made_of (h : ∀ e ∈ evs o u, e ∈ evB o b) : 0 < shareQ (evB o b) o u := shq_pos h 1 (by decide)
/-! ### what is told -/
variable {w : Wi} {ns : List Nat}
theorem lt_ok (g : Gd b) (ho : 1 ≤ o ∧ o ≤ 3) (hn : okNums ns) : g__law_text [bkD b, .int o, .lst (numsD ns)] = .ok (opD (dw (evB o b) o ns [] 0)) := by
  have d := drawn_by_ok g.ok ho (g.sm o) hn false
  unfold g__law_text
  rw [fnD_e]
  show (match m__law_text [.va (bkD b), .va (.int o), .va (.lst (numsD ns))] with
    | R.ok (Fl.rt d) => R.ok d
    | R.ok (Fl.nx γ) => R.ok D.non
    | R.ex c => R.ex c
    | x => R.no) = _
  unfold m__law_text fTryN
  have d : g_drawn [bkD b, .int o, .lst (numsD ns)] = drawR (dw (evB o b) o ns [] 0) := d
  generalize numsD ns = ND at *
  generalize bkD b = B at *
  cases z : dw (evB o b) o ns [] 0 with
  | none =>
    rw [z] at d
    have d : g_drawn [B, .int o, .lst ND] = .ex 6 := d
    simp [d, opD]
  | some p =>
    rw [z] at d
    have d : g_drawn [B, .int o, .lst ND] = .ok (opD (some p)) := d
    generalize opD (some p) = OD at *
    simp [d]
theorem lf_ok (g : Gd b) (ho : 1 ≤ o ∧ o ≤ 3) (hw : WiOk w) (hn : okNums ns) : g__law_fitting [bkD b, .int o, wiD w, .lst (numsD ns)] = .ok (opD (dfit (fitP b w) (evB o b) o ns (ns.length + 1) 0)) := by
  have d := drawn_fitting_ok g.ok ho (g.sm o) hw hn false
  unfold g__law_fitting
  rw [fnD_e]
  show (match m__law_fitting [.va (bkD b), .va (.int o), .va (wiD w), .va (.lst (numsD ns))] with
    | R.ok (Fl.rt d) => R.ok d
    | R.ok (Fl.nx γ) => R.ok D.non
    | R.ex c => R.ex c
    | x => R.no) = _
  unfold m__law_fitting fTryN
  have d : g_drawn_fitting [bkD b, .int o, wiD w, .lst (numsD ns)] = drawR (dfit (fitP b w) (evB o b) o ns (ns.length + 1) 0) := d
  generalize numsD ns = ND at *
  generalize bkD b = B at *
  generalize wiD w = WD at *
  cases z : dfit (fitP b w) (evB o b) o ns (ns.length + 1) 0 with
  | none =>
    rw [z] at d
    have d : g_drawn_fitting [B, .int o, WD, .lst ND] = .ex 6 := d
    simp [d, opD]
  | some p =>
    rw [z] at d
    have d : g_drawn_fitting [B, .int o, WD, .lst ND] = .ok (opD (some p)) := d
    generalize opD (some p) = OD at *
    simp [d]
theorem opD_pl {p : Option (Tx × Nat)} (h : ∀ t k, p = some (t, k) → chs t) : pl 20 (opD p) = true := by
  cases p with
  | none => rfl
  | some q =>
    obtain ⟨t, k⟩ := q
    show (pl 19 (.str t) && (pl 19 (.int (k : Nat)) && true)) = true
    rw [pl_str, (h t k rfl).all]; rfl
end
theorem ltr_chs {u : Tx} (h : ∀ c ∈ u, 97 ≤ c ∧ c ≤ 122) : chs u := fun c hc => by have := (h c hc).2; omega
theorem ix_first {x : Tx} (h : x ≠ []) (hl : x.length ≤ 1000) : dIx (.str x) (.int 0) = .ok (.str (x.take 1)) := by
  obtain ⟨c, r, rfl⟩ : ∃ c r, x = c :: r := by
    cases x with
    | nil => exact absurd rfl h
    | cons c r => exact ⟨c, r, rfl⟩
  show (if (c :: r).length ≤ lim then (match L2.atI (c :: r) ((0 : Nat) : Int) with | some c => R.ok (D.str [c]) | none => .no) else .no) = _
  rw [if_pos (by rw [lim_val]; omega), L2.atI_nat (v := c) rfl]; rfl
theorem ix_lastS {x : Tx} {c : Nat} (h : x.getLast? = some c) (hl : x.length ≤ 1000) : dIx (.str x) (.int (-1)) = .ok (.str [c]) := by
  obtain ⟨r, rfl⟩ := List.getLast?_eq_some_iff.mp h
  show (if (r ++ [c]).length ≤ lim then (match L2.atI (r ++ [c]) (-1) with | some c => R.ok (D.str [c]) | none => .no) else .no) = _
  rw [if_pos (by rw [lim_val]; omega), atI_last]
theorem in_strl {s : Tx} {l : List Tx} (hs : chs s) (hl : ∀ y ∈ l, chs y) (hm : s ∈ l) : dNotIn (.str s) (.lst (l.map .str)) = .ok (.bl false) := by
  have p1 : pl 20 (.str s) = true := by rw [pl_str]; exact hs.all
  have p2 : pl 20 (.lst (l.map D.str)) = true := by
    show (l.map D.str).all (pl 19) = true
    rw [List.all_eq_true]
    intro d hd
    obtain ⟨y, hy, rfl⟩ := List.mem_map.mp hd
    rw [pl_str]; exact (hl y hy).all
  have e : ((l.map D.str).any fun z => eqv 20 z (.str s)) = true := by
    rw [List.any_map, List.any_eq_true]
    exact ⟨s, hm, by simp⟩
  show ((if pl 20 (.str s) = true ∧ pl 20 (.lst (l.map D.str)) = true then R.ok ((l.map D.str).any fun z => eqv 20 z (.str s)) else R.no).bind fun b => R.ok (D.bl (!b))) = _
  rw [if_pos ⟨p1, p2⟩, e]; rfl
def lastC (x : Tx) : Nat := x.getLast?.getD 0
theorem lastC_e {x : Tx} (h : x ≠ []) : x.getLast? = some (lastC x) := by
  unfold lastC
  cases z : x.getLast? with
  | none => exact absurd (List.getLast?_eq_none_iff.mp z) h
  | some c => rfl
def allW : Wi := ⟨1, 8, [], [], [], true⟩
theorem allW_ok : WiOk allW := ⟨by decide, by decide, by decide, ⟨by decide, by decide⟩, ⟨by decide, by decide⟩, by decide, (fun x hx => absurd hx List.not_mem_nil), List.Pairwise.nil⟩
section
variable {b : List Tx} {o : Nat} {ns : List Nat}
theorem cutN (m : Nat) : dSl (.lst (numsD ns)) none (some (m : Nat)) = .ok (.lst (numsD (ns.take m))) := by
  show R.ok (D.lst (cutL (numsD ns) none (some ((m : Nat) : Int)))) = _
  rw [cut_to]
  unfold numsD
  rw [List.map_take]
theorem okT (h : okNums ns) (m : Nat) : okNums (ns.take m) := ⟨by rw [List.length_take]; have := h.1; omega, fun n hm => h.2 n (List.mem_of_mem_take hm)⟩
theorem drawn_well_ok (g : Gd b) (ho : 1 ≤ o ∧ o ≤ 3) (hn : okNums ns) (hl : ns.length ≤ 60) {u : Tx} {j : Nat} (e : dw (evB o b) o ns [] 0 = some (u, j)) : g__law_drawn_well [bkD b, .int o, .lst (numsD ns), opD (some (u, j))] = .ok (.bl true) := by
  have dr := drawn_is g ho.1 e
  have nx := nx_of g.ok (g.sm o)
  have fa := dw_facts nx ns [] 0 u j nx.start (fun c hc => absurd hc List.not_mem_nil) e
  have ul : u.length ≤ 60 := by have := fa.2.2.2; simp at this; omega
  have uc := ltr_chs dr.ltr
  have b4 := g.few
  have nmb := g.ok.2.2
  have xne : ∀ x ∈ b, x ≠ [] := fun x hx z => by have := (nmb x hx).1; rw [z] at this; simp at this
  obtain ⟨x1, hx1, ef⟩ := dr.first
  obtain ⟨x2, hx2, el⟩ := dr.last
  -- firsts
  have comp := lcGo_map (bd := bdN 8) (elt := b2 dIx (bVar 8) (bC (.int 0))) (γ := wipeG [.va (bkD b), .va (.int o), .va (.lst (numsD ns)), .va (opD (some (u, j))), .un, .un, .va (.str u), .va (.int (j : Nat)), .un] [8]) (inj := D.str) (f := fun x => .str (x.take 1)) (l := b) fun x hx => ⟨_, rfl, by
    have i := ix_first (xne x hx) (by have := (nmb x hx).2.1; omega)
    generalize opD (some (u, j)) = OD at *
    generalize numsD ns = N at *
    generalize bkD b = B at *
    rw [b2_e]
    show R.bind (R.ok (D.str x)) _ = _
    simp only [R.bind, bC_e, i]⟩
  have e1 : (b.map fun x => D.str (x.take 1)) = (b.map (·.take 1)).map .str := by rw [List.map_map]; rfl
  rw [e1] at comp
  have cl := lcE_e (fe := bVar 0) (γ := [.va (bkD b), .va (.int o), .va (.lst (numsD ns)), .va (opD (some (u, j))), .un, .un, .va (.str u), .va (.int (j : Nat)), .un]) (d := bkD b) rfl rfl comp (by rw [List.length_map, List.length_map, lim_val]; omega)
  have k2 : dw_2 [.va (bkD b), .va (.int o), .va (.lst (numsD ns)), .va (opD (some (u, j))), .un, .un, .va (.str u), .va (.int (j : Nat)), .un] = .ok (.nx [.va (bkD b), .va (.int o), .va (.lst (numsD ns)), .va (opD (some (u, j))), .ow (.lst ((b.map (·.take 1)).map .str)), .un, .va (.str u), .va (.int (j : Nat)), .un]) := by
    unfold dw_2
    rw [fOwn_e, cl]; rfl
  -- lasts
  have comp2 := lcGo_map (bd := bdN 8) (elt := b2 dIx (bVar 8) (b1 dNeg (bC (.int 1)))) (γ := wipeG [.va (bkD b), .va (.int o), .va (.lst (numsD ns)), .va (opD (some (u, j))), .ow (.lst ((b.map (·.take 1)).map .str)), .un, .va (.str u), .va (.int (j : Nat)), .un] [8]) (inj := D.str) (f := fun x => .str [lastC x]) (l := b) fun x hx => ⟨_, rfl, by
    have i := ix_lastS (lastC_e (xne x hx)) (by have := (nmb x hx).2.1; omega)
    have ng : dNeg (.int 1) = .ok (.int (-1)) := rfl
    generalize (b.map (·.take 1)).map D.str = FS at *
    generalize opD (some (u, j)) = OD at *
    generalize numsD ns = N at *
    generalize bkD b = B at *
    rw [b2_e]
    show R.bind (R.ok (D.str x)) _ = _
    simp only [R.bind, b1_e, bC_e, ng, i]⟩
  have e2 : (b.map fun x => D.str [lastC x]) = (b.map fun x => [lastC x]).map .str := by rw [List.map_map]; rfl
  rw [e2] at comp2
  have cl2 := lcE_e (fe := bVar 0) (γ := [.va (bkD b), .va (.int o), .va (.lst (numsD ns)), .va (opD (some (u, j))), .ow (.lst ((b.map (·.take 1)).map .str)), .un, .va (.str u), .va (.int (j : Nat)), .un]) (d := bkD b) rfl rfl comp2 (by rw [List.length_map, List.length_map, lim_val]; omega)
  have k3 : dw_3 [.va (bkD b), .va (.int o), .va (.lst (numsD ns)), .va (opD (some (u, j))), .ow (.lst ((b.map (·.take 1)).map .str)), .un, .va (.str u), .va (.int (j : Nat)), .un] = .ok (.nx [.va (bkD b), .va (.int o), .va (.lst (numsD ns)), .va (opD (some (u, j))), .ow (.lst ((b.map (·.take 1)).map .str)), .ow (.lst ((b.map fun x => [lastC x]).map .str)), .va (.str u), .va (.int (j : Nat)), .un]) := by
    unfold dw_3
    rw [fOwn_e, cl2]; rfl
  have i0 := ix_first dr.ne (by omega)
  have ie := ix_lastS (lastC_e dr.ne) (by omega)
  have ng : dNeg (.int 1) = .ok (.int (-1)) := rfl
  have n1 := in_strl (s := u.take 1) (l := b.map (·.take 1)) (fun c hc => uc c (List.mem_of_mem_take hc)) (fun y hy => by
    obtain ⟨x, hx, rfl⟩ := List.mem_map.mp hy
    exact fun c hc => (nmb x hx).chs c (List.mem_of_mem_take hc)) (List.mem_map.mpr ⟨x1, hx1, ef.symm⟩)
  have lc : ∀ x : Tx, (∀ c ∈ x, 97 ≤ c ∧ c ≤ 122) → x ≠ [] → chs [lastC x] := fun x hx hne c hc => by
    rw [List.mem_singleton.mp hc]
    have := List.mem_of_getLast? (lastC_e hne)
    have := (hx _ this).2
    omega
  have n2 := in_strl (s := [lastC u]) (l := b.map fun x => [lastC x]) (lc u dr.ltr dr.ne) (fun y hy => by
    obtain ⟨x, hx, rfl⟩ := List.mem_map.mp hy
    exact lc x (nmb x hx).2.2 (xne x hx)) (List.mem_map.mpr ⟨x2, hx2, by unfold lastC; rw [el]⟩)
  have lu := len_str (x := u) (by rw [lim_val]; omega)
  have took : ((j : Nat) : Int) = (u.length : Nat) + 1 := by have := dr.took; omega
  have n3 : dNe (.int (j : Nat)) (.int ((u.length : Nat) + 1)) = .ok (.bl false) := by rw [took]; exact dNe_self (by simp)
  have k4 : dw_4 [.va (bkD b), .va (.int o), .va (.lst (numsD ns)), .va (opD (some (u, j))), .ow (.lst ((b.map (·.take 1)).map .str)), .ow (.lst ((b.map fun x => [lastC x]).map .str)), .va (.str u), .va (.int (j : Nat)), .un] = .ok (.nx [.va (bkD b), .va (.int o), .va (.lst (numsD ns)), .va (opD (some (u, j))), .ow (.lst ((b.map (·.take 1)).map .str)), .ow (.lst ((b.map fun x => [lastC x]).map .str)), .va (.str u), .va (.int (j : Nat)), .un]) := by
    refine if_f ?_
    generalize u.take 1 = u1 at *
    generalize (b.map fun x => [lastC x]).map D.str = LS at *
    generalize (b.map (·.take 1)).map D.str = FS at *
    generalize opD (some (u, j)) = OD at *
    generalize numsD ns = N at *
    generalize bkD b = B at *
    generalize ((u.length : Nat) : Int) = uz at *
    generalize ((j : Nat) : Int) = jz at *
    simp [bRd, i0, ie, ng, n1, n2, lu, n3]
  have inm := isNameG (d := .str u) (fun s hs => by injection hs with hs; rw [← hs, lim_val]; omega)
  have k5 : dw_5 [.va (bkD b), .va (.int o), .va (.lst (numsD ns)), .va (opD (some (u, j))), .ow (.lst ((b.map (·.take 1)).map .str)), .ow (.lst ((b.map fun x => [lastC x]).map .str)), .va (.str u), .va (.int (j : Nat)), .un] = .ok (.nx [.va (bkD b), .va (.int o), .va (.lst (numsD ns)), .va (opD (some (u, j))), .ow (.lst ((b.map (·.take 1)).map .str)), .ow (.lst ((b.map fun x => [lastC x]).map .str)), .va (.str u), .va (.int (j : Nat)), .un]) := by
    refine if_f ?_
    by_cases y : nameOk u
    · have mk := makes_ok g.ok ho y
      rw [decide_eq_true (made_of dr.path)] at mk
      have inm := isName_ok y
      generalize (b.map fun x => [lastC x]).map D.str = LS at *
      generalize (b.map (·.take 1)).map D.str = FS at *
      generalize opD (some (u, j)) = OD at *
      generalize numsD ns = N at *
      generalize bkD b = B at *
      simp [inm, mk]
    · have nf : isNameD (.str u) = false := by
        cases q : isNameD (.str u) with
        | false => rfl
        | true =>
          have q : (decide (1 ≤ u.length) && (decide (u.length ≤ 8) && u.all ltrB)) = true := q
          simp only [Bool.and_eq_true, decide_eq_true_iff, List.all_eq_true, ltrB] at q
          exact absurd q y
      rw [nf] at inm
      generalize (b.map fun x => [lastC x]).map D.str = LS at *
      generalize (b.map (·.take 1)).map D.str = FS at *
      generalize opD (some (u, j)) = OD at *
      generalize numsD ns = N at *
      generalize bkD b = B at *
      simp [inm]
  obtain ⟨h1, h2, h3⟩ := dw_less _ _ _ _ _ e
  have t1 := (h3 j).1 (by omega)
  have t1 := dw_app [9] _ _ _ _ t1
  have t2 := (h3 (j - 1)).2 (by omega)
  have ok9 : okNums (ns.take j ++ [9]) := ⟨by rw [List.length_append, List.length_take]; simp; omega, fun n hm => by
    rcases List.mem_append.mp hm with q | q
    · exact hn.2 n (List.mem_of_mem_take q)
    · rw [List.mem_singleton.mp q]; decide⟩
  have d9 := drawn_by_ok g.ok ho (g.sm o) ok9 false
  rw [t1] at d9
  have d9 : g_drawn [bkD b, .int o, .lst (numsD (ns.take j ++ [9]))] = .ok (opD (some (u, j))) := d9
  have dl := lt_ok g ho (okT hn (j - 1))
  rw [t2] at dl
  have c1 := cutN (ns := ns) j
  have c2 := cutN (ns := ns) (j - 1)
  have ej : ((j - 1 : Nat) : Int) = (j : Nat) - 1 := by omega
  rw [ej] at c2
  have ad : dAdd (.lst (numsD (ns.take j))) (.lst [.int 9]) = .ok (.lst (numsD (ns.take j ++ [9]))) := by
    show (if (numsD (ns.take j)).length + 1 ≤ lim then R.ok (D.lst (numsD (ns.take j) ++ [.int 9])) else .no) = _
    unfold numsD
    rw [if_pos (by rw [List.length_map, List.length_take, lim_val]; omega), List.map_append]; rfl
  have ne := dNe_self (opD_pl (p := some (u, j)) fun t k q => by cases q; exact uc)
  have eq := dEq_self (opD_pl (p := some (u, j)) fun t k q => by cases q; exact uc)
  have nn : dNotN (opD none) .non = .ok (.bl false) := rfl
  have l1 : 1 ≤ lim := by decide
  have l6 : 6 ≤ lim := by decide
  have k6 : dw_6 [.va (bkD b), .va (.int o), .va (.lst (numsD ns)), .va (opD (some (u, j))), .ow (.lst ((b.map (·.take 1)).map .str)), .ow (.lst ((b.map fun x => [lastC x]).map .str)), .va (.str u), .va (.int (j : Nat)), .un] = .ok (.nx [.va (bkD b), .va (.int o), .va (.lst (numsD ns)), .va (opD (some (u, j))), .ow (.lst ((b.map (·.take 1)).map .str)), .ow (.lst ((b.map fun x => [lastC x]).map .str)), .va (.str u), .va (.int (j : Nat)), .un]) := by
    refine if_f ?_
    generalize (b.map fun x => [lastC x]).map D.str = LS at *
    generalize (b.map (·.take 1)).map D.str = FS at *
    generalize opD none = O0 at *
    generalize opD (some (u, j)) = OD at *
    generalize numsD (ns.take j ++ [9]) = N9 at *
    generalize numsD (ns.take (j - 1)) = N8 at *
    generalize numsD (ns.take j) = N7 at *
    generalize numsD ns = N at *
    generalize bkD b = B at *
    generalize ((j : Nat) : Int) = jz at *
    simp [bSl, pNo, pSo, toI, c1, c2, ad, d9, ne, dl, nn, l1]
  have k7 : dw_7 [.va (bkD b), .va (.int o), .va (.lst (numsD ns)), .va (opD (some (u, j))), .ow (.lst ((b.map (·.take 1)).map .str)), .ow (.lst ((b.map fun x => [lastC x]).map .str)), .va (.str u), .va (.int (j : Nat)), .un] = .ok (.rt (.bl true)) := by
    refine ret_e ?_
    by_cases y : 8 < u.length
    · have gt : dGt (.int (u.length : Nat)) (.int 8) = .ok (.bl true) := by
        show R.ok (D.bl (decide _)) = _
        rw [decide_eq_true (by omega)]
      generalize (b.map fun x => [lastC x]).map D.str = LS at *
      generalize (b.map (·.take 1)).map D.str = FS at *
      generalize opD (some (u, j)) = OD at *
      generalize numsD ns = N at *
      generalize bkD b = B at *
      generalize ((u.length : Nat) : Int) = uz at *
      simp [bOr, lu, gt]
    · have gt : dGt (.int (u.length : Nat)) (.int 8) = .ok (.bl false) := by
        show R.ok (D.bl (decide _)) = _
        rw [decide_eq_false (by omega)]
      have lf := lf_ok g ho allW_ok hn
      have fa : dfit (fitP b allW) (evB o b) o ns (ns.length + 1) 0 = some (u, j) := by
        rw [dfit_step, List.drop_zero, e]
        have u0 := List.length_pos_iff.mpr dr.ne
        have : fitP b allW u = true := by
          unfold fitP
          have h1 : 1 ≤ u.length := u0
          have h2 : u.length ≤ 8 := by omega
          simp [allW, h1, h2]
        show (if fitP b allW u = true then some (u, 0 + j) else _) = _
        rw [if_pos this, Nat.zero_add]
      rw [fa] at lf
      have lf : g__law_fitting [bkD b, .int o, .tup [.int 1, .int 8, .str [], .str [], .tup [], .bl true], .lst (numsD ns)] = .ok (opD (some (u, j))) := lf
      generalize (b.map fun x => [lastC x]).map D.str = LS at *
      generalize (b.map (·.take 1)).map D.str = FS at *
      generalize opD (some (u, j)) = OD at *
      generalize numsD ns = N at *
      generalize bkD b = B at *
      generalize ((u.length : Nat) : Int) = uz at *
      simp [bOr, lu, gt, l6, lf, eq]
  unfold g__law_drawn_well
  refine fn_rt ?_
  rw [m__law_drawn_well_e]
  show dw_ [.va (bkD b), .va (.int o), .va (.lst (numsD ns)), .va (opD (some (u, j))), .un, .un, .un, .un, .un] = _
  unfold dw_
  rw [seq_nx (γ' := [.va (bkD b), .va (.int o), .va (.lst (numsD ns)), .va (opD (some (u, j))), .un, .un, .va (.str u), .va (.int (j : Nat)), .un]) rfl]
  rw [seq_nx k2, seq_nx k3, seq_nx k4, seq_nx k5, seq_nx k6, k7]
end
/-! ### the first letters picked -/
theorem expd_range (r : List (Tx × Nat)) : (List.range (tN r)).map (pk r) = expd r := by
  refine List.ext_getElem? fun k => ?_
  by_cases h : k < tN r
  · rw [List.getElem?_map, List.getElem?_range h, expd_at r k h]; rfl
  · rw [List.getElem?_eq_none (by rw [List.length_map, List.length_range]; omega), List.getElem?_eq_none (by rw [expd_len]; omega)]
theorem expd_cnt : ∀ {r : List (Tx × Nat)} {l : Tx} {m : Nat}, (r.map (·.1)).Nodup → (l, m) ∈ r → (expd r).count l = m
  | [], _, _, _, h => absurd h List.not_mem_nil
  | (a, n) :: r, l, m, nd, h => by
    rw [List.map_cons, List.nodup_cons] at nd
    have e : expd ((a, n) :: r) = List.replicate n a ++ expd r := by unfold expd; rw [List.flatMap_cons]
    rw [e, List.count_append, List.count_replicate]
    rcases List.mem_cons.mp h with h | h
    · have h1 : l = a := congrArg Prod.fst h
      have h2 : m = n := congrArg Prod.snd h
      subst h1
      subst h2
      have : (expd r).count l = 0 := by
        rw [List.count_eq_zero]
        intro hm
        unfold expd at hm
        obtain ⟨q, hq, hr⟩ := List.mem_flatMap.mp hm
        have := List.eq_of_mem_replicate hr
        exact nd.1 (List.mem_map.mpr ⟨q, hq, this.symm⟩)
      rw [this]; simp
    · have hne : ¬ (a == l) = true := fun q => by
        have q := eq_of_beq q
        exact nd.1 (List.mem_map.mpr ⟨(l, m), h, q.symm⟩)
      rw [if_neg hne, expd_cnt nd.2 h]; omega
section
variable {b : List Tx} {o : Nat}
def zs60 : List Nat := List.replicate 60 0
def goesP (b : List Tx) (o : Nat) (l : Tx) : Bool := (dw (evB o b) o zs60 l 1).isSome
theorem row0 (o : Nat) : endT o [] = [] := endT_nil o
theorem dw_zero (g : Gd b) (ho : 1 ≤ o) {n : Nat} (hn : n < tN (rowN (evB o b) [])) : dw (evB o b) o (n :: zs60) [] 0 = dw (evB o b) o zs60 (pk (rowN (evB o b) []) n) 1 := by
  have nx := nx_of g.ok (g.sm o)
  have ev := pk_ev nx nx.start n
  rw [row0, Nat.mod_eq_of_lt hn] at ev
  obtain ⟨_, _, _, hne⟩ := no_end g.ok ho ev
  show (if pk (rowN (evB o b) (endT o [])) (n % tN (rowN (evB o b) (endT o []))) = [] then some ([], 0 + 1) else dw (evB o b) o zs60 ([] ++ pk (rowN (evB o b) (endT o [])) (n % tN (rowN (evB o b) (endT o [])))) (0 + 1)) = _
  rw [row0, Nat.mod_eq_of_lt hn, if_neg hne, List.nil_append]
def picksL (b : List Tx) (o : Nat) (l : List Nat) : List Tx := ((l.map (pk (rowN (evB o b) []))).filter (goesP b o))
theorem lcMany {es : List Ev} (c : Tx) (hl : (rowN es c).length ≤ 1000) {γ : Ga} {fe : Ga → R D} {i j : Nat} (hij : j ≠ i) (hi : i < γ.length) (hj : j < γ.length) (h1 : fe γ = .ok (.lst (rN (rowN es c)))) : bN dSum (bCons (bLcE fe [i, j] (bdT [i, j]) yes (bVar j)) bNil) γ = .ok (.int (tN (rowN es c) : Nat)) := by
  have comp := lcGo_map (bd := bdT [i, j]) (elt := bVar j) (γ := wipeG γ [i, j]) (inj := fun e : Tx × Nat => D.tup [.str e.1, .int (e.2 : Nat)]) (f := fun e => .int (e.2 : Nat)) (l := rowN es c) fun e he => ⟨((wipeG γ [i, j]).set i (.va (.str e.1))).set j (.va (.int (e.2 : Nat))), rfl, by
    have := (At.new (γ := (wipeG γ [i, j]).set i (.va (.str e.1))) (i := j) (d := .int (e.2 : Nat)) (by simpa [wipeG] using hj)).v
    exact this⟩
  have cl := lcE_e h1 rfl comp (by rw [List.length_map, lim_val]; omega)
  have e1 : ((rowN es c).map fun e => D.int (e.2 : Nat)) = ((rowN es c).map (·.2)).map fun n : Nat => D.int (n : Nat) := by rw [List.map_map]; rfl
  rw [e1] at cl
  rw [bN_e, bCons_e, cl, bNil_e]
  exact dSum_N _
theorem fil_one (p : Tx → Bool) (l : Tx) : [l].filter p = if p l = true then [l] else [] := by cases h : p l <;> simp [h]
theorem len_bk {b : List Tx} : dLen [bkD b] = .ok (.int (b.length : Nat)) := by unfold bkD; simp [dLen]
theorem picks_fit_ok (g : Gd b) (ho : 1 ≤ o ∧ o ≤ 3) : g__law_picks_fit [bkD b, .int o] = .ok (.bl true) := by
  have nx := nx_of g.ok (g.sm o)
  have sm := g.sm o
  have bh := behind_ok g.ok ho (t := []) (.inl rfl) (by have := (tabOk (evB o b)).rlen (endT o []); have := sm.few; omega)
  have er : rowT (rowL (evB o b) (endT o [])) = rN (rowN (evB o b) []) := by rw [row0]; exact rowT_N (evB o b) []
  rw [er] at bh
  have rl := sm.rowLen []
  have rc := sm.row []
  have tl : tN (rowN (evB o b) []) ≤ 4096 := by
    have tb : ∀ r : List (Tx × Nat), (∀ e ∈ r, e.2 ≤ 64) → tN r ≤ r.length * 64 := by
      intro r
      induction r with
      | nil => intro _; exact Nat.zero_le _
      | cons a r ih =>
        intro h
        have h1 := ih fun e he => h e (List.mem_cons_of_mem _ he)
        have h2 := h a List.mem_cons_self
        rw [tN_cons, List.length_cons, Nat.succ_mul]; omega
    have := tb (rowN (evB o b) []) fun e he => by have := (rc e he).2.2.1; omega
    have h64 : (rowN (evB o b) []).length * 64 ≤ 64 * 64 := Nat.mul_le_mul_right 64 (by omega)
    omega
  have k1 : pf1 [.va (bkD b), .va (.int o), .un, .un, .un, .un, .un, .un] = .ok (.nx [.va (bkD b), .va (.int o), .va (.lst (rN (rowN (evB o b) []))), .un, .un, .un, .un, .un]) := by
    refine set_e ?_
    generalize rN (rowN (evB o b) []) = RN at *
    generalize bkD b = B at *
    simp [bh]
  obtain ⟨γ', lp, t4, t5, rfl⟩ := forGo_inv (bd := bdN 4) (inj := fun i : Nat => D.int (0 + (i : Nat))) (l0 := List.range (tN (rowN (evB o b) []))) (body := pf3b)
    (I := fun dn γ => ∃ t4 t5, γ = [.va (bkD b), .va (.int o), .va (.lst (rN (rowN (evB o b) []))), .ow (.lst ((picksL b o dn).map .str)), t4, t5, .un, .un])
    (γ := [.va (bkD b), .va (.int o), .va (.lst (rN (rowN (evB o b) []))), .ow (.lst []), .un, .un, .un, .un]) (fun dn n rest γ hr hI => by
      obtain ⟨t4, t5, rfl⟩ := hI
      obtain ⟨hn1, hn2⟩ := range_split hr
      have hn : n < tN (rowN (evB o b) []) := by omega
      have e0 : (0 : Int) + (n : Nat) = (n : Nat) := Int.zero_add _
      have okn : okNums (n :: zs60) := ⟨by rw [List.length_cons]; show 60 + 1 ≤ 99; decide, fun m hm => by
        rcases List.mem_cons.mp hm with rfl | hm
        · omega
        · rw [List.eq_of_mem_replicate hm]; decide⟩
      have lt := lt_ok g ho okn
      have rp : dRep (.lst [.int 0]) (.int 60) = .ok (.lst (numsD zs60)) := rfl
      have ad : dAdd (.lst [.int (n : Nat)]) (.lst (numsD zs60)) = .ok (.lst (numsD (n :: zs60))) := by
        show (if 1 + (numsD zs60).length ≤ lim then R.ok (D.lst ([.int (n : Nat)] ++ numsD zs60)) else .no) = _
        rw [if_pos (by decide)]; rfl
      have l1 : 1 ≤ lim := by decide
      have dz := dw_zero g ho.1 hn
      rw [dz] at lt
      have ev := pk_ev nx nx.start n
      rw [row0, Nat.mod_eq_of_lt hn] at ev
      have lone := nx.one _ ev
      obtain ⟨_, _, _, lne⟩ := no_end g.ok ho.1 ev
      have pe : picksL b o (dn ++ [n]) = picksL b o dn ++ (if goesP b o (pk (rowN (evB o b) []) n) then [pk (rowN (evB o b) []) n] else []) := by
        unfold picksL
        rw [List.map_append, List.filter_append, List.map_cons, List.map_nil, fil_one]
      have pl : (picksL b o dn).length ≤ dn.length := by
        unfold picksL
        refine Nat.le_trans (List.length_filter_le _ _) ?_
        rw [List.length_map]; omega
      have live : Live (evB o b) o (pk (rowN (evB o b) []) n) := by
        have := nx.go [] _ (by rw [row0]; exact ev) lne
        rw [List.nil_append] at this
        exact this
      refine ⟨_, rfl, [.va (bkD b), .va (.int o), .va (.lst (rN (rowN (evB o b) []))), .ow (.lst ((picksL b o (dn ++ [n])).map .str)), .va (.int (n : Nat)), .va (opD (dw (evB o b) o zs60 (pk (rowN (evB o b) []) n) 1)), .un, .un], .inl ?_, _, _, rfl⟩
      rw [e0]
      show pf3b [.va (bkD b), .va (.int o), .va (.lst (rN (rowN (evB o b) []))), .ow (.lst ((picksL b o dn).map .str)), .va (.int (n : Nat)), t5, .un, .un] = _
      have k1 : pf3b1 [.va (bkD b), .va (.int o), .va (.lst (rN (rowN (evB o b) []))), .ow (.lst ((picksL b o dn).map .str)), .va (.int (n : Nat)), t5, .un, .un] = .ok (.nx [.va (bkD b), .va (.int o), .va (.lst (rN (rowN (evB o b) []))), .ow (.lst ((picksL b o dn).map .str)), .va (.int (n : Nat)), .va (opD (dw (evB o b) o zs60 (pk (rowN (evB o b) []) n) 1)), .un, .un]) := by
        refine set_e ?_
        generalize opD (dw (evB o b) o zs60 (pk (rowN (evB o b) []) n) 1) = OD at *
        generalize (picksL b o dn).map D.str = PS at *
        generalize rN (rowN (evB o b) []) = RN at *
        generalize numsD (n :: zs60) = NZ at *
        generalize numsD zs60 = ZZ at *
        generalize bkD b = B at *
        generalize ((n : Nat) : Int) = nz at *
        simp [l1, rp, ad, lt]
      unfold pf3b
      rw [seq_nx k1, pe]
      unfold goesP
      generalize hl : pk (rowN (evB o b) []) n = l at *
      cases z : dw (evB o b) o zs60 l 1 with
      | none =>
        have nn : dNotN (opD none) .non = .ok (.bl false) := rfl
        rw [if_neg (by simp), List.append_nil]
        refine if_f ?_
        generalize opD none = OD at *
        generalize (picksL b o dn).map D.str = PS at *
        generalize rN (rowN (evB o b) []) = RN at *
        generalize bkD b = B at *
        simp [nn]
      | some p =>
        obtain ⟨u, j⟩ := p
        have fa := dw_facts nx zs60 l 1 u j live ((sm.ok _ ev).2.2.1) z
        obtain ⟨s, hs, _, _⟩ := dw_path nx zs60 l 1 u j live z
        have lone1 : l.length ≤ 1 := lone
        have ul : u.length ≤ 100 := by have := fa.2.2.2; have e : zs60.length = 60 := rfl; omega
        have une : u ≠ [] := fun q => by
          rw [hs] at q
          exact lne (List.append_eq_nil_iff.mp q).1
        have ut : u.take 1 = l := by
          rw [hs]
          match l, lne, lone with
          | [c], _, _ => rfl
          | [], q, _ => exact absurd rfl q
          | _ :: _ :: _, _, q => simp at q
        have i0 := ix_first une (by omega)
        rw [ut] at i0
        have ix : dIx (opD (some (u, j))) (.int 0) = .ok (.str u) := rfl
        have nn : dNotN (opD (some (u, j))) .non = .ok (.bl true) := rfl
        rw [if_pos (by rfl)]
        unfold pf3b2
        rw [if_t (by
          generalize opD (some (u, j)) = OD at *
          generalize (picksL b o dn).map D.str = PS at *
          generalize rN (rowN (evB o b) []) = RN at *
          generalize bkD b = B at *
          simp [nn])]
        unfold pf3b2t
        rw [fApp_e (xs := (picksL b o dn).map .str) (d := .str l) rfl (by
          generalize opD (some (u, j)) = OD at *
          generalize (picksL b o dn).map D.str = PS at *
          generalize rN (rowN (evB o b) []) = RN at *
          generalize bkD b = B at *
          rw [b2_e, b2_e]
          simp only [bVar_e, bC_e, List.getElem?_cons_succ, List.getElem?_cons_zero, R.bind, ix, i0]) (by rw [List.length_map, lim_val]; omega)]
        rw [List.map_append]
        rfl) ⟨_, _, rfl⟩
  have k3 : pf3 [.va (bkD b), .va (.int o), .va (.lst (rN (rowN (evB o b) []))), .ow (.lst []), .un, .un, .un, .un] = .ok (.nx [.va (bkD b), .va (.int o), .va (.lst (rN (rowN (evB o b) []))), .ow (.lst ((picksL b o (List.range (tN (rowN (evB o b) [])))).map .str)), t4, t5, .un, .un]) := by
    unfold pf3 fForI
    rw [iR1_s (n := tN (rowN (evB o b) [])) (lcMany (es := evB o b) [] (by omega) (fe := bVar 2) (i := 6) (j := 7) (by decide) (by simp) (by simp) rfl) (by omega)]
    exact lp
  have ps : picksL b o (List.range (tN (rowN (evB o b) []))) = (expd (rowN (evB o b) [])).filter (goesP b o) := by
    unfold picksL
    rw [expd_range]
  have nd : ((rowN (evB o b) []).map (·.1)).Nodup := by
    have e : (rowN (evB o b) []).map (·.1) = sortT (ks (rowOf (tabOf (evB o b)) [])) := by
      unfold rowN
      rw [List.map_map]; exact List.map_id _
    rw [e]
    exact (sort_lt (es := evB o b) []).imp fun h q => by rw [q] at h; exact List.lt_irrefl _ h
  have comp := lcGo_fil (bd := bdT [6, 7]) (ifs := tVal (b2 dNotIn (bM1 dCountS (bRd 3) (bVar 6)) (bTup (bCons (bC (.int 0)) (bCons (bVar 7) bNil))))) (elt := bVar 6) (γ := wipeG [.va (bkD b), .va (.int o), .va (.lst (rN (rowN (evB o b) []))), .ow (.lst ((picksL b o (List.range (tN (rowN (evB o b) [])))).map .str)), t4, t5, .un, .un] [6, 7]) (inj := fun e : Tx × Nat => D.tup [.str e.1, .int (e.2 : Nat)]) (p := fun _ => false) (f := fun e => .str e.1) (l := rowN (evB o b) []) fun e he => ⟨[.va (bkD b), .va (.int o), .va (.lst (rN (rowN (evB o b) []))), .ow (.lst ((picksL b o (List.range (tN (rowN (evB o b) [])))).map .str)), t4, t5, .va (.str e.1), .va (.int (e.2 : Nat))], rfl, by
    have ct : dCountS (.lst ((picksL b o (List.range (tN (rowN (evB o b) [])))).map .str)) (.str e.1) = .ok (.int ((picksL b o (List.range (tN (rowN (evB o b) [])))).count e.1 : Nat)) := by
      show (o2r (asTxs _)).bind _ = _
      rw [asTxs_map]; rfl
    have cv : (picksL b o (List.range (tN (rowN (evB o b) [])))).count e.1 = 0 ∨ (picksL b o (List.range (tN (rowN (evB o b) [])))).count e.1 = e.2 := by
      rw [ps]
      by_cases q : goesP b o e.1 = true
      · right
        rw [List.count_filter q]
        exact expd_cnt nd he
      · left
        rw [List.count_eq_zero]
        intro hm
        exact q (List.mem_filter.mp hm).2
    have ni : dNotIn (.int ((picksL b o (List.range (tN (rowN (evB o b) [])))).count e.1 : Nat)) (.tup [.int 0, .int (e.2 : Nat)]) = .ok (.bl false) := by
      generalize (picksL b o (List.range (tN (rowN (evB o b) [])))).count e.1 = c at *
      have ev : ([D.int 0, .int (e.2 : Nat)].any fun z => eqv 20 z (.int (c : Nat))) = true := by
        rw [List.any_cons, List.any_cons, eqv_int, eqv_int]
        rcases cv with q | q
        · rw [q]; rfl
        · rw [q]; simp
      show ((if flatD (.int (c : Nat)) = true ∧ [D.int 0, .int (e.2 : Nat)].all flatD = true then R.ok ([D.int 0, .int (e.2 : Nat)].any fun z => eqv 20 z (.int (c : Nat))) else R.no).bind fun b => R.ok (D.bl (!b))) = _
      rw [if_pos ⟨rfl, rfl⟩, ev]; rfl
    have l2 : 2 ≤ lim := by decide
    generalize (picksL b o (List.range (tN (rowN (evB o b) [])))).count e.1 = c at *
    generalize hPS : (picksL b o (List.range (tN (rowN (evB o b) [])))).map D.str = PS at *
    generalize rN (rowN (evB o b) []) = RN at *
    generalize bkD b = B at *
    generalize ((e.2 : Nat) : Int) = mz at *
    generalize ((c : Nat) : Int) = cz at *
    rw [tVal_e, b2_e]
    unfold bM1
    have rd : bRd 3 [.va B, .va (.int o), .va (.lst RN), .ow (.lst PS), t4, t5, .va (.str e.1), .va (.int mz)] = .ok (.lst PS) := rfl
    rw [rd]
    simp only [R.bind, bVar_e, List.getElem?_cons_succ, List.getElem?_cons_zero, ct]
    simp [l2, ni], fun q => (nomatch q)⟩
  have fe : (rowN (evB o b) []).filter (fun _ => false) = [] := List.filter_eq_nil_iff.mpr fun _ _ => by simp
  rw [fe] at comp
  have cl := lcE_e (fe := bVar 2) (γ := [.va (bkD b), .va (.int o), .va (.lst (rN (rowN (evB o b) []))), .ow (.lst ((picksL b o (List.range (tN (rowN (evB o b) [])))).map .str)), t4, t5, .un, .un]) rfl rfl comp (by simp)
  have q0 : dEq (.lst []) (.lst []) = .ok (.bl true) := rfl
  unfold g__law_picks_fit
  refine fn_rt ?_
  rw [m__law_picks_fit_e]
  show pf [.va (bkD b), .va (.int o), .un, .un, .un, .un, .un, .un] = _
  unfold pf
  rw [seq_nx k1, seq_nx (γ' := [.va (bkD b), .va (.int o), .va (.lst (rN (rowN (evB o b) []))), .ow (.lst []), .un, .un, .un, .un]) (by rw [fOwn_e, nilE]; rfl), seq_nx k3]
  unfold pf4
  refine ret_e ?_
  rw [b2_e, cl, nilE]
  exact q0
end
abbrev E41 (s0 : Sl) (b : List Tx) (o : Nat) (w : Wi) (x : Tx) (s5 s6 s7 s8 s9 s10 s11 s12 s13 s14 : Sl) : Ga := [s0, .va (bkD b), .va (.int o), .va (wiD w), .va (.str x), s5, s6, s7, s8, s9, s10, s11, s12, s13, s14]
section
variable {s0 s6 s7 s8 s9 s10 s11 s12 s13 s14 : Sl} {b : List Tx} {o : Nat} {w : Wi} {x : Tx}
theorem told_in (hx : x ∈ b) : ∀ e ∈ evs o x, e ∈ evB o b := fun e he => told_mem hx he
def rsL (b : List Tx) (o : Nat) (x : Tx) (l : List (Nat × Nat)) : List Nat := l.map fun p => p.1 + tN (rowN (evB o b) (endT o (x.take p.2)))
theorem q9_ok (g : Gd b) (ho : 1 ≤ o ∧ o ≤ 3) (hx : x ∈ b) : ∃ t10 t11, q9 (E41 s0 b o w x (.va (.lst (numsD (valsO (evB o b) o x)))) (.ow (.lst [])) s7 s8 s9 s10 s11 s12 s13 s14) = .ok (.nx (E41 s0 b o w x (.va (.lst (numsD (valsO (evB o b) o x)))) (.ow (.lst (numsD (rsL b o x (valsO (evB o b) o x).zipIdx)))) s7 s8 s9 t10 t11 s12 s13 s14)) := by
  have hxn := g.ok.2.2 x hx
  have vl := vals_len (evB o b) o x
  obtain ⟨γ', lp, t10, t11, rfl⟩ := forGo_inv (bd := bdT [10, 11]) (inj := fun q : Nat × Nat => D.tup [.int (q.2 : Nat), .int (q.1 : Nat)]) (l0 := (valsO (evB o b) o x).zipIdx) (body := q9b)
    (I := fun dn γ => ∃ t10 t11, γ = E41 s0 b o w x (.va (.lst (numsD (valsO (evB o b) o x)))) (.ow (.lst (numsD (rsL b o x dn)))) s7 s8 s9 t10 t11 s12 s13 s14)
    (γ := E41 s0 b o w x (.va (.lst (numsD (valsO (evB o b) o x)))) (.ow (.lst [])) s7 s8 s9 s10 s11 s12 s13 s14) (fun dn q rest γ hr hI => by
      obtain ⟨t10, t11, rfl⟩ := hI
      have hq : q ∈ (valsO (evB o b) o x).zipIdx := by rw [hr]; simp
      have qi : q.2 ≤ x.length := by
        obtain ⟨v, i⟩ := q
        have := List.mem_zipIdx hq
        rw [vl] at this
        show i ≤ x.length
        omega
      have dl : dn.length ≤ x.length + 1 := by
        have := congrArg List.length hr
        rw [List.length_zipIdx, vl, List.length_append] at this
        omega
      have x8 := hxn.2.1
      have lx : x.length ≤ lim := by rw [lim_val]; omega
      have c1 := cut1 lx q.2
      have ht : x.take q.2 = [] ∨ nameOk (x.take q.2) := by
        by_cases z : q.2 = 0
        · left; rw [z]; rfl
        · right
          exact ⟨by rw [List.length_take]; have := hxn.1; omega, by rw [List.length_take]; omega, fun c hc => hxn.2.2 c (List.mem_of_mem_take hc)⟩
      have sm := g.sm o
      have bh := behind_ok g.ok ho ht (by have := (tabOk (evB o b)).rlen (endT o (x.take q.2)); have := sm.few; omega)
      rw [show rowT (rowL (evB o b) (endT o (x.take q.2))) = rN (rowN (evB o b) (endT o (x.take q.2))) from rowT_N _ _] at bh
      refine ⟨E41 s0 b o w x (.va (.lst (numsD (valsO (evB o b) o x)))) (.ow (.lst (numsD (rsL b o x dn)))) s7 s8 s9 (.va (.int (q.2 : Nat))) (.va (.int (q.1 : Nat))) s12 s13 s14, rfl, E41 s0 b o w x (.va (.lst (numsD (valsO (evB o b) o x)))) (.ow (.lst (numsD (rsL b o x (dn ++ [q]))))) s7 s8 s9 (.va (.int (q.2 : Nat))) (.va (.int (q.1 : Nat))) s12 s13 s14, .inl ?_, _, _, rfl⟩
      have lc := lcMany (es := evB o b) (endT o (x.take q.2)) (by have := sm.rowLen (endT o (x.take q.2)); omega) (γ := E41 s0 b o w x (.va (.lst (numsD (valsO (evB o b) o x)))) (.ow (.lst (numsD (rsL b o x dn)))) s7 s8 s9 (.va (.int (q.2 : Nat))) (.va (.int (q.1 : Nat))) s12 s13 s14) (fe := bCall g_behind (bCons (bVar 1) (bCons (bVar 2) (bCons (bSl (bVar 4) pNo (pSo (bVar 10))) bNil)))) (i := 13) (j := 14) (by decide) (by simp) (by simp) (by
        unfold E41
        generalize rN (rowN (evB o b) (endT o (x.take q.2))) = RN at *
        generalize numsD (rsL b o x dn) = RS at *
        generalize numsD (valsO (evB o b) o x) = VS at *
        generalize bkD b = B at *
        generalize wiD w = WD at *
        simp [bSl, pNo, pSo, toI, c1, bh])
      unfold q9b
      rw [fApp_e (xs := numsD (rsL b o x dn)) (d := .int ((q.1 + tN (rowN (evB o b) (endT o (x.take q.2))) : Nat) : Int)) rfl (by
        rw [b2_e, lc]
        show R.bind (R.ok (D.int (q.1 : Nat))) _ = _
        show R.ok (D.int _) = _
        congr 2) (by unfold numsD rsL; rw [List.length_map, List.length_map, lim_val]; omega)]
      unfold numsD rsL
      rw [List.map_append, List.map_append]
      rfl) ⟨_, _, rfl⟩
  refine ⟨t10, t11, ?_⟩
  have ei : iEn (bVar 5) (E41 s0 b o w x (.va (.lst (numsD (valsO (evB o b) o x)))) (.ow (.lst [])) s7 s8 s9 s10 s11 s12 s13 s14) = .ok ((valsO (evB o b) o x).zipIdx.map fun q : Nat × Nat => D.tup [.int (q.2 : Nat), .int (q.1 : Nat)]) := by
    show R.ok (enuD (numsD (valsO (evB o b) o x))) = _
    unfold enuD numsD
    rw [List.zipIdx_map, List.map_map]; rfl
  unfold q9 fForI
  rw [ei]
  exact lp
end
theorem law_true_k41 : ∀ ns : List Int, ns.length ≤ 63 → g_law_k41 [.lst (ns.map .int)] = .ok (.bl true) := by
  intro ns hns
  obtain ⟨bb1, bl1, bl2, b4⟩ := book_ok hns (k := 0) (many := 4) (m := 4) (by decide) (by decide) (by decide) (by decide) (by decide) (by decide)
  have g : Gd (bookF ns 0 4 4) := ⟨⟨by omega, by omega, fun x hx => (b4 x hx).nm (by decide)⟩, by omega, fun x hx => by have := (b4 x hx).2.1; omega⟩
  generalize bookF ns 0 4 4 = b at *
  obtain ⟨d1, d2, d3⟩ := drawn_ok hns (k := 50) (m := 3) (by decide) (by decide) (by decide)
  obtain ⟨o, ho0⟩ : ∃ o : Nat, (1 : Int) + drawnF ns 50 3 = o := ⟨(1 + drawnF ns 50 3).toNat, by omega⟩
  have ho : 1 ≤ o ∧ o ≤ 3 := by omega
  generalize drawnF ns 50 3 = dr at *
  obtain ⟨w, hw, _, hwi⟩ := law_wish_ok hns (k := 60) (by decide) (by decide)
  obtain ⟨c1, c2, c3⟩ := drawn_ok hns (k := 51) (m := (b.length : Nat)) (by decide) (by decide) (by omega)
  obtain ⟨a, ha⟩ : ∃ a : Nat, drawnF ns 51 (b.length : Nat) = a := ⟨_, (Int.toNat_of_nonneg c2).symm⟩
  rw [ha] at c1 c2 c3
  obtain ⟨x, hxa⟩ : ∃ x, b[a]? = some x := ⟨b[a]'(by omega), List.getElem?_eq_getElem _⟩
  have hx := List.mem_of_getElem? hxa
  have hxn := g.ok.2.2 x hx
  obtain ⟨e1, e2, e3⟩ := drawn_ok hns (k := 52) (m := 31) (by decide) (by decide) (by decide)
  obtain ⟨many, hmany⟩ : ∃ n : Nat, drawnF ns 52 31 = n := ⟨_, (Int.toNat_of_nonneg e2).symm⟩
  rw [hmany] at e1 e2 e3
  have num : ∀ i : Nat, ∃ v : Nat, v ≤ 9999 ∧ (i < 100 → g__law_drawn [Lk ns, .int (100 + (i : Nat)), .int 50] = .ok (.int (v : Nat))) := fun i => by
    by_cases hi : i < 100
    · obtain ⟨f1, f2, f3⟩ := drawn_ok hns (k := 100 + (i : Nat)) (m := 50) (by omega) (by omega) (by omega)
      refine ⟨(drawnF ns (100 + (i : Nat)) 50).toNat, by omega, fun _ => ?_⟩
      rw [f1, Int.toNat_of_nonneg f2]
    · exact ⟨0, by omega, fun h => absurd h hi⟩
  let nums : List Nat := (List.range many).map fun i => (num i).choose
  have hnl : nums.length ≤ 60 := by show ((List.range many).map _).length ≤ 60; rw [List.length_map, List.length_range]; omega
  have hnn : ∀ n ∈ nums, n ≤ 9999 := fun n hn => by
    obtain ⟨i, _, rfl⟩ := List.mem_map.mp hn
    exact (num i).choose_spec.1
  generalize hL : Lk ns = L at *
  have l1 : 1 ≤ lim := by decide
  have l2 : 2 ≤ lim := by decide
  have nx := nx_of g.ok (g.sm o)
  have lb := len_bk (b := b)
  have lx := len_str (x := x) (by rw [lim_val]; have := hxn.2.1; omega)
  have ixx : dIx (bkD b) (.int (a : Nat)) = .ok (.str x) := by
    show o2r (L2.atI (b.map D.str) (a : Int)) = _
    rw [L2.atI_nat (v := .str x) (by rw [List.getElem?_map, hxa]; rfl)]; rfl
  have nf := numbers_for_ok g.ok ho (g.sm o) hxn
  rw [nfO_told hx] at nf
  have nf : g_numbers_for [bkD b, .int o, .str x] = .ok (.lst (numsD (valsO (evB o b) o x))) := nf
  have vl := vals_len (evB o b) o x
  have vs := vals_small (g.ev o) (told_in (o := o) hx)
  have x8 := hxn.2.1
  have okv : okNums (valsO (evB o b) o x) := ⟨by omega, fun n hn => by have := vs n hn; omega⟩
  have xD : opD (some (x, x.length + 1)) = .tup [.str x, .int ((x.length + 1 : Nat) : Int)] := rfl
  have ne := dNe_self (opD_pl (p := some (x, x.length + 1)) fun t k q => by cases q; exact hxn.chs)
  have dv := dw_vals (told_in (o := o) hx) []
  rw [List.append_nil] at dv
  have dA := drawn_by_ok g.ok ho (g.sm o) okv false
  rw [dv] at dA
  have dA : g_drawn [bkD b, .int o, .lst (numsD (valsO (evB o b) o x))] = .ok (opD (some (x, x.length + 1))) := dA
  have ok7 : okNums (valsO (evB o b) o x ++ [7]) := ⟨by rw [List.length_append]; simp; omega, fun n hn => by
    rcases List.mem_append.mp hn with q | q
    · exact okv.2 n q
    · rw [List.mem_singleton.mp q]; decide⟩
  have dB := drawn_by_ok g.ok ho (g.sm o) ok7 true
  rw [dw_vals (told_in (o := o) hx) [7]] at dB
  have dB : g_drawn [bkD b, .int o, .tup (numsD (valsO (evB o b) o x ++ [7]))] = .ok (opD (some (x, x.length + 1))) := dB
  have tup : ∀ γ : Ga, bVar 4 γ = .ok (.str x) → bTup (bCons (bVar 4) (bCons (b2 dAdd (bN dLen (bCons (bVar 4) bNil)) (bC (.int 1))) bNil)) γ = .ok (opD (some (x, x.length + 1))) := fun γ h => by
    rw [xD]
    have e : ((x.length + 1 : Nat) : Int) = (x.length : Nat) + 1 := by omega
    rw [e, bTup_e, bCons_e, h, bCons_e, b2_e, bN_e, bCons_e, h, bNil_e, bC_e]
    generalize ((x.length : Nat) : Int) = xz at *
    simp [R.bind, lx, l2]
  -- raised
  have rl : (rsL b o x (valsO (evB o b) o x).zipIdx).length = x.length + 1 := by unfold rsL; rw [List.length_map, List.length_zipIdx, vl]
  have tb : ∀ c : Tx, tN (rowN (evB o b) c) ≤ 4096 := fun c => by
    have tb : ∀ r : List (Tx × Nat), (∀ e ∈ r, e.2 ≤ 64) → tN r ≤ r.length * 64 := by
      intro r
      induction r with
      | nil => intro _; exact Nat.zero_le _
      | cons a r ih =>
        intro h
        have h1 := ih fun e he => h e (List.mem_cons_of_mem _ he)
        have h2 := h a List.mem_cons_self
        rw [tN_cons, List.length_cons, Nat.succ_mul]; omega
    have := tb (rowN (evB o b) c) fun e he => by have := ((g.sm o).row c e he).2.2.1; omega
    have h64 : (rowN (evB o b) c).length * 64 ≤ 64 * 64 := Nat.mul_le_mul_right 64 (by have := (g.sm o).rowLen c; omega)
    omega
  have okr : okNums (rsL b o x (valsO (evB o b) o x).zipIdx) := ⟨by rw [rl]; omega, fun n hn => by
    obtain ⟨p, hp, rfl⟩ := List.mem_map.mp hn
    have h1 := vs p.1 (List.fst_mem_of_mem_zipIdx hp)
    have h2 := tb (endT o (x.take p.2))
    show p.1 + tN _ ≤ 9999
    omega⟩
  have dr := dw_name (told_in (o := o) hx) (vs := rsL b o x (valsO (evB o b) o x).zipIdx) (r := []) rl fun i hi => by
    have ev : (rsL b o x (valsO (evB o b) o x).zipIdx).getD i 0 = nfV (evB o b) (endT o (x.take i)) ((x.drop i).take 1) + tN (rowN (evB o b) (endT o (x.take i))) := by
      have va := vals_at (evB o b) o x hi
      unfold rsL
      rw [List.getD_eq_getElem?_getD, List.getElem?_map, List.getElem?_zipIdx]
      rw [List.getD_eq_getElem?_getD] at va
      cases z : (valsO (evB o b) o x)[i]? with
      | none => rw [List.getElem?_eq_none_iff] at z; omega
      | some v =>
        rw [z] at va
        show v + tN (rowN (evB o b) (endT o (x.take (0 + i)))) = _
        have va : v = _ := va
        rw [va, Nat.zero_add]
    rw [ev]
    have he : (endT o (x.take i), (x.drop i).take 1) ∈ evB o b := told_in (o := o) hx _ (by rw [evs_e]; exact List.mem_map.mpr ⟨i, List.mem_range.mpr (by omega), rfl⟩)
    obtain ⟨h1, h2⟩ := nfV_pk he
    rw [Nat.add_mod_right, Nat.mod_eq_of_lt h1, h2]
  rw [List.append_nil] at dr
  have dC := drawn_by_ok g.ok ho (g.sm o) okr false
  rw [dr] at dC
  have dC : g_drawn [bkD b, .int o, .lst (numsD (rsL b o x (valsO (evB o b) o x).zipIdx))] = .ok (opD (some (x, x.length + 1))) := dC
  unfold g_law_k41
  refine fn_rt ?_
  rw [m_law_k41_e]
  unfold q
  rw [show [D.lst (ns.map D.int)].map Sl.va ++ List.replicate (15 - [D.lst (ns.map D.int)].length) Sl.un = [.va (Lk ns), .un, .un, .un, .un, .un, .un, .un, .un, .un, .un, .un, .un, .un, .un] from rfl, hL]
  refine (seq_nx (γ' := [.va L, .va (bkD b), .un, .un, .un, .un, .un, .un, .un, .un, .un, .un, .un, .un, .un]) (set_e (by simp [bb1]))).trans ?_
  refine (seq_nx (γ' := [.va L, .va (bkD b), .va (.int o), .un, .un, .un, .un, .un, .un, .un, .un, .un, .un, .un, .un]) (set_e (by
    generalize bkD b = B at *
    simp [d1, ho0]))).trans ?_
  refine (seq_nx (γ' := [.va L, .va (bkD b), .va (.int o), .va (wiD w), .un, .un, .un, .un, .un, .un, .un, .un, .un, .un, .un]) (set_e (by
    generalize bkD b = B at *
    generalize wiD w = WD at *
    simp [hwi]))).trans ?_
  refine (seq_nx (γ' := E41 (.va L) b o w x .un .un .un .un .un .un .un .un .un .un) (set_e (by
    generalize bkD b = B at *
    generalize wiD w = WD at *
    generalize ((b.length : Nat) : Int) = bz at *
    simp [lb, c1, ixx]))).trans ?_
  refine (seq_nx (γ' := E41 (.va L) b o w x (.va (.lst (numsD (valsO (evB o b) o x)))) .un .un .un .un .un .un .un .un .un) (set_e (by
    unfold E41
    generalize numsD (valsO (evB o b) o x) = NV at *
    generalize bkD b = B at *
    generalize wiD w = WD at *
    simp [nf]))).trans ?_
  have k6 : q6 (E41 (.va L) b o w x (.va (.lst (numsD (valsO (evB o b) o x)))) .un .un .un .un .un .un .un .un .un) = .ok (.nx (E41 (.va L) b o w x (.va (.lst (numsD (valsO (evB o b) o x)))) .un .un .un .un .un .un .un .un .un)) := by
    refine if_f ?_
    rw [tVal_e, b2_e, tup _ rfl]
    unfold E41
    generalize opD (some (x, x.length + 1)) = OD at *
    generalize numsD (valsO (evB o b) o x) = NV at *
    generalize bkD b = B at *
    generalize wiD w = WD at *
    simp [dA, ne]
  refine (seq_nx k6).trans ?_
  have k7 : q7 (E41 (.va L) b o w x (.va (.lst (numsD (valsO (evB o b) o x)))) .un .un .un .un .un .un .un .un .un) = .ok (.nx (E41 (.va L) b o w x (.va (.lst (numsD (valsO (evB o b) o x)))) .un .un .un .un .un .un .un .un .un)) := by
    have tu : dTuple [.lst (numsD (valsO (evB o b) o x))] = .ok (.tup (numsD (valsO (evB o b) o x))) := rfl
    have ad : dAdd (.tup (numsD (valsO (evB o b) o x))) (.tup [.int 7]) = .ok (.tup (numsD (valsO (evB o b) o x ++ [7]))) := by
      show (if (numsD (valsO (evB o b) o x)).length + 1 ≤ lim then R.ok (D.tup (numsD (valsO (evB o b) o x) ++ [.int 7])) else .no) = _
      unfold numsD
      rw [if_pos (by rw [List.length_map, lim_val]; omega), List.map_append]; rfl
    refine if_f ?_
    rw [tVal_e, b2_e, tup _ rfl]
    unfold E41
    generalize opD (some (x, x.length + 1)) = OD at *
    generalize numsD (valsO (evB o b) o x ++ [7]) = N7 at *
    generalize numsD (valsO (evB o b) o x) = NV at *
    generalize bkD b = B at *
    generalize wiD w = WD at *
    simp [tu, ad, l1, dB, ne]
  refine (seq_nx k7).trans ?_
  refine (seq_nx (γ' := E41 (.va L) b o w x (.va (.lst (numsD (valsO (evB o b) o x)))) (.ow (.lst [])) .un .un .un .un .un .un .un .un) (by rw [fOwn_e, nilE]; rfl)).trans ?_
  obtain ⟨t10, t11, k9⟩ := q9_ok (s0 := .va L) (w := w) (s7 := .un) (s8 := .un) (s9 := .un) (s10 := .un) (s11 := .un) (s12 := .un) (s13 := .un) (s14 := .un) g ho hx
  refine (seq_nx k9).trans ?_
  rw [fFz_e]
  show fSeq q10 _ (E41 (.va L) b o w x (.va (.lst (numsD (valsO (evB o b) o x)))) (.va (.lst (numsD (rsL b o x (valsO (evB o b) o x).zipIdx)))) .un .un .un t10 t11 .un .un .un) = _
  generalize Sl.va (.lst (numsD (valsO (evB o b) o x))) = s5
  have k10 : q10 (E41 (.va L) b o w x s5 (.va (.lst (numsD (rsL b o x (valsO (evB o b) o x).zipIdx)))) .un .un .un t10 t11 .un .un .un) = .ok (.nx (E41 (.va L) b o w x s5 (.va (.lst (numsD (rsL b o x (valsO (evB o b) o x).zipIdx)))) .un .un .un t10 t11 .un .un .un)) := by
    refine if_f ?_
    rw [tVal_e, b2_e, tup _ rfl]
    unfold E41
    generalize opD (some (x, x.length + 1)) = OD at *
    generalize numsD (rsL b o x (valsO (evB o b) o x).zipIdx) = NV at *
    generalize bkD b = B at *
    generalize wiD w = WD at *
    simp [dC, ne]
  refine (seq_nx k10).trans ?_
  generalize Sl.va (.lst (numsD (rsL b o x (valsO (evB o b) o x).zipIdx))) = s6
  have pf := picks_fit_ok g ho
  have k11 : q11 (E41 (.va L) b o w x s5 s6 .un .un .un t10 t11 .un .un .un) = .ok (.nx (E41 (.va L) b o w x s5 s6 .un .un .un t10 t11 .un .un .un)) := by
    refine if_f ?_
    unfold E41
    generalize bkD b = B at *
    generalize wiD w = WD at *
    simp [pf]
  refine (seq_nx k11).trans ?_
  have k12 : q12 (E41 (.va L) b o w x s5 s6 .un .un .un t10 t11 .un .un .un) = .ok (.nx (E41 (.va L) b o w x s5 s6 (.ow (.lst (numsD nums))) .un .un t10 t11 .un .un .un)) := by
    have comp := lcGo_map (bd := bdN 12) (elt := bCall g__law_drawn (bCons (bVar 0) (bCons (b2 dAdd (bC (.int 100)) (bVar 12)) (bCons (bC (.int 50)) bNil)))) (γ := wipeG (E41 (.va L) b o w x s5 s6 .un .un .un t10 t11 .un .un .un) [12]) (inj := fun i : Nat => D.int (0 + (i : Nat))) (f := fun i => .int (((num i).choose : Nat) : Int)) (l := List.range many) fun i hi => ⟨_, rfl, by
      have hi := List.mem_range.mp hi
      have e0 : (0 : Int) + (i : Nat) = (i : Nat) := Int.zero_add _
      have nm := (num i).choose_spec.2 (by omega)
      rw [e0]
      unfold E41
      generalize (((num i).choose : Nat) : Int) = vz at *
      generalize bkD b = B at *
      generalize wiD w = WD at *
      simp [wipeG, nm]⟩
    have co : bLcI (iR1 (bCall g__law_drawn (bCons (bVar 0) (bCons (bC (.int 52)) (bCons (bC (.int 31)) bNil))))) [12] (bdN 12) yes (bCall g__law_drawn (bCons (bVar 0) (bCons (b2 dAdd (bC (.int 100)) (bVar 12)) (bCons (bC (.int 50)) bNil)))) (E41 (.va L) b o w x s5 s6 .un .un .un t10 t11 .un .un .un) = .ok (.lst (numsD nums)) := by
      unfold bLcI
      rw [iR1_s (n := many) (by
        unfold E41
        generalize bkD b = B at *
        generalize wiD w = WD at *
        simp [e1]) (by omega)]
      have := lcOut_e comp (by rw [List.length_map, List.length_range, lim_val]; omega)
      have e : ((List.range many).map fun i => D.int (((num i).choose : Nat) : Int)) = numsD nums := by
        show _ = ((List.range many).map fun i => (num i).choose).map fun n : Nat => D.int (n : Nat)
        rw [List.map_map]; rfl
      rw [e] at this
      exact this
    unfold q12
    rw [fOwn_e, co]; rfl
  refine (seq_nx k12).trans ?_
  rw [fFz_e]
  show fSeq q13 _ (E41 (.va L) b o w x s5 s6 (.va (.lst (numsD nums))) .un .un t10 t11 .un .un .un) = _
  generalize nums = vs2 at *
  have okn : okNums vs2 := ⟨by omega, hnn⟩
  have lt := lt_ok g ho okn
  have k13 : q13 (E41 (.va L) b o w x s5 s6 (.va (.lst (numsD vs2))) .un .un t10 t11 .un .un .un) = .ok (.nx (E41 (.va L) b o w x s5 s6 (.va (.lst (numsD vs2))) (.va (opD (dw (evB o b) o vs2 [] 0))) .un t10 t11 .un .un .un)) := by
    refine set_e ?_
    unfold E41
    generalize opD (dw (evB o b) o vs2 [] 0) = OD at *
    generalize numsD vs2 = N2 at *
    generalize bkD b = B at *
    generalize wiD w = WD at *
    simp [lt]
  refine (seq_nx k13).trans ?_
  have k14 : q14 (E41 (.va L) b o w x s5 s6 (.va (.lst (numsD vs2))) (.va (opD (dw (evB o b) o vs2 [] 0))) .un t10 t11 .un .un .un) = .ok (.nx (E41 (.va L) b o w x s5 s6 (.va (.lst (numsD vs2))) (.va (opD (dw (evB o b) o vs2 [] 0))) .un t10 t11 .un .un .un)) := by
    refine if_f ?_
    cases z : dw (evB o b) o vs2 [] 0 with
    | none =>
      have nn : dNotN (opD none) .non = .ok (.bl false) := rfl
      unfold E41
      generalize opD none = OD at *
      generalize numsD vs2 = N2 at *
      generalize bkD b = B at *
      generalize wiD w = WD at *
      simp [nn]
    | some p =>
      obtain ⟨u, j⟩ := p
      have dw1 := drawn_well_ok g ho okn hnl z
      have nn : dNotN (opD (some (u, j))) .non = .ok (.bl true) := rfl
      unfold E41
      generalize opD (some (u, j)) = OD at *
      generalize numsD vs2 = N2 at *
      generalize bkD b = B at *
      generalize wiD w = WD at *
      simp [nn, dw1]
  refine (seq_nx k14).trans ?_
  generalize Sl.va (opD (dw (evB o b) o vs2 [] 0)) = s8
  have lf := lf_ok g ho hw okn
  have k15 : q15 (E41 (.va L) b o w x s5 s6 (.va (.lst (numsD vs2))) s8 .un t10 t11 .un .un .un) = .ok (.nx (E41 (.va L) b o w x s5 s6 (.va (.lst (numsD vs2))) s8 (.va (opD (dfit (fitP b w) (evB o b) o vs2 (vs2.length + 1) 0))) t10 t11 .un .un .un)) := by
    refine set_e ?_
    unfold E41
    generalize opD (dfit (fitP b w) (evB o b) o vs2 (vs2.length + 1) 0) = OD at *
    generalize numsD vs2 = N2 at *
    generalize bkD b = B at *
    generalize wiD w = WD at *
    simp [lf]
  refine (seq_nx k15).trans ?_
  cases z : dfit (fitP b w) (evB o b) o vs2 (vs2.length + 1) 0 with
  | none =>
    have isn : dIsN (opD none) .non = .ok (.bl true) := rfl
    refine sq_rt ?_
    unfold q16
    rw [if_t (by
      unfold E41
      generalize opD none = OD at *
      generalize numsD vs2 = N2 at *
      generalize bkD b = B at *
      generalize wiD w = WD at *
      simp [isn])]
    rfl
  | some p =>
    obtain ⟨t, j⟩ := p
    have isn : dIsN (opD (some (t, j))) .non = .ok (.bl false) := rfl
    have i0 : dIx (opD (some (t, j))) (.int 0) = .ok (.str t) := rfl
    have i1 : dIx (opD (some (t, j))) (.int 1) = .ok (.int (j : Nat)) := rfl
    -- what is found
    have found : ∀ (f c : Nat), dfit (fitP b w) (evB o b) o vs2 f c = some (t, j) → fitP b w t = true ∧ ∃ ms k, dw (evB o b) o ms [] 0 = some (t, k) := by
      intro f
      induction f with
      | zero => intro c h; cases h
      | succ f ih =>
        intro c h
        rw [dfit_step] at h
        cases y : dw (evB o b) o (vs2.drop c) [] 0 with
        | none => rw [y] at h; cases h
        | some q =>
          obtain ⟨u, k⟩ := q
          rw [y] at h
          have h : (if fitP b w u = true then some (u, c + k) else dfit (fitP b w) (evB o b) o vs2 f (c + k)) = some (t, j) := h
          by_cases v : fitP b w u = true
          · rw [if_pos v] at h
            cases h
            exact ⟨v, _, _, y⟩
          · rw [if_neg v] at h
            exact ih (c + k) h
    obtain ⟨ft, ms, k, hms⟩ := found _ _ z
    have dr2 := drawn_is g ho.1 hms
    have tl : t.length ≤ 8 := by
      have h := ft
      unfold fitP at h
      simp only [Bool.and_eq_true, decide_eq_true_eq] at h
      have := hw.hi8
      omega
    have tn : nameOk t := ⟨List.length_pos_iff.mpr dr2.ne, tl, dr2.ltr⟩
    have fo := fits_ok g.ok hw tn
    rw [ft] at fo
    have mk := makes_ok g.ok ho tn
    rw [decide_eq_true (made_of dr2.path)] at mk
    have k16 : q16 (E41 (.va L) b o w x s5 s6 (.va (.lst (numsD vs2))) s8 (.va (opD (some (t, j)))) t10 t11 .un .un .un) = .ok (.nx (E41 (.va L) b o w x s5 s6 (.va (.lst (numsD vs2))) s8 (.va (opD (some (t, j)))) t10 t11 .un .un .un)) := by
      refine if_f ?_
      unfold E41
      generalize opD (some (t, j)) = OD at *
      generalize numsD vs2 = N2 at *
      generalize bkD b = B at *
      generalize wiD w = WD at *
      simp [isn]
    refine (seq_nx k16).trans ?_
    have k17 : q17 (E41 (.va L) b o w x s5 s6 (.va (.lst (numsD vs2))) s8 (.va (opD (some (t, j)))) t10 t11 .un .un .un) = .ok (.nx (E41 (.va L) b o w x s5 s6 (.va (.lst (numsD vs2))) s8 (.va (opD (some (t, j)))) t10 t11 .un .un .un)) := by
      refine if_f ?_
      unfold E41
      generalize opD (some (t, j)) = OD at *
      generalize numsD vs2 = N2 at *
      generalize bkD b = B at *
      generalize wiD w = WD at *
      simp [i0, fo, mk]
    refine (seq_nx k17).trans ?_
    obtain ⟨ca, _⟩ := dfit_take _ _ _ _ z
    have lf2 := lf_ok g ho hw (okT okn j)
    rw [← dfit_more ((vs2.take j).length + 1) 0 (by omega) (vs2.length + 1 + (vs2.take j).length + 1) (by omega), ca _ (by omega)] at lf2
    have c2 := cutN (ns := vs2) j
    have eq := dEq_self (opD_pl (p := some (t, j)) fun u k q => by cases q; exact tn.chs)
    unfold q18
    refine ret_e ?_
    unfold E41
    generalize opD (some (t, j)) = OD at *
    generalize numsD (vs2.take j) = NT at *
    generalize numsD vs2 = N2 at *
    generalize bkD b = B at *
    generalize wiD w = WD at *
    simp [bSl, pNo, pSo, toI, i1, c2, lf2, eq]
end
end KN
open PySem PySem.W PyProof.Rows
set_option maxHeartbeats 0 in
theorem PySem.Challenge.cw_kinnames_k41_whole_drawing_holds : PySem.Challenge.rw_kinnames_k41_whole_drawing.Holds := by
  w_on; o_law; k_head; (case hw => w_witness2)
  k_fill
  refine L2.walk_of (l := PySem.Challenge.rw_kinnames_k41_whole_drawing) (n := 63) (k := 8) (x := "_law_script") (CX := fun w => L2.CX PySem.Challenge.rw_kinnames_k41_whole_drawing.prog w) (sp := fun w => KN.spOk _ 1 KN.g_law_k41) rfl (by decide) rfl ⟨rfl, by decide, by decide⟩ (fun w h Y => PySem.W.kIn_of Y) ?F (fun _ _ a ns hl _ hS => KN.law_endX KN.law_true_k41 hl hS) (fun w H s e s' h => KN.cx_end h)
  case F =>
    intro w mg fa h KX G hmg
    refine' KN.all_mk KX G hmg ?a0 ?l0 ?c0 ?k0 ?a1 ?l1 ?c1 ?k1 ?a2 ?l2 ?c2 ?k2 ?a3 ?l3 ?c3 ?k3 ?a4 ?l4 ?c4 ?k4 ?a5 ?l5 ?c5 ?k5 ?a6 ?l6 ?c6 ?k6 ?a7 ?l7 ?c7 ?k7 ?a8 ?l8 ?c8 ?k8 ?a9 ?l9 ?c9 ?k9 ?a10 ?l10 ?c10 ?k10 ?a11 ?l11 ?c11 ?k11 ?a12 ?l12 ?c12 ?k12 ?a13 ?l13 ?c13 ?k13 ?a14 ?l14 ?c14 ?k14 ?a15 ?l15 ?c15 ?k15 ?a16 ?l16 ?c16 ?k16 ?a17 ?l17 ?c17 ?k17 ?a18 ?l18 ?c18 ?k18 ?a19 ?l19 ?c19 ?k19 ?a20 ?l20 ?c20 ?k20 ?a21 ?l21 ?c21 ?k21 ?a22 ?l22 ?c22 ?k22 ?a23 ?l23 ?c23 ?k23 ?a24 ?l24 ?c24 ?k24 ?a25 ?l25 ?c25 ?k25 ?a26 ?l26 ?c26 ?k26 ?a27 ?l27 ?c27 ?k27 ?a28 ?l28 ?c28 ?k28 ?a29 ?l29 ?c29 ?k29 ?a30 ?l30 ?c30 ?k30 ?a31 ?l31 ?c31 ?k31 ?a32 ?l32 ?c32 ?k32 ?a33 ?l33 ?c33 ?k33 ?a34 ?l34 ?c34 ?k34 ?a35 ?l35 ?c35 ?k35 ?a36 ?l36 ?c36 ?k36 ?a37 ?l37 ?c37 ?k37 ?a38 ?l38 ?c38 ?k38 ?z_all ?z_bool ?z_enumerate ?z_int ?z_isinstance ?z_len ?z_list ?z_max ?z_range ?z_sorted ?z_str ?z_sum ?z_tuple ?z_zip ?g_LETTERS ?g_MOST_LETTERS ?g_MOST_NAMES ?g_MOST_ORDER ?g_MOST_BARRED ?g_MOST_ENDS ?g_MOST_PICK ?EL ?E0 ?E1 ?E2 ?E3 ?E4 ?E5 ?E6 ?ES
    case a0 => k_is
    case l0 => k_is
    case c0 => k_is
    case k0 => k_is
    case a1 => k_is
    case l1 => k_is
    case c1 => k_is
    case k1 => k_is
    case a2 => k_is
    case l2 => k_is
    case c2 => k_is
    case k2 => k_is
    case a3 => k_is
    case l3 => k_is
    case c3 => k_is
    case k3 => k_is
    case a4 => k_is
    case l4 => k_is
    case c4 => k_is
    case k4 => k_is
    case a5 => k_is
    case l5 => k_is
    case c5 => k_is
    case k5 => k_is
    case a6 => k_is
    case l6 => k_is
    case c6 => k_is
    case k6 => k_is
    case a7 => k_is
    case l7 => k_is
    case c7 => k_is
    case k7 => k_is
    case a8 => k_is
    case l8 => k_is
    case c8 => k_is
    case k8 => k_is
    case a9 => k_is
    case l9 => k_is
    case c9 => k_is
    case k9 => k_is
    case a10 => k_is
    case l10 => k_is
    case c10 => k_is
    case k10 => k_is
    case a11 => k_is
    case l11 => k_is
    case c11 => k_is
    case k11 => k_is
    case a12 => k_is
    case l12 => k_is
    case c12 => k_is
    case k12 => k_is
    case a13 => k_is
    case l13 => k_is
    case c13 => k_is
    case k13 => k_is
    case a14 => k_is
    case l14 => k_is
    case c14 => k_is
    case k14 => k_is
    case a15 => k_is
    case l15 => k_is
    case c15 => k_is
    case k15 => k_is
    case a16 => k_is
    case l16 => k_is
    case c16 => k_is
    case k16 => k_is
    case a17 => k_is
    case l17 => k_is
    case c17 => k_is
    case k17 => k_is
    case a18 => k_is
    case l18 => k_is
    case c18 => k_is
    case k18 => k_is
    case a19 => k_is
    case l19 => k_is
    case c19 => k_is
    case k19 => k_is
    case a20 => k_is
    case l20 => k_is
    case c20 => k_is
    case k20 => k_is
    case a21 => k_is
    case l21 => k_is
    case c21 => k_is
    case k21 => k_is
    case a22 => k_is
    case l22 => k_is
    case c22 => k_is
    case k22 => k_is
    case a23 => k_is
    case l23 => k_is
    case c23 => k_is
    case k23 => k_is
    case a24 => k_is
    case l24 => k_is
    case c24 => k_is
    case k24 => k_is
    case a25 => k_is
    case l25 => k_is
    case c25 => k_is
    case k25 => k_is
    case a26 => k_is
    case l26 => k_is
    case c26 => k_is
    case k26 => k_is
    case a27 => k_is
    case l27 => k_is
    case c27 => k_is
    case k27 => k_is
    case a28 => k_is
    case l28 => k_is
    case c28 => k_is
    case k28 => k_is
    case a29 => k_is
    case l29 => k_is
    case c29 => k_is
    case k29 => k_is
    case a30 => k_is
    case l30 => k_is
    case c30 => k_is
    case k30 => k_is
    case a31 => k_is
    case l31 => k_is
    case c31 => k_is
    case k31 => k_is
    case a32 => k_is
    case l32 => k_is
    case c32 => k_is
    case k32 => k_is
    case a33 => k_is
    case l33 => k_is
    case c33 => k_is
    case k33 => k_is
    case a34 => k_is
    case l34 => k_is
    case c34 => k_is
    case k34 => k_is
    case a35 => k_is
    case l35 => k_is
    case c35 => k_is
    case k35 => k_is
    case a36 => k_is
    case l36 => k_is
    case c36 => k_is
    case k36 => k_is
    case a37 => k_is
    case l37 => k_is
    case c37 => k_is
    case k37 => k_is
    case a38 => k_is
    case l38 => k_is
    case c38 => k_is
    case k38 => k_is
    case z_all => k_is
    case z_bool => k_is
    case z_enumerate => k_is
    case z_int => k_is
    case z_isinstance => k_is
    case z_len => k_is
    case z_list => k_is
    case z_max => k_is
    case z_range => k_is
    case z_sorted => k_is
    case z_str => k_is
    case z_sum => k_is
    case z_tuple => k_is
    case z_zip => k_is
    case g_LETTERS => k_is
    case g_MOST_LETTERS => k_is
    case g_MOST_NAMES => k_is
    case g_MOST_ORDER => k_is
    case g_MOST_BARRED => k_is
    case g_MOST_ENDS => k_is
    case g_MOST_PICK => k_is
    case EL => (refine' KN.ErrL.mk ?nn ?bb ?tt ?dd; (case nn => k_is); (case bb => k_is); (case tt => k_is); (case dd => k_is))
    case E0 => (refine' KN.ErrOne.mk ?y0 ?y1 ?y2 ?y3 ?y4 ?y5 ?y6 ?y7 ?y8 ?y9 ?y10 ?y11 ?y12 ?y13; (case y0 => k_is); (case y1 => k_exc); (case y2 => k_is); (case y3 => k_is); (case y4 => k_is); (case y5 => k_is); (case y6 => k_is); (case y7 => k_is); (case y8 => k_is); (case y9 => k_is); (case y10 => k_is); (case y11 => k_is); (case y12 => k_is); (case y13 => k_is))
    case E1 => (refine' KN.ErrOne.mk ?y0 ?y1 ?y2 ?y3 ?y4 ?y5 ?y6 ?y7 ?y8 ?y9 ?y10 ?y11 ?y12 ?y13; (case y0 => k_is); (case y1 => k_exc); (case y2 => k_is); (case y3 => k_is); (case y4 => k_is); (case y5 => k_is); (case y6 => k_is); (case y7 => k_is); (case y8 => k_is); (case y9 => k_is); (case y10 => k_is); (case y11 => k_is); (case y12 => k_is); (case y13 => k_is))
    case E2 => (refine' KN.ErrOne.mk ?y0 ?y1 ?y2 ?y3 ?y4 ?y5 ?y6 ?y7 ?y8 ?y9 ?y10 ?y11 ?y12 ?y13; (case y0 => k_is); (case y1 => k_exc); (case y2 => k_is); (case y3 => k_is); (case y4 => k_is); (case y5 => k_is); (case y6 => k_is); (case y7 => k_is); (case y8 => k_is); (case y9 => k_is); (case y10 => k_is); (case y11 => k_is); (case y12 => k_is); (case y13 => k_is))
    case E3 => (refine' KN.ErrOne.mk ?y0 ?y1 ?y2 ?y3 ?y4 ?y5 ?y6 ?y7 ?y8 ?y9 ?y10 ?y11 ?y12 ?y13; (case y0 => k_is); (case y1 => k_exc); (case y2 => k_is); (case y3 => k_is); (case y4 => k_is); (case y5 => k_is); (case y6 => k_is); (case y7 => k_is); (case y8 => k_is); (case y9 => k_is); (case y10 => k_is); (case y11 => k_is); (case y12 => k_is); (case y13 => k_is))
    case E4 => (refine' KN.ErrOne.mk ?y0 ?y1 ?y2 ?y3 ?y4 ?y5 ?y6 ?y7 ?y8 ?y9 ?y10 ?y11 ?y12 ?y13; (case y0 => k_is); (case y1 => k_exc); (case y2 => k_is); (case y3 => k_is); (case y4 => k_is); (case y5 => k_is); (case y6 => k_is); (case y7 => k_is); (case y8 => k_is); (case y9 => k_is); (case y10 => k_is); (case y11 => k_is); (case y12 => k_is); (case y13 => k_is))
    case E5 => (refine' KN.ErrOne.mk ?y0 ?y1 ?y2 ?y3 ?y4 ?y5 ?y6 ?y7 ?y8 ?y9 ?y10 ?y11 ?y12 ?y13; (case y0 => k_is); (case y1 => k_exc); (case y2 => k_is); (case y3 => k_is); (case y4 => k_is); (case y5 => k_is); (case y6 => k_is); (case y7 => k_is); (case y8 => k_is); (case y9 => k_is); (case y10 => k_is); (case y11 => k_is); (case y12 => k_is); (case y13 => k_is))
    case E6 => (refine' KN.ErrOne.mk ?y0 ?y1 ?y2 ?y3 ?y4 ?y5 ?y6 ?y7 ?y8 ?y9 ?y10 ?y11 ?y12 ?y13; (case y0 => k_is); (case y1 => k_exc); (case y2 => k_is); (case y3 => k_is); (case y4 => k_is); (case y5 => k_is); (case y6 => k_is); (case y7 => k_is); (case y8 => k_is); (case y9 => k_is); (case y10 => k_is); (case y11 => k_is); (case y12 => k_is); (case y13 => k_is))
    case ES => (refine' KN.ErrSub.mk ?y0 ?y1 ?y2 ?y3 ?y4 ?y5 ?y6 ?y7 ?y8 ?y9 ?y10 ?y11 ?y12 ?y13 ?y14 ?y15 ?y16 ?y17 ?y18 ?y19 ?y20 ?y21 ?y22 ?y23 ?y24 ?y25 ?y26 ?y27 ?y28 ?y29 ?y30 ?y31 ?y32 ?y33 ?y34 ?y35 ?y36 ?y37 ?y38 ?y39 ?y40 ?y41 ?y42 ?y43 ?y44 ?y45 ?y46 ?y47 ?y48; (case y0 => k_is); (case y1 => k_is); (case y2 => k_is); (case y3 => k_is); (case y4 => k_is); (case y5 => k_is); (case y6 => k_is); (case y7 => k_is); (case y8 => k_is); (case y9 => k_is); (case y10 => k_is); (case y11 => k_is); (case y12 => k_is); (case y13 => k_is); (case y14 => k_is); (case y15 => k_is); (case y16 => k_is); (case y17 => k_is); (case y18 => k_is); (case y19 => k_is); (case y20 => k_is); (case y21 => k_is); (case y22 => k_is); (case y23 => k_is); (case y24 => k_is); (case y25 => k_is); (case y26 => k_is); (case y27 => k_is); (case y28 => k_is); (case y29 => k_is); (case y30 => k_is); (case y31 => k_is); (case y32 => k_is); (case y33 => k_is); (case y34 => k_is); (case y35 => k_is); (case y36 => k_is); (case y37 => k_is); (case y38 => k_is); (case y39 => k_is); (case y40 => k_is); (case y41 => k_is); (case y42 => k_is); (case y43 => k_is); (case y44 => k_is); (case y45 => k_is); (case y46 => k_is); (case y47 => k_is); (case y48 => k_is))
