import PyProof.Rows.All
import Wide.All
import OpenK.AllK
import Wide.FinOn
import HandS.ForMost
import HandS.ForExc
import HandS.CallSlots
import HandS.Wide
import HandS.More
import HandS.TupAny
import HandS.TupMul
import HandS.Deep
import HandS.Style
import HandS.IsInst
import HandS.SortInts
import PyProof.Rows.SortShellAny
import KE.KSortTupG
import HandS.SetFor
import HandS.TryOnly
import HandS.HotCalls
import HandS.ExcIs
import HandS.ListItems
import PySem.Challenge.RW_kinnames_k20_lengths
set_option Elab.async false
set_option linter.all false
set_option maxRecDepth 100000
set_option maxHeartbeats 4000000
/-! KnA: pure data, their standing in a heap, judgements -/
namespace KN
open PySem PySem.Spec PyProof.Rows L2
/-! ### pure data -/
abbrev Tx := List Nat
inductive D where
  | non | bl (b : Bool) | int (i : Int) | str (s : Tx)
  | lst (xs : List D) | tup (xs : List D) | dic (es : List (Tx × D))
abbrev toS (s : Tx) : Str := ⟨s.toArray⟩
inductive R (α : Type) where
  | ok (a : α) | ex (c : Nat) | no
namespace R
@[simp] def bind {α β : Type} : R α → (α → R β) → R β
  | ok a, f => f a
  | ex c, _ => ex c
  | no, _ => no
@[simp] def noex {α : Type} : R α → R α
  | ok a => ok a
  | _ => no
end R
inductive Sl where
  | un | va (d : D) | ow (d : D) | nd (es : List (Tx × List (Tx × D))) | xc (a : Addr)
abbrev Ga := List Sl
/-! ### data in a heap -/
mutual
inductive Rep (K : PySem.W.Frag) (F : Hp) : D → V → Prop
  | non : Rep K F .non .non
  | bl (b : Bool) : Rep K F (.bl b) (.bl b)
  | int (i : Int) : Rep K F (.int i) (.int i)
  | str (s : Tx) : Rep K F (.str s) (.str (toS s))
  | lst {a : Addr} {ds : List D} {vs : List V} : SqL K F a vs → Reps K F ds vs → Rep K F (.lst ds) (.ref a)
  | tup {a : Addr} {ds : List D} {vs : List V} : SqT K F a vs → Reps K F ds vs → Rep K F (.tup ds) (.ref a)
  | dic {a : Addr} {es : List (Tx × D)} {kvs : List (Key × V)} : F a = some (.dK kvs) → RepK K F es kvs → Rep K F (.dic es) (.ref a)
inductive Reps (K : PySem.W.Frag) (F : Hp) : List D → List V → Prop
  | nil : Reps K F [] []
  | cons {d : D} {ds : List D} {v : V} {vs : List V} : Rep K F d v → Reps K F ds vs → Reps K F (d :: ds) (v :: vs)
inductive RepK (K : PySem.W.Frag) (F : Hp) : List (Tx × D) → List (Key × V) → Prop
  | nil : RepK K F [] []
  | cons {k : Tx} {d : D} {es : List (Tx × D)} {v : V} {kvs : List (Key × V)} : Rep K F d v → RepK K F es kvs → RepK K F ((k, d) :: es) ((Sum.inr (toS k), v) :: kvs)
end
theorem same_sqt {K : PySem.W.Frag} {F F' : Hp} {a : Addr} {xs : List V} (e : Same F F') (h : SqT K F a xs) : SqT K F' a xs := by
  rcases h with (h | ⟨o, h⟩) | h
  · exact .inl (.inl (e _ _ h))
  · exact .inl (.inr ⟨o, e _ _ h⟩)
  · exact .inr h
section
variable {K : PySem.W.Frag} {F F' : Hp}
theorem Rep.mono (e : Same F F') {d : D} {v : V} (h : Rep K F d v) : Rep K F' d v :=
  Rep.rec (motive_1 := fun d v _ => Rep K F' d v) (motive_2 := fun ds vs _ => Reps K F' ds vs) (motive_3 := fun es kvs _ => RepK K F' es kvs)
    .non .bl .int .str (fun h1 _ i => .lst (e.seq h1) i) (fun h1 _ i => .tup (same_sqt e h1) i) (fun h1 _ i => .dic (e _ _ h1) i)
    .nil (fun _ _ i j => .cons i j) .nil (fun _ _ i j => .cons i j) h
theorem Reps.mono (e : Same F F') {ds : List D} {vs : List V} (h : Reps K F ds vs) : Reps K F' ds vs :=
  Reps.rec (motive_1 := fun d v _ => Rep K F' d v) (motive_2 := fun ds vs _ => Reps K F' ds vs) (motive_3 := fun es kvs _ => RepK K F' es kvs)
    .non .bl .int .str (fun h1 _ i => .lst (e.seq h1) i) (fun h1 _ i => .tup (same_sqt e h1) i) (fun h1 _ i => .dic (e _ _ h1) i)
    .nil (fun _ _ i j => .cons i j) .nil (fun _ _ i j => .cons i j) h
theorem RepK.mono (e : Same F F') {es : List (Tx × D)} {kvs : List (Key × V)} (h : RepK K F es kvs) : RepK K F' es kvs :=
  RepK.rec (motive_1 := fun d v _ => Rep K F' d v) (motive_2 := fun ds vs _ => Reps K F' ds vs) (motive_3 := fun es kvs _ => RepK K F' es kvs)
    .non .bl .int .str (fun h1 _ i => .lst (e.seq h1) i) (fun h1 _ i => .tup (same_sqt e h1) i) (fun h1 _ i => .dic (e _ _ h1) i)
    .nil (fun _ _ i j => .cons i j) .nil (fun _ _ i j => .cons i j) h
theorem Reps.length {ds : List D} {vs : List V} (h : Reps K F ds vs) : ds.length = vs.length := by
  induction ds generalizing vs with
  | nil => cases h; rfl
  | cons d ds ih => cases h with | cons h1 h2 => simp [ih h2]
theorem Reps.get {ds : List D} {vs : List V} (h : Reps K F ds vs) {i : Nat} {d : D} (e : ds[i]? = some d) : ∃ v, vs[i]? = some v ∧ Rep K F d v := by
  induction ds generalizing vs i with
  | nil => simp at e
  | cons d' ds ih =>
    cases h with
    | cons h1 h2 =>
      cases i with
      | zero => simp at e; subst e; exact ⟨_, rfl, h1⟩
      | succ i => simp at e; simpa using ih h2 e
theorem Reps.append {ds es : List D} {vs us : List V} (h : Reps K F ds vs) (h' : Reps K F es us) : Reps K F (ds ++ es) (vs ++ us) := by
  induction ds generalizing vs with
  | nil => cases h; exact h'
  | cons d ds ih => cases h with | cons h1 h2 => exact .cons h1 (ih h2)
theorem Reps.take {ds : List D} {vs : List V} (h : Reps K F ds vs) (n : Nat) : Reps K F (ds.take n) (vs.take n) := by
  induction ds generalizing vs n with
  | nil => cases h; simp; exact .nil
  | cons d ds ih =>
    cases h with
    | cons h1 h2 =>
      cases n with
      | zero => exact .nil
      | succ n => exact .cons h1 (ih h2 n)
theorem Reps.drop {ds : List D} {vs : List V} (h : Reps K F ds vs) (n : Nat) : Reps K F (ds.drop n) (vs.drop n) := by
  induction ds generalizing vs n with
  | nil => cases h; simp; exact .nil
  | cons d ds ih =>
    cases h with
    | cons h1 h2 =>
      cases n with
      | zero => exact .cons h1 h2
      | succ n => exact ih h2 n
theorem Reps.set {ds : List D} {vs : List V} (h : Reps K F ds vs) {d : D} {v : V} (r : Rep K F d v) (n : Nat) : Reps K F (ds.set n d) (vs.set n v) := by
  induction ds generalizing vs n with
  | nil => cases h; exact .nil
  | cons d' ds ih =>
    cases h with
    | cons h1 h2 =>
      cases n with
      | zero => exact .cons r h2
      | succ n => exact .cons h1 (ih h2 n)
theorem RepK.length {es : List (Tx × D)} {kvs : List (Key × V)} (h : RepK K F es kvs) : es.length = kvs.length := by
  induction es generalizing kvs with
  | nil => cases h; rfl
  | cons d ds ih => cases h with | cons h1 h2 => simp [ih h2]
end
/-- the frozen part of a heap; a dict of it may be locked -/
def Emb (F H : Hp) : Prop := ∀ a o, F a = some o → H a = some o ∨ ∃ ob kvs, o = .dK kvs ∧ H a = some (.frz ob (.dK kvs))
theorem Emb.sql {K : PySem.W.Frag} {F H : Hp} {a : Addr} {xs : List V} (e : Emb F H) (h : SqL K F a xs) : SqL K H a xs := by
  rcases h with (h | ⟨o, h⟩) | h
  · rcases e _ _ h with h | ⟨_, _, z, _⟩
    · exact .inl (.inl h)
    · cases z
  · rcases e _ _ h with h | ⟨_, _, z, _⟩
    · exact .inl (.inr ⟨o, h⟩)
    · cases z
  · exact .inr h
theorem Emb.sqt {K : PySem.W.Frag} {F H : Hp} {a : Addr} {xs : List V} (e : Emb F H) (h : SqT K F a xs) : SqT K H a xs := by
  rcases h with (h | ⟨o, h⟩) | h
  · rcases e _ _ h with h | ⟨_, _, z, _⟩
    · exact .inl (.inl h)
    · cases z
  · rcases e _ _ h with h | ⟨_, _, z, _⟩
    · exact .inl (.inr ⟨o, h⟩)
    · cases z
  · exact .inr h
theorem Emb.dk {F H : Hp} {a : Addr} {kvs : List (Key × V)} (e : Emb F H) (h : F a = some (.dK kvs)) : Rd H a (.dK kvs) := by
  rcases e _ _ h with h | ⟨ob, kvs', z, h⟩
  · exact .inl h
  · cases z; exact .inr ⟨ob, h⟩
theorem Emb.free {F H : Hp} {a : Addr} (e : Emb F H) (h : H a = none) : F a = none := by
  cases q : F a with
  | none => rfl
  | some o =>
    rcases e _ _ q with z | ⟨_, _, _, z⟩ <;> rw [h] at z <;> cases z
theorem Emb.none : Emb (fun _ => none) H := fun _ _ h => nomatch h
/-- F' and H' stand behind F and H: nothing known has changed -/
structure Nxt (F H F' H' : Hp) : Prop where
  f : Same F F'
  fn : ∀ a o, F' a = some o → F a = some o ∨ H a = none
  emb : Emb F' H'
  h : Same H H'
theorem Nxt.refl {F H : Hp} (e : Emb F H) : Nxt F H F H := ⟨.refl _, fun _ _ h => .inl h, e, .refl _⟩
theorem Nxt.trans {F H F1 H1 F2 H2 : Hp} (a : Nxt F H F1 H1) (b : Nxt F1 H1 F2 H2) : Nxt F H F2 H2 :=
  ⟨a.f.trans b.f, fun c o h => by
    rcases b.fn c o h with z | z
    · exact a.fn c o z
    · exact .inr (a.h.free z), b.emb, a.h.trans b.h⟩
theorem Nxt.new {F H : Hp} {p : Addr} (e : Emb F H) (hp : H p = none) (o : HO) : Nxt F H (upd F p o) (upd H p o) := by
  have fp : F p = none := e.free hp
  refine ⟨fun b u h => ?_, fun a u h => ?_, fun a u h => ?_, fun b u h => ?_⟩
  · rw [upd_ne (ne_of_none h fp)]; exact h
  · by_cases q : a = p
    · subst q; exact .inr hp
    · rw [upd_ne q] at h; exact .inl h
  · by_cases q : a = p
    · subst q; rw [upd_same] at h ⊢; exact .inl h
    · rw [upd_ne q] at h; rw [upd_ne q]; exact e a u h
  · rw [upd_ne (ne_of_none h hp)]; exact h
/-- a new thing that isn't frozen yet -/
theorem Nxt.laid {F H : Hp} {p : Addr} (e : Emb F H) (hp : H p = none) (o : HO) : Nxt F H F (upd H p o) := by
  have fp : F p = none := e.free hp
  refine ⟨.refl _, fun _ _ h => .inl h, fun a u h => ?_, fun b u h => ?_⟩
  · have q : a ≠ p := ne_of_none h fp
    rw [upd_ne q]; exact e a u h
  · rw [upd_ne (ne_of_none h hp)]; exact h
/-- a laid thing is frozen -/
theorem Emb.freeze {F H : Hp} {p : Addr} {o : HO} (e : Emb F H) (hp : H p = some o) : Emb (upd F p o) H := fun a u h => by
  by_cases q : a = p
  · subst q; rw [upd_same] at h; cases h; exact .inl hp
  · rw [upd_ne q] at h; exact e a u h
theorem same_upd {F : Hp} {p : Addr} {o : HO} (h : F p = none) : Same F (upd F p o) := fun b u e => by
  rw [upd_ne (ne_of_none e h)]; exact e
/-- a list or dict that may still change, at a -/
def Own (K : PySem.W.Frag) (F H : Hp) : D → Addr → Prop
  | .lst ds, a => ∃ vs, H a = some (.lst vs) ∧ Reps K F ds vs
  | .dic es, a => ∃ kvs, H a = some (.dK kvs) ∧ RepK K F es kvs
  | _, _ => False
theorem Own.next {K : PySem.W.Frag} {F H F' H' : Hp} {d : D} {a : Addr} (o : Own K F H d a) (f : Same F F') (h : ∀ u, H a = some u → H' a = some u) : Own K F' H' d a := by
  cases d <;> simp only [Own] at o ⊢
  · obtain ⟨vs, e, r⟩ := o; exact ⟨vs, h _ e, r.mono f⟩
  · obtain ⟨vs, e, r⟩ := o; exact ⟨vs, h _ e, r.mono f⟩
theorem Own.have {K : PySem.W.Frag} {F H : Hp} {d : D} {a : Addr} (o : Own K F H d a) : ∃ u, H a = some u := by
  cases d <;> simp only [Own] at o
  · obtain ⟨vs, e, r⟩ := o; exact ⟨_, e⟩
  · obtain ⟨vs, e, r⟩ := o; exact ⟨_, e⟩
/-- frozen: F' with the thing itself -/
theorem Own.freeze {K : PySem.W.Frag} {F H : Hp} {d : D} {a : Addr} (o : Own K F H d a) (e : Emb F H) (fa : F a = none) :
    ∃ u, H a = some u ∧ Emb (upd F a u) H ∧ Same F (upd F a u) ∧ Rep K (upd F a u) d (.ref a) := by
  cases d <;> simp only [Own] at o
  · obtain ⟨vs, h, r⟩ := o
    exact ⟨_, h, e.freeze h, same_upd fa, .lst (.inl (.inl upd_same)) (r.mono (same_upd fa))⟩
  · obtain ⟨kvs, h, r⟩ := o
    exact ⟨_, h, e.freeze h, same_upd fa, .dic upd_same (r.mono (same_upd fa))⟩
/-- read: frozen, or one's own -/
def Rep1 (K : PySem.W.Frag) (F H : Hp) (d : D) (v : V) : Prop := Rep K F d v ∨ ∃ a, v = .ref a ∧ Own K F H d a
theorem Rep1.next {K : PySem.W.Frag} {F H F' H' : Hp} {d : D} {v : V} (r : Rep1 K F H d v) (n : Nxt F H F' H') : Rep1 K F' H' d v := by
  rcases r with r | ⟨a, e, o⟩
  · exact .inl (r.mono n.f)
  · exact .inr ⟨a, e, o.next n.f (fun u z => n.h _ _ z)⟩
section
variable {K : PySem.W.Frag} {F H : Hp} {v : V}
theorem Rep1.lst (e : Emb F H) {ds : List D} (r : Rep1 K F H (.lst ds) v) : ∃ a vs, v = .ref a ∧ SqL K H a vs ∧ Reps K F ds vs := by
  rcases r with r | ⟨a, rfl, vs, h, r⟩
  · cases r with | lst h1 h2 => exact ⟨_, _, rfl, e.sql h1, h2⟩
  · exact ⟨a, vs, rfl, .inl (.inl h), r⟩
theorem Rep1.tup (e : Emb F H) {ds : List D} (r : Rep1 K F H (.tup ds) v) : ∃ a vs, v = .ref a ∧ SqT K H a vs ∧ Reps K F ds vs := by
  rcases r with r | ⟨a, rfl, o⟩
  · cases r with | tup h1 h2 => exact ⟨_, _, rfl, e.sqt h1, h2⟩
  · exact o.elim
theorem Rep1.dic (e : Emb F H) {es : List (Tx × D)} (r : Rep1 K F H (.dic es) v) : ∃ a kvs, v = .ref a ∧ Rd H a (.dK kvs) ∧ RepK K F es kvs := by
  rcases r with r | ⟨a, rfl, kvs, h, r⟩
  · cases r with | dic h1 h2 => exact ⟨_, _, rfl, e.dk h1, h2⟩
  · exact ⟨a, kvs, rfl, .inl h, r⟩
theorem Rep1.int {i : Int} (r : Rep1 K F H (.int i) v) : v = .int i := by
  rcases r with r | ⟨a, rfl, o⟩
  · cases r; rfl
  · exact o.elim
theorem Rep1.str {s : Tx} (r : Rep1 K F H (.str s) v) : v = .str (toS s) := by
  rcases r with r | ⟨a, rfl, o⟩
  · cases r; rfl
  · exact o.elim
theorem Rep1.bl {b : Bool} (r : Rep1 K F H (.bl b) v) : v = .bl b := by
  rcases r with r | ⟨a, rfl, o⟩
  · cases r; rfl
  · exact o.elim
theorem Rep1.non (r : Rep1 K F H .non v) : v = .non := by
  rcases r with r | ⟨a, rfl, o⟩
  · cases r; rfl
  · exact o.elim
end
/-! ### a frame -/
/-- the rows of a dict of dicts, all of one's own -/
def OwK (K : PySem.W.Frag) (F H : Hp) (a : Addr) : List (Tx × List (Tx × D)) → List (Key × V) → Prop
  | [], [] => True
  | (k, row) :: es, (k', v) :: kvs => k' = Sum.inr (toS k) ∧ (∃ r kv, v = .ref r ∧ r ≠ a ∧ F r = none ∧ H r = some (.dK kv) ∧ RepK K F row kv ∧ ∀ p ∈ kvs, p.1 ≠ k' ∧ p.2 ≠ .ref r) ∧ OwK K F H a es kvs
  | _, _ => False
theorem OwK.next {K : PySem.W.Frag} {F H F' H' : Hp} {a : Addr} : ∀ {es : List (Tx × List (Tx × D))} {kvs : List (Key × V)}, OwK K F H a es kvs → Same F F' →
    (∀ k b u, (k, V.ref b) ∈ kvs → F b = none → H b = some u → H' b = some u ∧ F' b = none) → OwK K F' H' a es kvs
  | [], [], _, _, _ => trivial
  | (k, row) :: es, (k', v) :: kvs, ⟨e, ⟨r, kv, e1, e2, e3, e4, e5, e6⟩, o⟩, f, h => by
    subst e1
    obtain ⟨h1, h2⟩ := h k' r _ List.mem_cons_self e3 e4
    exact ⟨e, ⟨r, kv, rfl, e2, h2, h1, e5.mono f, e6⟩, o.next f fun k b u m => h k b u (List.mem_cons_of_mem _ m)⟩
  | [], _ :: _, h, _, _ => h.elim
  | _ :: _, [], h, _, _ => h.elim
theorem OwK.row {K : PySem.W.Frag} {F H : Hp} {a : Addr} : ∀ {es : List (Tx × List (Tx × D))} {kvs : List (Key × V)}, OwK K F H a es kvs → ∀ {k : Key} {v : V}, (k, v) ∈ kvs → ∃ r kv, v = .ref r ∧ r ≠ a ∧ F r = none ∧ H r = some (.dK kv)
  | [], [], _, _, _, m => nomatch m
  | (k, row) :: es, (k', v) :: kvs, ⟨e, ⟨r, kv, e1, e2, e3, e4, e5, e6⟩, o⟩, _, _, m => by
    rcases List.mem_cons.mp m with m | m
    · cases m; exact ⟨r, kv, e1, e2, e3, e4⟩
    · exact o.row m
  | [], _ :: _, h, _, _, _ => h.elim
  | _ :: _, [], h, _, _, _ => h.elim
def SlOk (K : PySem.W.Frag) (F H : Hp) (s : Sl) (x : Option (Option V)) : Prop := match s with
  | .un => True
  | .va d => ∃ v, x = some (some v) ∧ Rep K F d v
  | .ow d => ∃ a, x = some (some (.ref a)) ∧ F a = none ∧ Own K F H d a
  | .nd es => ∃ a kvs, x = some (some (.ref a)) ∧ F a = none ∧ H a = some (.dK kvs) ∧ OwK K F H a es kvs
  | .xc a => x = some (some (.ref a))
/-- b is one of what the slot owns -/
def Inn (H : Hp) (s : Sl) (x : Option (Option V)) (b : Addr) : Prop := match s with
  | .ow _ => x = some (some (.ref b))
  | .nd _ => ∃ a kvs, x = some (some (.ref a)) ∧ H a = some (.dK kvs) ∧ (b = a ∨ ∃ k, (k, V.ref b) ∈ kvs)
  | _ => False
theorem Inn.have {K : PySem.W.Frag} {F H : Hp} {s : Sl} {x : Option (Option V)} {b : Addr} (i : Inn H s x b) (k : SlOk K F H s x) : F b = none ∧ ∃ u, H b = some u := by
  cases s with
  | xc a => exact i.elim
  | un => exact i.elim
  | va d => exact i.elim
  | ow d =>
    obtain ⟨a, e1, e2, e3⟩ := k
    have i : x = some (some (.ref b)) := i
    rw [i] at e1; cases e1
    exact ⟨e2, e3.have⟩
  | nd es =>
    obtain ⟨a, kvs, e1, e2, e3, e4⟩ := k
    obtain ⟨a', kvs', i1, i2, i3⟩ := i
    rw [i1] at e1; cases e1
    rw [i2] at e3; cases e3
    rcases i3 with rfl | ⟨k, m⟩
    · exact ⟨e2, _, i2⟩
    · obtain ⟨r, kv, q1, q2, q3, q4⟩ := e4.row m
      cases q1
      exact ⟨q3, _, q4⟩
/-- what is owned keeps standing -/
theorem SlOk.keep {K : PySem.W.Frag} {F H F' H' : Hp} {s : Sl} {x : Option (Option V)} (k : SlOk K F H s x) (f : Same F F') (h : ∀ b u, Inn H s x b → F b = none → H b = some u → H' b = some u ∧ F' b = none) : SlOk K F' H' s x := by
  cases s with
  | xc a => exact k
  | un => trivial
  | va d => obtain ⟨v, e, p⟩ := k; exact ⟨v, e, p.mono f⟩
  | ow d =>
    obtain ⟨a, e1, e2, e3⟩ := k
    obtain ⟨u, hu⟩ := e3.have
    exact ⟨a, e1, (h a u e1 e2 hu).2, e3.next f fun u z => (h a u e1 e2 z).1⟩
  | nd es =>
    obtain ⟨a, kvs, e1, e2, e3, e4⟩ := k
    obtain ⟨y1, y2⟩ := h a _ ⟨a, kvs, e1, e3, .inl rfl⟩ e2 e3
    exact ⟨a, kvs, e1, y2, y1, e4.next f fun k b u m => h b u ⟨a, kvs, e1, e3, .inr ⟨k, m⟩⟩⟩
theorem Inn.back {K : PySem.W.Frag} {F H H' : Hp} {s : Sl} {x : Option (Option V)} {b : Addr} (i : Inn H' s x b) (k : SlOk K F H s x) (h : ∀ b u, Inn H s x b → H b = some u → H' b = some u) : Inn H s x b := by
  cases s with
  | xc a => exact i
  | un => exact i
  | va d => exact i
  | ow d => exact i
  | nd es =>
    obtain ⟨a, kvs, e1, e2, e3, e4⟩ := k
    obtain ⟨a', kvs', i1, i2, i3⟩ := i
    rw [i1] at e1; cases e1
    have := h _ _ ⟨_, kvs, i1, e3, .inl rfl⟩ e3
    rw [i2] at this; cases this
    exact ⟨_, _, i1, e3, i3⟩
theorem Nxt.unf {F H F' H' : Hp} (n : Nxt F H F' H') {b : Addr} {u : HO} (h1 : F b = none) (h2 : H b = some u) : F' b = none := by
  cases z : F' b with
  | none => rfl
  | some u' =>
    rcases n.fn b u' z with y | y
    · rw [h1] at y; cases y
    · rw [h2] at y; cases y
structure RS (K : PySem.W.Frag) (F : Hp) (γ : Ga) (σ : L2.St) (H : Hp) : Prop where
  emb : Emb F H
  len : γ.length = σ.length
  sl : ∀ (i : Nat) (s : Sl), γ[i]? = some s → SlOk K F H s σ[i]?
  apart : ∀ (i j : Nat) (s s' : Sl) (b : Addr), γ[i]? = some s → γ[j]? = some s' → Inn H s σ[i]? b → Inn H s' σ[j]? b → i = j
theorem RS.next {K : PySem.W.Frag} {F H F' H' : Hp} {γ : Ga} {σ : L2.St} (r : RS K F γ σ H) (n : Nxt F H F' H') : RS K F' γ σ H' :=
  ⟨n.emb, r.len, fun i s e => (r.sl i s e).keep n.f fun b u _ h1 h2 => ⟨n.h _ _ h2, n.unf h1 h2⟩, fun i j s s' b e1 e2 h1 h2 =>
    r.apart i j s s' b e1 e2 (h1.back (r.sl i s e1) fun b u _ z => n.h _ _ z) (h2.back (r.sl j s' e2) fun b u _ z => n.h _ _ z)⟩
/-! ### what is wanted of a value -/
/-- wishes about exceptions: class number, slots, heap -/
abbrev WN := Nat → L2.St → Hp → Prop
def PV (K : PySem.W.Frag) (F H : Hp) (d : D) (Q : VK) : Prop := ∀ v F' H', Nxt F H F' H' → Rep K F' d v → Q v H'
def PR (K : PySem.W.Frag) (F H : Hp) (d : D) (Q : VK) : Prop := ∀ v F' H', Nxt F H F' H' → Rep1 K F' H' d v → Q v H'
def PF (K : PySem.W.Frag) (F H : Hp) (d : D) (Q : VK) : Prop := ∀ a F' H', Nxt F H F' H' → H a = none → F' a = none → Own K F' H' d a → Q (.ref a) H'
def Out (P : D → VK → Prop) (F H : Hp) (W : Nat → Hp → Prop) (r : R D) (Q : VK) : Prop := match r with
  | .ok d => P d Q
  | .ex c => ∀ F' H', Nxt F H F' H' → W c H'
  | .no => False
def rdV (K : PySem.W.Frag) (W : WN) (f : Ga → R D) : TE := fun σ H Q => ∃ F γ, RS K F γ σ H ∧ Out (PV K F H) F H (fun c H' => W c σ H') (f γ) Q
def rdR (K : PySem.W.Frag) (W : WN) (f : Ga → R D) : TE := fun σ H Q => ∃ F γ, RS K F γ σ H ∧ Out (PR K F H) F H (fun c H' => W c σ H') (f γ) Q
def rdF (K : PySem.W.Frag) (W : WN) (f : Ga → R D) : TE := fun σ H Q => ∃ F γ, RS K F γ σ H ∧ Out (PF K F H) F H (fun c H' => W c σ H') (f γ) Q
/-- an expression: its value is frozen -/
structure J (X : Cx) (W : WN) (f : Ga → R D) (e : Expr) : Prop where
  pe : PE X e (rdV X.K W f)
/-- .. is read alone -/
structure JR (X : Cx) (W : WN) (f : Ga → R D) (e : Expr) : Prop where
  pe : PE X e (rdR X.K W f)
/-- .. is new, a list or a dict -/
structure JF (X : Cx) (W : WN) (f : Ga → R D) (e : Expr) : Prop where
  pe : PE X e (rdF X.K W f)
theorem PE.imp {X : Cx} {e : Expr} {t t' : TE} (h : PE X e t) (i : ∀ σ H Q, t' σ H Q → t σ H Q) : PE X e t' := ⟨fun pins s σ H Q I q => h.run pins s σ H Q I (i σ H Q q)⟩
section
variable {X : Cx} {W : WN} {f : Ga → R D} {e : Expr}
theorem Out.imp {P P' : D → VK → Prop} {F H : Hp} {W : Nat → Hp → Prop} {x : R D} {Q : VK} (o : Out P F H W x Q) (i : ∀ d, x = .ok d → P d Q → P' d Q) : Out P' F H W x Q := by
  cases x with
  | ok d => exact i d rfl o
  | ex c => exact o
  | no => exact o
theorem J.r (h : J X W f e) : JR X W f e := ⟨PE.imp h.pe fun σ H Q ⟨F, γ, r, o⟩ => ⟨F, γ, r, o.imp fun d _ o =>
  fun v F' H' n p => o v F' H' n (.inl p)⟩⟩
theorem JF.v (h : JF X W f e) : J X W f e := ⟨PE.imp h.pe fun σ H Q ⟨F, γ, r, o⟩ => ⟨F, γ, r, o.imp fun d _ o => by
  intro a F' H' n ha fa ow
  obtain ⟨u, hu, e1, s1, p⟩ := ow.freeze n.emb fa
  refine o _ _ H' ⟨n.f.trans s1, fun b w z => ?_, e1, n.h⟩ p
  by_cases q : b = a
  · subst q; exact .inr ha
  · rw [upd_ne q] at z; exact n.fn b w z⟩⟩
theorem JF.r (h : JF X W f e) : JR X W f e := h.v.r
end
end KN
/-! KnB: operations on pure data, and that the machine does them -/
namespace KN
open PySem PySem.Spec PyProof.Rows L2
/-- a length that any text or list may have -/
def lim : Nat := 1000000
theorem lim_line : lim ≤ sizeLine := by rw [sizeLine_eq]; decide
/-! ### plain data and == -/
def pl : Nat → D → Bool
  | _, .non => true
  | _, .bl _ => true
  | _, .int _ => true
  | _, .str s => s.all (· < 0x110000)
  | n + 1, .lst xs => xs.all (pl n)
  | n + 1, .tup xs => xs.all (pl n)
  | _, _ => false
def eqvL (f : D → D → Bool) : List D → List D → Bool
  | [], [] => true
  | x :: xs, y :: ys => f x y && eqvL f xs ys
  | _, _ => false
def eqv : Nat → D → D → Bool
  | _, .non, .non => true
  | _, .bl a, .bl b => a == b
  | _, .bl a, .int j => (if a then 1 else 0) == j
  | _, .int i, .bl b => i == (if b then 1 else 0)
  | _, .int i, .int j => i == j
  | _, .str s, .str t => s == t
  | n + 1, .lst xs, .lst ys => eqvL (eqv n) xs ys
  | n + 1, .tup xs, .tup ys => eqvL (eqv n) xs ys
  | _, _, _ => false
def toP : Nat → D → PyData
  | _, .non => .none
  | _, .bl b => .bool b
  | _, .int i => .int i
  | _, .str s => .str (toS s)
  | n + 1, .lst xs => .list (xs.map (toP n))
  | n + 1, .tup xs => .tuple (xs.map (toP n))
  | _, _ => .dict []
theorem strOk_toS (s : Tx) : PyData.strOk (toS s) = s.all (· < 0x110000) := by simp [PyData.strOk, toS]
theorem toP_lay : ∀ (n : Nat) (d : D), pl n d = true → (toP n d).canLay0 = true ∧ (toP n d).depth ≤ n
  | n, .non, _ => by cases n <;> simp [toP, PyData.canLay0, PyData.depth]
  | n, .bl _, _ => by cases n <;> simp [toP, PyData.canLay0, PyData.depth]
  | n, .int _, _ => by cases n <;> simp [toP, PyData.canLay0, PyData.depth]
  | n, .str s, h => by
    have h' : s.all (· < 0x110000) = true := by cases n <;> exact h
    cases n <;> simp only [toP, PyData.canLay0, PyData.depth, strOk_toS] <;> exact ⟨h', by omega⟩
  | 0, .lst _, h => nomatch h
  | 0, .tup _, h => nomatch h
  | n + 1, .lst xs, h => by
    have aux : ∀ xs : List D, xs.all (pl n) = true → PyData.canLayAll0 (xs.map (toP n)) = true ∧ PyData.depthAll (xs.map (toP n)) ≤ n := by
      intro xs
      induction xs with
      | nil => intro _; simp [PyData.canLayAll0, PyData.depthAll]
      | cons x xs ih =>
        intro h
        rw [List.all_cons, Bool.and_eq_true] at h
        obtain ⟨a, b⟩ := toP_lay n x h.1
        obtain ⟨c, d⟩ := ih h.2
        simp only [List.map_cons, PyData.canLayAll0, PyData.depthAll, a, c, Bool.and_self, true_and]
        omega
    obtain ⟨a, b⟩ := aux xs h
    simp only [toP, PyData.canLay0, PyData.depth]
    exact ⟨a, by omega⟩
  | n + 1, .tup xs, h => by
    have aux : ∀ xs : List D, xs.all (pl n) = true → PyData.canLayAll0 (xs.map (toP n)) = true ∧ PyData.depthAll (xs.map (toP n)) ≤ n := by
      intro xs
      induction xs with
      | nil => intro _; simp [PyData.canLayAll0, PyData.depthAll]
      | cons x xs ih =>
        intro h
        rw [List.all_cons, Bool.and_eq_true] at h
        obtain ⟨a, b⟩ := toP_lay n x h.1
        obtain ⟨c, d⟩ := ih h.2
        simp only [List.map_cons, PyData.canLayAll0, PyData.depthAll, a, c, Bool.and_self, true_and]
        omega
    obtain ⟨a, b⟩ := aux xs h
    simp only [toP, PyData.canLay0, PyData.depth]
    exact ⟨a, by omega⟩
  | n, .dic _, h => by cases n <;> exact nomatch h
theorem toP_shaped {d : D} (h : pl 20 d = true) : SeqAt.shaped (toP 20 d) = true := by
  obtain ⟨a, b⟩ := toP_lay 20 d h
  unfold SeqAt.shaped
  rw [a, decide_eq_true (by omega)]; rfl
theorem toS_inj {s t : Tx} : (toS s = toS t) ↔ s = t := by
  constructor
  · intro h
    have := congrArg (fun z : Str => z.cps.toList) h
    simpa using this
  · rintro rfl; rfl
theorem toS_beq (s t : Tx) : (toS s == toS t) = (s == t) := by
  rw [Bool.eq_iff_iff, beq_iff_eq, beq_iff_eq]; exact toS_inj
theorem eqvL_toP {n : Nat} (ih : ∀ d e, pl n d = true → pl n e = true → PyData.eqv (toP n d) (toP n e) = eqv n d e) : ∀ xs ys : List D, xs.all (pl n) = true → ys.all (pl n) = true → PyData.eqvAll (xs.map (toP n)) (ys.map (toP n)) = eqvL (eqv n) xs ys
  | [], [], _, _ => by simp [PyData.eqvAll, eqvL]
  | [], y :: ys, _, _ => by simp [PyData.eqvAll, eqvL]
  | x :: xs, [], _, _ => by simp [PyData.eqvAll, eqvL]
  | x :: xs, y :: ys, h, k => by
    rw [List.all_cons, Bool.and_eq_true] at h k
    simp only [List.map_cons, PyData.eqvAll, eqvL]
    rw [ih x y h.1 k.1, eqvL_toP ih xs ys h.2 k.2]
theorem eqv_toP : ∀ (n : Nat) (d e : D), pl n d = true → pl n e = true → PyData.eqv (toP n d) (toP n e) = eqv n d e := by
  intro n
  induction n with
  | zero =>
    intro d e h k
    cases d <;> cases e <;> first | (cases h; done) | (cases k; done) | (simp only [toP, PyData.eqv, eqv]; done) | (simp only [toP, PyData.eqv, eqv, toS_beq])
  | succ n ih =>
    intro d e h k
    cases d <;> cases e <;> first | (cases h; done) | (cases k; done) | (simp only [toP, PyData.eqv, eqv]; done) | (simp only [toP, PyData.eqv, eqv, toS_beq]; done) | (simp only [toP, PyData.eqv, eqv]; exact eqvL_toP ih _ _ h k)
/-- what is read is data for the library's == -/
theorem dp_of {K : PySem.W.Frag} {F H : Hp} (em : Emb F H) : ∀ (n : Nat) (d : D) (v : V), pl n d = true → Rep K F d v → Dp K H v (toP n d) := by
  intro n
  induction n with
  | zero =>
    intro d v h r
    cases r <;> first | (cases h; done) | exact .non | exact .bl _ | exact .int _ | exact .str _
  | succ n ih =>
    have aux : ∀ (ds : List D) (vs : List V), ds.all (pl n) = true → Reps K F ds vs → DpAll K H vs (ds.map (toP n)) := by
      intro ds
      induction ds with
      | nil => intro vs _ r; cases r; exact .nil
      | cons d ds ihl =>
        intro vs h r
        rw [List.all_cons, Bool.and_eq_true] at h
        cases r with | cons r1 r2 => exact .cons (ih d _ h.1 r1) (ihl _ h.2 r2)
    intro d v h r
    cases r with
    | non => exact .non
    | bl b => exact .bl _
    | int i => exact .int _
    | str s => exact .str _
    | lst h1 h2 => exact .lst (em.sql h1) (aux _ _ h h2)
    | tup h1 h2 => exact .tup (em.sqt h1) (aux _ _ h h2)
    | dic _ _ => exact nomatch h
theorem dps_of {K : PySem.W.Frag} {F H : Hp} (em : Emb F H) (n : Nat) : ∀ (ds : List D) (vs : List V), ds.all (pl n) = true → Reps K F ds vs → DpAll K H vs (ds.map (toP n)) := by
  intro ds
  induction ds with
  | nil => intro vs _ r; cases r; exact .nil
  | cons d ds ihl =>
    intro vs h r
    rw [List.all_cons, Bool.and_eq_true] at h
    cases r with | cons r1 r2 => exact .cons (dp_of em n d _ h.1 r1) (ihl _ h.2 r2)
theorem dp_of1 {K : PySem.W.Frag} {F H : Hp} (em : Emb F H) {d : D} {v : V} (h : pl 20 d = true) (r : Rep1 K F H d v) : Dp K H v (toP 20 d) := by
  rcases r with r | ⟨a, rfl, o⟩
  · exact dp_of em 20 d v h r
  · cases d <;> simp only [Own] at o
    · obtain ⟨vs, e, r⟩ := o
      exact .lst (.inl (.inl e)) (dps_of em 19 _ _ h r)
    · exact nomatch h
/-! ### the operations -/
def dAdd : D → D → R D
  | .int i, .int j => .ok (.int (i + j))
  | .str s, .str t => if s.length + t.length ≤ lim then .ok (.str (s ++ t)) else .no
  | .lst s, .lst t => if s.length + t.length ≤ lim then .ok (.lst (s ++ t)) else .no
  | .tup s, .tup t => if s.length + t.length ≤ lim then .ok (.tup (s ++ t)) else .no
  | _, _ => .no
def dSub : D → D → R D
  | .int i, .int j => .ok (.int (i - j))
  | _, _ => .no
def dMul : D → D → R D
  | .int i, .int j => if i.natAbs.log2 + j.natAbs.log2 < 1000000 then .ok (.int (i * j)) else .no
  | _, _ => .no
def dDiv : D → D → R D
  | .int i, .int j => if 0 < j ∧ j.natAbs.log2 < 9000 then .ok (.int (i / j)) else .no
  | _, _ => .no
def dMod : D → D → R D
  | .int i, .int j => if 0 < j then .ok (.int (i % j)) else .no
  | _, _ => .no
def dLt : D → D → R D
  | .int i, .int j => .ok (.bl (decide (i < j)))
  | .str s, .str t => .ok (.bl (decide (s < t)))
  | _, _ => .no
def dLe : D → D → R D
  | .int i, .int j => .ok (.bl (decide (i ≤ j)))
  | _, _ => .no
def dGt : D → D → R D
  | .int i, .int j => .ok (.bl (decide (j < i)))
  | _, _ => .no
def dGe : D → D → R D
  | .int i, .int j => .ok (.bl (decide (j ≤ i)))
  | _, _ => .no
def dEq (d e : D) : R D := if pl 20 d = true ∧ pl 20 e = true then .ok (.bl (eqv 20 d e)) else .no
def dNe (d e : D) : R D := if pl 20 d = true ∧ pl 20 e = true then .ok (.bl (!eqv 20 d e)) else .no
/-- a two-place operation of pure data, as a reading -/
def RD2 (K : PySem.W.Frag) (g : D → D → R D) : R2 := fun x y H Q => ∃ F dx dy d, Emb F H ∧ Rep1 K F H dx x ∧ Rep1 K F H dy y ∧ g dx dy = .ok d ∧ PV K F H d Q
section
variable {X : Cx}
theorem PV.here {K : PySem.W.Frag} {F H : Hp} {d : D} {Q : VK} (q : PV K F H d Q) (e : Emb F H) {v : V} (r : Rep K F d v) : Q v H := q v F H (.refl e) r
theorem PV.newL {K : PySem.W.Frag} {F H : Hp} {ds : List D} {vs : List V} {Q : VK} (q : PV K F H (.lst ds) Q) (e : Emb F H) (r : Reps K F ds vs) (p : Addr) (hp : H p = none) : Q (.ref p) (upd H p (.lst vs)) :=
  q _ _ _ (Nxt.new e hp _) (.lst (.inl (.inl upd_same)) (r.mono (same_upd (e.free hp))))
theorem PV.newT {K : PySem.W.Frag} {F H : Hp} {ds : List D} {vs : List V} {Q : VK} (q : PV K F H (.tup ds) Q) (e : Emb F H) (r : Reps K F ds vs) (p : Addr) (hp : H p = none) : Q (.ref p) (upd H p (.tup vs)) :=
  q _ _ _ (Nxt.new e hp _) (.tup (.inl (.inl upd_same)) (r.mono (same_upd (e.free hp))))
theorem toS_append (s t : Tx) : toS s ++ toS t = toS (s ++ t) := by
  apply TL.ext_tl
  rw [TL.tl_append]
theorem toS_len (s : Tx) : (toS s).length = s.length := by simp [toS, Str.length]
theorem od_addL {pins : List (Addr × Obj)} {s : Shared} {σ : L2.St} {H F : Hp} {x y : V} {v u : Value} {Q : VK} {xs ys : List D} (I : Inv X pins σ H s) (rx : RelV x v) (ry : RelV y u) (e : Emb F H)
    (r1 : Rep1 X.K F H (.lst xs) x) (r2 : Rep1 X.K F H (.lst ys) y) (hl : xs.length + ys.length ≤ lim) (q : PV X.K F H (.lst (xs ++ ys)) Q) : wpAny (model X.prog X.w) X.A (binaryOp .Add v u) (EP X pins σ Q) X.xe s := by
  obtain ⟨a, vs, rfl, s1, p1⟩ := r1.lst e
  obtain ⟨b, us, rfl, s2, p2⟩ := r2.lst e
  cases rx
  cases ry
  obtain ⟨its, w1, l1, z1⟩ := I.list s1
  obtain ⟨its2, w2, l2, z2⟩ := I.list s2
  obtain ⟨o1, n1, e1, c1, d1, t1⟩ := l1
  obtain ⟨o2, n2, e2, c2, d2, t2⟩ := l2
  obtain ⟨cc1, dd1, da1, sl1⟩ := o1
  obtain ⟨cc2, dd2, da2, sl2⟩ := o2
  simp only at c1 d1 t1 c2 d2 t2
  subst c1 d1 t1 c2 d2 t2
  have hz : vs.length + us.length ≤ sizeLine := by
    have := p1.length; have := p2.length; have := lim_line; omega
  have hz2 : its.length + its2.length ≤ sizeLine := by rw [← w1.length, ← w2.length]; exact hz
  have ea : its.toArray ++ its2.toArray = (its ++ its2).toArray := by simp
  refine concat_meets ⟨_, e1, rfl⟩ ⟨_, e2, rfl⟩ noFill_list_add seq_list_add PySem.F.slot_list_add PySem.F.entry_list_add (PySem.F.args_list_add_2 _ _) (list_addW a b its.toArray its2.toArray n1 n2 none none sl1 sl2 (by simpa using hz2)) ⟨e1, e2, ?_⟩
  rw [ea]
  exact ⟨.ref _, _, I.lnew (t' := s.toks) (w1.append w2) (by rw [List.length_append]; omega), rfl, q.newL e (p1.append p2) _ I.fresh⟩
theorem od_add : OpR X (binaryOp .Add) (RD2 X.K dAdd) := by
  intro pins s σ H x y v u Q I rx ry ⟨F, dx, dy, d, e, r1, r2, hg, q⟩
  cases dx <;> cases dy <;> first | (cases hg; done) | skip
  · rename_i i j
    cases hg
    exact op_add pins s σ H x y v u Q I rx ry ⟨i, j, r1.int, r2.int, q.here e (.int _)⟩
  · rename_i a b
    simp only [dAdd] at hg
    split at hg
    · rename_i hl
      cases hg
      refine op_add_str pins s σ H x y v u Q I rx ry ⟨_, _, r1.str, r2.str, ?_, ?_⟩
      · rw [toS_len, toS_len]; exact Nat.le_trans hl lim_line
      · rw [toS_append]; exact q.here e (.str _)
    · cases hg
  · simp only [dAdd] at hg
    split at hg
    · rename_i hl
      cases hg
      exact od_addL I rx ry e r1 r2 hl q
    · cases hg
  · simp only [dAdd] at hg
    split at hg
    · rename_i hl
      cases hg
      obtain ⟨a, vs, rfl, s1, p1⟩ := r1.tup e
      obtain ⟨b, us, rfl, s2, p2⟩ := r2.tup e
      refine op_catA pins s σ H _ _ v u Q I rx ry ⟨a, b, vs, us, rfl, rfl, s1, s2, ?_, fun h => ?_, fun h0 h => ?_, fun _ _ p hp => q.newT e (p1.append p2) p hp⟩
      · have := p1.length; have := p2.length; have := lim_line; omega
      · subst h
        rcases r2 with r2 | ⟨_, _, o⟩
        · have : _ = [] := List.eq_nil_of_length_eq_zero (by have := p1.length; simpa using this)
          subst this
          exact q.here e r2
        · exact o.elim
      · subst h
        rcases r1 with r1 | ⟨_, _, o⟩
        · have : _ = [] := List.eq_nil_of_length_eq_zero (by have := p2.length; simpa using this)
          subst this
          rw [List.append_nil] at q
          exact q.here e r1
        · exact o.elim
    · cases hg
theorem od_sub : OpR X (binaryOp .Sub) (RD2 X.K dSub) := by
  intro pins s σ H x y v u Q I rx ry ⟨F, dx, dy, d, e, r1, r2, hg, q⟩
  cases dx <;> cases dy <;> first | (cases hg; done) | skip
  rename_i i j
  cases hg
  exact op_sub pins s σ H x y v u Q I rx ry ⟨i, j, r1.int, r2.int, q.here e (.int _)⟩
theorem od_mul : OpR X (binaryOp .Mult) (RD2 X.K dMul) := by
  intro pins s σ H x y v u Q I rx ry ⟨F, dx, dy, d, e, r1, r2, hg, q⟩
  cases dx <;> cases dy <;> first | (cases hg; done) | skip
  rename_i i j
  simp only [dMul] at hg
  split at hg
  · rename_i hl
    cases hg
    exact op_mulW pins s σ H x y v u Q I rx ry ⟨i, j, r1.int, r2.int, hl, q.here e (.int _)⟩
  · cases hg
theorem od_div : OpR X (binaryOp .FloorDiv) (RD2 X.K dDiv) := by
  intro pins s σ H x y v u Q I rx ry ⟨F, dx, dy, d, e, r1, r2, hg, q⟩
  cases dx <;> cases dy <;> first | (cases hg; done) | skip
  rename_i i j
  simp only [dDiv] at hg
  split at hg
  · rename_i hl
    cases hg
    exact op_fdivW pins s σ H x y v u Q I rx ry ⟨i, j, r1.int, r2.int, hl, q.here e (.int _)⟩
  · cases hg
theorem od_mod : OpR X (binaryOp .Mod) (RD2 X.K dMod) := by
  intro pins s σ H x y v u Q I rx ry ⟨F, dx, dy, d, e, r1, r2, hg, q⟩
  cases dx <;> cases dy <;> first | (cases hg; done) | skip
  rename_i i j
  simp only [dMod] at hg
  split at hg
  · rename_i hl
    cases hg
    exact op_mod pins s σ H x y v u Q I rx ry ⟨i, j, r1.int, r2.int, hl, q.here e (.int _)⟩
  · cases hg
theorem od_lt : OpR X (compareOp .Lt) (RD2 X.K dLt) := by
  intro pins s σ H x y v u Q I rx ry ⟨F, dx, dy, d, e, r1, r2, hg, q⟩
  cases dx <;> cases dy <;> first | (cases hg; done) | skip
  · rename_i i j
    cases hg
    exact op_lt pins s σ H x y v u Q I rx ry ⟨i, j, r1.int, r2.int, q.here e (.bl _)⟩
  · rename_i i j
    cases hg
    exact op_lt_str pins s σ H x y v u Q I rx ry ⟨_, _, r1.str, r2.str, q.here e (.bl _)⟩
theorem od_le : OpR X (compareOp .LtE) (RD2 X.K dLe) := by
  intro pins s σ H x y v u Q I rx ry ⟨F, dx, dy, d, e, r1, r2, hg, q⟩
  cases dx <;> cases dy <;> first | (cases hg; done) | skip
  rename_i i j
  cases hg
  exact op_le pins s σ H x y v u Q I rx ry ⟨i, j, r1.int, r2.int, q.here e (.bl _)⟩
theorem od_gt : OpR X (compareOp .Gt) (RD2 X.K dGt) := by
  intro pins s σ H x y v u Q I rx ry ⟨F, dx, dy, d, e, r1, r2, hg, q⟩
  cases dx <;> cases dy <;> first | (cases hg; done) | skip
  rename_i i j
  cases hg
  exact op_gt pins s σ H x y v u Q I rx ry ⟨i, j, r1.int, r2.int, q.here e (.bl _)⟩
theorem od_eq (hu : X.A.units + 64 < cLine) : OpR X (compareOp .Eq) (RD2 X.K dEq) := by
  intro pins s σ H x y v u Q I rx ry ⟨F, dx, dy, d, e, r1, r2, hg, q⟩
  simp only [dEq] at hg
  split at hg
  · rename_i hl
    cases hg
    refine op_eqD hu pins s σ H x y v u Q I rx ry ⟨_, _, dp_of1 e hl.1 r1, dp_of1 e hl.2 r2, toP_shaped hl.1, toP_shaped hl.2, ?_⟩
    rw [eqv_toP 20 _ _ hl.1 hl.2]
    exact q.here e (.bl _)
  · cases hg
theorem od_ne (hu : X.A.units + 64 < cLine) : OpR X (compareOp .NotEq) (RD2 X.K dNe) := by
  intro pins s σ H x y v u Q I rx ry ⟨F, dx, dy, d, e, r1, r2, hg, q⟩
  simp only [dNe] at hg
  split at hg
  · rename_i hl
    cases hg
    refine op_neD hu pins s σ H x y v u Q I rx ry ⟨_, _, dp_of1 e hl.1 r1, dp_of1 e hl.2 r2, toP_shaped hl.1, toP_shaped hl.2, ?_⟩
    rw [eqv_toP 20 _ _ hl.1 hl.2]
    exact q.here e (.bl _)
  · cases hg
end
end KN
/-! KnC: judgements of expressions -/
namespace KN
open PySem PySem.Spec PyProof.Rows L2
/-! ### meanings -/
def bVar (i : Nat) : Ga → R D := fun γ => match γ[i]? with | some (.va d) => .ok d | _ => .no
def bRd (i : Nat) : Ga → R D := fun γ => match γ[i]? with | some (.ow d) => .ok d | _ => .no
def bC (d : D) : Ga → R D := fun _ => .ok d
def b1 (g : D → R D) (fa : Ga → R D) : Ga → R D := fun γ => (fa γ).bind g
def b2 (g : D → D → R D) (fa fb : Ga → R D) : Ga → R D := fun γ => (fa γ).bind fun x => (fb γ).bind fun y => g x y
def b3 (g : D → D → D → R D) (fa fb fc : Ga → R D) : Ga → R D := fun γ => (fa γ).bind fun x => (fb γ).bind fun y => (fc γ).bind fun z => g x y z
def bNil : Ga → R (List D) := fun _ => .ok []
def bCons (fa : Ga → R D) (fs : Ga → R (List D)) : Ga → R (List D) := fun γ => (fa γ).bind fun x => (fs γ).bind fun xs => .ok (x :: xs)
def bN (g : List D → R D) (fs : Ga → R (List D)) : Ga → R D := fun γ => (fs γ).bind g
def bIf (c : Ga → R Bool) (fa fb : Ga → R D) : Ga → R D := fun γ => (c γ).bind fun b => if b = true then fa γ else fb γ
def tB : D → R Bool
  | .bl b => .ok b
  | _ => .no
def tVal (fa : Ga → R D) : Ga → R Bool := fun γ => (fa γ).bind tB
def tAnd (p q : Ga → R Bool) : Ga → R Bool := fun γ => (p γ).bind fun b => if b = true then q γ else .ok false
def tOr (p q : Ga → R Bool) : Ga → R Bool := fun γ => (p γ).bind fun b => if b = true then .ok true else q γ
def tNot (p : Ga → R Bool) : Ga → R Bool := fun γ => (p γ).bind fun b => .ok (!b)
def bTup (fs : Ga → R (List D)) : Ga → R D := bN (fun xs => if xs.length ≤ lim then .ok (.tup xs) else .no) fs
def bLst (fs : Ga → R (List D)) : Ga → R D := bN (fun xs => if xs.length ≤ lim then .ok (.lst xs) else .no) fs
/-! ### more judgements -/
inductive Reps1 (K : PySem.W.Frag) (F H : Hp) : List D → List V → Prop
  | nil : Reps1 K F H [] []
  | cons {d : D} {ds : List D} {v : V} {vs : List V} : Rep1 K F H d v → Reps1 K F H ds vs → Reps1 K F H (d :: ds) (v :: vs)
def OutA (P : List D → (List V → Hp → Prop) → Prop) (F H : Hp) (W : Nat → Hp → Prop) (r : R (List D)) (Q : List V → Hp → Prop) : Prop := match r with
  | .ok d => P d Q
  | .ex c => ∀ F' H', Nxt F H F' H' → W c H'
  | .no => False
def OutT (F H : Hp) (W : Nat → Hp → Prop) (r : R Bool) (Q : Bool → Hp → Prop) : Prop := match r with
  | .ok b => ∀ F' H', Nxt F H F' H' → Q b H'
  | .ex c => ∀ F' H', Nxt F H F' H' → W c H'
  | .no => False
def rdA (K : PySem.W.Frag) (W : WN) (f : Ga → R (List D)) : TA := fun σ H Q => ∃ F γ, RS K F γ σ H ∧ OutA (fun ds Q => ∀ vs F' H', Nxt F H F' H' → Reps K F' ds vs → Q vs H') F H (fun c H' => W c σ H') (f γ) Q
def rdA1 (K : PySem.W.Frag) (W : WN) (f : Ga → R (List D)) : TA := fun σ H Q => ∃ F γ, RS K F γ σ H ∧ OutA (fun ds Q => ∀ vs F' H', Nxt F H F' H' → Reps1 K F' H' ds vs → Q vs H') F H (fun c H' => W c σ H') (f γ) Q
def rdT (K : PySem.W.Frag) (W : WN) (f : Ga → R Bool) : TT := fun σ H Q => ∃ F γ, RS K F γ σ H ∧ OutT F H (fun c H' => W c σ H') (f γ) Q
structure JA (X : Cx) (W : WN) (f : Ga → R (List D)) (es : List Expr) : Prop where
  pa : PA X es (rdA X.K W f)
structure JA1 (X : Cx) (W : WN) (f : Ga → R (List D)) (es : List Expr) : Prop where
  pa : PA X es (rdA1 X.K W f)
structure JT (X : Cx) (W : WN) (f : Ga → R Bool) (e : Expr) : Prop where
  pt : PT X e (rdT X.K W f)
structure JW (X : Cx) (W : WN) (f : Ga → R Bool) (e : Expr) : Prop where
  pw : PW X e (rdT X.K W f)
theorem PA.imp {X : Cx} {e : List Expr} {t t' : TA} (h : PA X e t) (i : ∀ σ H Q, t' σ H Q → t σ H Q) : PA X e t' := ⟨fun pos pins s σ H Q I q => h.run pos pins s σ H Q I (i σ H Q q)⟩
theorem PT.imp {X : Cx} {e : Expr} {t t' : TT} (h : PT X e t) (i : ∀ σ H Q, t' σ H Q → t σ H Q) : PT X e t' := ⟨fun pins s σ H Q I q => h.run pins s σ H Q I (i σ H Q q)⟩
theorem PW.imp {X : Cx} {e : Expr} {t t' : TT} (h : PW X e t) (i : ∀ σ H Q, t' σ H Q → t σ H Q) : PW X e t' := ⟨fun w pins s σ H Q I q => h.run w pins s σ H Q I (i σ H Q q)⟩
section
variable {K : PySem.W.Frag} {F H F1 H1 : Hp} {d : D} {Q : VK}
theorem PV.next (q : PV K F H d Q) (n : Nxt F H F1 H1) : PV K F1 H1 d Q := fun v F' H' m p => q v F' H' (n.trans m) p
theorem PR.next (q : PR K F H d Q) (n : Nxt F H F1 H1) : PR K F1 H1 d Q := fun v F' H' m p => q v F' H' (n.trans m) p
theorem PF.next (q : PF K F H d Q) (n : Nxt F H F1 H1) : PF K F1 H1 d Q := fun a F' H' m ha fa p => q a F' H' (n.trans m) (n.h.free ha) fa p
end
section
variable {K : PySem.W.Frag} {W : WN} {F H : Hp} {γ : Ga} {σ : L2.St} {fa fb fc : Ga → R D} {Q : VK}
/-- from what is wanted behind a and what follows -/
theorem go1 {α : Type} {k : D → R α} {R' : V → Hp → Prop} {Z : R α → Prop} (r : RS K F γ σ H) (o : Z ((fa γ).bind k)) (hex : ∀ c, Z (.ex c) → ∀ F' H', Nxt F H F' H' → W c σ H') (hno : ¬ Z .no)
    (h : ∀ d x F1 H1, Nxt F H F1 H1 → RS K F1 γ σ H1 → Rep1 K F1 H1 d x → Z (k d) → R' x H1) : rdR K W fa σ H R' := by
  refine ⟨F, γ, r, ?_⟩
  cases e : fa γ with
  | ok d => rw [e] at o; exact fun x F1 H1 n p => h d x F1 H1 n (r.next n) p o
  | ex c => rw [e] at o; exact hex c o
  | no => rw [e] at o; exact hno o
theorem go1v {α : Type} {k : D → R α} {R' : V → Hp → Prop} {Z : R α → Prop} (r : RS K F γ σ H) (o : Z ((fa γ).bind k)) (hex : ∀ c, Z (.ex c) → ∀ F' H', Nxt F H F' H' → W c σ H') (hno : ¬ Z .no)
    (h : ∀ d x F1 H1, Nxt F H F1 H1 → RS K F1 γ σ H1 → Rep K F1 d x → Z (k d) → R' x H1) : rdV K W fa σ H R' := by
  refine ⟨F, γ, r, ?_⟩
  cases e : fa γ with
  | ok d => rw [e] at o; exact fun x F1 H1 n p => h d x F1 H1 n (r.next n) p o
  | ex c => rw [e] at o; exact hex c o
  | no => rw [e] at o; exact hno o
end
/-- a two-place operation on data, done by f, never raising -/
structure OpD (X : Cx) (f : Value → Value → Sem Value) (g : D → D → R D) : Prop where
  run : OpR X f (RD2 X.K g)
  ne : ∀ x y c, g x y ≠ .ex c
section
variable {X : Cx}
theorem o_add : OpD X (binaryOp .Add) dAdd := ⟨od_add, fun x y c => by cases x <;> cases y <;> simp [dAdd] <;> split <;> simp⟩
theorem o_sub : OpD X (binaryOp .Sub) dSub := ⟨od_sub, fun x y c => by cases x <;> cases y <;> simp [dSub]⟩
theorem o_mul : OpD X (binaryOp .Mult) dMul := ⟨od_mul, fun x y c => by cases x <;> cases y <;> simp [dMul] <;> split <;> simp⟩
theorem o_div : OpD X (binaryOp .FloorDiv) dDiv := ⟨od_div, fun x y c => by cases x <;> cases y <;> simp [dDiv] <;> split <;> simp⟩
theorem o_mod : OpD X (binaryOp .Mod) dMod := ⟨od_mod, fun x y c => by cases x <;> cases y <;> simp [dMod] <;> split <;> simp⟩
theorem o_lt : OpD X (compareOp .Lt) dLt := ⟨od_lt, fun x y c => by cases x <;> cases y <;> simp [dLt]⟩
theorem o_le : OpD X (compareOp .LtE) dLe := ⟨od_le, fun x y c => by cases x <;> cases y <;> simp [dLe]⟩
theorem o_gt : OpD X (compareOp .Gt) dGt := ⟨od_gt, fun x y c => by cases x <;> cases y <;> simp [dGt]⟩
theorem o_eq (hu : X.A.units + 64 < cLine) : OpD X (compareOp .Eq) dEq := ⟨od_eq hu, fun x y c => by unfold dEq; split <;> simp⟩
theorem o_ne (hu : X.A.units + 64 < cLine) : OpD X (compareOp .NotEq) dNe := ⟨od_ne hu, fun x y c => by unfold dNe; split <;> simp⟩
end
section
variable {X : Cx} {W : WN} {f fa fb fc : Ga → R D} {a b c e : Expr} {pos : Pos}
theorem toS_tl (x : Str) : toS x.cps.toList = x := by apply TL.ext_tl; rfl
/-! ### names and constants -/
theorem j_var (i : Nat) {x : Str} (hN : X.N[i]? = some x := by rfl) (hv : Vis X.env.scope x := by first | exact Or.inl rfl | exact Or.inr (Or.inl rfl) | exact Or.inr (Or.inr rfl)) (hd : (x == ("__debug__" : Str)) = false := by decide)
    (hcd : (x == ("__classdict__" : Str)) = false := by decide) : J X W (bVar i) (.Name x pos) := ⟨PE.imp (pe_var hN hv hd hcd) fun σ H Q ⟨F, γ, r, o⟩ => by
  unfold bVar at o
  cases h : γ[i]? with
  | none => rw [h] at o; exact o.elim
  | some s =>
    rw [h] at o
    cases s with
    | un => exact o.elim
    | ow d => exact o.elim
    | nd d => exact o.elim
    | xc a => exact o.elim
    | va d =>
      obtain ⟨v, e1, p⟩ := r.sl i _ h
      exact ⟨v, e1, PV.here o r.emb p⟩⟩
theorem jr_rd (i : Nat) {x : Str} (hN : X.N[i]? = some x := by rfl) (hv : Vis X.env.scope x := by first | exact Or.inl rfl | exact Or.inr (Or.inl rfl) | exact Or.inr (Or.inr rfl)) (hd : (x == ("__debug__" : Str)) = false := by decide)
    (hcd : (x == ("__classdict__" : Str)) = false := by decide) : JR X W (bRd i) (.Name x pos) := ⟨PE.imp (pe_var hN hv hd hcd) fun σ H Q ⟨F, γ, r, o⟩ => by
  unfold bRd at o
  cases h : γ[i]? with
  | none => rw [h] at o; exact o.elim
  | some s =>
    rw [h] at o
    cases s with
    | un => exact o.elim
    | va d => exact o.elim
    | nd d => exact o.elim
    | xc a => exact o.elim
    | ow d =>
      obtain ⟨v, e1, _, p⟩ := r.sl i _ h
      exact ⟨_, e1, o _ F H (.refl r.emb) (.inr ⟨v, rfl, p⟩)⟩⟩
theorem j_c {v : V} {d : D} (h : PE X e (tC v)) (p : ∀ F, Rep X.K F d v) : J X W (bC d) e := ⟨PE.imp h fun σ H Q ⟨F, γ, r, o⟩ => PV.here (Q := Q) o r.emb (p F)⟩
theorem j_int {i : Int} {k : Nat} : J X W (bC (.int i)) (.Constant (.int i) k pos) := j_c pe_int fun _ => .int i
theorem j_bl {b : Bool} {k : Nat} : J X W (bC (.bl b)) (.Constant (.bool b) k pos) := j_c pe_bl fun _ => .bl b
theorem j_non {k : Nat} : J X W (bC .non) (.Constant .none k pos) := j_c pe_non fun _ => .non
theorem j_str {s : Tx} {x : Str} {k : Nat} (h : x.cps.toList = s := by rfl) : J X W (bC (.str s)) (.Constant (.str x) k pos) := j_c (v := .str x) pe_str fun _ => by
  subst h
  have := Rep.str (K := X.K) (F := ‹Hp›) x.cps.toList
  rw [toS_tl] at this
  exact this
/-- a constant of the module -/
theorem j_glob {x : Str} {u : Value} {d : D} {v : V} (hg : Gl X x) (hm : X.mg x = some u) (hu : RelV v u) (p : ∀ F, Rep X.K F d v) (hd : (x == ("__debug__" : Str)) = false := by decide) : J X W (bC d) (.Name x pos) := ⟨⟨fun pins s σ H Q I h => by
  obtain ⟨F, γ, r, o⟩ := h
  exact ld_glob I hg hm ⟨v, H, I, hu, PV.here (Q := Q) o r.emb (p F)⟩ hd⟩⟩
/-! ### operators -/
theorem rd2 {K : PySem.W.Frag} {F H : Hp} {γ : Ga} {σ : L2.St} {g : D → D → R D} {Q : VK} {R' : V → V → Hp → Prop} (r : RS K F γ σ H) (o : Out (PV K F H) F H (fun c H' => W c σ H') (b2 g fa fb γ) Q)
    (h : ∀ dx dy x y F2 H2, Nxt F H F2 H2 → RS K F2 γ σ H2 → Rep1 K F2 H2 dx x → Rep1 K F2 H2 dy y → Out (PV K F H) F H (fun c H' => W c σ H') (g dx dy) Q → R' x y H2) :
    rdR K W fa σ H fun x H1 => rdR K W fb σ H1 fun y H2 => R' x y H2 := by
  refine go1 (Z := fun z => Out (PV K F H) F H (fun c H' => W c σ H') z Q) r o (fun _ z => z) (fun z => z) fun dx x F1 H1 n1 r1 p1 o1 => ?_
  refine go1 (Z := fun z => Out (PV K F H) F H (fun c H' => W c σ H') z Q) r1 o1 (fun _ z F' H' n => z F' H' (n1.trans n)) (fun z => z) fun dy y F2 H2 n2 r2 p2 o2 => ?_
  exact h dx dy x y F2 H2 (n1.trans n2) r2 (p1.next n2) p2 o2
theorem tOp_of {K : PySem.W.Frag} {F H : Hp} {γ : Ga} {σ : L2.St} {g : D → D → R D} {Q : VK} (ne : ∀ x y c, g x y ≠ .ex c) (r : RS K F γ σ H) (o : Out (PV K F H) F H (fun c H' => W c σ H') (b2 g fa fb γ) Q) :
    tOp (RD2 K g) (rdR K W fa) (rdR K W fb) σ H Q := by
  refine rd2 r o fun dx dy x y F2 H2 n r2 p1 p2 o2 => ?_
  cases e : g dx dy with
  | ok d => rw [e] at o2; exact ⟨F2, dx, dy, d, r2.emb, p1, p2, e, PV.next (Q := Q) o2 n⟩
  | ex c => exact absurd e (ne _ _ _)
  | no => rw [e] at o2; exact o2.elim
theorem j_op {op : Operator} {g : D → D → R D} (ho : OpD X (binaryOp op) g) (ha : JR X W fa a) (hb : JR X W fb b) : J X W (b2 g fa fb) (.BinOp a op b pos) :=
  ⟨PE.imp (pe_op ho.run ha.pe hb.pe) fun σ H Q ⟨F, γ, r, o⟩ => tOp_of ho.ne r o⟩
theorem j_cmp {op : CmpOp} {g : D → D → R D} (ho : OpD X (compareOp op) g) (ha : JR X W fa a) (hb : JR X W fb b) (hm : behindInMarks op b = false := by first | exact nomark _ | rfl) : J X W (b2 g fa fb) (.Compare a [op] [b] pos) :=
  ⟨PE.imp (pe_cmpR ho.run ha.pe hb.pe hm) fun σ H Q ⟨F, γ, r, o⟩ => tOp_of ho.ne r o⟩
def dNeg : D → R D
  | .int i => .ok (.int (-i))
  | _ => .no
theorem j_neg (ha : JR X W fa a) : J X W (b1 dNeg fa) (.UnaryOp .USub a pos) := ⟨PE.imp (pe_un un_neg ha.pe) fun σ H Q ⟨F, γ, r, o⟩ => by
  refine go1 (Z := fun z => Out (PV X.K F H) F H (fun c H' => W c σ H') z Q) r o (fun _ z => z) (fun z => z) fun dx x F1 H1 n1 r1 p1 o1 => ?_
  cases dx <;> first | exact o1.elim | skip
  exact ⟨_, p1.int, PV.here (PV.next (Q := Q) o1 n1) r1.emb (.int _)⟩⟩
def dNot : D → R D
  | .bl b => .ok (.bl (!b))
  | _ => .no
theorem j_not (ha : JR X W fa a) : J X W (b1 dNot fa) (.UnaryOp .Not a pos) := ⟨PE.imp (pe_not ha.pe) fun σ H Q ⟨F, γ, r, o⟩ => by
  refine go1 (Z := fun z => Out (PV X.K F H) F H (fun c H' => W c σ H') z Q) r o (fun _ z => z) (fun z => z) fun dx x F1 H1 n1 r1 p1 o1 => ?_
  cases dx <;> first | exact o1.elim | skip
  exact ⟨_, p1.bl, PV.here (PV.next (Q := Q) o1 n1) r1.emb (.bl _)⟩⟩
/-! ### tests -/
theorem jt_cmp {op : CmpOp} {g : D → D → R D} (ho : OpD X (compareOp op) g) (ha : JR X W fa a) (hb : JR X W fb b) (hm : behindInMarks op b = false := by first | exact nomark _ | rfl) : JT X W (tVal (b2 g fa fb)) (.Compare a [op] [b] pos) :=
  ⟨PT.imp (pt_cmpR ho.run ha.pe hb.pe hm) fun σ H Q ⟨F, γ, r, o⟩ => by
    refine tOp_of (Q := fun x H' => ∃ k, x = .bl k ∧ Q k H') ho.ne r ?_
    unfold tVal at o
    cases e : b2 g fa fb γ with
    | ok d =>
      rw [e] at o
      cases d <;> first | exact o.elim | skip
      intro v F' H' n p
      cases p
      exact ⟨_, rfl, o F' H' n⟩
    | ex c => rw [e] at o; exact o
    | no => rw [e] at o; exact o⟩
theorem jt_val (h : J X W f e) (he : ∀ whole, isTrue e X.env whole = (do let v ← whole; standAt e.pos; holding [v] (truthy v)) := by intro _; rfl) : JT X W (tVal f) e :=
  ⟨PT.imp (pt_val h.pe he) fun σ H Q ⟨F, γ, r, o⟩ => by
    refine ⟨F, γ, r, ?_⟩
    unfold tVal at o
    cases e : f γ with
    | ok d =>
      rw [e] at o
      cases d <;> first | exact o.elim | skip
      intro v F' H' n p
      cases p
      exact ⟨_, rfl, o F' H' n⟩
    | ex c => rw [e] at o; exact o
    | no => rw [e] at o; exact o⟩
variable {p q : Ga → R Bool} {rest : List Expr}
theorem JW.t (h : JW X W p e) : JT X W p e := ⟨h.pw.pt⟩
theorem jw_or1 (ha : JT X W p a) : JW X W p (.BoolOp .Or [a] pos) := ⟨pw_or1 ha.pt⟩
theorem jw_or (ha : JT X W p a) (hb : JW X W q (.BoolOp .Or (b :: rest) pos)) : JW X W (tOr p q) (.BoolOp .Or (a :: b :: rest) pos) := ⟨PW.imp (pw_or ha.pt hb.pw) fun σ H Q h => by
  obtain ⟨F, γ, r, o⟩ := h
  refine ⟨F, γ, r, ?_⟩
  unfold tOr at o
  cases e : p γ with
  | ok b =>
    simp only [e, R.bind] at o
    intro F' H' n
    cases b with
    | false =>
      simp only [Bool.false_eq_true, if_false] at o ⊢
      refine ⟨F', γ, r.next n, ?_⟩
      cases e2 : q γ with
      | ok b' => rw [e2] at o; exact fun F2 H2 n2 => o F2 H2 (n.trans n2)
      | ex c => rw [e2] at o; exact fun F2 H2 n2 => o F2 H2 (n.trans n2)
      | no => rw [e2] at o; exact o
    | true => exact o F' H' n
  | ex c => simp only [e, R.bind] at o; exact o
  | no => simp only [e, R.bind] at o; exact o⟩
theorem jt_not (ha : JT X W p a) : JT X W (tNot p) (.UnaryOp .Not a pos) := ⟨PT.imp (pt_not ha.pt) fun σ H Q h => by
  obtain ⟨F, γ, r, o⟩ := h
  refine ⟨F, γ, r, ?_⟩
  unfold tNot at o
  cases e : p γ with
  | ok b => simp only [e, R.bind] at o; exact o
  | ex c => simp only [e, R.bind] at o; exact o
  | no => simp only [e, R.bind] at o; exact o⟩
/-! ### and, or of truths as values; if .. else -/
def bAnd (fa fb : Ga → R D) : Ga → R D := fun γ => (fa γ).bind fun x => match x with | .bl true => fb γ | .bl false => .ok (.bl false) | _ => .no
theorem Out.next {K : PySem.W.Frag} {F H F1 H1 : Hp} {σ : L2.St} {x : R D} {Q : VK} (o : Out (PV K F H) F H (fun c H' => W c σ H') x Q) (n : Nxt F H F1 H1) : Out (PV K F1 H1) F1 H1 (fun c H' => W c σ H') x Q := by
  cases x with
  | ok d => exact PV.next (Q := Q) o n
  | ex c => exact fun F' H' m => o F' H' (n.trans m)
  | no => exact o
theorem j_one {op : BoolOp} (h : J X W f a) : J X W f (.BoolOp op [a] pos) := ⟨pe_one h.pe⟩
theorem j_and (ha : J X W fa a) (hb : J X W fb (.BoolOp .And (b :: rest) pos)) : J X W (bAnd fa fb) (.BoolOp .And (a :: b :: rest) pos) := ⟨PE.imp (pe_and ha.pe hb.pe) fun σ H Q ⟨F, γ, r, o⟩ => by
  refine go1v (Z := fun z => Out (PV X.K F H) F H (fun c H' => W c σ H') z Q) r o (fun _ z => z) (fun z => z) fun dx x F1 H1 n1 r1 p1 o1 => ?_
  cases dx <;> first | exact o1.elim | skip
  rename_i b
  cases p1
  refine ⟨b, rfl, ?_⟩
  cases b with
  | true => exact ⟨F1, γ, r1, Out.next o1 n1⟩
  | false => exact PV.here (PV.next (Q := Q) o1 n1) r1.emb (.bl _)⟩
theorem j_if (hc : JT X W p c) (ha : J X W fa a) (hb : J X W fb b) : J X W (bIf p fa fb) (.IfExp c a b pos) := ⟨PE.imp (pe_ifExp hc.pt ha.pe hb.pe) fun σ H Q ⟨F, γ, r, o⟩ => by
  refine ⟨F, γ, r, ?_⟩
  unfold bIf at o
  cases e : p γ with
  | ok b =>
    simp only [e, R.bind] at o
    intro F' H' n
    cases b with
    | true => exact ⟨F', γ, r.next n, Out.next o n⟩
    | false => exact ⟨F', γ, r.next n, Out.next o n⟩
  | ex c => simp only [e, R.bind] at o; exact o
  | no => simp only [e, R.bind] at o; exact o⟩
/-! ### chains -/
def bCh (g g' : D → D → R D) (fa fb fc : Ga → R D) : Ga → R D := fun γ => (fa γ).bind fun x => (fb γ).bind fun y => (g x y).bind fun z => match z with
  | .bl true => (fc γ).bind fun w => g' y w
  | .bl false => .ok (.bl false)
  | _ => .no
theorem tCh_of {g g' : D → D → R D} {K : PySem.W.Frag} {F H : Hp} {γ : Ga} {σ : L2.St} {Q : VK} (ne : ∀ x y c, g x y ≠ .ex c) (ne' : ∀ x y c, g' x y ≠ .ex c) (r : RS K F γ σ H) (o : Out (PV K F H) F H (fun c H' => W c σ H') (bCh g g' fa fb fc γ) Q) :
    tChain (RD2 K g) (RD2 K g') (rdR K W fa) (rdR K W fb) (rdR K W fc) σ H Q := by
  refine go1 (Z := fun z => Out (PV K F H) F H (fun c H' => W c σ H') z Q) r o (fun _ z => z) (fun z => z) fun dx x F1 H1 n1 r1 p1 o1 => ?_
  refine go1 (Z := fun z => Out (PV K F H) F H (fun c H' => W c σ H') z Q) r1 o1 (fun _ z F' H' n => z F' H' (n1.trans n)) (fun z => z) fun dy y F2 H2 n2 r2 p2 o2 => ?_
  have p1' := p1.next n2
  have n12 := n1.trans n2
  cases e : g dx dy with
  | ok d =>
    rw [e] at o2
    simp only [R.bind] at o2
    cases d <;> first | exact o2.elim | skip
    rename_i k
    refine ⟨F2, dx, dy, _, r2.emb, p1', p2, e, fun v F' H' n p => ?_⟩
    cases p
    refine ⟨k, rfl, ?_⟩
    cases k with
    | true =>
      refine go1 (Z := fun z => Out (PV K F H) F H (fun c H' => W c σ H') z Q) (r2.next n) o2 (fun _ z F'' H'' m => z F'' H'' ((n12.trans n).trans m)) (fun z => z) fun dw w F3 H3 n3 r3 p3 o3 => ?_
      cases e3 : g' dy dw with
      | ok d => rw [e3] at o3; exact ⟨F3, dy, dw, d, r3.emb, (p2.next n).next n3, p3, e3, PV.next (Q := Q) o3 ((n12.trans n).trans n3)⟩
      | ex c => exact absurd e3 (ne' _ _ _)
      | no => rw [e3] at o3; exact o3.elim
    | false => exact PV.here (PV.next (Q := Q) o2 (n12.trans n)) n.emb (.bl _)
  | ex c => exact absurd e (ne _ _ _)
  | no => rw [e] at o2; exact o2.elim
theorem j_chain {op op' : CmpOp} {g g' : D → D → R D} (ho : OpD X (compareOp op) g) (ho' : OpD X (compareOp op') g') (ha : JR X W fa a) (hb : JR X W fb b) (hc : JR X W fc c)
    (h1 : lastMarks [op, op'] [b, c] = false := by with_unfolding_all rfl) : J X W (bCh g g' fa fb fc) (.Compare a [op, op'] [b, c] pos) :=
  ⟨PE.imp (pe_chain ho.run ho'.run ha.pe hb.pe hc.pe h1) fun σ H Q ⟨F, γ, r, o⟩ => tCh_of ho.ne ho'.ne r o⟩
/-! ### argument lists, displays -/
variable {es : List Expr} {fs : Ga → R (List D)}
theorem Reps.one {K : PySem.W.Frag} {F H : Hp} {ds : List D} {vs : List V} (h : Reps K F ds vs) : Reps1 K F H ds vs := by
  induction ds generalizing vs with
  | nil => cases h; exact .nil
  | cons d ds ih => cases h with | cons h1 h2 => exact .cons (.inl h1) (ih h2)
theorem Reps1.next {K : PySem.W.Frag} {F H F' H' : Hp} {ds : List D} {vs : List V} (h : Reps1 K F H ds vs) (n : Nxt F H F' H') : Reps1 K F' H' ds vs := by
  induction ds generalizing vs with
  | nil => cases h; exact .nil
  | cons d ds ih => cases h with | cons h1 h2 => exact .cons (h1.next n) (ih h2)
theorem ja_nil : JA X W bNil [] := ⟨PA.imp pa_nil fun σ H Q ⟨F, γ, r, o⟩ => o [] F H (.refl r.emb) .nil⟩
theorem ja1_nil : JA1 X W bNil [] := ⟨PA.imp pa_nil fun σ H Q ⟨F, γ, r, o⟩ => o [] F H (.refl r.emb) .nil⟩
theorem ja_cons (ha : J X W fa e) (hr : JA X W fs es) (hs : starEach (e :: es) X.env = (false, eval e X.env) :: starEach es X.env := by rfl) : JA X W (bCons fa fs) (e :: es) := ⟨PA.imp (pa_cons ha.pe hr.pa hs) fun σ H Q ⟨F, γ, r, o⟩ => by
  refine ⟨F, γ, r, ?_⟩
  unfold bCons at o
  cases e1 : fa γ with
  | ok d =>
    simp only [e1, R.bind] at o
    intro v F' H' n p
    refine ⟨F', γ, r.next n, ?_⟩
    cases e2 : fs γ with
    | ok ds => simp only [e2, R.bind] at o; exact fun vs F2 H2 n2 ps => o _ F2 H2 (n.trans n2) (.cons (p.mono n2.f) ps)
    | ex c => simp only [e2, R.bind] at o; exact fun F2 H2 n2 => o F2 H2 (n.trans n2)
    | no => simp only [e2, R.bind] at o; exact o
  | ex c => simp only [e1, R.bind] at o; exact o
  | no => simp only [e1, R.bind] at o; exact o⟩
theorem ja1_cons (ha : JR X W fa e) (hr : JA1 X W fs es) (hs : starEach (e :: es) X.env = (false, eval e X.env) :: starEach es X.env := by rfl) : JA1 X W (bCons fa fs) (e :: es) := ⟨PA.imp (pa_cons ha.pe hr.pa hs) fun σ H Q ⟨F, γ, r, o⟩ => by
  refine ⟨F, γ, r, ?_⟩
  unfold bCons at o
  cases e1 : fa γ with
  | ok d =>
    simp only [e1, R.bind] at o
    intro v F' H' n p
    refine ⟨F', γ, r.next n, ?_⟩
    cases e2 : fs γ with
    | ok ds => simp only [e2, R.bind] at o; exact fun vs F2 H2 n2 ps => o _ F2 H2 (n.trans n2) (.cons (p.next n2) ps)
    | ex c => simp only [e2, R.bind] at o; exact fun F2 H2 n2 => o F2 H2 (n.trans n2)
    | no => simp only [e2, R.bind] at o; exact o
  | ex c => simp only [e1, R.bind] at o; exact o
  | no => simp only [e1, R.bind] at o; exact o⟩
theorem j_tup {x1 : Nat} (h : JA X W fs es) : J X W (bTup fs) (.Tuple es x1 pos) := ⟨PE.imp (pe_tup h.pa) fun σ H Q ⟨F, γ, r, o⟩ => by
  refine ⟨F, γ, r, ?_⟩
  unfold bTup bN at o
  cases e1 : fs γ with
  | ok ds =>
    simp only [e1, R.bind] at o
    intro vs F' H' n p
    split at o
    · rename_i hl
      refine ⟨by rw [← p.length]; exact Nat.le_trans hl lim_line, fun a ha => PV.newT (PV.next (Q := Q) o n) n.emb p a ha⟩
    · exact o.elim
  | ex c => simp only [e1, R.bind] at o; exact o
  | no => simp only [e1, R.bind] at o; exact o⟩
theorem jf_lst (h : JA X W fs es) : JF X W (bLst fs) (.List es pos) := ⟨PE.imp (pe_lst h.pa) fun σ H Q ⟨F, γ, r, o⟩ => by
  refine ⟨F, γ, r, ?_⟩
  unfold bLst bN at o
  cases e1 : fs γ with
  | ok ds =>
    simp only [e1, R.bind] at o
    intro vs F' H' n p
    split at o
    · rename_i hl
      refine ⟨by rw [← p.length]; exact Nat.le_trans hl lim_line, fun a ha => ?_⟩
      exact o a F' _ (n.trans (.laid n.emb ha _)) (n.h.free ha) (n.emb.free ha) ⟨_, upd_same, p⟩
    · exact o.elim
  | ex c => simp only [e1, R.bind] at o; exact o
  | no => simp only [e1, R.bind] at o; exact o⟩
end
end KN
/-! KnD: subscripts, slices, builtins, calls -/
namespace KN
open PySem PySem.Spec PyProof.Rows L2
/-! ### subscripts -/
def lookK (es : List (Tx × D)) (k : Tx) : Option D := (es.find? fun e => e.1 == k).map (·.2)
def o2r {α : Type} : Option α → R α
  | some a => .ok a
  | none => .no
def dIx : D → D → R D
  | .lst xs, .int i => o2r (atI xs i)
  | .tup xs, .int i => o2r (atI xs i)
  | .str s, .int i => if s.length ≤ lim then (match atI s i with | some c => .ok (.str [c]) | none => .no) else .no
  | .dic es, .str k => o2r (lookK es k)
  | _, _ => .no
theorem Reps.atI {K : PySem.W.Frag} {F : Hp} {ds : List D} {vs : List V} (h : Reps K F ds vs) {i : Int} {d : D} (e : atI ds i = some d) : ∃ v, L2.atI vs i = some v ∧ Rep K F d v := by
  unfold L2.atI at e ⊢
  rw [← h.length]
  cases q : ixN ds.length i with
  | none => rw [q] at e; cases e
  | some j =>
    rw [q] at e
    exact h.get (i := j) (by simpa using e)
theorem RepK.look {K : PySem.W.Frag} {F : Hp} {es : List (Tx × D)} {kvs : List (Key × V)} (h : RepK K F es kvs) (k : Tx) :
    (lookK es k = none ∧ valV kvs (Sum.inr (toS k)) = none) ∨ ∃ d v, lookK es k = some d ∧ valV kvs (Sum.inr (toS k)) = some v ∧ Rep K F d v := by
  induction es generalizing kvs with
  | nil => cases h; exact .inl ⟨rfl, rfl⟩
  | cons e es ih =>
    obtain ⟨k', d⟩ := e
    cases h with
    | cons h1 h2 =>
      by_cases q : k' = k
      · subst q
        refine .inr ⟨d, _, ?_, valV_pos rfl, h1⟩
        simp [lookK]
      · have q2 : ¬ (Sum.inr (toS k') : Key) = Sum.inr (toS k) := fun z => q (toS_inj.mp (Sum.inr.inj z))
        rw [valV_neg q2]
        have : lookK ((k', d) :: es) k = lookK es k := by
          unfold lookK
          rw [List.find?_cons, show (k' == k) = false from beq_eq_false_iff_ne.mpr q]
        rw [this]
        exact ih h2
section
variable {X : Cx}
theorem xd_ix (hu : X.A.units + 1 < cLine) : IxR X (RD2 X.K dIx) := by
  intro value slice pins s σ H x y v u Q I rx ry ⟨F, dx, dy, d, e, r1, r2, hg, q⟩ hs
  cases dx <;> cases dy <;> first | (cases hg; done) | skip
  · rename_i z i
    simp only [dIx] at hg
    split at hg
    · rename_i hl
      split at hg
      · rename_i c hc
        cases hg
        have e1 := r1.str
        refine ix_str value slice pins s σ H x y v u Q I rx ry ⟨toS z, i, c, e1, r2.int, ?_, ?_, ?_⟩ hs
        · rw [toS_len]; exact Nat.le_trans hl lim_line
        · exact hc
        · exact q.here e (.str [c])
      · cases hg
    · cases hg
  · rename_i xs i
    simp only [dIx, o2r] at hg
    split at hg
    · rename_i d' hc
      cases hg
      obtain ⟨p, vs, rfl, s1, p1⟩ := r1.lst e
      obtain ⟨w, e1, e2⟩ := p1.atI hc
      exact ix_list value slice pins s σ H _ y v u Q I rx ry ⟨p, vs, i, w, rfl, r2.int, s1, e1, q.here e e2⟩ hs
    · cases hg
  · rename_i xs i
    simp only [dIx, o2r] at hg
    split at hg
    · rename_i d' hc
      cases hg
      obtain ⟨p, vs, rfl, s1, p1⟩ := r1.tup e
      obtain ⟨w, e1, e2⟩ := p1.atI hc
      exact ix_tup value slice pins s σ H _ y v u Q I rx ry ⟨p, vs, i, w, rfl, r2.int, s1, e1, q.here e e2⟩ hs
    · cases hg
  · rename_i es k
    simp only [dIx, o2r] at hg
    split at hg
    · rename_i d' hc
      cases hg
      obtain ⟨p, kvs, rfl, s1, p1⟩ := r1.dic e
      rcases p1.look k with ⟨z, _⟩ | ⟨d2, w, z, e1, e2⟩
      · rw [hc] at z; cases z
      · rw [hc] at z; cases z
        cases rx
        have g : DGet H p y (some w) := .inl ⟨kvs, .inr (toS k), s1, r2.str, e1.symm⟩
        exact tail_any (dict_typeIs I g) PySem.F.slot_dict_getitem.lookup (d_getItem hu I g ry fun w' s3 I3 rw' => ⟨w, H, I3, rw', q.here e e2⟩) hs
    · cases hg
end
theorem ne_ix : ∀ x y c, dIx x y ≠ .ex c := fun x y c => by
  cases x <;> cases y <;> simp only [dIx, o2r] <;> first | (intro h; cases h; done) | (split <;> first | (intro h; cases h; done) | (split <;> intro h <;> cases h))
/-! ### slices -/
def cutL {α : Type} (xs : List α) (lo hi : Option Int) : List α := (xs.drop (HT.sIx xs.length 0 lo)).take (HT.sIx xs.length xs.length hi - HT.sIx xs.length 0 lo)
theorem Reps.cut {K : PySem.W.Frag} {F : Hp} {ds : List D} {vs : List V} (h : Reps K F ds vs) (lo hi : Option Int) : Reps K F (cutL ds lo hi) (cutV vs lo hi) := by
  unfold cutL cutV
  rw [← h.length]
  exact (h.drop _).take _
def dSl : D → Option Int → Option Int → R D
  | .lst xs, lo, hi => .ok (.lst (cutL xs lo hi))
  | .tup xs, lo, hi => .ok (.tup (cutL xs lo hi))
  | .str s, lo, hi => if s.length ≤ lim then .ok (.str (cutL s lo hi)) else .no
  | _, _, _ => .no
theorem ne_sl : ∀ x lo hi c, dSl x lo hi ≠ .ex c := fun x lo hi c => by
  cases x <;> simp only [dSl] <;> first | (intro h; cases h; done) | (split <;> intro h <;> cases h)
def RSl (K : PySem.W.Frag) : V → Option Int → Option Int → Hp → VK → Prop := fun x lo hi H Q => ∃ F dx d, Emb F H ∧ Rep1 K F H dx x ∧ dSl dx lo hi = .ok d ∧ PV K F H d Q
theorem toS_cut (z : Tx) (lo hi : Option Int) : cutS (toS z) lo hi = toS (cutL z lo hi) := by
  unfold cutS cutL
  rw [toS_len]
theorem cut_whole {α : Type} {xs : List α} {lo hi : Option Int} (h : HT.sIx xs.length 0 lo = 0 ∧ HT.sIx xs.length xs.length hi = xs.length) : cutL xs lo hi = xs := by
  unfold cutL
  rw [h.1, h.2]
  simp
theorem sd_sl {X : Cx} : SlR X (RSl X.K) := by
  intro pins s σ H x v vl vu lo hi sl Q I rx hs pl pu ⟨F, dx, d, e, r1, hg, q⟩
  cases dx <;> first | (cases hg; done) | skip
  · rename_i z
    simp only [dSl] at hg
    split at hg
    · rename_i hl
      cases hg
      refine sl_str pins s σ H x v vl vu lo hi sl Q I rx hs pl pu ⟨toS z, r1.str, ?_, ?_⟩
      · rw [toS_len]; exact Nat.le_trans hl lim_line
      · rw [toS_cut]; exact q.here e (.str _)
    · cases hg
  · rename_i xs
    cases hg
    obtain ⟨p, vs, rfl, s1, p1⟩ := r1.lst e
    exact sl_list pins s σ H _ v vl vu lo hi sl Q I rx hs pl pu ⟨p, vs, rfl, s1, fun a ha => q.newL e (p1.cut lo hi) a ha⟩
  · rename_i xs
    cases hg
    have r1' := r1
    obtain ⟨p, vs, rfl, s1, p1⟩ := r1.tup e
    refine sl_tupA pins s σ H _ v vl vu lo hi sl Q I rx hs pl pu ⟨p, vs, rfl, s1, fun h => ?_, fun _ a ha => q.newT e (p1.cut lo hi) a ha⟩
    rw [← p1.length] at h
    rw [cut_whole h] at q
    rcases r1' with r1' | ⟨_, _, o⟩
    · exact q.here e r1'
    · exact o.elim
def bSl (fa : Ga → R D) (fl fh : Ga → R (Option Int)) : Ga → R D := fun γ => (fa γ).bind fun x => (fl γ).bind fun l => (fh γ).bind fun h => dSl x l h
def pNo : Ga → R (Option Int) := fun _ => .ok none
def toI : D → R (Option Int)
  | .int i => .ok (some i)
  | _ => .no
def pSo (fa : Ga → R D) : Ga → R (Option Int) := fun γ => (fa γ).bind toI
def rdO (K : PySem.W.Frag) (W : WN) (f : Ga → R (Option Int)) : TO := fun σ H Q => ∃ F γ, RS K F γ σ H ∧ (match f γ with
  | .ok o => ∀ F' H', Nxt F H F' H' → Q o H'
  | .ex c => ∀ F' H', Nxt F H F' H' → W c σ H'
  | .no => False)
structure JO (X : Cx) (W : WN) (f : Ga → R (Option Int)) (e : Option Expr) : Prop where
  po : PO X e (rdO X.K W f)
theorem PO.imp {X : Cx} {e : Option Expr} {t t' : TO} (h : PO X e t) (i : ∀ σ H Q, t' σ H Q → t σ H Q) : PO X e t' := ⟨fun pins s σ H Q I q => h.run pins s σ H Q I (i σ H Q q)⟩
section
variable {X : Cx} {W : WN} {f fa fb fc : Ga → R D} {a b c e : Expr} {pos p2 p : Pos} {lo hi : Option Expr} {fl fh : Ga → R (Option Int)} {es : List Expr} {fs : Ga → R (List D)}
theorem j_ix (hu : X.A.units + 1 < cLine) (ha : JR X W fa a) (hb : JR X W fb b) (hs : PlainIx b := by exact fun _ _ => rfl) : J X W (b2 dIx fa fb) (.Subscript a b pos) :=
  ⟨PE.imp (pe_ix (xd_ix hu) ha.pe hb.pe hs) fun σ H Q ⟨F, γ, r, o⟩ => tOp_of ne_ix r o⟩
theorem jo_none : JO X W pNo none := ⟨PO.imp po_none fun σ H Q ⟨F, γ, r, o⟩ => o F H (.refl r.emb)⟩
theorem jo_some (ha : JR X W fa a) : JO X W (pSo fa) (some a) := ⟨PO.imp (po_some ha.pe) fun σ H Q ⟨F, γ, r, o⟩ => by
  refine ⟨F, γ, r, ?_⟩
  unfold pSo at o
  cases e1 : fa γ with
  | ok d =>
    simp only [e1, R.bind] at o
    cases d <;> first | exact o.elim | skip
    exact fun v F' H' n p => ⟨_, p.int, o F' H' n⟩
  | ex c => simp only [e1, R.bind] at o; exact o
  | no => simp only [e1, R.bind] at o⟩
theorem j_slice (ha : JR X W fa a) (hl : JO X W fl lo) (hh : JO X W fh hi) : J X W (bSl fa fl fh) (.Subscript a (.Slice lo hi none p2) pos) := ⟨PE.imp (pe_slice sd_sl ha.pe hl.po hh.po) fun σ H Q ⟨F, γ, r, o⟩ => by
  refine go1 (Z := fun z => Out (PV X.K F H) F H (fun c H' => W c σ H') z Q) r o (fun _ z => z) (fun z => z) fun dx x F1 H1 n1 r1 p1 o1 => ?_
  refine ⟨F1, γ, r1, ?_⟩
  cases e1 : fl γ with
  | ok l =>
    simp only [e1, R.bind] at o1
    intro F2 H2 n2
    refine ⟨F2, γ, r1.next n2, ?_⟩
    cases e2 : fh γ with
    | ok h =>
      simp only [e2, R.bind] at o1
      intro F3 H3 n3
      cases e3 : dSl dx l h with
      | ok d => rw [e3] at o1; exact ⟨F3, dx, d, n3.emb, (p1.next n2).next n3, e3, PV.next (Q := Q) o1 ((n1.trans n2).trans n3)⟩
      | ex c => exact absurd e3 (ne_sl _ _ _ _)
      | no => rw [e3] at o1; exact o1.elim
    | ex c => simp only [e2, R.bind] at o1; exact fun F' H' m => o1 F' H' ((n1.trans n2).trans m)
    | no => simp only [e2, R.bind] at o1; exact o1
  | ex c => simp only [e1, R.bind] at o1; exact fun F' H' m => o1 F' H' (n1.trans m)
  | no => simp only [e1, R.bind] at o1; exact o1⟩
/-! ### builtins by name -/
def RDc (K : PySem.W.Frag) (g : List D → R D) : List V → Hp → VK → Prop := fun xs H Q => ∃ F ds d, Emb F H ∧ Reps1 K F H ds xs ∧ g ds = .ok d ∧ PV K F H d Q
def RDf (K : PySem.W.Frag) (g : List D → R D) : List V → Hp → VK → Prop := fun xs H Q => ∃ F ds d, Emb F H ∧ Reps1 K F H ds xs ∧ g ds = .ok d ∧ PF K F H d Q
structure CalD (X : Cx) (f : Value) (g : List D → R D) : Prop where
  run : CallR X f (RDc X.K g)
  ne : ∀ x c, g x ≠ .ex c
structure CalF (X : Cx) (f : Value) (g : List D → R D) : Prop where
  run : CallR X f (RDf X.K g)
  ne : ∀ x c, g x ≠ .ex c
theorem tCB_of {K : PySem.W.Frag} {g : List D → R D} {σ : L2.St} {H F : Hp} {γ : Ga} {Q : VK} (ne : ∀ x c, g x ≠ .ex c) (r : RS K F γ σ H) (o : Out (PV K F H) F H (fun c H' => W c σ H') (bN g fs γ) Q) :
    rdA1 K W fs σ H fun vs H1 => RDc K g vs H1 Q := by
  refine ⟨F, γ, r, ?_⟩
  unfold bN at o
  cases e1 : fs γ with
  | ok ds =>
    simp only [e1, R.bind] at o
    intro vs F' H' n p
    cases e2 : g ds with
    | ok d => rw [e2] at o; exact ⟨F', ds, d, n.emb, p, e2, PV.next (Q := Q) o n⟩
    | ex c => exact absurd e2 (ne _ _)
    | no => rw [e2] at o; exact o.elim
  | ex c => simp only [e1, R.bind] at o; exact o
  | no => simp only [e1, R.bind] at o; exact o
theorem tCF_of {K : PySem.W.Frag} {g : List D → R D} {σ : L2.St} {H F : Hp} {γ : Ga} {Q : VK} (ne : ∀ x c, g x ≠ .ex c) (r : RS K F γ σ H) (o : Out (PF K F H) F H (fun c H' => W c σ H') (bN g fs γ) Q) :
    rdA1 K W fs σ H fun vs H1 => RDf K g vs H1 Q := by
  refine ⟨F, γ, r, ?_⟩
  unfold bN at o
  cases e1 : fs γ with
  | ok ds =>
    simp only [e1, R.bind] at o
    intro vs F' H' n p
    cases e2 : g ds with
    | ok d => rw [e2] at o; exact ⟨F', ds, d, n.emb, p, e2, PF.next (Q := Q) o n⟩
    | ex c => exact absurd e2 (ne _ _)
    | no => rw [e2] at o; exact o.elim
  | ex c => simp only [e1, R.bind] at o; exact o
  | no => simp only [e1, R.bind] at o; exact o
theorem j_b {id : String} {x : Str} {g : List D → R D} (hc : CalD X (.builtin id) g) (hm : X.mg x = none) (hv : bootBuiltins x = some (.builtin id)) (ha : JA1 X W fs (e :: es)) (hg : Gl X x := by rfl) (hn : x ≠ "__name__" := by decide) (hdb : (x == ("__debug__" : Str)) = false := by decide)
    (he : starEach (e :: es) X.env = (false, eval e X.env) :: starEach es X.env := by rfl) (hpl : (backTo pos (starEach es X.env)).any (·.1) = false := by rfl) : J X W (bN g fs) (.Call (.Name x p) (e :: es) [] pos) :=
  ⟨PE.imp (pe_callB hc.run hg hm hv ha.pa hn hdb he hpl) fun σ H Q ⟨F, γ, r, o⟩ => tCB_of hc.ne r o⟩
theorem jf_b {id : String} {x : Str} {g : List D → R D} (hc : CalF X (.builtin id) g) (hm : X.mg x = none) (hv : bootBuiltins x = some (.builtin id)) (ha : JA1 X W fs (e :: es)) (hg : Gl X x := by rfl) (hn : x ≠ "__name__" := by decide) (hdb : (x == ("__debug__" : Str)) = false := by decide)
    (he : starEach (e :: es) X.env = (false, eval e X.env) :: starEach es X.env := by rfl) (hpl : (backTo pos (starEach es X.env)).any (·.1) = false := by rfl) : JF X W (bN g fs) (.Call (.Name x p) (e :: es) [] pos) :=
  ⟨PE.imp (pe_callB hc.run hg hm hv ha.pa hn hdb he hpl) fun σ H Q ⟨F, γ, r, o⟩ => tCF_of hc.ne r o⟩
theorem jf_ty {id : String} {x : Str} {g : List D → R D} (hc : CalF X (.type id) g) (hm : X.mg x = none) (hv : bootBuiltins x = some (.type id)) (ha : JA1 X W fs (e :: es)) (hg : Gl X x := by rfl) (hn : x ≠ "__name__" := by decide) (hdb : (x == ("__debug__" : Str)) = false := by decide)
    (he : starEach (e :: es) X.env = (false, eval e X.env) :: starEach es X.env := by rfl) (hpl : (backTo pos (starEach es X.env)).any (·.1) = false := by rfl) : JF X W (bN g fs) (.Call (.Name x p) (e :: es) [] pos) :=
  ⟨PE.imp (pe_callTy hc.run hg hm hv ha.pa hn hdb he hpl) fun σ H Q ⟨F, γ, r, o⟩ => tCF_of hc.ne r o⟩
end
/-! ### the builtins -/
section
variable {X : Cx}
theorem Reps1.inv1 {K : PySem.W.Frag} {F H : Hp} {d : D} {xs : List V} (h : Reps1 K F H [d] xs) : ∃ x, xs = [x] ∧ Rep1 K F H d x := by
  cases h with | cons h1 h2 => cases h2; exact ⟨_, rfl, h1⟩
theorem Reps1.inv2 {K : PySem.W.Frag} {F H : Hp} {d e : D} {xs : List V} (h : Reps1 K F H [d, e] xs) : ∃ x y, xs = [x, y] ∧ Rep1 K F H d x ∧ Rep1 K F H e y := by
  cases h with | cons h1 h2 => obtain ⟨y, rfl, h3⟩ := h2.inv1; exact ⟨_, _, rfl, h1, h3⟩
def dLen : List D → R D
  | [.str s] => if s.length ≤ lim then .ok (.int s.length) else .no
  | [.lst xs] => .ok (.int xs.length)
  | [.tup xs] => .ok (.int xs.length)
  | [.dic es] => .ok (.int es.length)
  | _ => .no
theorem c_len : CalD X (.builtin "len") dLen := by
  refine ⟨fun pins s σ H xs us Q I rv ⟨F, ds, d, e, r, hg, q⟩ => ?_, fun x c => ?_⟩
  · match ds, hg with
    | [.str z], hg =>
      simp only [dLen] at hg
      split at hg
      · rename_i hl
        cases hg
        obtain ⟨x, rfl, r1⟩ := r.inv1
        have e1 := r1.str
        subst e1
        refine call_len pins s σ H _ us Q I rv ⟨.str (toS z), z.length, rfl, ⟨?_, (toS_len z).symm⟩, q.here e (.int _)⟩
        rw [toS_len]; exact Nat.le_trans hl lim_line
      · cases hg
    | [.lst ys], hg =>
      cases hg
      obtain ⟨x, rfl, r1⟩ := r.inv1
      obtain ⟨a, vs, rfl, s1, p1⟩ := r1.lst e
      exact call_len pins s σ H _ us Q I rv ⟨.ref a, ys.length, rfl, .inl ⟨vs, s1, p1.length⟩, q.here e (.int _)⟩
    | [.tup ys], hg =>
      cases hg
      obtain ⟨x, rfl, r1⟩ := r.inv1
      obtain ⟨a, vs, rfl, s1, p1⟩ := r1.tup e
      exact call_len pins s σ H _ us Q I rv ⟨.ref a, ys.length, rfl, .inr ⟨vs, s1, p1.length⟩, q.here e (.int _)⟩
    | [.dic ys], hg =>
      cases hg
      obtain ⟨x, rfl, r1⟩ := r.inv1
      obtain ⟨a, kvs, rfl, s1, p1⟩ := r1.dic e
      obtain ⟨u, rfl, ru⟩ := vals1 rv
      cases ru
      refine d_len I s1 fun t s' I' => ⟨.int kvs.length, H, I', ⟨t, rfl⟩, ?_⟩
      rw [← p1.length]
      exact q.here e (.int _)
  · intro h
    unfold dLen at h
    split at h <;> try split at h
    all_goals cases h
def dMax : List D → R D
  | [.int i, .int j] => .ok (.int (max i j))
  | _ => .no
def dMin : List D → R D
  | [.int i, .int j] => .ok (.int (min i j))
  | _ => .no
theorem c_max (hc : X.calm = true) : CalD X (.builtin "max") dMax := by
  refine ⟨fun pins s σ H xs us Q I rv ⟨F, ds, d, e, r, hg, q⟩ => ?_, fun x c => ?_⟩
  · match ds, hg with
    | [.int i, .int j], hg =>
      cases hg
      obtain ⟨x, y, rfl, r1, r2⟩ := r.inv2
      have e1 := r1.int
      have e2 := r2.int
      subst e1 e2
      refine call_max2 hc pins s σ H _ us Q I rv ⟨i, j, rfl, ?_⟩
      have : (if j > i then j else i) = max i j := by split <;> omega
      rw [this]
      exact q.here e (.int _)
  · intro h
    unfold dMax at h
    split at h <;> cases h
theorem c_min (hc : X.calm = true) : CalD X (.builtin "min") dMin := by
  refine ⟨fun pins s σ H xs us Q I rv ⟨F, ds, d, e, r, hg, q⟩ => ?_, fun x c => ?_⟩
  · match ds, hg with
    | [.int i, .int j], hg =>
      cases hg
      obtain ⟨x, y, rfl, r1, r2⟩ := r.inv2
      have e1 := r1.int
      have e2 := r2.int
      subst e1 e2
      refine call_min2 hc pins s σ H _ us Q I rv ⟨i, j, rfl, ?_⟩
      have : (if j < i then j else i) = min i j := by split <;> omega
      rw [this]
      exact q.here e (.int _)
  · intro h
    unfold dMin at h
    split at h <;> cases h
def dList : List D → R D
  | [.lst xs] => .ok (.lst xs)
  | [.tup xs] => .ok (.lst xs)
  | _ => .no
theorem PF.newL {K : PySem.W.Frag} {F H : Hp} {ds : List D} {vs : List V} {Q : VK} (q : PF K F H (.lst ds) Q) (e : Emb F H) (r : Reps K F ds vs) (p : Addr) (hp : H p = none) : Q (.ref p) (upd H p (.lst vs)) :=
  q p F _ (.laid e hp _) hp (e.free hp) ⟨vs, upd_same, r⟩
theorem c_list : CalF X (.type "list") dList := by
  refine ⟨fun pins s σ H xs us Q I rv ⟨F, ds, d, e, r, hg, q⟩ => ?_, fun x c => ?_⟩
  · match ds, hg with
    | [.lst ys], hg =>
      cases hg
      obtain ⟨x, rfl, r1⟩ := r.inv1
      obtain ⟨a, vs, rfl, s1, p1⟩ := r1.lst e
      exact call_list_of pins s σ H _ us Q I rv ⟨a, vs, rfl, .inl s1, fun l hl => q.newL e p1 l hl⟩
    | [.tup ys], hg =>
      cases hg
      obtain ⟨x, rfl, r1⟩ := r.inv1
      obtain ⟨a, vs, rfl, s1, p1⟩ := r1.tup e
      exact call_list_of pins s σ H _ us Q I rv ⟨a, vs, rfl, .inr s1, fun l hl => q.newL e p1 l hl⟩
  · intro h
    unfold dList at h
    split at h <;> cases h
/-- ints, truths, texts all the way -/
def asInts : List D → Option (List Int)
  | [] => some []
  | .int i :: xs => (asInts xs).map (i :: ·)
  | _ :: _ => none
def asBls : List D → Option (List Bool)
  | [] => some []
  | .bl i :: xs => (asBls xs).map (i :: ·)
  | _ :: _ => none
def asTxs : List D → Option (List Tx)
  | [] => some []
  | .str i :: xs => (asTxs xs).map (i :: ·)
  | _ :: _ => none
theorem asInts_of {xs : List D} {ns : List Int} (h : asInts xs = some ns) : xs = ns.map D.int := by
  induction xs generalizing ns with
  | nil => cases h; rfl
  | cons x xs ih =>
    cases x <;> simp only [asInts] at h <;> first | (cases h; done) | skip
    cases e : asInts xs with
    | none => rw [e] at h; cases h
    | some ms => rw [e] at h; cases h; rw [ih e]; rfl
theorem asBls_of {xs : List D} {ns : List Bool} (h : asBls xs = some ns) : xs = ns.map D.bl := by
  induction xs generalizing ns with
  | nil => cases h; rfl
  | cons x xs ih =>
    cases x <;> simp only [asBls] at h <;> first | (cases h; done) | skip
    cases e : asBls xs with
    | none => rw [e] at h; cases h
    | some ms => rw [e] at h; cases h; rw [ih e]; rfl
theorem asTxs_of {xs : List D} {ns : List Tx} (h : asTxs xs = some ns) : xs = ns.map D.str := by
  induction xs generalizing ns with
  | nil => cases h; rfl
  | cons x xs ih =>
    cases x <;> simp only [asTxs] at h <;> first | (cases h; done) | skip
    cases e : asTxs xs with
    | none => rw [e] at h; cases h
    | some ms => rw [e] at h; cases h; rw [ih e]; rfl
@[simp] theorem asInts_map (ns : List Int) : asInts (ns.map D.int) = some ns := by
  induction ns with
  | nil => rfl
  | cons n ns ih => simp [asInts, ih]
@[simp] theorem asBls_map (ns : List Bool) : asBls (ns.map D.bl) = some ns := by
  induction ns with
  | nil => rfl
  | cons n ns ih => simp [asBls, ih]
@[simp] theorem asTxs_map (ns : List Tx) : asTxs (ns.map D.str) = some ns := by
  induction ns with
  | nil => rfl
  | cons n ns ih => simp [asTxs, ih]
theorem Reps.ints {K : PySem.W.Frag} {F : Hp} {ns : List Int} {vs : List V} (h : Reps K F (ns.map D.int) vs) : vs = ns.map V.int := by
  induction ns generalizing vs with
  | nil => cases h; rfl
  | cons n ns ih => cases h with | cons h1 h2 => cases h1; rw [ih h2]; rfl
theorem Reps.bls {K : PySem.W.Frag} {F : Hp} {ns : List Bool} {vs : List V} (h : Reps K F (ns.map D.bl) vs) : vs = ns.map V.bl := by
  induction ns generalizing vs with
  | nil => cases h; rfl
  | cons n ns ih => cases h with | cons h1 h2 => cases h1; rw [ih h2]; rfl
theorem Reps.txs {K : PySem.W.Frag} {F : Hp} {ns : List Tx} {vs : List V} (h : Reps K F (ns.map D.str) vs) : vs = (ns.map toS).map V.str := by
  induction ns generalizing vs with
  | nil => cases h; rfl
  | cons n ns ih => cases h with | cons h1 h2 => cases h1; rw [ih h2]; rfl
theorem reps_ints {K : PySem.W.Frag} {F : Hp} (ns : List Int) : Reps K F (ns.map D.int) (ns.map V.int) := by
  induction ns with
  | nil => exact .nil
  | cons n ns ih => exact .cons (.int n) ih
theorem reps_txs {K : PySem.W.Frag} {F : Hp} (ns : List Tx) : Reps K F (ns.map D.str) ((ns.map toS).map V.str) := by
  induction ns with
  | nil => exact .nil
  | cons n ns ih => exact .cons (.str n) ih
def dSum : List D → R D
  | [.lst xs] => (o2r (asInts xs)).bind fun ns => .ok (.int ns.sum)
  | _ => .no
theorem c_sum (hc : X.calm = true) : CalD X (.builtin "sum") dSum := by
  refine ⟨fun pins s σ H xs us Q I rv ⟨F, ds, d, e, r, hg, q⟩ => ?_, fun x c => ?_⟩
  · match ds, hg with
    | [.lst ys], hg =>
      simp only [dSum, o2r] at hg
      split at hg
      · rename_i ns hn
        cases hg
        have := asInts_of hn
        subst this
        obtain ⟨x, rfl, r1⟩ := r.inv1
        obtain ⟨a, vs, rfl, s1, p1⟩ := r1.lst e
        rw [p1.ints] at s1
        exact cr_sum hc pins s σ H _ us Q I rv ⟨a, ns, rfl, s1, q.here e (.int _)⟩
      · cases hg
  · intro h
    unfold dSum at h
    split at h
    · simp only [o2r] at h; split at h <;> cases h
    · cases h
def dAll : List D → R D
  | [.lst xs] => (o2r (asBls xs)).bind fun ns => .ok (.bl (ns.all id))
  | _ => .no
theorem c_all (hc : X.calm = true) : CalD X (.builtin "all") dAll := by
  refine ⟨fun pins s σ H xs us Q I rv ⟨F, ds, d, e, r, hg, q⟩ => ?_, fun x c => ?_⟩
  · match ds, hg with
    | [.lst ys], hg =>
      simp only [dAll, o2r] at hg
      split at hg
      · rename_i ns hn
        cases hg
        have := asBls_of hn
        subst this
        obtain ⟨x, rfl, r1⟩ := r.inv1
        obtain ⟨a, vs, rfl, s1, p1⟩ := r1.lst e
        rw [p1.bls] at s1
        exact cr_all hc pins s σ H _ us Q I rv ⟨a, ns, rfl, s1, q.here e (.bl _)⟩
      · cases hg
  · intro h
    unfold dAll at h
    split at h
    · simp only [o2r] at h; split at h <;> cases h
    · cases h
/-! ### sorted -/
def leT (a b : Tx) : Bool := !decide (b < a)
def sortT (l : List Tx) : List Tx := l.mergeSort leT
def sortI (l : List Int) : List Int := l.mergeSort fun a b => decide (a ≤ b)
theorem leT_total (a b : Tx) : (leT a b || leT b a) = true := by
  unfold leT
  rcases Decidable.em (b < a) with h | h
  · have : ¬ a < b := List.lt_asymm h
    simp [this]
  · simp [h]
theorem leT_trans (a b c : Tx) : leT a b = true → leT b c = true → leT a c = true := by
  unfold leT
  simp only [Bool.not_eq_true', decide_eq_false_iff_not, List.not_lt]
  exact fun h k => List.le_trans h k
theorem leT_anti {a b : Tx} (h : leT a b = true) (k : leT b a = true) : a = b := by
  unfold leT at h k
  simp only [Bool.not_eq_true', decide_eq_false_iff_not, List.not_lt] at h k
  exact List.le_antisymm h k
theorem sortT_perm (l : List Tx) : (sortT l).Perm l := List.mergeSort_perm _ _
theorem sortT_pw (l : List Tx) : (sortT l).Pairwise (fun a b => leT a b = true) := List.pairwise_mergeSort leT_trans leT_total l
theorem sortI_perm (l : List Int) : (sortI l).Perm l := List.mergeSort_perm _ _
theorem sortI_pw (l : List Int) : (sortI l).Pairwise (· ≤ ·) := by
  have := List.pairwise_mergeSort (le := fun a b : Int => decide (a ≤ b)) (fun a b c h k => by simp at h k ⊢; omega) (fun a b => by simp; omega) l
  exact this.imp (fun h => of_decide_eq_true h)
theorem sorted_uniq {α : Type} {r : α → α → Prop} (anti : ∀ a b, r a b → r b a → a = b) {l m : List α} (p : l.Perm m) (hl : l.Pairwise r) (hm : m.Pairwise r) : l = m :=
  p.eq_of_pairwise (fun a b _ _ h k => anti a b h k) hl hm
theorem ltCps_iff (a b : Tx) : ltCps a b = decide (a < b) := ltCps_eq a b
theorem sortedS_pw {ys : List Tx} (h : sortedS (ys.map toS) = true) : ys.Pairwise (fun a b => leT a b = true) := by
  have aux : ∀ (r : List Tx) (x : Tx), risingS (toS x) (r.map toS) = true → (x :: r).Pairwise (fun a b => leT a b = true) := by
    intro r
    induction r with
    | nil => intro x _; simp
    | cons y r ih =>
      intro x h
      simp only [List.map_cons, risingS, Bool.and_eq_true] at h
      have h1 : leT x y = true := by
        have := h.1
        rw [ltCps_iff] at this
        exact this
      have h2 := ih y h.2
      refine List.pairwise_cons.mpr ⟨fun z hz => ?_, h2⟩
      rcases List.mem_cons.mp hz with e | hz
      · subst e; exact h1
      · exact leT_trans _ _ _ h1 ((List.pairwise_cons.mp h2).1 z hz)
  cases ys with
  | nil => exact .nil
  | cons x r => exact aux r x h
theorem sortT_of {ys ks : List Tx} (p : ys.Perm ks) (h : sortedS (ys.map toS) = true) : ys = sortT ks :=
  sorted_uniq (fun _ _ => leT_anti) (p.trans (sortT_perm ks).symm) (sortedS_pw h) (sortT_pw ks)
theorem sortI_of {ys ks : List Int} (p : ys.Perm ks) (h : ys.Pairwise (· ≤ ·)) : ys = sortI ks :=
  sorted_uniq (fun a b h k => by omega) (p.trans (sortI_perm ks).symm) h (sortI_pw ks)
section
variable {X : Cx}
theorem PF.newTx {K : PySem.W.Frag} {F H : Hp} {ks : List Tx} {Q : VK} (q : PF K F H (.lst (ks.map D.str)) Q) (e : Emb F H) (p : Addr) (hp : H p = none) : Q (.ref p) (upd H p (.lst ((ks.map toS).map V.str))) :=
  q.newL e (reps_txs ks) p hp
theorem perm_toS {ys : List Str} {ks : List Tx} (p : ys.Perm (ks.map toS)) : ∃ zs : List Tx, ys = zs.map toS ∧ zs.Perm ks := by
  refine ⟨ys.map fun y => y.cps.toList, ?_, ?_⟩
  · rw [List.map_map]
    have : (toS ∘ fun y : Str => y.cps.toList) = id := by funext y; exact toS_tl y
    rw [this, List.map_id]
  · have := p.map fun y : Str => y.cps.toList
    rw [List.map_map] at this
    have e : ((fun y : Str => y.cps.toList) ∘ toS) = id := by funext y; simp [toS]
    rw [e, List.map_id] at this
    exact this
/-- sorted of a dict with text keys, of texts, of ints -/
def dSorted : List D → R D
  | [.dic es] => if es.length < 64 then .ok (.lst ((sortT (es.map (·.1))).map D.str)) else .no
  | [.lst xs] => match asTxs xs with
    | some ks => .ok (.lst ((sortT ks).map D.str))
    | none => match asInts xs with
      | some ns => .ok (.lst ((sortI ns).map D.int))
      | none => .no
  | _ => .no
theorem RepK.keys {K : PySem.W.Frag} {F : Hp} {es : List (Tx × D)} {kvs : List (Key × V)} (h : RepK K F es kvs) : kvs.map (·.1) = ((es.map (·.1)).map toS).map Sum.inr := by
  induction es generalizing kvs with
  | nil => cases h; rfl
  | cons e es ih => cases h with | cons h1 h2 => simp [ih h2]
theorem cr_sortedSA {X : Cx} : CallR X (.builtin "sorted") (fun vs H Q => ∃ (a : Addr) (xs : List Str), vs = [V.ref a] ∧ SqL X.K H a (xs.map V.str) ∧
    ∀ (ys : List Str) (p : Addr), ys.Perm xs → sortedS ys = true → H p = none → Q (.ref p) (upd H p (.lst (ys.map V.str)))) := by
  intro pins s σ H vs us Q I r h
  obtain ⟨a, ns, rfl, hs, q⟩ := h
  obtain ⟨its, rv, hl, hz⟩ := I.list hs
  obtain ⟨u, rfl, ru⟩ := vals1 r
  cases ru
  refine PyProof.Rows.sorted_strsAny hl.isList rv.strs (by rw [← rv.length]; exact hz) fun out ss h1 h2 h3 => ?_
  obtain ⟨ep, he'⟩ := PyProof.Rows.sortedAll_at s.heap its out
  have hlen : (ss.map V.str).length ≤ sizeLine := by rw [List.length_map, h2.length_eq]; rw [List.length_map] at hz; exact hz
  exact ⟨.ref _, upd H (s.heap.objs.size + 1) (.lst (ss.map V.str)), I.laid (t' := s.toks) (fun _ _ => PyProof.Rows.sortedAll_old) (Nat.le_succ _) ⟨hlen, out.toList, ep, vals_of_strs h1, he'⟩, rfl, q _ _ h2 h3 (I.hok.fresh (Nat.le_succ _))⟩
theorem c_sorted (hc : X.calm = true) : CalF X (.builtin "sorted") dSorted := by
  refine ⟨fun pins s σ H xs us Q I rv ⟨F, ds, d, e, r, hg, q⟩ => ?_, fun x c => ?_⟩
  · match ds, hg with
    | [.dic ys], hg =>
      simp only [dSorted] at hg
      split at hg
      · rename_i hl
        cases hg
        obtain ⟨x, rfl, r1⟩ := r.inv1
        obtain ⟨a, kvs, rfl, s1, p1⟩ := r1.dic e
        refine call_sortedD hc pins s σ H _ us Q I rv ⟨a, kvs, _, rfl, s1, p1.keys, by simpa using hl, fun zs p hp hs hn => ?_⟩
        obtain ⟨ws, rfl, hw⟩ := perm_toS hp
        rw [sortT_of hw hs]
        exact q.newTx e p hn
      · cases hg
    | [.lst ys], hg =>
      simp only [dSorted] at hg
      obtain ⟨x, rfl, r1⟩ := r.inv1
      obtain ⟨a, vs, rfl, s1, p1⟩ := r1.lst e
      split at hg
      · rename_i ks hk
        cases hg
        have := asTxs_of hk
        subst this
        rw [p1.txs] at s1
        refine cr_sortedSA pins s σ H _ us Q I rv ⟨a, _, rfl, s1, fun zs p hp hs hn => ?_⟩
        obtain ⟨ws, rfl, hw⟩ := perm_toS hp
        rw [sortT_of hw hs]
        exact q.newTx e p hn
      · split at hg
        · rename_i ns hn
          cases hg
          have := asInts_of hn
          subst this
          rw [p1.ints] at s1
          refine cr_sortedI pins s σ H _ us Q I rv ⟨a, ns, rfl, s1, fun zs p hp hs hn => ?_⟩
          rw [sortI_of hp hs]
          exact q.newL e (reps_ints _) p hn
        · cases hg
  · intro h
    unfold dSorted at h
    split at h
    · split at h <;> cases h
    · split at h
      · cases h
      · split at h <;> cases h
    · cases h
/-! ### isinstance -/
inductive TK where
  | int | bool | str | tup | lst
def TK.nm : TK → String
  | .int => "int"
  | .bool => "bool"
  | .str => "str"
  | .tup => "tuple"
  | .lst => "list"
def isT : TK → D → Bool
  | .int, .int _ => true
  | .int, .bl _ => true
  | .bool, .bl _ => true
  | .str, .str _ => true
  | .tup, .tup _ => true
  | .lst, .lst _ => true
  | _, _ => false
def tyD : D → String
  | .non => "NoneType"
  | .bl _ => "bool"
  | .int _ => "int"
  | .str _ => "str"
  | .lst _ => "list"
  | .tup _ => "tuple"
  | .dic _ => "dict"
theorem tyX_of {K : PySem.W.Frag} {F H : Hp} (em : Emb F H) {d : D} {v : V} (r : Rep1 K F H d v) : TyX K H v (.type (tyD d)) := by
  cases d with
  | non => cases r.non; exact .base .non
  | bl b => cases r.bl; exact .base (.bl _)
  | int i => cases r.int; exact .base (.int _)
  | str s => cases r.str; exact .base (.str _)
  | lst xs =>
    obtain ⟨a, vs, rfl, s1, _⟩ := r.lst em
    rcases s1 with (h | ⟨o, h⟩) | ⟨o, its, n, h, c, _⟩
    · exact .base (.lst h)
    · exact .base (.frz h)
    · exact .kList h c
  | tup xs =>
    obtain ⟨a, vs, rfl, s1, _⟩ := r.tup em
    rcases s1 with (h | ⟨o, h⟩) | ⟨o, its, n, h, c, _⟩
    · exact .base (.tup h)
    · exact .fTuple h
    · exact .kTuple h c
  | dic xs =>
    obtain ⟨a, vs, rfl, s1, _⟩ := r.dic em
    rcases s1 with h | ⟨o, h⟩
    · exact .base (.dK h)
    · exact .fDict h
def dIsi (T : TK) : D → R D := fun d => .ok (.bl (isT T d))
def kitN : Nat → TK → Bool
  | 1, .int => true
  | 1, .bool => true
  | 2, .int => true
  | 3, .str => true
  | 4, .lst => true
  | 5, .tup => true
  | _, _ => false
theorem kit_tab : ∀ T : TK, kitB "NoneType" T.nm = some false ∧ kitB "dict" T.nm = some false ∧ kitB "bool" T.nm = some (kitN 1 T) ∧ kitB "int" T.nm = some (kitN 2 T) ∧ kitB "str" T.nm = some (kitN 3 T) ∧ kitB "list" T.nm = some (kitN 4 T) ∧ kitB "tuple" T.nm = some (kitN 5 T) := by
  intro T
  cases T <;> decide +kernel
theorem kit_isT (T : TK) (d : D) : kitB (tyD d) T.nm = some (isT T d) := by
  obtain ⟨a, b, c, d1, e, f, g⟩ := kit_tab T
  cases d with
  | non => rw [show tyD .non = "NoneType" from rfl, a]; cases T <;> rfl
  | bl _ => rw [show tyD (.bl _) = "bool" from rfl, c]; cases T <;> rfl
  | int _ => rw [show tyD (.int _) = "int" from rfl, d1]; cases T <;> rfl
  | str _ => rw [show tyD (.str _) = "str" from rfl, e]; cases T <;> rfl
  | lst _ => rw [show tyD (.lst _) = "list" from rfl, f]; cases T <;> rfl
  | tup _ => rw [show tyD (.tup _) = "tuple" from rfl, g]; cases T <;> rfl
  | dic _ => rw [show tyD (.dic _) = "dict" from rfl, b]; cases T <;> rfl
end
section
variable {X : Cx} {W : WN} {f fa fb fc : Ga → R D} {a b c e : Expr} {pos p p2 : Pos}
theorem j_isi (T : TK) {x : Str} (ha : JR X W fa a) (hv : bootBuiltins x = some (.type T.nm)) (hm : X.mg "isinstance" = none) (hm2 : X.mg x = none) (hg : Gl X "isinstance" := by rfl) (hg2 : Gl X x := by rfl)
    (hn : x ≠ "__name__" := by decide) (hdb : (x == ("__debug__" : Str)) = false := by decide) (he : starEach [a, .Name x p2] X.env = (false, eval a X.env) :: starEach [.Name x p2] X.env := by rfl) (he2 : starEach [.Name x p2] X.env = (false, eval (.Name x p2) X.env) :: starEach [] X.env := by rfl)
    (hpl : (backTo pos (starEach [.Name x p2] X.env)).any (·.1) = false := by rfl) : J X W (b1 (dIsi T) fa) (.Call (.Name "isinstance" p) [a, .Name x p2] [] pos) := by
  have h2 : PE X (.Name x p2) (tC (.ty T.nm)) := pe_bltn hg2 hm2 hv rfl hn hdb
  refine ⟨PE.imp (pe_callB call_isi hg hm boot_isinstance (pa_cons ha.pe (pa_cons h2 pa_nil he2) he) (by decide) (by decide) he hpl) fun σ H Q ⟨F, γ, r, o⟩ => ?_⟩
  refine go1 (Z := fun z => Out (PV X.K F H) F H (fun c H' => W c σ H') z Q) r o (fun _ z => z) (fun z => z) fun dx x F1 H1 n1 r1 p1 o1 => ?_
  exact ⟨x, .ty T.nm, .type (tyD dx), .type T.nm, isT T dx, rfl, .ty T.nm, tyX_of r1.emb p1, kit_ty (kit_isT T dx), PV.here (PV.next (Q := Q) o1 n1) r1.emb (.bl _)⟩
end
/-! ### calls of defs -/
/-- a class's number as a value -/
abbrev Cl := Nat → Value
def VW (cl : Cl) (W : WN) : WX := fun cls d σ H => ∃ c, cls = cl c ∧ d = none ∧ W c σ H
def spD (K : PySem.W.Frag) (cl : Cl) (n : Nat) (g : List D → R D) : Sp := fun vs H Q E => ∃ F ds, vs.length = n ∧ Emb F H ∧ Reps K F ds vs ∧ Out (PV K F H) F H (fun c H' => E (cl c) none H') (g ds) Q
section
variable {X : Cx} {W : WN} {cl : Cl} {fs : Ga → R (List D)} {k n : Nat} {f : Addr} {fd : FuncData} {ps : List Str} {g : List D → R D} {x : Str} {e : Expr} {es : List Expr} {p pos : Pos}
def bCall (g : List D → R D) (fs : Ga → R (List D)) : Ga → R D := fun γ => (fs γ).bind g
theorem tCall_of {K : PySem.W.Frag} {σ : L2.St} {H F : Hp} {γ : Ga} {Q : VK} (hn : ∀ γ ds, fs γ = .ok ds → ds.length = n) (r : RS K F γ σ H) (o : Out (PV K F H) F H (fun c H' => W c σ H') (bCall g fs γ) Q) :
    rdA K W fs σ H fun vs H1 => spD K cl n g vs H1 Q (WE (VW cl W) σ) := by
  refine ⟨F, γ, r, ?_⟩
  unfold bCall at o
  cases e1 : fs γ with
  | ok ds =>
    simp only [e1, R.bind] at o
    intro vs F' H' m q
    refine ⟨F', ds, ?_, m.emb, q, ?_⟩
    · rw [← q.length]; exact hn γ ds e1
    · cases e2 : g ds with
      | ok d => rw [e2] at o; exact PV.next (Q := Q) o m
      | ex c => rw [e2] at o; exact fun F2 H2 m2 => ⟨c, rfl, rfl, o F2 H2 (m.trans m2)⟩
      | no => rw [e2] at o; exact o
  | ex c => simp only [e1, R.bind] at o; exact o
  | no => simp only [e1, R.bind] at o; exact o
theorem bNil_len : ∀ γ ds, bNil γ = .ok ds → ds.length = 0 := fun γ ds h => by cases h; rfl
theorem bCons_len {fa : Ga → R D} {n : Nat} (h : ∀ γ ds, fs γ = .ok ds → ds.length = n) : ∀ γ ds, bCons fa fs γ = .ok ds → ds.length = n + 1 := fun γ ds e => by
  unfold bCons at e
  cases e1 : fa γ <;> simp only [e1, R.bind] at e
  · cases e2 : fs γ <;> simp only [e2] at e
    · cases e; simp [h γ _ e2]
    · cases e
    · cases e
  · cases e
  · cases e
theorem j_call (F : FnOk X.prog X.w X.K X.mg X.base (L2.CX X.prog X.w) k f fd ps (spD X.K cl n g)) (hr : Room k X.A) (hm : X.mg x = some (.ref f)) (hk : PySem.W.keepIn X.K (.ref f) = true) (hb : Binds X.K fd ps []) (tk : Takes X (VW cl W))
    (ha : JA X W fs (e :: es)) (hn : ∀ γ ds, fs γ = .ok ds → ds.length = n) (hg : Gl X x := by rfl) (hdb : (x == ("__debug__" : Str)) = false := by decide) (he : starEach (e :: es) X.env = (false, eval e X.env) :: starEach es X.env := by rfl) (hpl : (backTo pos (starEach es X.env)).any (·.1) = false := by rfl) :
    J X W (bCall g fs) (.Call (.Name x p) (e :: es) [] pos) :=
  ⟨PE.imp (pe_callS F hr hg hm hk hb (fun σ => passAt tk σ) ha.pa hdb he hpl) fun σ H Q ⟨F, γ, r, o⟩ => tCall_of hn r o⟩
end
end
end KN
/-! KnE: statements, loops, defs -/
namespace KN
open PySem PySem.Spec PyProof.Rows L2
/-! ### the base of a def's run: what stood at its entry; what is locked -/
structure Bs where
  F0 : Hp
  H0 : Hp
  S : List (Addr × HO)
structure Fin (B : Bs) (F H : Hp) : Prop where
  f0 : Same B.F0 F
  fn : ∀ a o, F a = some o → B.F0 a = some o ∨ B.H0 a = none
  emb : Emb F H
  h0 : ∀ b o, B.H0 b = some o → H b = some o ∨ ∃ ob kvs, o = .dK kvs ∧ (b, HO.frz ob (.dK kvs)) ∈ B.S
  sS : ∀ p ∈ B.S, H p.1 = some p.2 ∧ ∃ ob kvs, p.2 = .frz ob (.dK kvs) ∧ F p.1 = some (.dK kvs)
theorem Fin.free {B : Bs} {F H : Hp} (f : Fin B F H) {a : Addr} (h : H a = none) : B.H0 a = none := by
  cases q : B.H0 a with
  | none => rfl
  | some u =>
    rcases f.h0 a u q with y | ⟨ob, kvs, e, y⟩
    · rw [h] at y; cases y
    · have := (f.sS _ y).1; rw [h] at this; cases this
theorem Fin.next {B : Bs} {F H F' H' : Hp} (f : Fin B F H) (n : Nxt F H F' H') : Fin B F' H' := by
  refine ⟨f.f0.trans n.f, fun a o h => ?_, n.emb, fun b o h => ?_, fun p hp => ?_⟩
  · rcases n.fn a o h with z | z
    · exact f.fn a o z
    · exact .inr (f.free z)
  · rcases f.h0 b o h with y | y
    · exact .inl (n.h _ _ y)
    · exact .inr y
  · obtain ⟨h1, ob, u, h2, h3⟩ := f.sS p hp
    exact ⟨n.h _ _ h1, ob, u, h2, n.f _ _ h3⟩
theorem Fin.start {F H : Hp} (e : Emb F H) : Fin ⟨F, H, []⟩ F H := ⟨.refl _, fun _ _ h => .inl h, e, fun _ _ h => .inl h, fun _ h => nomatch h⟩
theorem Fin.nxt {F0 H0 F H : Hp} (f : Fin ⟨F0, H0, []⟩ F H) : Nxt F0 H0 F H := ⟨f.f0, f.fn, f.emb, fun b o h => by
  rcases f.h0 b o h with y | ⟨_, _, _, y⟩
  · exact y
  · cases y⟩
structure RB (K : PySem.W.Frag) (B : Bs) (F : Hp) (γ : Ga) (σ : L2.St) (H : Hp) : Prop where
  rs : RS K F γ σ H
  fi : Fin B F H
  ow : ∀ (i : Nat) (s : Sl) (b : Addr), γ[i]? = some s → Inn H s σ[i]? b → B.H0 b = none
theorem RB.next {K : PySem.W.Frag} {B : Bs} {F H F' H' : Hp} {γ : Ga} {σ : L2.St} (r : RB K B F γ σ H) (n : Nxt F H F' H') : RB K B F' γ σ H' := ⟨r.rs.next n, r.fi.next n, fun i s b e h => r.ow i s b e (h.back (r.rs.sl i s e) fun b u _ z => n.h _ _ z)⟩
inductive Fl where
  | nx (γ : Ga) | rt (d : D) | bk (γ : Ga) | ct (γ : Ga)
def OutS (K : PySem.W.Frag) (W : WN) (B : Bs) (r : R Fl) (E : Ends) : Prop := match r with
  | .ok (.nx γ) => ∀ F σ H, RB K B F γ σ H → E.nx σ H
  | .ok (.bk γ) => ∀ F σ H, RB K B F γ σ H → E.bk σ H
  | .ok (.ct γ) => ∀ F σ H, RB K B F γ σ H → E.ct σ H
  | .ok (.rt d) => ∀ v F H, Fin B F H → Rep K F d v → E.rt v H
  | .ex c => ∀ σ F H, Fin B F H → W c σ H
  | .no => False
def rdS (K : PySem.W.Frag) (W : WN) (f : Ga → R Fl) : TS := fun E σ H => ∃ B F γ, RB K B F γ σ H ∧ OutS K W B (f γ) E
structure JS (X : Cx) (W : WN) (f : Ga → R Fl) (s : Stmt) : Prop where
  ps : PS X s (rdS X.K W f)
structure JSs (X : Cx) (W : WN) (f : Ga → R Fl) (s : List Stmt) : Prop where
  pss : PSs X s (rdS X.K W f)
theorem PS.imp {X : Cx} {e : Stmt} {t t' : TS} (h : PS X e t) (i : ∀ E σ H, t' E σ H → t E σ H) : PS X e t' := ⟨fun pins s σ H E I q => h.run pins s σ H E I (i E σ H q)⟩
theorem PSs.imp {X : Cx} {e : List Stmt} {t t' : TS} (h : PSs X e t) (i : ∀ E σ H, t' E σ H → t E σ H) : PSs X e t' := ⟨fun pins s σ H E I q => h.run pins s σ H E I (i E σ H q)⟩
/-! ### slots stored -/
theorem get_set {α : Type} {γ : List α} {i j : Nat} {s0 s : α} (e : (γ.set i s0)[j]? = some s) : (j = i ∧ s = s0 ∧ i < γ.length) ∨ (j ≠ i ∧ γ[j]? = some s) := by
  by_cases q : j = i
  · subst q
    by_cases l : j < γ.length
    · rw [List.getElem?_set_self l] at e; cases e; exact .inl ⟨rfl, rfl, l⟩
    · rw [List.getElem?_eq_none (by simpa using l)] at e; cases e
  · rw [List.getElem?_set_ne (Ne.symm q)] at e; exact .inr ⟨q, e⟩
theorem RS.put {K : PySem.W.Frag} {F H : Hp} {γ : Ga} {σ : L2.St} (r : RS K F γ σ H) (i : Nat) {s0 : Sl} {x0 : Option V} (k : SlOk K F H s0 (some x0))
    (ap : ∀ j s b, j ≠ i → γ[j]? = some s → Inn H s σ[j]? b → Inn H s0 (some x0) b → False) : RS K F (γ.set i s0) (σ.set i x0) H := by
  refine ⟨r.emb, by simp [r.len], fun j s e => ?_, fun j k s1 s2 b e1 e2 h1 h2 => ?_⟩
  · rcases get_set e with ⟨rfl, rfl, l⟩ | ⟨n, e⟩
    · rw [List.getElem?_set_self (r.len ▸ l)]; exact k
    · rw [List.getElem?_set_ne (Ne.symm n)]; exact r.sl j s e
  · rcases get_set e1 with ⟨rfl, rfl, l⟩ | ⟨n1, y1⟩ <;> rcases get_set e2 with ⟨rfl, rfl, l2⟩ | ⟨n2, y2⟩
    · rfl
    · rw [List.getElem?_set_self (r.len ▸ l)] at h1
      rw [List.getElem?_set_ne (Ne.symm n2)] at h2
      exact (ap _ _ b n2 y2 h2 h1).elim
    · rw [List.getElem?_set_self (r.len ▸ l2)] at h2
      rw [List.getElem?_set_ne (Ne.symm n1)] at h1
      exact (ap _ _ b n1 y1 h1 h2).elim
    · rw [List.getElem?_set_ne (Ne.symm n1)] at h1
      rw [List.getElem?_set_ne (Ne.symm n2)] at h2
      exact r.apart j k s1 s2 b y1 y2 h1 h2
theorem RB.put {K : PySem.W.Frag} {B : Bs} {F H : Hp} {γ : Ga} {σ : L2.St} (r : RB K B F γ σ H) (i : Nat) {s0 : Sl} {x0 : Option V} (k : SlOk K F H s0 (some x0))
    (ap : ∀ j s b, j ≠ i → γ[j]? = some s → Inn H s σ[j]? b → Inn H s0 (some x0) b → False) (fr : ∀ b, Inn H s0 (some x0) b → B.H0 b = none) : RB K B F (γ.set i s0) (σ.set i x0) H := by
  refine ⟨r.rs.put i k ap, r.fi, fun j s b e h => ?_⟩
  rcases get_set e with ⟨rfl, rfl, l⟩ | ⟨n, e⟩
  · rw [List.getElem?_set_self (r.rs.len ▸ l)] at h; exact fr b h
  · rw [List.getElem?_set_ne (Ne.symm n)] at h; exact r.ow j s b e h
theorem RS.set {K : PySem.W.Frag} {F H : Hp} {γ : Ga} {σ : L2.St} (r : RS K F γ σ H) (i : Nat) {d : D} {v : V} (p : Rep K F d v) : RS K F (γ.set i (.va d)) (σ.set i (some v)) H :=
  r.put i (s0 := .va d) (x0 := some v) ⟨v, rfl, p⟩ fun _ _ _ _ _ _ h => h
theorem RB.set {K : PySem.W.Frag} {B : Bs} {F H : Hp} {γ : Ga} {σ : L2.St} (r : RB K B F γ σ H) (i : Nat) {d : D} {v : V} (p : Rep K F d v) : RB K B F (γ.set i (.va d)) (σ.set i (some v)) H :=
  r.put i (s0 := .va d) (x0 := some v) ⟨v, rfl, p⟩ (fun _ _ _ _ _ _ h => h) fun _ h => h.elim
/-- a slot that is known no more -/
theorem RB.un {K : PySem.W.Frag} {B : Bs} {F H : Hp} {γ : Ga} {σ : L2.St} (r : RB K B F γ σ H) (i : Nat) (x : Option V) : RB K B F (γ.set i .un) (σ.set i x) H :=
  r.put i (s0 := .un) (x0 := x) trivial (fun _ _ _ _ _ _ h => h) fun _ h => h.elim
/-- a new thing of one's own -/
theorem RB.own {K : PySem.W.Frag} {B : Bs} {F H F' H' : Hp} {γ : Ga} {σ : L2.St} (r : RB K B F γ σ H) (n : Nxt F H F' H') (i : Nat) {d : D} {a : Addr} (ha : H a = none) (fa : F' a = none) (o : Own K F' H' d a) : RB K B F' (γ.set i (.ow d)) (σ.set i (some (.ref a))) H' := by
  have r' := r.next n
  refine r'.put i (s0 := .ow d) (x0 := some (.ref a)) ⟨a, rfl, fa, o⟩ (fun j s b nj e h1 h2 => ?_) fun b h => ?_
  · have q := h1.back (r.rs.sl j s e) fun b u _ z => n.h _ _ z
    obtain ⟨_, u, hu⟩ := q.have (r.rs.sl j s e)
    cases h2
    rw [ha] at hu; cases hu
  · cases h; exact r.fi.free ha
/-- what the slot i owns is changed -/
theorem RB.chg {K : PySem.W.Frag} {B : Bs} {F H F' H' : Hp} {γ : Ga} {σ : L2.St} (r : RB K B F γ σ H) {i : Nat} {s0 s1 : Sl} (hi : γ[i]? = some s0) (k : SlOk K F' H' s1 σ[i]?) (fi : Fin B F' H') (f : Same F F')
    (keep : ∀ b u, H b = some u → F b = none → ¬ Inn H s0 σ[i]? b → H' b = some u ∧ F' b = none) (inn : ∀ b, Inn H' s1 σ[i]? b → Inn H s0 σ[i]? b ∨ H b = none) : RB K B F' (γ.set i s1) σ H' := by
  have ks : ∀ j s, j ≠ i → γ[j]? = some s → ∀ b u, Inn H s σ[j]? b → F b = none → H b = some u → H' b = some u ∧ F' b = none := fun j s nj e b u h1 h2 h3 =>
    keep b u h3 h2 fun h4 => nj (r.rs.apart j i s s0 b e hi h1 h4)
  have bk : ∀ j s b, j ≠ i → γ[j]? = some s → Inn H' s σ[j]? b → Inn H s σ[j]? b := fun j s b nj e h => h.back (r.rs.sl j s e) fun b u h1 h2 => (ks j s nj e b u h1 (h1.have (r.rs.sl j s e)).1 h2).1
  refine ⟨⟨fi.emb, by simp [r.rs.len], fun j s e => ?_, fun j k s1 s2 b e1 e2 h1 h2 => ?_⟩, fi, fun j s b e h => ?_⟩
  · rcases get_set e with ⟨rfl, rfl, l⟩ | ⟨n, e⟩
    · exact k
    · exact (r.rs.sl j s e).keep f (ks j s n e)
  · rcases get_set e1 with ⟨rfl, rfl, l⟩ | ⟨n1, y1⟩ <;> rcases get_set e2 with ⟨rfl, rfl, l2⟩ | ⟨n2, y2⟩
    · rfl
    · have h2 := bk _ _ b n2 y2 h2
      rcases inn b h1 with h1 | h1
      · exact r.rs.apart _ _ _ _ b hi y2 h1 h2
      · obtain ⟨_, u, hu⟩ := h2.have (r.rs.sl _ _ y2)
        rw [h1] at hu; cases hu
    · have h1 := bk _ _ b n1 y1 h1
      rcases inn b h2 with h2 | h2
      · exact r.rs.apart _ _ _ _ b y1 hi h1 h2
      · obtain ⟨_, u, hu⟩ := h1.have (r.rs.sl _ _ y1)
        rw [h2] at hu; cases hu
    · exact r.rs.apart j k s1 s2 b y1 y2 (bk _ _ b n1 y1 h1) (bk _ _ b n2 y2 h2)
  · rcases get_set e with ⟨rfl, rfl, l⟩ | ⟨n, e⟩
    · rcases inn b h with h | h
      · exact r.ow _ _ b hi h
      · exact r.fi.free h
    · exact r.ow j s b e (bk j s b n e h)
theorem Fin.frz {B : Bs} {F H : Hp} (f : Fin B F H) {a : Addr} {u : HO} (hu : H a = some u) (fa : F a = none) (h0 : B.H0 a = none) : Fin B (upd F a u) H :=
  ⟨f.f0.trans (same_upd fa), fun b w z => by
    by_cases q : b = a
    · subst q; exact .inr h0
    · rw [upd_ne q] at z; exact f.fn b w z, f.emb.freeze hu, f.h0, fun p hp => by
    obtain ⟨y1, ob, u, y2, y3⟩ := f.sS p hp
    exact ⟨y1, ob, u, y2, same_upd fa _ _ y3⟩⟩
theorem Fin.chg {B : Bs} {F H : Hp} (f : Fin B F H) {a : Addr} {u : HO} (fa : F a = none) (h0 : B.H0 a = none) : Fin B F (upd H a u) :=
  ⟨f.f0, f.fn, fun b w z => by rw [upd_ne (ne_of_none z fa)]; exact f.emb b w z, fun b w z => by rw [upd_ne (ne_of_none z h0)]; exact f.h0 b w z, fun p hp => by
    obtain ⟨y1, ob, u, y2, y3⟩ := f.sS p hp
    rw [upd_ne (ne_of_none y3 fa)]; exact ⟨y1, ob, u, y2, y3⟩⟩
/-- one's own thing is frozen -/
theorem RB.freeze {K : PySem.W.Frag} {B : Bs} {F H : Hp} {γ : Ga} {σ : L2.St} (r : RB K B F γ σ H) {i : Nat} {d : D} (e : γ[i]? = some (.ow d)) : ∃ F', RB K B F' (γ.set i (.va d)) σ H := by
  obtain ⟨a, h1, fa, o⟩ := r.rs.sl i _ e
  obtain ⟨u, hu, e1, s1, p⟩ := o.freeze r.rs.emb fa
  refine ⟨upd F a u, r.chg e (s1 := .va d) ⟨_, h1, p⟩ (r.fi.frz hu fa (r.ow i _ a e h1)) s1 (fun b w z1 z2 z3 => ⟨z1, ?_⟩) fun b h => h.elim⟩
  rw [upd_ne]
  · exact z2
  · rintro rfl; exact z3 h1
theorem OwK.rep {K : PySem.W.Frag} {F F' H : Hp} {a : Addr} (f : Same F F') : ∀ {es : List (Tx × List (Tx × D))} {kvs : List (Key × V)}, OwK K F H a es kvs → (∀ k b, (k, V.ref b) ∈ kvs → F' b = H b) → RepK K F' (es.map fun e => (e.1, .dic e.2)) kvs
  | [], [], _, _ => .nil
  | (k, row) :: es, (k', v) :: kvs, ⟨e, ⟨r, kv, e1, e2, e3, e4, e5, e6⟩, o⟩, h => by
    subst e1
    subst e
    exact .cons (.dic ((h _ r List.mem_cons_self).trans e4) (e5.mono f)) (o.rep f fun k b m => h k b (List.mem_cons_of_mem _ m))
  | [], _ :: _, h, _ => h.elim
  | _ :: _, [], h, _ => h.elim
open Classical in
theorem RB.freezeN {K : PySem.W.Frag} {B : Bs} {F H : Hp} {γ : Ga} {σ : L2.St} (r : RB K B F γ σ H) {i : Nat} {es : List (Tx × List (Tx × D))} (e : γ[i]? = some (.nd es)) : ∃ F', RB K B F' (γ.set i (.va (.dic (es.map fun e => (e.1, .dic e.2))))) σ H := by
  have k := r.rs.sl i _ e
  have F1 : ∀ b, Inn H (.nd es) σ[i]? b → F b = none := fun b h => (h.have k).1
  have F2 : ∀ b, Inn H (.nd es) σ[i]? b → B.H0 b = none := fun b h => r.ow i _ b e h
  have sm : Same F (fun b => if Inn H (.nd es) σ[i]? b then H b else F b) := fun b u h => by
    have : ¬ Inn H (.nd es) σ[i]? b := fun z => by rw [F1 b z] at h; cases h
    show (if Inn H (.nd es) σ[i]? b then H b else F b) = _
    rw [if_neg this]; exact h
  refine ⟨fun b => if Inn H (.nd es) σ[i]? b then H b else F b, r.chg e (s1 := .va _) ?_ ⟨r.fi.f0.trans sm, fun b o h => ?_, fun b o h => ?_, r.fi.h0, fun p hp => ?_⟩ sm (fun b u z1 z2 z3 => ⟨z1, ?_⟩) fun b h => h.elim⟩
  · obtain ⟨a, kvs, e1, e2, e3, e4⟩ := k
    refine ⟨_, e1, .dic ?_ (e4.rep sm fun k b m => ?_)⟩
    · show (if Inn H (.nd es) σ[i]? a then H a else F a) = _
      rw [if_pos ⟨a, kvs, e1, e3, .inl rfl⟩]; exact e3
    · show (if Inn H (.nd es) σ[i]? b then H b else F b) = _
      rw [if_pos ⟨a, kvs, e1, e3, .inr ⟨k, m⟩⟩]
  · by_cases z : Inn H (.nd es) σ[i]? b
    · exact .inr (F2 b z)
    · simp only [if_neg z] at h; exact r.fi.fn b o h
  · by_cases z : Inn H (.nd es) σ[i]? b
    · simp only [if_pos z] at h; exact .inl h
    · simp only [if_neg z] at h; exact r.fi.emb b o h
  · obtain ⟨y1, ob, u, y2, y3⟩ := r.fi.sS p hp
    exact ⟨y1, ob, u, y2, sm _ _ y3⟩
  · show (if Inn H (.nd es) σ[i]? b then H b else F b) = _
    rw [if_neg z3]; exact z2
/-- one's own thing is changed -/
theorem RB.change {K : PySem.W.Frag} {B : Bs} {F H : Hp} {γ : Ga} {σ : L2.St} (r : RB K B F γ σ H) {i : Nat} {d d' : D} {a : Addr} {o : HO} (e : γ[i]? = some (.ow d)) (h1 : σ[i]? = some (some (.ref a))) (ow : Own K F (upd H a o) d' a) :
    RB K B F (γ.set i (.ow d')) σ (upd H a o) := by
  obtain ⟨a', h1', fa, o1⟩ := r.rs.sl i _ e
  rw [h1] at h1'; cases h1'
  refine r.chg e (s1 := .ow d') ⟨a, h1, fa, ow⟩ (r.fi.chg fa (r.ow i _ a e h1)) (.refl _) (fun b w z1 z2 z3 => ⟨?_, z2⟩) fun b h => .inl h
  rw [upd_ne]
  · exact z1
  · rintro rfl; exact z3 h1
/-! ### blocks and small statements -/
def fNil : Ga → R Fl := fun γ => .ok (.nx γ)
def fSeq (f g : Ga → R Fl) : Ga → R Fl := fun γ => match f γ with
  | .ok (.nx γ') => g γ'
  | r => r
def fSet (i : Nat) (fe : Ga → R D) : Ga → R Fl := fun γ => (fe γ).bind fun d => .ok (.nx (γ.set i (.va d)))
def fOwn (i : Nat) (fe : Ga → R D) : Ga → R Fl := fun γ => (fe γ).bind fun d => .ok (.nx (γ.set i (.ow d)))
def fExpr (fe : Ga → R D) : Ga → R Fl := fun γ => (fe γ).bind fun _ => .ok (.nx γ)
def fRet (fe : Ga → R D) : Ga → R Fl := fun γ => (fe γ).bind fun d => .ok (.rt d)
def fRetN : Ga → R Fl := fun _ => .ok (.rt .non)
def fIf (c : Ga → R Bool) (f g : Ga → R Fl) : Ga → R Fl := fun γ => (c γ).bind fun b => if b = true then f γ else g γ
def fFz (i : Nat) (f : Ga → R Fl) : Ga → R Fl := fun γ => match γ[i]? with
  | some (.ow d) => f (γ.set i (.va d))
  | some (.nd es) => f (γ.set i (.va (.dic (es.map fun e => (e.1, .dic e.2)))))
  | _ => .no
section
variable {X : Cx} {W : WN} {f g : Ga → R Fl} {fa fb fe : Ga → R D} {st : Stmt} {rest sts : List Stmt} {e : Expr} {pos pos' : Pos} {p : Ga → R Bool}
theorem js_nil : JSs X W fNil [] := ⟨PSs.imp pss_nil fun E σ H ⟨B, F, γ, r, o⟩ => o F σ H r⟩
theorem js_cons (h : JS X W f st) (h2 : JSs X W g rest) : JSs X W (fSeq f g) (st :: rest) := ⟨PSs.imp (pss_cons h.ps h2.pss) fun E σ H ⟨B, F, γ, r, o⟩ => by
  refine ⟨B, F, γ, r, ?_⟩
  unfold fSeq at o
  cases e1 : f γ with
  | ok fl =>
    rw [e1] at o
    cases fl with
    | nx γ' => exact fun F' σ' H' r' => ⟨B, F', γ', r', o⟩
    | rt d => exact o
    | bk γ' => exact o
    | ct γ' => exact o
  | ex c => rw [e1] at o; exact o
  | no => rw [e1] at o; exact o⟩
theorem js_one (h : JS X W f st) : JSs X W f [st] := ⟨pss_one h.ps⟩
/-- from an expression's end to a statement's -/
theorem ex_of {K : PySem.W.Frag} {B : Bs} {F H : Hp} {γ : Ga} {σ : L2.St} {E : Ends} {k : D → R Fl} {Q : VK} (r : RB K B F γ σ H) (o : OutS K W B ((fe γ).bind k) E)
    (h : ∀ d v F' H', Nxt F H F' H' → RB K B F' γ σ H' → Rep K F' d v → OutS K W B (k d) E → Q v H') : rdV K W fe σ H Q := by
  refine ⟨F, γ, r.rs, ?_⟩
  cases e1 : fe γ with
  | ok d => rw [e1] at o; exact fun v F' H' n p => h d v F' H' n (r.next n) p o
  | ex c => rw [e1] at o; exact fun F' H' n => o σ F' H' (r.fi.next n)
  | no => rw [e1] at o; exact o
theorem js_set {i : Nat} {x : Str} (hN : X.N.Nodup) (he : J X W fe e) (hi : X.N[i]? = some x := by rfl) (hx : Loc X.env.scope x := by first | exact .inl rfl | exact .inr rfl) (hs : swapsWith e (some (.Name x pos')) pos.line X.env = pure false := by rfl) (hf : X.fn x = true ∨ X.env.scope.names.lookup x = some .local := by first | exact .inl rfl | exact .inr rfl) :
    JS X W (fSet i fe) (.Assign [.Name x pos'] e pos) := ⟨PS.imp (ps_set hN hi hx he.pe hs hf) fun E σ H ⟨B, F, γ, r, o⟩ =>
  ex_of r o fun d v F' H' _ r' p o' => o' F' _ H' (r'.set i p)⟩
theorem js_own {i : Nat} {x : Str} (hN : X.N.Nodup) (he : JF X W fe e) (hi : X.N[i]? = some x := by rfl) (hx : Loc X.env.scope x := by first | exact .inl rfl | exact .inr rfl) (hs : swapsWith e (some (.Name x pos')) pos.line X.env = pure false := by rfl) (hf : X.fn x = true ∨ X.env.scope.names.lookup x = some .local := by first | exact .inl rfl | exact .inr rfl) :
    JS X W (fOwn i fe) (.Assign [.Name x pos'] e pos) := ⟨PS.imp (ps_set hN hi hx he.pe hs hf) fun E σ H ⟨B, F, γ, r, o⟩ => by
  refine ⟨F, γ, r.rs, ?_⟩
  unfold fOwn at o
  cases e1 : fe γ with
  | ok d => rw [e1] at o; exact fun a F' H' n ha fa ow => o F' _ H' (r.own n i ha fa ow)
  | ex c => rw [e1] at o; exact fun F' H' n => o σ F' H' (r.fi.next n)
  | no => rw [e1] at o; exact o⟩
theorem js_expr (he : J X W fe e) (hs : swapsWith e none pos.line X.env = pure false := by rfl) : JS X W (fExpr fe) (.Expr e pos) := ⟨PS.imp (ps_expr he.pe hs) fun E σ H ⟨B, F, γ, r, o⟩ =>
  ex_of r o fun d v F' H' _ r' p o' => o' F' _ H' r'⟩
theorem js_ret (he : J X W fe e) : JS X W (fRet fe) (.Return (some e) pos) := ⟨PS.imp (ps_ret he.pe) fun E σ H ⟨B, F, γ, r, o⟩ =>
  ex_of r o fun d v F' H' _ r' p o' => o' v F' H' r'.fi p⟩
theorem js_if {c : Expr} {a b : List Stmt} (hc : JT X W p c) (ha : JSs X W f a) (hb : JSs X W g b) : JS X W (fIf p f g) (.If c a b pos) := ⟨PS.imp (ps_if hc.pt ha.pss hb.pss) fun E σ H ⟨B, F, γ, r, o⟩ => by
  refine ⟨F, γ, r.rs, ?_⟩
  unfold fIf at o
  cases e1 : p γ with
  | ok b =>
    simp only [e1, R.bind] at o
    intro F' H' n
    cases b with
    | true => exact ⟨B, F', γ, r.next n, o⟩
    | false => exact ⟨B, F', γ, r.next n, o⟩
  | ex c => simp only [e1, R.bind] at o; exact fun F' H' n => o σ F' H' (r.fi.next n)
  | no => simp only [e1, R.bind] at o; exact o⟩
/-- a thing of one's own is frozen ahead of what follows -/
theorem jss_fz (i : Nat) (h : JSs X W f sts) : JSs X W (fFz i f) sts := ⟨PSs.imp h.pss fun E σ H ⟨B, F, γ, r, o⟩ => by
  unfold fFz at o
  cases e1 : γ[i]? with
  | none => rw [e1] at o; exact o.elim
  | some s =>
    rw [e1] at o
    cases s with
    | un => exact o.elim
    | va d => exact o.elim
    | xc a => exact o.elim
    | nd es =>
      obtain ⟨F', r'⟩ := r.freezeN e1
      exact ⟨B, F', _, r', o⟩
    | ow d =>
      obtain ⟨F', r'⟩ := r.freeze e1
      exact ⟨B, F', _, r', o⟩⟩
/-! a, b = e1, e2 -/
def fPar (i j : Nat) (fa fb : Ga → R D) : Ga → R Fl := fun γ => (fa γ).bind fun x => (fb γ).bind fun y => .ok (.nx ((γ.set i (.va x)).set j (.va y)))
theorem js_par {i j : Nat} {x y : Str} {a b : Expr} {px py pt : Pos} {kt k2 : Nat} {pt2 : Pos} (hc : X.calm = true) (hN : X.N.Nodup) (hij : i ≠ j) (ha : J X W fa a) (hb : J X W fb b) (hi : X.N[i]? = some x := by rfl) (hj : X.N[j]? = some y := by rfl)
    (hx : X.env.scope.names.lookup x = some .local := by rfl) (hy : X.env.scope.names.lookup y = some .local := by rfl)
    (hs1 : starEach [a, b] X.env = (false, eval a X.env) :: starEach [b] X.env := by rfl) (hs2 : starEach [b] X.env = (false, eval b X.env) :: starEach [] X.env := by rfl)
    (hw : swappedStores [.Tuple [.Name x px, .Name y py] kt pt] (.Tuple [a, b] k2 pt2) X.env = pure (some [x, y]) := by rfl)
    (hs : swapsWithSole [.Tuple [.Name x px, .Name y py] kt pt] (.Tuple [a, b] k2 pt2) pos.line X.env = pure false := by rfl) :
    JS X W (fPar i j fa fb) (.Assign [.Tuple [.Name x px, .Name y py] kt pt] (.Tuple [a, b] k2 pt2) pos) := ⟨PS.imp (ps_par hc hN hi hj hij hx hy (pa_cons ha.pe (pa_cons hb.pe pa_nil hs2) hs1) hw hs) fun E σ H ⟨B, F, γ, r, o⟩ => by
  refine ex_of r o fun d v F1 H1 n1 r1 p1 o1 => ?_
  refine ex_of r1 o1 fun d2 v2 F2 H2 n2 r2 p2 o2 => ⟨v, v2, rfl, ?_⟩
  exact o2 F2 _ H2 ((r2.set i (p1.mono n2.f)).set j p2)⟩
end
end KN
/-! KnF: targets, what is walked, loops, comprehensions, defs -/
namespace KN
open PySem PySem.Spec PyProof.Rows L2
/-! ### targets -/
/-- the slots but those at is are as they were; those of one's own too -/
structure Kp (is : List Nat) (γ : Ga) (σ : L2.St) (γ' : Ga) (σ' : L2.St) : Prop where
  len : σ'.length = σ.length
  out : ∀ j, j ∉ is → σ'[j]? = σ[j]?
  ow : ∀ (j : Nat) (s : Sl), γ'[j]? = some s → (∃ d, s = .va d) ∨ (γ[j]? = some s ∧ σ'[j]? = σ[j]?)
theorem Kp.refl {is : List Nat} {γ : Ga} {σ : L2.St} : Kp is γ σ γ σ := ⟨rfl, fun _ _ => rfl, fun _ _ h => .inr ⟨h, rfl⟩⟩
theorem Kp.set {is : List Nat} {γ : Ga} {σ : L2.St} {γ' : Ga} {σ' : L2.St} (k : Kp is γ σ γ' σ') {i : Nat} (hi : i ∈ is) (d : D) (v : V) : Kp is γ σ (γ'.set i (.va d)) (σ'.set i (some v)) :=
  ⟨by simp [k.len], fun j hj => by
    have : j ≠ i := fun q => hj (q ▸ hi)
    rw [List.getElem?_set_ne (Ne.symm this)]; exact k.out j hj, fun j d' e => by
    rcases get_set e with ⟨rfl, rfl, l⟩ | ⟨n, e⟩
    · exact .inl ⟨d, rfl⟩
    · rw [List.getElem?_set_ne (Ne.symm n)]
      exact k.ow j d' e⟩
structure JG (X : Cx) (is : List Nat) (bd : D → Ga → R Ga) (t : TG) (tg : Expr) : Prop where
  pg : PG X tg t
  go : ∀ {F : Hp} {γ γ' : Ga} {σ : L2.St} {H : Hp} {d : D} {v : V} {Q : L2.St → Hp → Prop}, RS X.K F γ σ H → Rep X.K F d v → bd d γ = .ok γ' → (∀ σ', RS X.K F γ' σ' H → Kp is γ σ γ' σ' → Q σ' H) → t v σ H Q
def bdN (i : Nat) : D → Ga → R Ga := fun d γ => .ok (γ.set i (.va d))
def setAll : List Nat → List D → Ga → R Ga
  | [], [], γ => .ok γ
  | i :: is, d :: ds, γ => setAll is ds (γ.set i (.va d))
  | _, _, _ => .no
def bdT (is : List Nat) : D → Ga → R Ga
  | .tup ds, γ => setAll is ds γ
  | _, _ => .no
theorem bd_ne (is : List Nat) : ∀ ds γ c, setAll is ds γ ≠ .ex c := by
  induction is with
  | nil => intro ds γ c; cases ds <;> simp [setAll]
  | cons i is ih =>
    intro ds γ c
    cases ds with
    | nil => simp [setAll]
    | cons d ds => exact ih ds _ c
section
variable {X : Cx} {pos : Pos}
theorem jg_n {i : Nat} {x : Str} (hN : X.N.Nodup) (hi : X.N[i]? = some x := by rfl) (hx : Loc X.env.scope x := by first | exact .inl rfl | exact .inr rfl) (hf : X.fn x = true ∨ X.env.scope.names.lookup x = some .local := by first | exact .inl rfl | exact .inr rfl) : JG X [i] (bdN i) (gName i) (.Name x pos) :=
  ⟨pg_name hN hi hx hf, fun {F γ γ' σ H d v Q} r p e q => by
    cases e
    exact q _ (r.set i p) (Kp.refl.set (by simp) d v)⟩
structure JGs (X : Cx) (is js : List Nat) (t : TGs) (es : List Expr) : Prop where
  pgs : PGs X es t
  len : is.length = es.length
  go : ∀ {F : Hp} {γ₀ γ γ' : Ga} {σ₀ σ : L2.St} {H : Hp} {ds : List D} {vs : List V} {Q : L2.St → Hp → Prop}, RS X.K F γ σ H → Kp js γ₀ σ₀ γ σ → Reps X.K F ds vs → setAll is ds γ = .ok γ' → (∀ σ', RS X.K F γ' σ' H → Kp js γ₀ σ₀ γ' σ' → Q σ' H) → t vs σ H Q
theorem jgs_nil {js : List Nat} : JGs X [] js gNil [] := ⟨pgs_nil, rfl, fun {F γ₀ γ γ' σ₀ σ H ds vs Q} r k p e q => by
  cases p with
  | nil => cases e; exact ⟨rfl, q _ r k⟩
  | cons _ _ => cases e⟩
theorem jgs_cons {i : Nat} {is js : List Nat} {x : Str} {t : TGs} {es : List Expr} (hN : X.N.Nodup) (hr : JGs X is js t es) (hij : i ∈ js := by simp) (hi : X.N[i]? = some x := by rfl) (hx : Loc X.env.scope x := by first | exact .inl rfl | exact .inr rfl) (hf : X.fn x = true ∨ X.env.scope.names.lookup x = some .local := by first | exact .inl rfl | exact .inr rfl)
    (hs : (assignEach (.Name x pos :: es) X.env).map (·.2) = assign (.Name x pos) X.env :: (assignEach es X.env).map (·.2) := by rfl) : JGs X (i :: is) js (gCons (gName i) t) (.Name x pos :: es) :=
  ⟨pgs_cons (pg_name hN hi hx hf) hr.pgs hs, by simp [hr.len], fun {F γ₀ γ γ' σ₀ σ H ds vs Q} r k p e q => by
    cases p with
    | nil => cases e
    | cons p1 p2 => exact ⟨_, _, rfl, hr.go (r.set i p1) (k.set hij _ _) p2 e q⟩⟩
theorem jg_t {is : List Nat} {t : TGs} {es : List Expr} {k n : Nat} (hc : X.calm = true) (h : JGs X is is t es) (hn : (assignEach es X.env).length = n := by rfl) (hst : (assignEach es X.env).findIdx? (·.1) = none := by rfl) (hl : n = is.length := by rfl) : JG X is (bdT is) (gTup X.K n t) (.Tuple es k pos) :=
  ⟨pg_tup hc h.pgs hn hst, fun {F γ γ' σ H d v Q} r p e q => by
    cases d <;> first | (cases e; done) | skip
    rename_i ds
    cases p with
    | tup h1 h2 =>
      refine ⟨_, _, rfl, r.emb.sqt h1, ?_, h.go r .refl h2 e q⟩
      have : ∀ (is : List Nat) (ds : List D) (γ : Ga), setAll is ds γ = .ok γ' → ds.length = is.length := by
        intro is
        induction is with
        | nil => intro ds γ e; cases ds with | nil => rfl | cons _ _ => cases e
        | cons i is ih =>
          intro ds γ e
          cases ds with
          | nil => cases e
          | cons d ds => simp [ih ds _ e]
      rw [← h2.length, this _ _ _ e, hl]⟩
theorem jg_tK {K : PySem.W.Frag} {is : List Nat} {t : TGs} {es : List Expr} {k : Nat} (hK : X.K = K) (hc : X.calm = true) (h : JGs X is is t es) (hn : (assignEach es X.env).length = is.length := by rfl) (hst : (assignEach es X.env).findIdx? (·.1) = none := by rfl) : JG X is (bdT is) (gTup K is.length t) (.Tuple es k pos) := by
  subst hK
  exact jg_t hc h hn hst rfl
theorem RB.kp {K : PySem.W.Frag} {B : Bs} {F H : Hp} {γ γ' : Ga} {σ σ' : L2.St} {is : List Nat} (r : RB K B F γ σ H) (r' : RS K F γ' σ' H) (k : Kp is γ σ γ' σ') : RB K B F γ' σ' H :=
  ⟨r', r.fi, fun j d a e1 e2 => by
    rcases k.ow j d e1 with ⟨x, rfl⟩ | ⟨z1, z2⟩
    · exact e2.elim
    · exact r.ow j d a z1 (z2 ▸ e2)⟩
end
/-- a target that is assigned -/
def fBd (bd : D → Ga → R Ga) (fe : Ga → R D) : Ga → R Fl := fun γ => (fe γ).bind fun d => (bd d γ).bind fun γ' => .ok (.nx γ')
section
variable {X : Cx} {W : WN} {fe : Ga → R D} {tg e : Expr} {pos : Pos}
theorem js_unp {is : List Nat} {t : TG} (he : J X W fe e) (hg : JG X is (bdT is) t tg) (hs : swapsWithSole [tg] e pos.line X.env = pure false := by rfl) (hw : swappedStores [tg] e X.env = pure none := by rfl)
    (h1 : (assignEach [tg] X.env).map (·.2) = [assign tg X.env] := by rfl) : JS X W (fBd (bdT is) fe) (.Assign [tg] e pos) := ⟨PS.imp (ps_asg he.pe hg.pg hs hw h1) fun E σ H ⟨B, F, γ, r, o⟩ => by
  refine ex_of r o fun d v F1 H1 n1 r1 p1 o1 => ?_
  cases e1 : bdT is d γ with
  | ok γ' => simp only [e1, R.bind] at o1; exact hg.go r1.rs p1 e1 fun σ' r' k => o1 F1 σ' H1 (r1.kp r' k)
  | ex c =>
    cases d <;> first | (cases e1; done) | exact absurd e1 (bd_ne _ _ _ _)
  | no => simp only [e1, R.bind] at o1; exact o1.elim⟩
end
/-! ### what is walked -/
def Goes (K : PySem.W.Frag) (J : It) (F : Hp) (S : List (Addr × HO)) (ds : List D) : Prop := ∀ F' H' i, Same F F' → Emb F' H' → (∀ p ∈ S, H' p.1 = some p.2) →
  (i = ds.length → J.stop i H') ∧ ∀ d, ds[i]? = some d → J.go i H' ∧ ∀ x H'', J.yld i H' x H'' → ∃ F'', Nxt F' H' F'' H'' ∧ Rep K F'' d x
theorem goes_list {K : PySem.W.Frag} {F : Hp} {a : Addr} {ds : List D} {vs : List V} (h : SqL K F a vs) (r : Reps K F ds vs) : Goes K (Itl K a) F [] ds := fun F' H' i f e _ => by
  have q := e.sql (f.seq h)
  refine ⟨fun hi => ⟨vs, q, by rw [← r.length]; omega⟩, fun d hd => ?_⟩
  obtain ⟨v, hv, p⟩ := r.get hd
  refine ⟨⟨vs, v, q, hv⟩, fun x H'' ⟨e1, e2⟩ => ?_⟩
  subst e1
  have : v = x := Option.some.inj (hv.symm.trans (e2 vs q))
  subst this
  exact ⟨F', .refl e, p.mono f⟩
theorem goes_tup {K : PySem.W.Frag} {F : Hp} {a : Addr} {ds : List D} {vs : List V} (h : SqT K F a vs) (r : Reps K F ds vs) : Goes K (Itt K a) F [] ds := fun F' H' i f e _ => by
  have q := e.sqt (same_sqt f h)
  refine ⟨fun hi => ⟨vs, q, by rw [← r.length]; omega⟩, fun d hd => ?_⟩
  obtain ⟨v, hv, p⟩ := r.get hd
  refine ⟨⟨vs, v, q, hv⟩, fun x H'' ⟨e1, e2⟩ => ?_⟩
  subst e1
  have : v = x := Option.some.inj (hv.symm.trans (e2 vs q))
  subst this
  exact ⟨F', .refl e, p.mono f⟩
def sgn (s : Tx) : List D := s.map fun c => .str [c]
theorem goes_str {K : PySem.W.Frag} {F : Hp} {s : Tx} : Goes K (Its (toS s)) F [] (sgn s) := fun F' H' i f e _ => by
  refine ⟨fun hi => ?_, fun d hd => ?_⟩
  · show (toS s).cps.size ≤ i
    simp [toS, sgn] at hi ⊢; omega
  · have l : i < s.length := by
      have := (List.getElem?_eq_some_iff.mp hd).1
      simpa [sgn] using this
    refine ⟨by show i < (toS s).cps.size; simpa [toS] using l, fun x H'' ⟨e1, c, e2, e3⟩ => ?_⟩
    subst e1
    have hc : s[i]? = some c := by simpa [toS] using e2
    have : d = .str [c] := by simp [sgn, hc] at hd; exact hd.symm
    subst this
    subst e3
    exact ⟨F', .refl e, .str [c]⟩
theorem RepK.get {K : PySem.W.Frag} {F : Hp} {es : List (Tx × D)} {kvs : List (Key × V)} (h : RepK K F es kvs) {i : Nat} {k : Tx} {d : D} (e : es[i]? = some (k, d)) : ∃ v, kvs[i]? = some (Sum.inr (toS k), v) ∧ Rep K F d v := by
  induction es generalizing kvs i with
  | nil => simp at e
  | cons e' es ih =>
    cases h with
    | cons h1 h2 =>
      cases i with
      | zero => simp at e; obtain ⟨rfl, rfl⟩ := e; exact ⟨_, rfl, h1⟩
      | succ i => simp at e; simpa using ih h2 e
def keysD (es : List (Tx × D)) : List D := es.map fun e => .str e.1
theorem goes_dic {K : PySem.W.Frag} {F : Hp} {a : Addr} {od : Obj} {es : List (Tx × D)} {kvs : List (Key × V)} (r : RepK K F es kvs) : Goes K (Itk a od kvs) F [(a, .frz od (.dK kvs))] (keysD es) := fun F' H' i f e hS => by
  have q := hS _ (List.mem_singleton.mpr rfl)
  refine ⟨fun hi => ⟨q, ?_⟩, fun d hd => ?_⟩
  · rw [← r.length]; simp [keysD] at hi; omega
  · have l : i < es.length := by
      have := (List.getElem?_eq_some_iff.mp hd).1
      simpa [keysD] using this
    refine ⟨⟨q, by rw [← r.length]; exact l⟩, fun x H'' ⟨e1, k, v, e2, e3⟩ => ?_⟩
    subst e1
    have he : es[i]? = some es[i] := List.getElem?_eq_getElem l
    obtain ⟨w, h1, h2⟩ := r.get (k := es[i].1) (d := es[i].2) he
    rw [h1] at e2
    cases e2
    have : d = .str es[i].1 := by simp [keysD, he] at hd; exact hd.symm
    subst this
    subst e3
    exact ⟨F', .refl e, .str _⟩
def rngD (lo : Int) (n : Nat) : List D := (List.range n).map fun i => .int (lo + (i : Nat))
theorem goes_rng {K : PySem.W.Frag} {F : Hp} {lo : Int} {n : Nat} : Goes K (Itr lo n) F [] (rngD lo n) := fun F' H' i f e _ => by
  refine ⟨fun hi => ?_, fun d hd => ?_⟩
  · show n ≤ i
    simp [rngD] at hi; omega
  · have l : i < n := by
      have := (List.getElem?_eq_some_iff.mp hd).1
      simpa [rngD] using this
    refine ⟨l, fun x H'' ⟨e1, e2⟩ => ?_⟩
    subst e1
    have : d = .int (lo + (i : Nat)) := by simp [rngD, l] at hd; exact hd.symm
    subst this
    subst e2
    exact ⟨F', .refl e, .int _⟩
def rdI (K : PySem.W.Frag) (W : WN) (f : Ga → R (List D)) : TI := fun σ H Rr => ∃ F γ, RS K F γ σ H ∧ (match f γ with
  | .ok ds => ∀ J F' H', Nxt F H F' H' → Goes K J F' [] ds → Rr J H'
  | .ex c => ∀ F' H', Nxt F H F' H' → W c σ H'
  | .no => False)
structure JI (X : Cx) (W : WN) (f : Ga → R (List D)) (tg it : Expr) : Prop where
  pi : PI X tg it (rdI X.K W f)
theorem PI.imp {X : Cx} {tg e : Expr} {t t' : TI} (h : PI X tg e t) (i : ∀ σ H Q, t' σ H Q → t σ H Q) : PI X tg e t' := ⟨fun pins s σ H Q I q => h.run pins s σ H Q I (i σ H Q q)⟩
/-- any value: list, tuple, text; a dict is locked meanwhile -/
def items : D → R (List D)
  | .lst xs => .ok xs
  | .tup xs => .ok xs
  | .str s => .ok (sgn s)
  | .dic es => .ok (keysD es)
  | _ => .no
def rdE (X : Cx) (W : WN) (f : Ga → R D) : TI := fun σ H Rr => ∃ F γ, RS X.K F γ σ H ∧ (match f γ with
  | .ok (.dic es) => ∀ J F' H' d od kvs, Nxt F H F' H' → F' d = some (.dK kvs) → Goes X.K J F' [(d, .frz od (.dK kvs))] (keysD es) →
      ((H' d = some (.dK kvs) → (∀ o' u', X.H_0 d ≠ some (.frz o' u')) → Rr J (upd H' d (.frz od (.dK kvs)))) ∧ (H' d = some (.frz od (.dK kvs)) → Rr J H'))
  | .ok d => ∃ ds, items d = .ok ds ∧ ∀ J F' H', Nxt F H F' H' → Goes X.K J F' [] ds → Rr J H'
  | .ex c => ∀ F' H', Nxt F H F' H' → W c σ H'
  | .no => False)
section
variable {X : Cx} {W : WN} {fe fa fb : Ga → R D} {tg e a b : Expr} {pos p : Pos}
theorem pi_any (he : J X W fe e) : PI X tg e (rdE X W fe) := ⟨fun pins s σ H Rr I h => by
  obtain ⟨F, γ, r, o⟩ := h
  cases e1 : fe γ with
  | ok d =>
    rw [e1] at o
    cases d
    case non => obtain ⟨_, z, _⟩ := o; cases z
    case bl _ => obtain ⟨_, z, _⟩ := o; cases z
    case int _ => obtain ⟨_, z, _⟩ := o; cases z
    case str z =>
      obtain ⟨ds, z1, o⟩ := o
      cases z1
      refine (pi_str he.pe).run pins s σ H Rr I ⟨F, γ, r, ?_⟩
      rw [e1]
      intro v F' H' n p
      cases p
      exact ⟨toS z, rfl, o _ F' H' n goes_str⟩
    case lst xs =>
      obtain ⟨ds, z1, o⟩ := o
      cases z1
      refine (pi_list he.pe).run pins s σ H Rr I ⟨F, γ, r, ?_⟩
      rw [e1]
      intro v F' H' n p
      cases p with | lst h1 h2 => exact ⟨_, rfl, ⟨_, n.emb.sql h1⟩, o _ F' H' n (goes_list h1 h2)⟩
    case tup xs =>
      obtain ⟨ds, z1, o⟩ := o
      cases z1
      refine (pi_tup he.pe).run pins s σ H Rr I ⟨F, γ, r, ?_⟩
      rw [e1]
      intro v F' H' n p
      cases p with | tup h1 h2 => exact ⟨_, rfl, ⟨_, n.emb.sqt h1⟩, o _ F' H' n (goes_tup h1 h2)⟩
    case dic es =>
      have h0 : rdV X.K W fe σ H (fun x H1 => ∃ d kvs F', x = .ref d ∧ Nxt F H F' H1 ∧ F' d = some (.dK kvs) ∧ RepK X.K F' es kvs) := by
        refine ⟨F, γ, r, ?_⟩
        rw [e1]
        intro v F' H' n p
        cases p with | dic h1 h2 => exact ⟨_, _, F', rfl, n, h1, h2⟩
      refine thn (he.pe.run pins s σ H _ I h0) fun u s1 ⟨x, H1, I1, rx, d, kvs, F', ex, n, hd, hk⟩ => ?_
      subst ex
      obtain rfl : u = Value.ref d := rx
      have fin : ∀ {od : Obj} {H2 : Hp}, Inv X pins σ H2 s1 → H2 d = some (.frz od (.dK kvs)) → Rr (Itk d od kvs) H2 → wpAny (model X.prog X.w) X.A (pyIter (.ref d)) (PIE X pins σ tg Rr) X.xe s1 := fun {od H2} I2 hd2 q => by
        obtain ⟨hs, hgd, hx, es, ep, vs, hdt, hsz, kv, hm⟩ := I2.frzK hd2
        refine iter_keys hs hgd hx hdt (pi_one (tk := s1.toks) I2 _ (turn_keys _ hdt) ⟨_, Heap.get?_push_size _ rfl, rfl, ?_⟩ q)
        rw [hsz] <;> rfl
      rcases n.emb d _ hd with z | ⟨ob, kvs', e2, z⟩
      · obtain ⟨od, I2⟩ := I1.lock z trivial
        exact fin I2 upd_same ((o _ F' H1 d od kvs n hd (goes_dic hk)).1 z (I1.nofrz z trivial))
      · cases e2
        exact fin I1 z ((o _ F' H1 d ob kvs n hd (goes_dic hk)).2 z)
  | ex c =>
    rw [e1] at o
    refine (pi_list he.pe).run pins s σ H Rr I ⟨F, γ, r, ?_⟩
    rw [e1]
    exact o
  | no => rw [e1] at o; exact o.elim⟩
def i2n : D → R Int
  | .int i => if i.natAbs < 2 ^ 62 then .ok i else .no
  | _ => .no
def iR1 (fa : Ga → R D) : Ga → R (List D) := fun γ => (fa γ).bind fun d => (i2n d).bind fun j => .ok (rngD 0 j.toNat)
def iR2 (fa fb : Ga → R D) : Ga → R (List D) := fun γ => (fa γ).bind fun d => (fb γ).bind fun d' => (i2n d).bind fun i => (i2n d').bind fun j => .ok (rngD i (j - i).toNat)
theorem i2n_ok {d : D} {i : Int} (h : i2n d = .ok i) : d = .int i ∧ -(2 ^ 62) ≤ i ∧ i < 2 ^ 62 := by
  cases d <;> simp only [i2n] at h <;> first | (cases h; done) | skip
  split at h
  · cases h; exact ⟨rfl, by omega, by omega⟩
  · cases h
theorem i2n_ne {d : D} {c : Nat} : i2n d ≠ .ex c := by
  cases d <;> simp only [i2n] <;> first | (intro h; cases h; done) | (split <;> intro h <;> cases h)
theorem ji_r1 (hm : X.mg "range" = none) (ha : J X W fa a) (hg : Gl X "range" := by rfl) (hs : starEach [a] X.env = [(false, eval a X.env)] := by rfl) (hs1 : starEach [a] X.env = (false, eval a X.env) :: starEach [] X.env := by rfl) : JI X W (iR1 fa) tg (.Call (.Name "range" p) [a] [] pos) :=
  ⟨PI.imp (pi_range1 hg hm (pa_cons ha.pe pa_nil hs1) hs) fun σ H Rr ⟨F, γ, r, o⟩ => by
    refine ⟨F, γ, r, ?_⟩
    unfold iR1 at o
    cases e1 : fa γ with
    | ok d =>
      simp only [e1, R.bind] at o
      intro v F' H' n p
      cases e2 : i2n d with
      | ok j =>
        obtain ⟨rfl, h1, h2⟩ := i2n_ok e2
        cases p
        simp only [e2] at o
        exact ⟨j, rfl, h1, h2, o _ F' H' n goes_rng⟩
      | ex c => exact absurd e2 i2n_ne
      | no => simp only [e2] at o
    | ex c => simp only [e1, R.bind] at o; exact o
    | no => simp only [e1, R.bind] at o⟩
theorem ji_r2 (hm : X.mg "range" = none) (ha : J X W fa a) (hb : J X W fb b) (hg : Gl X "range" := by rfl) (hs : starEach [a, b] X.env = [(false, eval a X.env), (false, eval b X.env)] := by rfl) (hs2 : starEach [b] X.env = [(false, eval b X.env)] := by rfl)
    (hs3 : starEach [a, b] X.env = (false, eval a X.env) :: starEach [b] X.env := by rfl) (hs4 : starEach [b] X.env = (false, eval b X.env) :: starEach [] X.env := by rfl) : JI X W (iR2 fa fb) tg (.Call (.Name "range" p) [a, b] [] pos) :=
  ⟨PI.imp (pi_range2 hg hm (pa_cons ha.pe (pa_cons hb.pe pa_nil hs4) hs3) hs hs2) fun σ H Rr ⟨F, γ, r, o⟩ => by
    refine ⟨F, γ, r, ?_⟩
    unfold iR2 at o
    cases e1 : fa γ with
    | ok d =>
      simp only [e1, R.bind] at o
      intro v F1 H1 n1 p1
      refine ⟨F1, γ, r.next n1, ?_⟩
      cases e2 : fb γ with
      | ok d' =>
        simp only [e2] at o
        intro u F2 H2 n2 p2
        cases e3 : i2n d with
        | ok i =>
          obtain ⟨rfl, h1, h2⟩ := i2n_ok e3
          simp only [e3] at o
          cases e4 : i2n d' with
          | ok j =>
            obtain ⟨rfl, h3, h4⟩ := i2n_ok e4
            simp only [e4] at o
            cases p1
            cases p2
            exact ⟨i, j, rfl, ⟨h1, h2, h3, h4⟩, o _ F2 H2 (n1.trans n2) goes_rng⟩
          | ex c => exact absurd e4 i2n_ne
          | no => simp only [e4] at o
        | ex c => exact absurd e3 i2n_ne
        | no => simp only [e3] at o
      | ex c => simp only [e2] at o; exact fun F' H' m => o F' H' (n1.trans m)
      | no => simp only [e2] at o
    | ex c => simp only [e1, R.bind] at o; exact o
    | no => simp only [e1, R.bind] at o⟩
end
end KN
/-! KnG: loops, comprehensions, defs -/
namespace KN
open PySem PySem.Spec PyProof.Rows L2
/-! ### unlocking -/
def Ul (X : Cx) (Q : Hp → Prop) (H : Hp) : Prop := Q H ∨ ∃ d od u, H d = some (.frz od u) ∧ (∀ o' u', X.H_0 d ≠ some (.frz o' u')) ∧ Q (upd H d u)
def unlE (X : Cx) (E : Ends) : Ends := ⟨fun σ => Ul X (E.nx σ), fun v => Ul X (E.rt v), fun σ => Ul X (E.bk σ), fun σ => Ul X (E.ct σ)⟩
section
variable {X : Cx} {pins : List (Addr × Obj)} {σ : L2.St} {H : Hp} {s : Shared}
theorem Ul.run {Q : Hp → Prop} (I : Inv X pins σ H s) (u : Ul X Q H) : ∃ H', Inv X pins σ H' s ∧ Q H' := by
  rcases u with q | ⟨d, od, u, h, hn, q⟩
  · exact ⟨H, I, q⟩
  · exact ⟨_, I.unlock h hn, q⟩
theorem ps_unl {st : Stmt} {t : TS} (h : PS X st t) : PS X st (fun E => t (unlE X E)) := ⟨fun pins s σ H E I hw => by
  refine thn (h.run pins s σ H _ I hw) fun f s1 q => ?_
  cases f with
  | next => obtain ⟨σ', H', I2, q⟩ := q; obtain ⟨H2, I3, q⟩ := Ul.run I2 q; exact ⟨σ', H2, I3, q⟩
  | brk => obtain ⟨σ', H', I2, q⟩ := q; obtain ⟨H2, I3, q⟩ := Ul.run I2 q; exact ⟨σ', H2, I3, q⟩
  | cont => obtain ⟨σ', H', I2, q⟩ := q; obtain ⟨H2, I3, q⟩ := Ul.run I2 q; exact ⟨σ', H2, I3, q⟩
  | ret v => obtain ⟨x, σ', H', I2, r, q⟩ := q; obtain ⟨H2, I3, q⟩ := Ul.run I2 q; exact ⟨x, σ', H2, I3, r, q⟩⟩
theorem pe_unl {e : Expr} {t : TE} (h : PE X e t) : PE X e (fun σ H Q => t σ H fun v => Ul X (Q v)) := ⟨fun pins s σ H Q I hw => by
  refine thn (h.run pins s σ H _ I hw) fun v s1 ⟨x, H1, I2, r, q⟩ => ?_
  obtain ⟨H2, I3, q⟩ := Ul.run I2 q
  exact ⟨x, H2, I3, r, q⟩⟩
end
/-! ### for -/
def forGo (bd : D → Ga → R Ga) (body : Ga → R Fl) : List D → Ga → R Fl
  | [], γ => .ok (.nx γ)
  | x :: xs, γ => (bd x γ).bind fun γ1 => match body γ1 with
    | .ok (.nx γ2) => forGo bd body xs γ2
    | .ok (.ct γ2) => forGo bd body xs γ2
    | .ok (.bk γ2) => .ok (.nx γ2)
    | .ok (.rt d) => .ok (.rt d)
    | .ex c => .ex c
    | .no => .no
/-- bd raises nothing -/
def BdOk (bd : D → Ga → R Ga) : Prop := ∀ d γ c, bd d γ ≠ .ex c
theorem bdN_ok {i : Nat} : BdOk (bdN i) := fun d γ c h => by cases h
theorem Fin.weak {B : Bs} {F1 F H : Hp} {h : Same B.F0 F1} {hn : ∀ a o, F1 a = some o → B.F0 a = some o ∨ B.H0 a = none} (f : Fin { B with F0 := F1 } F H) : Fin B F H :=
  ⟨h.trans f.f0, fun a o e => by
    rcases f.fn a o e with z | z
    · exact hn a o z
    · exact .inr z, f.emb, f.h0, f.sS⟩
theorem RB.weak {K : PySem.W.Frag} {B : Bs} {F1 F H : Hp} {γ : Ga} {σ : L2.St} (h : Same B.F0 F1) (hn : ∀ a o, F1 a = some o → B.F0 a = some o ∨ B.H0 a = none) (r : RB K { B with F0 := F1 } F γ σ H) : RB K B F γ σ H := ⟨r.rs, Fin.weak (h := h) (hn := hn) r.fi, r.ow⟩
theorem RB.strong {K : PySem.W.Frag} {B : Bs} {F H : Hp} {γ : Ga} {σ : L2.St} (r : RB K B F γ σ H) : RB K { B with F0 := F } F γ σ H := ⟨r.rs, ⟨.refl _, fun _ _ e => .inl e, r.fi.emb, r.fi.h0, r.fi.sS⟩, r.ow⟩
/-- the loop from a turn on -/
theorem for_core {X : Cx} {W : WN} {bd : D → Ga → R Ga} {body : Ga → R Fl} {is : List Nat} {t : TG} {tg : Expr} {J : It} {F0 H0 : Hp} {S : List (Addr × HO)} {ds : List D} {B : Bs} {E : Ends} {γ : Ga} {σ : L2.St} {tb : TS} (hbd : BdOk bd) (hg : JG X is bd t tg)
    (htb : ∀ D σ H, rdS X.K W body D σ H → tb D σ H) (gs : Goes X.K J F0 S ds) (hS : ∀ p ∈ S, p ∈ B.S) (r : RB X.K B F0 γ σ H0) (o : OutS X.K W B (forGo bd body ds γ) E) :
    ∃ Wi : Nat → Nat → L2.St → Hp → Prop, (∃ m, Wi 0 m σ H0) ∧ ∀ i m σ H, Wi i m σ H → (J.stop i H ∧ E.nx σ H) ∨
      (J.go i H ∧ ∃ N : L2.St → Hp → Prop, (∀ σ' H', N σ' H' → ∃ m', m' < m ∧ Wi (i + 1) m' σ' H') ∧ ∀ x H', J.yld i H x H' → t x σ H' fun σ2 H2 => tb { E with nx := N, ct := N, bk := E.nx } σ2 H2) := by
  refine ⟨fun i m σ H => ∃ F γ, Same F0 F ∧ RB X.K B F γ σ H ∧ OutS X.K W B (forGo bd body (ds.drop i) γ) E ∧ m = ds.length - i ∧ i ≤ ds.length, ⟨ds.length, F0, γ, .refl _, r, o, rfl, Nat.zero_le _⟩, ?_⟩
  rintro i m σ1 H1 ⟨F1, γ1, f1, r1, o1, rfl, hi⟩
  obtain ⟨g1, g2⟩ := gs F1 H1 i f1 r1.rs.emb fun p hp => (r1.fi.sS p (hS p hp)).1
  by_cases hl : i < ds.length
  · have hd : ds[i]? = some ds[i] := List.getElem?_eq_getElem hl
    obtain ⟨go, gy⟩ := g2 _ hd
    refine .inr ⟨go, fun σ' H' => ∃ F γ, Same F0 F ∧ RB X.K B F γ σ' H' ∧ OutS X.K W B (forGo bd body (ds.drop (i + 1)) γ) E, fun σ' H' ⟨F, γ', a, b, c⟩ => ⟨ds.length - (i + 1), by omega, F, γ', a, b, c, rfl, hl⟩, fun x H' hy => ?_⟩
    obtain ⟨F2, n2, p2⟩ := gy x H' hy
    have r2 := r1.next n2
    rw [List.drop_eq_getElem_cons hl] at o1
    simp only [forGo] at o1
    cases e1 : bd ds[i] γ1 with
    | ok γ2 =>
      simp only [e1, R.bind] at o1
      refine hg.go r2.rs p2 e1 fun σ2 rs2 k => ?_
      have r3 := r2.kp rs2 k
      refine htb _ _ _ ⟨{ B with F0 := F2 }, F2, γ2, r3.strong, ?_⟩
      have back : ∀ {F γ σ H}, RB X.K { B with F0 := F2 } F γ σ H → RB X.K B F γ σ H := fun q => q.weak r2.fi.f0 r2.fi.fn
      cases e2 : body γ2 with
      | ok fl =>
        rw [e2] at o1
        cases fl with
        | nx γ3 => exact fun F σ H q => ⟨F, γ3, (f1.trans n2.f).trans q.fi.f0, back q, o1⟩
        | ct γ3 => exact fun F σ H q => ⟨F, γ3, (f1.trans n2.f).trans q.fi.f0, back q, o1⟩
        | bk γ3 => exact fun F σ H q => o1 F σ H (back q)
        | rt d => exact fun v F H q p => o1 v F H (Fin.weak (h := r2.fi.f0) (hn := r2.fi.fn) q) p
      | ex c => rw [e2] at o1; exact fun σ F H q => o1 σ F H (Fin.weak (h := r2.fi.f0) (hn := r2.fi.fn) q)
      | no => rw [e2] at o1; exact o1
    | ex c => exact absurd e1 (hbd _ _ _)
    | no => simp only [e1, R.bind] at o1; exact o1.elim
  · have hi' : i = ds.length := by omega
    refine .inl ⟨g1 hi', ?_⟩
    rw [List.drop_eq_nil_of_le (by omega)] at o1
    exact o1 F1 σ1 H1 r1
def fForI (it : Ga → R (List D)) (bd : D → Ga → R Ga) (body : Ga → R Fl) : Ga → R Fl := fun γ => (it γ).bind fun ds => forGo bd body ds γ
def fForE (fe : Ga → R D) (bd : D → Ga → R Ga) (body : Ga → R Fl) : Ga → R Fl := fun γ => (fe γ).bind fun d => match d with
  | .dic es => (forGo bd body (keysD es) γ).noex
  | d => (items d).bind fun ds => forGo bd body ds γ
section
variable {X : Cx} {W : WN} {bd : D → Ga → R Ga} {body : Ga → R Fl} {is : List Nat} {t : TG} {tg iter : Expr} {it : Ga → R (List D)} {fe : Ga → R D} {sts : List Stmt} {pos : Pos}
theorem js_forI (hp : PassesOwn (model X.prog X.w) X.A X.env X.xe) (hc : X.calm = true) (hbd : BdOk bd) (hi : JI X W it tg iter) (hg : JG X is bd t tg) (hb : JSs X W body sts) (hs : ∀ x, foldedSetIterable iter X.env x = pure x := by intro _; rfl) :
    JS X W (fForI it bd body) (.For tg iter sts [] pos) := ⟨PS.imp (ps_for hp hc hi.pi hg.pg hb.pss hs) fun E σ H ⟨B, F, γ, r, o⟩ => by
  refine ⟨F, γ, r.rs, ?_⟩
  unfold fForI at o
  cases e1 : it γ with
  | ok ds =>
    simp only [e1, R.bind] at o
    exact fun J F' H' n gs => for_core hbd hg (fun _ _ _ h => h) gs (fun _ h => nomatch h) (r.next n) o
  | ex c => simp only [e1, R.bind] at o; exact fun F' H' n => o σ F' H' (r.fi.next n)
  | no => simp only [e1, R.bind] at o; exact o⟩
/-- locked, unlocked -/
theorem RB.lock {K : PySem.W.Frag} {B : Bs} {F H : Hp} {γ : Ga} {σ : L2.St} (r : RB K B F γ σ H) {d : Addr} {od : Obj} {kvs : List (Key × V)} (hF : F d = some (.dK kvs)) (hH : H d = some (.dK kvs)) :
    RB K { B with S := (d, .frz od (.dK kvs)) :: B.S } F γ σ (upd H d (.frz od (.dK kvs))) := by
  have em : Emb F (upd H d (.frz od (.dK kvs))) := fun a o e => by
    by_cases q : a = d
    · subst q; rw [hF] at e; cases e; exact .inr ⟨od, kvs, rfl, upd_same⟩
    · rw [upd_ne q]; exact r.rs.emb a o e
  have ks : ∀ b u, F b = none → H b = some u → upd H d (.frz od (.dK kvs)) b = some u := fun b u h1 h2 => by
    rw [upd_ne]
    · exact h2
    · rintro rfl; rw [h1] at hF; cases hF
  have bk : ∀ i s b, γ[i]? = some s → Inn (upd H d (.frz od (.dK kvs))) s σ[i]? b → Inn H s σ[i]? b := fun i s b e h => h.back (r.rs.sl i s e) fun b u h1 h2 => ks b u (h1.have (r.rs.sl i s e)).1 h2
  refine ⟨⟨em, r.rs.len, fun i s e => (r.rs.sl i s e).keep (.refl _) fun b u _ h1 h2 => ⟨ks b u h1 h2, h1⟩, fun i j s s' b e1 e2 h1 h2 => r.rs.apart i j s s' b e1 e2 (bk _ _ b e1 h1) (bk _ _ b e2 h2)⟩, ⟨r.fi.f0, r.fi.fn, em, fun b o e => ?_, fun p hp => ?_⟩, fun i s b e h => r.ow i s b e (bk i s b e h)⟩
  · by_cases q : b = d
    · subst q
      rcases r.fi.h0 b o e with z | ⟨ob, k2, z1, z2⟩
      · rw [hH] at z; cases z; exact .inr ⟨od, kvs, rfl, List.mem_cons_self⟩
      · have := (r.fi.sS _ z2).1; rw [hH] at this; cases this
    · rw [upd_ne q]
      rcases r.fi.h0 b o e with z | ⟨ob, k2, z1, z2⟩
      · exact .inl z
      · exact .inr ⟨ob, k2, z1, List.mem_cons_of_mem _ z2⟩
  · rcases List.mem_cons.mp hp with e | hp
    · subst e; exact ⟨upd_same, od, kvs, rfl, hF⟩
    · obtain ⟨y1, ob, u, y2, y3⟩ := r.fi.sS p hp
      have q : p.1 ≠ d := by
        intro z
        rw [z, hH] at y1
        rw [y2] at y1
        cases y1
      rw [upd_ne q]; exact ⟨y1, ob, u, y2, y3⟩
theorem Fin.unlock {B : Bs} {F H : Hp} {d : Addr} {od : Obj} {kvs : List (Key × V)} (f : Fin { B with S := (d, .frz od (.dK kvs)) :: B.S } F H) (hd : ∀ p ∈ B.S, p.1 ≠ d) (h0 : ∀ o' u', B.H0 d ≠ some (.frz o' u')) : Fin B F (upd H d (.dK kvs)) := by
  obtain ⟨y1, ob, u, y2, y3⟩ := f.sS _ List.mem_cons_self
  cases y2
  refine ⟨f.f0, f.fn, fun a o e => ?_, fun b o e => ?_, fun p hp => ?_⟩
  · by_cases q : a = d
    · subst q; rw [y3] at e; cases e; exact .inl upd_same
    · rw [upd_ne q]; exact f.emb a o e
  · by_cases q : b = d
    · subst q
      rcases f.h0 b o e with z | ⟨ob, k2, z1, z2⟩
      · rw [y1] at z; cases z; exact absurd e (h0 _ _)
      · have := (f.sS _ z2).1
        rw [y1] at this
        cases this
        exact .inl (by rw [z1]; exact upd_same)
    · rw [upd_ne q]
      rcases f.h0 b o e with z | ⟨ob, k2, z1, z2⟩
      · exact .inl z
      · rcases List.mem_cons.mp z2 with w | w
        · exact absurd (Prod.mk.inj w).1 q
        · exact .inr ⟨ob, k2, z1, w⟩
  · obtain ⟨z1, z2⟩ := f.sS p (List.mem_cons_of_mem _ hp)
    rw [upd_ne (hd p hp)]; exact ⟨z1, z2⟩
theorem RB.unlock {K : PySem.W.Frag} {B : Bs} {F H : Hp} {γ : Ga} {σ : L2.St} {d : Addr} {od : Obj} {kvs : List (Key × V)} (r : RB K { B with S := (d, .frz od (.dK kvs)) :: B.S } F γ σ H) (hd : ∀ p ∈ B.S, p.1 ≠ d) (h0 : ∀ o' u', B.H0 d ≠ some (.frz o' u')) :
    RB K B F γ σ (upd H d (.dK kvs)) := by
  have f := r.fi.unlock hd h0
  obtain ⟨y1, ob, u, y2, y3⟩ := r.fi.sS _ List.mem_cons_self
  cases y2
  have ks : ∀ b u, F b = none → H b = some u → upd H d (.dK kvs) b = some u := fun b u h1 h2 => by
    rw [upd_ne]
    · exact h2
    · rintro rfl; rw [h1] at y3; cases y3
  have bk : ∀ i s b, γ[i]? = some s → Inn (upd H d (.dK kvs)) s σ[i]? b → Inn H s σ[i]? b := fun i s b e h => h.back (r.rs.sl i s e) fun b u h1 h2 => ks b u (h1.have (r.rs.sl i s e)).1 h2
  exact ⟨⟨f.emb, r.rs.len, fun i s e => (r.rs.sl i s e).keep (.refl _) fun b u _ h1 h2 => ⟨ks b u h1 h2, h1⟩, fun i j s s' b e1 e2 h1 h2 => r.rs.apart i j s s' b e1 e2 (bk _ _ b e1 h1) (bk _ _ b e2 h2)⟩, f, fun i s b e h => r.ow i s b e (bk i s b e h)⟩
theorem RB.pin {K : PySem.W.Frag} {B : Bs} {F H : Hp} {γ : Ga} {σ : L2.St} (r : RB K B F γ σ H) {d : Addr} {od : Obj} {kvs : List (Key × V)} (hF : F d = some (.dK kvs)) (hH : H d = some (.frz od (.dK kvs))) :
    RB K { B with S := (d, .frz od (.dK kvs)) :: B.S } F γ σ H :=
  ⟨r.rs, ⟨r.fi.f0, r.fi.fn, r.fi.emb, fun b o e => by
    rcases r.fi.h0 b o e with z | ⟨ob, k2, z1, z2⟩
    · exact .inl z
    · exact .inr ⟨ob, k2, z1, List.mem_cons_of_mem _ z2⟩, fun p hp => by
    rcases List.mem_cons.mp hp with e | hp
    · subst e; exact ⟨hH, od, kvs, rfl, hF⟩
    · exact r.fi.sS p hp⟩, r.ow⟩
theorem Fin.unpin {B : Bs} {F H : Hp} {d : Addr} {od : Obj} {kvs : List (Key × V)} (f : Fin { B with S := (d, .frz od (.dK kvs)) :: B.S } F H)
    (hq : ∀ o, B.H0 d = some o → o = .frz od (.dK kvs) ∨ ∃ ob kvs, o = .dK kvs ∧ (d, HO.frz ob (.dK kvs)) ∈ B.S) : Fin B F H :=
  ⟨f.f0, f.fn, f.emb, fun b o e => by
    rcases f.h0 b o e with z | ⟨ob, k2, z1, z2⟩
    · exact .inl z
    · rcases List.mem_cons.mp z2 with w | w
      · have e1 := (Prod.mk.inj w).1
        subst e1
        rcases hq o e with y | y
        · exact .inl (by rw [y]; exact (f.sS _ List.mem_cons_self).1)
        · exact .inr y
      · exact .inr ⟨ob, k2, z1, w⟩, fun p hp => f.sS p (List.mem_cons_of_mem _ hp)⟩
theorem js_forE (hp : PassesOwn (model X.prog X.w) X.A X.env X.xe) (hc : X.calm = true) (hbd : BdOk bd) (he : J X W fe iter) (hg : JG X is bd t tg) (hb : JSs X W body sts) (hs : ∀ x, foldedSetIterable iter X.env x = pure x := by intro _; rfl) :
    JS X W (fForE fe bd body) (.For tg iter sts [] pos) := ⟨PS.imp (ps_unl (ps_for hp hc (pi_any he) hg.pg hb.pss hs)) fun E σ H ⟨B, F, γ, r, o⟩ => by
  refine ⟨F, γ, r.rs, ?_⟩
  unfold fForE at o
  have up : ∀ {B : Bs} {x : R Fl}, OutS X.K W B x E → OutS X.K W B x (unlE X E) := fun {B x} o => by
    cases x with
    | ok fl => cases fl with
      | nx γ => exact fun F σ H q => .inl (o F σ H q)
      | bk γ => exact fun F σ H q => .inl (o F σ H q)
      | ct γ => exact fun F σ H q => .inl (o F σ H q)
      | rt d => exact fun v F H q p => .inl (o v F H q p)
    | ex c => exact o
    | no => exact o
  cases e1 : fe γ with
  | ok d =>
    simp only [e1, R.bind] at o
    cases d
    case dic es =>
      intro J F' H' d od kvs n hd gs
      have r' := r.next n
      have o : OutS X.K W B (forGo bd body (keysD es) γ).noex E := o
      have cv : ∀ {S' : List (Addr × HO)}, (∀ F γ σ H, RB X.K { B with S := S' } F γ σ H → ∀ {T : L2.St → Hp → Prop}, (∀ F σ H, RB X.K B F γ σ H → T σ H) → Ul X (T σ) H) →
          (∀ F H, Fin { B with S := S' } F H → ∀ {x : D} {T : V → Hp → Prop} {v : V}, (∀ v F H, Fin B F H → Rep X.K F x v → T v H) → Rep X.K F x v → Ul X (T v) H) → OutS X.K W { B with S := S' } (forGo bd body (keysD es) γ) (unlE X E) := fun {S'} c1 c2 => by
        cases e2 : forGo bd body (keysD es) γ with
        | ok fl =>
          rw [e2] at o
          cases fl with
          | nx γ => exact fun F σ H q => c1 F γ σ H q o
          | bk γ => exact fun F σ H q => c1 F γ σ H q o
          | ct γ => exact fun F σ H q => c1 F γ σ H q o
          | rt x => exact fun v F H q p => c2 F H q o p
        | ex c => rw [e2] at o; exact o.elim
        | no => rw [e2] at o; exact o.elim
      refine ⟨fun z hn => ?_, fun z => ?_⟩
      · have hS : ∀ p ∈ B.S, p.1 ≠ d := fun p hp q => by
          obtain ⟨y1, ob, u, y2, y3⟩ := r'.fi.sS p hp
          rw [q, z, y2] at y1; cases y1
        have h0 : ∀ o' u', B.H0 d ≠ some (.frz o' u') := fun o' u' e => by
          rcases r'.fi.h0 d _ e with y | ⟨_, _, y, _⟩
          · rw [z] at y; cases y
          · cases y
        have hit : ∀ {F H : Hp}, Fin { B with S := (d, .frz od (.dK kvs)) :: B.S } F H → H d = some (.frz od (.dK kvs)) := fun f => (f.sS _ List.mem_cons_self).1
        refine for_core hbd hg (fun _ _ _ h => h) gs (fun p hp => ?_) (r'.lock (od := od) hd z) (cv (fun F γ σ H q T f => .inr ⟨d, od, _, hit q.fi, hn, f F σ _ (q.unlock hS h0)⟩) fun F H q x T v f p => .inr ⟨d, od, _, hit q, hn, f v F _ (q.unlock hS h0) p⟩)
        rw [List.mem_singleton.mp hp]; exact List.mem_cons_self
      · have hq : ∀ o, B.H0 d = some o → o = .frz od (.dK kvs) ∨ ∃ ob kvs, o = .dK kvs ∧ (d, HO.frz ob (.dK kvs)) ∈ B.S := fun o e => by
          rcases r'.fi.h0 d o e with y | y
          · rw [z] at y; cases y; exact .inl rfl
          · exact .inr y
        refine for_core hbd hg (fun _ _ _ h => h) gs (fun p hp => ?_) (r'.pin (od := od) hd z) (cv (fun F γ σ H q T f => .inl (f F σ _ ⟨q.rs, q.fi.unpin hq, q.ow⟩)) fun F H q x T v f p => .inl (f v F _ (q.unpin hq) p))
        rw [List.mem_singleton.mp hp]; exact List.mem_cons_self
    case non => exact o.elim
    case bl _ => exact o.elim
    case int _ => exact o.elim
    case str s =>
      refine ⟨sgn s, rfl, fun J F' H' n gs => for_core hbd hg (fun _ _ _ h => h) gs (fun _ h => nomatch h) (r.next n) (up o)⟩
    case lst xs =>
      refine ⟨xs, rfl, fun J F' H' n gs => for_core hbd hg (fun _ _ _ h => h) gs (fun _ h => nomatch h) (r.next n) (up o)⟩
    case tup xs =>
      refine ⟨xs, rfl, fun J F' H' n gs => for_core hbd hg (fun _ _ _ h => h) gs (fun _ h => nomatch h) (r.next n) (up o)⟩
  | ex c => simp only [e1, R.bind] at o; exact fun F' H' n => o σ F' H' (r.fi.next n)
  | no => simp only [e1, R.bind] at o; exact o⟩
/-! ### while -/
/-- so many turns at most -/
def whN (p : Ga → R Bool) (body : Ga → R Fl) : Nat → Ga → Option (R Fl)
  | 0, _ => none
  | n + 1, γ => match p γ with
    | .ok true => match body γ with
      | .ok (.nx γ2) => whN p body n γ2
      | .ok (.ct γ2) => whN p body n γ2
      | .ok (.bk γ2) => some (.ok (.nx γ2))
      | .ok (.rt d) => some (.ok (.rt d))
      | .ex c => some (.ex c)
      | .no => some .no
    | .ok false => some (.ok (.nx γ))
    | .ex c => some (.ex c)
    | .no => some .no
open Classical in
noncomputable def fWh (p : Ga → R Bool) (body : Ga → R Fl) : Ga → R Fl := fun γ => if h : ∃ n r, whN p body n γ = some r then (whN p body h.choose γ).getD .no else .no
theorem whN_mono {p : Ga → R Bool} {body : Ga → R Fl} : ∀ (n : Nat) (γ : Ga) (r : R Fl) (m : Nat), whN p body n γ = some r → n ≤ m → whN p body m γ = some r := by
  intro n
  induction n with
  | zero => intro γ r m h; cases h
  | succ n ih =>
    intro γ r m h hm
    obtain ⟨m, rfl⟩ : ∃ m', m = m' + 1 := ⟨m - 1, by omega⟩
    simp only [whN] at h ⊢
    cases e1 : p γ with
    | ok b =>
      rw [e1] at h
      cases b with
      | true =>
        simp only at h ⊢
        cases e2 : body γ with
        | ok fl =>
          rw [e2] at h
          cases fl with
          | nx γ2 => exact ih γ2 r m h (by omega)
          | ct γ2 => exact ih γ2 r m h (by omega)
          | bk γ2 => exact h
          | rt d => exact h
        | ex c => rw [e2] at h; exact h
        | no => rw [e2] at h; exact h
      | false => exact h
    | ex c => rw [e1] at h; exact h
    | no => rw [e1] at h; exact h
theorem fWh_eq {p : Ga → R Bool} {body : Ga → R Fl} {n : Nat} {γ : Ga} {r : R Fl} (h : whN p body n γ = some r) : fWh p body γ = r := by
  unfold fWh
  have hx : ∃ n r, whN p body n γ = some r := ⟨n, r, h⟩
  rw [dif_pos hx]
  obtain ⟨r', hr'⟩ := hx.choose_spec
  have a := whN_mono _ _ _ (max n hx.choose) h (Nat.le_max_left _ _)
  have b := whN_mono _ _ _ (max n hx.choose) hr' (Nat.le_max_right _ _)
  rw [a] at b
  cases b
  rw [hr']; rfl
theorem fWh_of {p : Ga → R Bool} {body : Ga → R Fl} {γ : Ga} (h : fWh p body γ ≠ .no) : ∃ n, whN p body n γ = some (fWh p body γ) := by
  by_cases hx : ∃ n r, whN p body n γ = some r
  · obtain ⟨n, r, e⟩ := hx
    exact ⟨n, by rw [fWh_eq e]; exact e⟩
  · unfold fWh at h
    rw [dif_neg hx] at h
    exact absurd rfl h
theorem js_while {X : Cx} {W : WN} {p : Ga → R Bool} {body : Ga → R Fl} {c : Expr} {sts : List Stmt} {pos : Pos} (hp : PassesOwn (model X.prog X.w) X.A X.env X.xe) (hc : JT X W p c) (hb : JSs X W body sts) : JS X W (fWh p body) (.While c sts [] pos) :=
  ⟨PS.imp (ps_while hp hc.pt hb.pss) fun E σ H ⟨B, F, γ, r, o⟩ => by
    by_cases hno : fWh p body γ = .no
    · rw [hno] at o; exact o.elim
    obtain ⟨n, hn⟩ := fWh_of hno
    refine ⟨fun m σ H => ∃ F γ x, RB X.K B F γ σ H ∧ whN p body m γ = some x ∧ OutS X.K W B x E, ⟨n, F, γ, _, r, hn, o⟩, ?_⟩
    rintro m σ1 H1 ⟨F1, γ1, x, r1, h1, o1⟩
    cases m with
    | zero => cases h1
    | succ m =>
      refine ⟨F1, γ1, r1.rs, ?_⟩
      simp only [whN] at h1
      cases e1 : p γ1 with
      | ok b =>
        rw [e1] at h1
        intro F2 H2 n2
        have r2 := r1.next n2
        cases b with
        | true =>
          simp only at h1
          refine ⟨fun σ' H' => ∃ F γ x, RB X.K B F γ σ' H' ∧ whN p body m γ = some x ∧ OutS X.K W B x E, fun σ' H' q => ⟨m, Nat.lt_succ_self _, q⟩, B, F2, γ1, r2, ?_⟩
          cases e2 : body γ1 with
          | ok fl =>
            rw [e2] at h1
            cases fl with
            | nx γ2 => exact fun F σ H q => ⟨F, γ2, x, q, h1, o1⟩
            | ct γ2 => exact fun F σ H q => ⟨F, γ2, x, q, h1, o1⟩
            | bk γ2 => simp only [Option.some.injEq] at h1; subst h1; exact o1
            | rt d => simp only [Option.some.injEq] at h1; subst h1; exact o1
          | ex c => rw [e2] at h1; simp only [Option.some.injEq] at h1; subst h1; exact o1
          | no => rw [e2] at h1; simp only [Option.some.injEq] at h1; subst h1; exact o1
        | false => simp only [Option.some.injEq] at h1; subst h1; exact o1 F2 σ1 H2 r2
      | ex c => rw [e1] at h1; simp only [Option.some.injEq] at h1; subst h1; exact fun F' H' n' => o1 σ1 F' H' (r1.fi.next n')
      | no => rw [e1] at h1; simp only [Option.some.injEq] at h1; subst h1; exact o1.elim⟩
/-! ### defs -/
def fnD (n : Nat) (body : Ga → R Fl) (ds : List D) : R D := match body (ds.map .va ++ List.replicate (n - ds.length) .un) with
  | .ok (.rt d) => .ok d
  | .ok (.nx _) => .ok .non
  | .ex c => .ex c
  | _ => .no
theorem start_ow {ds : List D} {k i : Nat} {s : Sl} {H : Hp} {x : Option (Option V)} {b : Addr} (h : (ds.map Sl.va ++ List.replicate k .un)[i]? = some s) : ¬ Inn H s x b := fun z => by
  by_cases l : i < ds.length
  · rw [List.getElem?_append_left (by simpa using l), List.getElem?_map, List.getElem?_eq_getElem l] at h
    cases h; exact z
  · rw [List.getElem?_append_right (by simpa using l), List.getElem?_replicate] at h
    split at h <;> cases h
    exact z
theorem rs_start {K : PySem.W.Frag} {F H : Hp} {N : List Str} {ds : List D} {vs : List V} (e : Emb F H) (r : Reps K F ds vs) : RS K F (ds.map .va ++ List.replicate (N.length - ds.length) .un) (L2.start N vs) H := by
  refine ⟨e, by simp [L2.start, r.length], fun i s h => ?_, fun i j d d' a h => ?_⟩
  · by_cases l : i < ds.length
    · rw [List.getElem?_append_left (by simpa using l)] at h
      rw [List.getElem?_map, List.getElem?_eq_getElem l] at h
      cases h
      obtain ⟨v, hv, p⟩ := r.get (List.getElem?_eq_getElem l)
      refine ⟨v, ?_, p⟩
      unfold L2.start
      rw [List.getElem?_append_left (by simpa [r.length] using (List.getElem?_eq_some_iff.mp hv).1), List.getElem?_map, hv]
      rfl
    · rw [List.getElem?_append_right (by simpa using l), List.getElem?_replicate] at h
      split at h
      · cases h; trivial
      · cases h
  · exact fun _ h2 _ => absurd h2 (start_ow h)
section
variable {P : Program} {w : World} {K : PySem.W.Frag} {mg : Str → Option Value} {base : Heap}
abbrev cxD (P : Program) (w : World) (K : PySem.W.Frag) (mg : Str → Option Value) (base : Heap) (N : List Str) (qual : Str) (st : Stmt) (f : Addr) (cdv : Value) (A : Around) (outer : List Env) (s : Shared) (H : Hp) (E : XK) : Cx :=
  cxOf (L2.CX P w) P w K mg base N qual (defScope st) f cdv A outer s H E
abbrev wnD (cl : Cl) (E : XK) : WN := fun c _ H => E (cl c) none H
theorem takes_D {cl : Cl} {N : List Str} {qual : Str} {st : Stmt} {f : Addr} {cdv : Value} {A : Around} {outer : List Env} {s : Shared} {H : Hp} {E : XK} : Takes (cxD P w K mg base N qual st f cdv A outer s H E) (VW cl (wnD cl E)) :=
  (takes_of (E := E) rfl rfl rfl rfl).imp fun c d σ H ⟨c', e1, e2, h⟩ => by subst e1 e2; exact h
theorem passes_D {N : List Str} {qual : Str} {st : Stmt} {f : Addr} {cdv : Value} {A : Around} {outer : List Env} {s : Shared} {H : Hp} {E : XK} : PassesOwn (model P w) (cxD P w K mg base N qual st f cdv A outer s H E).A (cxD P w K mg base N qual st f cdv A outer s H E).env (cxD P w K mg base N qual st f cdv A outer s H E).xe :=
  passes_of rfl
theorem fok {x qual : Str} {st : Stmt} {f : Addr} {fd : FuncData} {N ps : List Str} {k n m : Nat} {cl : Cl} {body : Ga → R Fl} (Fu : Fun K x qual st f fd) (S : FnScope N ps (defScope st)) (hn : N.length = n) (hm : ps.length = m)
    (hb : ∀ (cdv : Value) (A : Around) (outer : List Env) (s : Shared) (H : Hp) (E : XK), Room k (A.deeper (envOfC qual (defScope st) s.heap.objs.size f cdv)) → JSs (cxD P w K mg base N qual st f cdv A outer s H E) (wnD cl E) body (defBody st)) :
    FnOk P w K mg base (L2.CX P w) (k + 1) f fd ps (spD K cl m (fnD n body)) := by
  refine Fu.okX S (fun vs H Q E h => ?_) fun cdv A outer s H vs Q E hr h => ?_
  · obtain ⟨F, ds, h1, _⟩ := h
    rw [h1, hm]
  · refine ⟨_, (hb cdv A outer s H E hr).pss, ?_⟩
    obtain ⟨F, ds, h1, em, rp, o⟩ := h
    subst hn
    have r := rs_start (N := N) em rp
    refine ⟨⟨F, H, []⟩, F, _, ⟨r, .start em, fun i d a e1 e2 => absurd e2 (start_ow e1)⟩, ?_⟩
    · unfold fnD at o
      cases e : body (ds.map .va ++ List.replicate (N.length - ds.length) .un) with
      | ok fl =>
        rw [e] at o
        cases fl with
        | nx γ => exact fun F' σ' H' q => o _ F' H' q.fi.nxt .non
        | rt d => exact fun v F' H' q p => o v F' H' q.nxt p
        | bk γ => exact o.elim
        | ct γ => exact o.elim
      | ex c => rw [e] at o; exact fun σ' F' H' q => o F' H' q.nxt
      | no => rw [e] at o; exact o.elim
end
end
end KN
/-! KnH: comprehensions, own things changed, dicts, texts -/
namespace KN
open PySem PySem.Spec PyProof.Rows L2
/-! ### comprehensions -/
def wipeG (γ : Ga) : List Nat → Ga
  | [] => γ
  | v :: vs => (wipeG γ vs).set v .un
theorem wipeG_len (γ : Ga) : ∀ vs, (wipeG γ vs).length = γ.length
  | [] => rfl
  | v :: vs => by simp [wipeG, wipeG_len γ vs]
theorem wipeG_get {γ : Ga} {i : Nat} {s : Sl} : ∀ {vs : List Nat}, (wipeG γ vs)[i]? = some s → s = .un ∨ (i ∉ vs ∧ γ[i]? = some s)
  | [], h => .inr ⟨by simp, h⟩
  | v :: vs, h => by
    unfold wipeG at h
    by_cases hi : v = i
    · subst hi
      by_cases hv : v < (wipeG γ vs).length
      · rw [List.getElem?_set_self hv] at h; cases h; exact .inl rfl
      · rw [List.getElem?_eq_none (by simpa using hv)] at h; cases h
    · rw [List.getElem?_set_ne hi] at h
      rcases wipeG_get h with h | ⟨h1, h2⟩
      · exact .inl h
      · exact .inr ⟨by simp only [List.mem_cons, not_or]; exact ⟨fun e => hi e.symm, h1⟩, h2⟩
theorem wipe_out {σ : L2.St} {i : Nat} : ∀ {vs : List Nat}, i ∉ vs → (wipe σ vs)[i]? = σ[i]?
  | [], _ => rfl
  | v :: vs, h => by
    unfold wipe
    simp only [List.mem_cons, not_or] at h
    rw [List.getElem?_set_ne (fun e => h.1 e.symm)]
    exact wipe_out h.2
theorem wipe_in {σ : L2.St} {i : Nat} : ∀ {vs : List Nat}, i ∈ vs → i < σ.length → (wipe σ vs)[i]? = some none
  | [], h, _ => nomatch h
  | v :: vs, h, hl => by
    unfold wipe
    by_cases hi : v = i
    · subst hi; rw [List.getElem?_set_self (by rw [wipe_length]; exact hl)]
    · rw [List.getElem?_set_ne hi]
      rcases List.mem_cons.mp h with e | h
      · exact absurd e.symm hi
      · exact wipe_in h hl
theorem wipe_same {σ σ' : L2.St} {vs : List Nat} (hl : σ'.length = σ.length) (ho : ∀ j, j ∉ vs → σ'[j]? = σ[j]?) : wipe σ' vs = wipe σ vs := by
  apply List.ext_getElem?
  intro i
  by_cases h : i ∈ vs
  · by_cases l : i < σ.length
    · rw [wipe_in h l, wipe_in h (by rw [hl]; exact l)]
    · rw [List.getElem?_eq_none (by rw [wipe_length, hl]; omega), List.getElem?_eq_none (by rw [wipe_length]; omega)]
  · rw [wipe_out h, wipe_out h, ho i h]
theorem wipe_wipe {σ : L2.St} {vs : List Nat} : wipe (wipe σ vs) vs = wipe σ vs := wipe_same (wipe_length _ _) fun j h => wipe_out h
theorem RS.wipe {K : PySem.W.Frag} {F H : Hp} {γ : Ga} {σ : L2.St} (r : RS K F γ σ H) (vs : List Nat) : RS K F (wipeG γ vs) (L2.wipe σ vs) H := by
  refine ⟨r.emb, by rw [wipeG_len, wipe_length, r.len], fun i s e => ?_, fun i j d d' a e1 e2 h1 h2 => ?_⟩
  · rcases wipeG_get e with rfl | ⟨h1, h2⟩
    · trivial
    · rw [wipe_out h1]; exact r.sl i s h2
  · rcases wipeG_get e1 with z | ⟨z1, z2⟩
    · subst z; exact h1.elim
    · rcases wipeG_get e2 with y | ⟨y1, y2⟩
      · subst y; exact h2.elim
      · rw [wipe_out z1] at h1
        rw [wipe_out y1] at h2
        exact r.apart i j d d' a z2 y2 h1 h2
def lcGo (bd : D → Ga → R Ga) (ifs : Ga → R Bool) (elt : Ga → R D) (γ : Ga) : List D → R (List D)
  | [] => .ok []
  | x :: xs => (bd x γ).noex.bind fun γ1 => (ifs γ1).noex.bind fun b => if b = true then (elt γ1).noex.bind fun y => (lcGo bd ifs elt γ xs).bind fun ys => .ok (y :: ys) else lcGo bd ifs elt γ xs
theorem lcGo_ne {bd : D → Ga → R Ga} {ifs : Ga → R Bool} {elt : Ga → R D} {γ : Ga} : ∀ xs c, lcGo bd ifs elt γ xs ≠ .ex c := by
  intro xs
  induction xs with
  | nil => intro c h; cases h
  | cons x xs ih =>
    intro c h
    unfold lcGo at h
    cases e1 : bd x γ <;> simp only [e1, R.noex, R.bind] at h <;> try (cases h; done)
    rename_i γ1
    cases e2 : ifs γ1 <;> simp only [e2, R.noex, R.bind] at h <;> try (cases h; done)
    rename_i b
    cases b <;> simp only [Bool.false_eq_true, if_false, if_true] at h
    · exact ih c h
    · cases e3 : elt γ1 <;> simp only [e3, R.noex, R.bind] at h <;> try (cases h; done)
      cases e4 : lcGo bd ifs elt γ xs <;> simp only [e4, R.bind] at h <;> try (cases h; done)
      exact ih _ e4
abbrev W0 : WN := fun _ _ _ => False
/-- the tests of a comprehension: none, or one -/
def yes : Ga → R Bool := fun _ => .ok true
structure JIfs (X : Cx) (f : Ga → R Bool) (t : TT) (es : List Expr) : Prop where
  pts : PTs X es t
  go : ∀ {σ : L2.St} {H F : Hp} {γ : Ga} {Q : Bool → Hp → Prop}, RS X.K F γ σ H → OutT F H (fun _ _ => False) (f γ) Q → t σ H Q
theorem jifs_nil {X : Cx} : JIfs X yes tYes [] := ⟨pts_nil, fun {σ H F γ Q} r o => o F H (.refl r.emb)⟩
theorem jifs_one {X : Cx} {f : Ga → R Bool} {e : Expr} (h : JT X W0 f e) : JIfs X f (rdT X.K W0 f) [e] := ⟨pts_one h.pt, fun {σ H F γ Q} r o => ⟨F, γ, r, o⟩⟩
theorem jifs_oneK {X : Cx} {K : PySem.W.Frag} {f : Ga → R Bool} {e : Expr} (hK : X.K = K) (h : JT X W0 f e) : JIfs X f (rdT K W0 f) [e] := by
  subst hK
  exact jifs_one h
/-- the walk of a comprehension -/
theorem lc_core {K : PySem.W.Frag} {bd : D → Ga → R Ga} {ifs : Ga → R Bool} {elt : Ga → R D} {vs : List Nat} {g : TG} {tt : TT} {te : TE} {J : It} {F0 H0 : Hp} {S : List (Addr × HO)} {ds ys : List D} {γ : Ga} {σ : L2.St} {D0 : Addr} {Q : Hp → Prop}
    (hg : ∀ {F : Hp} {γ γ' : Ga} {σ : L2.St} {H : Hp} {d : D} {v : V} {Q : L2.St → Hp → Prop}, RS K F γ σ H → Rep K F d v → bd d γ = .ok γ' → (∀ σ', RS K F γ' σ' H → Kp vs γ σ γ' σ' → Q σ' H) → g v σ H Q)
    (ht : ∀ {σ : L2.St} {H F : Hp} {γ : Ga} {Q : Bool → Hp → Prop}, RS K F γ σ H → OutT F H (fun _ _ => False) (ifs γ) Q → tt σ H Q)
    (he : ∀ {σ : L2.St} {H F : Hp} {γ : Ga} {Q : VK}, RS K F γ σ H → Out (PV K F H) F H (fun _ _ => False) (elt γ) Q → te σ H Q)
    (gs : Goes K J F0 S ds) (hS : ∀ p ∈ S, H0 p.1 = some p.2) (r : RS K F0 γ σ H0) (o : lcGo bd ifs elt (wipeG γ vs) ds = .ok ys) (hz : ys.length < sizeLine) (hD : H0 D0 = none)
    (fin : ∀ F' H', Nxt F0 H0 F' H' → F' D0 = none → (∃ us, H' D0 = some (.lst us) ∧ Reps K F' ys us) → Q H') :
    ∃ Wi : Nat → Nat → Hp → Prop, (∃ m, Wi 0 m (upd H0 D0 (.lst []))) ∧ ∀ i m H, Wi i m H → (J.stop i H ∧ Q H) ∨
      (J.go i H ∧ ∃ Nx : Hp → Prop, (∀ H', Nx H' → ∃ m', m' < m ∧ Wi (i + 1) m' H') ∧ ∀ x H', J.yld i H x H' → g x (wipe σ vs) H' fun σ2 H2 => wipe σ2 vs = wipe σ vs ∧ tt σ2 H2 fun b H3 =>
        if b = true then te σ2 H3 fun y H4 => ∃ acc, H4 D0 = some (.lst acc) ∧ acc.length < sizeLine ∧ Nx (upd H4 D0 (.lst (acc ++ [y]))) else Nx H3) := by
  have dS : ∀ p ∈ S, p.1 ≠ D0 := fun p hp q => by have := hS p hp; rw [q, hD] at this; cases this
  -- the state: what was made so far, what is left to make
  refine ⟨fun i m H => ∃ F zs rest us, Nxt F0 H0 F H ∧ F D0 = none ∧ H D0 = some (.lst us) ∧ Reps K F zs us ∧ lcGo bd ifs elt (wipeG γ vs) (ds.drop i) = .ok rest ∧ ys = zs ++ rest ∧ (∀ p ∈ S, H p.1 = some p.2) ∧ m = ds.length - i ∧ i ≤ ds.length,
    ⟨ds.length, F0, [], ys, [], .laid r.emb hD _, r.emb.free hD, upd_same, .nil, o, rfl, fun p hp => by rw [upd_ne (dS p hp)]; exact hS p hp, rfl, Nat.zero_le _⟩, ?_⟩
  rintro i m H1 ⟨F1, zs, rest, us, n1, fD, hus, rp, o1, ey, hS1, rfl, hi⟩
  obtain ⟨g1, g2⟩ := gs F1 H1 i n1.f n1.emb hS1
  by_cases hl : i < ds.length
  · have hd : ds[i]? = some ds[i] := List.getElem?_eq_getElem hl
    obtain ⟨go, gy⟩ := g2 _ hd
    rw [List.drop_eq_getElem_cons hl] at o1
    unfold lcGo at o1
    cases e1 : bd ds[i] (wipeG γ vs) with
    | ok γ2 =>
      simp only [e1, R.noex, R.bind] at o1
      refine .inr ⟨go, fun H' => ∃ F zs rest us, Nxt F0 H0 F H' ∧ F D0 = none ∧ H' D0 = some (.lst us) ∧ Reps K F zs us ∧ lcGo bd ifs elt (wipeG γ vs) (ds.drop (i + 1)) = .ok rest ∧ ys = zs ++ rest ∧ (∀ p ∈ S, H' p.1 = some p.2),
        fun H' ⟨F, zs, rest, us, a⟩ => ⟨ds.length - (i + 1), by omega, F, zs, rest, us, a.1, a.2.1, a.2.2.1, a.2.2.2.1, a.2.2.2.2.1, a.2.2.2.2.2.1, a.2.2.2.2.2.2, rfl, hl⟩, fun x H' hy => ?_⟩
      obtain ⟨F2, n2, p2⟩ := gy x H' hy
      have n02 := n1.trans n2
      have r2 := (r.next n02).wipe vs
      refine hg r2 p2 e1 fun σ2 rs2 k => ⟨(wipe_same k.len k.out).trans wipe_wipe, ht rs2 ?_⟩
      have keep : ∀ {F3 H3 : Hp}, Nxt F2 H' F3 H3 → Nxt F1 H1 F3 H3 ∧ F3 D0 = none ∧ H3 D0 = some (.lst us) ∧ Reps K F3 zs us ∧ ∀ p ∈ S, H3 p.1 = some p.2 := fun {F3 H3} n3 => by
        have n13 := n2.trans n3
        refine ⟨n13, ?_, n13.h _ _ hus, rp.mono n13.f, fun p hp => n13.h _ _ (hS1 p hp)⟩
        cases q : F3 D0 with
        | none => rfl
        | some u =>
          rcases n13.fn _ _ q with z | z
          · rw [fD] at z; cases z
          · rw [hus] at z; cases z
      cases e2 : ifs γ2 with
      | ok b =>
        simp only [e2] at o1
        intro F3 H3 n3
        obtain ⟨k1, k2, k3, k4, k5⟩ := keep n3
        cases b with
        | false =>
          simp only [Bool.false_eq_true, if_false] at o1 ⊢
          exact ⟨F3, zs, rest, us, n1.trans k1, k2, k3, k4, o1, ey, k5⟩
        | true =>
          simp only [if_true] at o1 ⊢
          refine he (rs2.next n3) ?_
          cases e3 : elt γ2 with
          | ok y =>
            simp only [e3] at o1
            intro v F4 H4 n4 p4
            obtain ⟨l1, l2, l3, l4, l5⟩ := keep (n3.trans n4)
            cases e4 : lcGo bd ifs elt (wipeG γ vs) (ds.drop (i + 1)) with
            | ok rest' =>
              simp only [e4] at o1
              cases o1
              have hlen : us.length < sizeLine := by
                rw [← rp.length]
                have : ys.length = zs.length + (rest'.length + 1) := by rw [ey]; simp
                omega
              have n04 := n1.trans l1
              refine ⟨us, l3, hlen, F4, zs ++ [y], rest', us ++ [v], ⟨n04.f, n04.fn, fun a u z => ?_, fun b u z => ?_⟩, l2, upd_same, l4.append (.cons p4 .nil), rfl, by rw [ey]; simp, fun p hp => by rw [upd_ne (dS p hp)]; exact l5 p hp⟩
              · rw [upd_ne (ne_of_none z l2)]; exact n04.emb a u z
              · rw [upd_ne (ne_of_none z hD)]; exact n04.h b u z
            | ex c => exact absurd e4 (lcGo_ne _ _)
            | no => simp only [e4] at o1; cases o1
          | ex c => simp only [e3] at o1; cases o1
          | no => simp only [e3] at o1; cases o1
      | ex c => simp only [e2] at o1; cases o1
      | no => simp only [e2] at o1; cases o1
    | ex c => simp only [e1, R.noex, R.bind] at o1; cases o1
    | no => simp only [e1, R.noex, R.bind] at o1; cases o1
  · have hi' : i = ds.length := by omega
    refine .inl ⟨g1 hi', fin F1 H1 n1 fD ⟨us, hus, ?_⟩⟩
    rw [List.drop_eq_nil_of_le (by omega)] at o1
    cases o1
    rw [ey, List.append_nil]
    exact rp
def lcOut (bd : D → Ga → R Ga) (ifs : Ga → R Bool) (elt : Ga → R D) (vs : List Nat) (γ : Ga) (ds : List D) : R D := (lcGo bd ifs elt (wipeG γ vs) ds).bind fun ys => if ys.length ≤ lim then .ok (.lst ys) else .no
def bLcI (it : Ga → R (List D)) (vs : List Nat) (bd : D → Ga → R Ga) (ifs : Ga → R Bool) (elt : Ga → R D) : Ga → R D := fun γ => (it γ).bind fun ds => lcOut bd ifs elt vs γ ds
def bLcE (fe : Ga → R D) (vs : List Nat) (bd : D → Ga → R Ga) (ifs : Ga → R Bool) (elt : Ga → R D) : Ga → R D := fun γ => (fe γ).bind fun d => (items d).bind fun ds => lcOut bd ifs elt vs γ ds
theorem lcOut_ne {bd : D → Ga → R Ga} {ifs : Ga → R Bool} {elt : Ga → R D} {vs : List Nat} {γ : Ga} {ds : List D} {c : Nat} : lcOut bd ifs elt vs γ ds ≠ .ex c := by
  unfold lcOut
  cases e : lcGo bd ifs elt (wipeG γ vs) ds with
  | ok ys => simp only [R.bind]; split <;> intro h <;> cases h
  | ex c => exact absurd e (lcGo_ne _ _)
  | no => intro h; cases h
theorem lcOut_ok {bd : D → Ga → R Ga} {ifs : Ga → R Bool} {elt : Ga → R D} {vs : List Nat} {γ : Ga} {ds : List D} {d : D} (h : lcOut bd ifs elt vs γ ds = .ok d) : ∃ ys, d = .lst ys ∧ lcGo bd ifs elt (wipeG γ vs) ds = .ok ys ∧ ys.length < sizeLine := by
  unfold lcOut at h
  cases e : lcGo bd ifs elt (wipeG γ vs) ds with
  | ok ys =>
    rw [e] at h
    simp only [R.bind] at h
    split at h
    · cases h; exact ⟨ys, rfl, rfl, by have : lim < sizeLine := by (rw [sizeLine_eq]; decide)
                                       omega⟩
    · cases h
  | ex c => exact absurd e (lcGo_ne _ _)
  | no => rw [e] at h; cases h
section
variable {X : Cx} {W : WN} {bd : D → Ga → R Ga} {ifs : Ga → R Bool} {elt fe : Ga → R D} {it : Ga → R (List D)} {own : List (Str × Nat)} {g : TG} {tt : TT} {tg iter e : Expr} {es : List Expr} {scope : Scope} {pos : Pos}
/-- the block's parts -/
structure Blk (X : Cx) (scope : Scope) (own : List (Str × Nat)) (bd : D → Ga → R Ga) (ifs : Ga → R Bool) (elt : Ga → R D) (g : TG) (tt : TT) (tg : Expr) (es : List Expr) (e : Expr) : Prop where
  ok : BlkOk X.N X.env.scope scope own
  hg : ∀ (s : Shared) (H : Hp) (C : Addr) (cl : List (Str × Addr)) (fp : List Addr), JG (X.blk s H scope (compEnvC scope cl C X.env) fp) (own.map (·.2)) bd g tg
  ht : ∀ (s : Shared) (H : Hp) (C : Addr) (cl : List (Str × Addr)) (fp : List Addr), JIfs (X.blk s H scope (compEnvC scope cl C X.env) fp) ifs tt es
  he : ∀ (s : Shared) (H : Hp) (C : Addr) (cl : List (Str × Addr)) (fp : List Addr), J (X.blk s H scope (compEnvC scope cl C X.env) fp) W0 elt e
theorem tLc_of {σ : L2.St} {H F : Hp} {γ : Ga} {ds ys : List D} {J : It} {S : List (Addr × HO)} {Q : VK} (b : Blk X scope own bd ifs elt g tt tg es e) (r : RS X.K F γ σ H) (gs : Goes X.K J F S ds) (hS : ∀ p ∈ S, H p.1 = some p.2)
    (o : lcGo bd ifs elt (wipeG γ (own.map (·.2))) ds = .ok ys) (hz : ys.length < sizeLine)
    (fin : ∀ a F' H', Nxt F H F' H' → H a = none → F' a = none → Own X.K F' H' (.lst ys) a → Q (.ref a) H') : ∀ D0, H D0 = none → ∃ Wi : Nat → Nat → Hp → Prop, (∃ m, Wi 0 m (upd H D0 (.lst []))) ∧ ∀ i m H, Wi i m H →
      (J.stop i H ∧ Q (.ref D0) H) ∨ (J.go i H ∧ ∃ Nx : Hp → Prop, (∀ H', Nx H' → ∃ m', m' < m ∧ Wi (i + 1) m' H') ∧ ∀ x H', J.yld i H x H' → g x (wipe σ (own.map (·.2))) H' fun σ2 H2 => wipe σ2 (own.map (·.2)) = wipe σ (own.map (·.2)) ∧ tt σ2 H2 fun b H3 =>
        if b = true then rdV X.K W0 elt σ2 H3 fun y H4 => ∃ acc, H4 D0 = some (.lst acc) ∧ acc.length < sizeLine ∧ Nx (upd H4 D0 (.lst (acc ++ [y]))) else Nx H3) := fun D0 hD =>
  lc_core (K := X.K) (fun {F γ γ' σ H d v Q} r p e q => (b.hg X.s_0 X.H_0 X.env.locals [] []).go r p e q) (fun {σ H F γ Q} r o => (b.ht X.s_0 X.H_0 X.env.locals [] []).go r o)
    (fun {σ H F γ Q} r o => ⟨F, γ, r, o⟩) gs hS r o hz hD fun F' H' n f0 ow => fin D0 F' H' n hD f0 ow
theorem jf_lcI (hc : X.calm = true) (hN : X.N.Nodup) (hi : JI X W it tg iter) (b : Blk X scope own bd ifs elt g tt tg es e) (hs : ∀ x, foldedSetIterable iter X.env x = pure x := by intro _; rfl) :
    JF X W (bLcI it (own.map (·.2)) bd ifs elt) (.ListComp e [⟨tg, iter, es, 0⟩] scope pos) := ⟨PE.imp (pe_lc hc hN hi.pi b.ok (fun s H C cl fp => (b.hg s H C cl fp).pg) (fun s H C cl fp => (b.ht s H C cl fp).pts) (fun s H C cl fp => (b.he s H C cl fp).pe) hs) fun σ H Q ⟨F, γ, r, o⟩ => by
  refine ⟨F, γ, r, ?_⟩
  unfold bLcI at o
  cases e1 : it γ with
  | ok ds =>
    simp only [e1, R.bind] at o
    intro J F' H' n gs
    cases e2 : lcOut bd ifs elt (own.map (·.2)) γ ds with
    | ok d =>
      rw [e2] at o
      obtain ⟨ys, rfl, h1, h2⟩ := lcOut_ok e2
      exact tLc_of b (r.next n) gs (fun _ h => nomatch h) h1 h2 fun a F2 H2 n2 ha f0 ow => PF.next (Q := Q) o n a F2 H2 n2 ha f0 ow
    | ex c => exact absurd e2 lcOut_ne
    | no => rw [e2] at o; exact o.elim
  | ex c => simp only [e1, R.bind] at o; exact o
  | no => simp only [e1, R.bind] at o; exact o⟩
/-- what a walked value asks, in an expression: unlocked at the end -/
theorem lcE_of {σ : L2.St} {H F : Hp} {γ : Ga} {Q : VK} (b : Blk X scope own bd ifs elt g tt tg es e) (r : RS X.K F γ σ H) (o : Out (PF X.K F H) F H (fun c H' => W c σ H') (bLcE fe (own.map (·.2)) bd ifs elt γ) Q) :
    tLc (rdE X W fe) g tt (rdV X.K W0 elt) (own.map (·.2)) σ H fun v => Ul X (Q v) := by
  refine ⟨F, γ, r, ?_⟩
  unfold bLcE at o
  cases e1 : fe γ with
  | ok d =>
    simp only [e1, R.bind] at o
    have simple : ∀ {ds : List D}, Out (PF X.K F H) F H (fun c H' => W c σ H') (lcOut bd ifs elt (own.map (·.2)) γ ds) Q → ∀ J F' H', Nxt F H F' H' → Goes X.K J F' [] ds → ∀ D0, H' D0 = none → ∃ Wi : Nat → Nat → Hp → Prop, (∃ m, Wi 0 m (upd H' D0 (.lst []))) ∧ ∀ i m H, Wi i m H →
      (J.stop i H ∧ Ul X (Q (.ref D0)) H) ∨ (J.go i H ∧ ∃ Nx : Hp → Prop, (∀ H', Nx H' → ∃ m', m' < m ∧ Wi (i + 1) m' H') ∧ ∀ x H', J.yld i H x H' → g x (wipe σ (own.map (·.2))) H' fun σ2 H2 => wipe σ2 (own.map (·.2)) = wipe σ (own.map (·.2)) ∧ tt σ2 H2 fun b H3 =>
        if b = true then rdV X.K W0 elt σ2 H3 fun y H4 => ∃ acc, H4 D0 = some (.lst acc) ∧ acc.length < sizeLine ∧ Nx (upd H4 D0 (.lst (acc ++ [y]))) else Nx H3) := fun {ds} o J F' H' n gs => by
      cases e2 : lcOut bd ifs elt (own.map (·.2)) γ ds with
      | ok d =>
        rw [e2] at o
        obtain ⟨ys, rfl, h1, h2⟩ := lcOut_ok e2
        exact tLc_of (Q := fun v => Ul X (Q v)) b (r.next n) gs (fun _ h => nomatch h) h1 h2 fun a F2 H2 n2 ha f0 ow => .inl (PF.next (Q := Q) o n a F2 H2 n2 ha f0 ow)
      | ex c => exact absurd e2 lcOut_ne
      | no => rw [e2] at o; exact o.elim
    cases d
    case non => exact o.elim
    case bl _ => exact o.elim
    case int _ => exact o.elim
    case str s => exact ⟨sgn s, rfl, simple o⟩
    case lst xs => exact ⟨xs, rfl, simple o⟩
    case tup xs => exact ⟨xs, rfl, simple o⟩
    case dic ks =>
      intro J F' H' d od kvs n hd gs
      have o : Out (PF X.K F H) F H (fun c H' => W c σ H') (lcOut bd ifs elt (own.map (·.2)) γ (keysD ks)) Q := o
      cases e2 : lcOut bd ifs elt (own.map (·.2)) γ (keysD ks) with
      | ok x =>
        rw [e2] at o
        obtain ⟨ys, rfl, h1, h2⟩ := lcOut_ok e2
        have r' := r.next n
        refine ⟨fun z hn => ?_, fun z => ?_⟩
        · -- locked by us
          have em : Emb F' (upd H' d (.frz od (.dK kvs))) := fun a o e => by
            by_cases q : a = d
            · subst q; rw [hd] at e; cases e; exact .inr ⟨od, kvs, rfl, upd_same⟩
            · rw [upd_ne q]; exact n.emb a o e
          have rl : RS X.K F' γ σ (upd H' d (.frz od (.dK kvs))) := by
            have ks : ∀ b u, F' b = none → H' b = some u → upd H' d (.frz od (.dK kvs)) b = some u := fun b u h1 h2 => by
              rw [upd_ne]
              · exact h2
              · rintro rfl; rw [h1] at hd; cases hd
            have bk : ∀ i s b, γ[i]? = some s → Inn (upd H' d (.frz od (.dK kvs))) s σ[i]? b → Inn H' s σ[i]? b := fun i s b e h => h.back (r'.sl i s e) fun b u h1 h2 => ks b u (h1.have (r'.sl i s e)).1 h2
            exact ⟨em, r'.len, fun i s e => (r'.sl i s e).keep (.refl _) fun b u _ h1 h2 => ⟨ks b u h1 h2, h1⟩, fun i j s s' b e1 e2 h1 h2 => r'.apart i j s s' b e1 e2 (bk _ _ b e1 h1) (bk _ _ b e2 h2)⟩
          refine tLc_of (Q := fun v => Ul X (Q v)) b rl gs (fun p hp => by rw [List.mem_singleton.mp hp]; exact upd_same) h1 h2 fun a F2 H2 n2 ha f0 ow => ?_
          have had : a ≠ d := fun q => by rw [q, upd_same] at ha; cases ha
          have hd2 : F2 d = some (.dK kvs) := n2.f _ _ hd
          refine .inr ⟨d, od, .dK kvs, n2.h _ _ upd_same, hn, ?_⟩
          rw [upd_ne had] at ha
          refine o a F2 _ ⟨n.f.trans n2.f, fun c u q => ?_, fun c u q => ?_, fun c u q => ?_⟩ (n.h.free ha) f0 (ow.next (.refl _) fun u q => by rw [upd_ne had]; exact q)
          · rcases n2.fn c u q with y | y
            · exact n.fn c u y
            · by_cases w : c = d
              · subst w; rw [upd_same] at y; cases y
              · rw [upd_ne w] at y; exact .inr (n.h.free y)
          · by_cases w : c = d
            · subst w; rw [hd2] at q; cases q; exact .inl upd_same
            · rw [upd_ne w]; exact n2.emb c u q
          · by_cases w : c = d
            · subst w
              have := n.h _ _ q
              rw [z] at this; cases this; exact upd_same
            · rw [upd_ne w]
              exact n2.h _ _ (by rw [upd_ne w]; exact n.h _ _ q)
        · exact tLc_of (Q := fun v => Ul X (Q v)) b r' gs (fun p hp => by rw [List.mem_singleton.mp hp]; exact z) h1 h2 fun a F2 H2 n2 ha f0 ow => .inl (PF.next (Q := Q) o n a F2 H2 n2 ha f0 ow)
      | ex c => exact absurd e2 lcOut_ne
      | no => rw [e2] at o; exact o.elim
  | ex c => simp only [e1, R.bind] at o; exact o
  | no => simp only [e1, R.bind] at o; exact o
theorem jf_lcE (hc : X.calm = true) (hN : X.N.Nodup) (he : J X W fe iter) (b : Blk X scope own bd ifs elt g tt tg es e) (hs : ∀ x, foldedSetIterable iter X.env x = pure x := by intro _; rfl) :
    JF X W (bLcE fe (own.map (·.2)) bd ifs elt) (.ListComp e [⟨tg, iter, es, 0⟩] scope pos) := ⟨PE.imp (pe_unl (pe_lc hc hN (pi_any he) b.ok (fun s H C cl fp => (b.hg s H C cl fp).pg) (fun s H C cl fp => (b.ht s H C cl fp).pts) (fun s H C cl fp => (b.he s H C cl fp).pe) hs)) fun σ H Q ⟨F, γ, r, o⟩ => lcE_of b r o⟩
end
/-! ### own things changed -/
def putD (es : List (Tx × D)) (k : Tx) (d : D) : List (Tx × D) := if (es.any fun e => e.1 == k) = true then es.map (fun e => if (e.1 == k) = true then (e.1, d) else e) else es ++ [(k, d)]
theorem keyS_iff {k k' : Tx} : ((Sum.inr (toS k') : Key) = Sum.inr (toS k)) ↔ k' = k := ⟨fun z => toS_inj.mp (Sum.inr.inj z), fun z => by rw [z]⟩
theorem RepK.any_eq {K : PySem.W.Frag} {F : Hp} (k : Tx) {es : List (Tx × D)} {kvs : List (Key × V)} (h : RepK K F es kvs) : (kvs.any fun kv => decide (kv.1 = (Sum.inr (toS k) : Key))) = es.any fun e => e.1 == k := by
  induction es generalizing kvs with
  | nil => cases h; rfl
  | cons e es ih =>
    cases h with
    | cons h1 h2 =>
      rw [List.any_cons, List.any_cons, ih h2]
      congr 1
      rw [Bool.eq_iff_iff]
      simp [toS_inj]
theorem RepK.repl {K : PySem.W.Frag} {F : Hp} (k : Tx) {d : D} {v : V} (p : Rep K F d v) {es : List (Tx × D)} {kvs : List (Key × V)} (h : RepK K F es kvs) :
    RepK K F (es.map (fun e => if (e.1 == k) = true then (e.1, d) else e)) (kvs.map (fun kv => if kv.1 = (Sum.inr (toS k) : Key) then (kv.1, v) else kv)) := by
  induction es generalizing kvs with
  | nil => cases h; exact .nil
  | cons e es ih =>
    obtain ⟨k', d'⟩ := e
    cases h with
    | cons h1 h2 =>
      simp only [List.map_cons]
      by_cases q : k' = k
      · rw [if_pos (keyS_iff.mpr q), if_pos (by simpa using q)]; exact .cons p (ih h2)
      · rw [if_neg (fun z => q (keyS_iff.mp z)), if_neg (by simpa using q)]; exact .cons h1 (ih h2)
theorem RepK.snoc {K : PySem.W.Frag} {F : Hp} (k : Tx) {d : D} {v : V} (p : Rep K F d v) {es : List (Tx × D)} {kvs : List (Key × V)} (h : RepK K F es kvs) : RepK K F (es ++ [(k, d)]) (kvs ++ [(Sum.inr (toS k), v)]) := by
  induction es generalizing kvs with
  | nil => cases h; exact .cons p .nil
  | cons e es ih =>
    obtain ⟨k', d'⟩ := e
    cases h with
    | cons h1 h2 => exact .cons h1 (ih h2)
theorem RepK.put {K : PySem.W.Frag} {F : Hp} {es : List (Tx × D)} {kvs : List (Key × V)} (h : RepK K F es kvs) (k : Tx) {d : D} {v : V} (p : Rep K F d v) : RepK K F (putD es k d) (putK kvs (Sum.inr (toS k)) v) := by
  unfold putD putK
  rw [h.any_eq k]
  split
  · exact h.repl k p
  · exact h.snoc k p
theorem lim_lt : lim < sizeLine := by rw [sizeLine_eq]; decide
def owL (γ : Ga) (i : Nat) : Option (List D) := match γ[i]? with | some (.ow (.lst xs)) => some xs | _ => none
def owK (γ : Ga) (i : Nat) : Option (List (Tx × D)) := match γ[i]? with | some (.ow (.dic xs)) => some xs | _ => none
theorem owL_some {γ : Ga} {i : Nat} {xs : List D} (h : owL γ i = some xs) : γ[i]? = some (.ow (.lst xs)) := by
  unfold owL at h
  split at h
  · cases h; assumption
  · cases h
theorem owK_some {γ : Ga} {i : Nat} {xs : List (Tx × D)} (h : owK γ i = some xs) : γ[i]? = some (.ow (.dic xs)) := by
  unfold owK at h
  split at h
  · cases h; assumption
  · cases h
def fApp (i : Nat) (fe : Ga → R D) : Ga → R Fl := fun γ => match owL γ i with
  | some xs => (fe γ).bind fun d => if xs.length < lim then .ok (.nx (γ.set i (.ow (.lst (xs ++ [d]))))) else .no
  | none => .no
def fExt (i : Nat) (fe : Ga → R D) : Ga → R Fl := fun γ => match owL γ i with
  | some xs => (fe γ).bind fun d => match d with
    | .lst ys => if xs.length + ys.length ≤ lim then .ok (.nx (γ.set i (.ow (.lst (xs ++ ys))))) else .no
    | _ => .no
  | none => .no
def fPut (i : Nat) (fk fv : Ga → R D) : Ga → R Fl := fun γ => match owK γ i with
  | some es => (fv γ).bind fun d => (fk γ).bind fun k => match k with
    | .str s => if es.length < lim then .ok (.nx (γ.set i (.ow (.dic (putD es s d))))) else .no
    | _ => .no
  | none => .no
section
variable {X : Cx} {W : WN} {fe fk fv fa fb : Ga → R D} {e k a b : Expr} {pos apos cpos p1 p2 tpos : Pos}
theorem own_at {K : PySem.W.Frag} {B : Bs} {F H : Hp} {γ : Ga} {σ : L2.St} (r : RB K B F γ σ H) {i : Nat} {d : D} (e : γ[i]? = some (.ow d)) : ∃ a, σ[i]? = some (some (.ref a)) ∧ Own K F H d a := by
  obtain ⟨a, h1, _, h2⟩ := r.rs.sl i _ e
  exact ⟨a, h1, h2⟩
theorem js_app (i : Nat) {x : Str} (he : J X W fe e) (hN : X.N[i]? = some x := by rfl) (hv : Vis X.env.scope x := by first | exact Or.inl rfl | exact Or.inr (Or.inl rfl) | exact Or.inr (Or.inr rfl))
    (hb : attributeBase (.Name x p1) "append" X.env (eval (.Name x p1) X.env) = eval (.Name x p1) X.env := by rfl)
    (hfew : ((backTo cpos (starEach [e] X.env)).all (fun x => !x.1) && (backToKw cpos (keywordEach [] X.env)).all (fun x => x.1.isSome) && decide (([e] : List Expr).length + ([] : List Keyword).length + (if ([] : List Keyword).isEmpty then 0 else 1) < 30)) = true := by rfl)
    (hline : (apos.endLine == cpos.line) = true := by rfl) (hs : starEach [e] X.env = (false, eval e X.env) :: starEach [] X.env := by rfl)
    (hw : swapsWith (.Call (.Attribute (.Name x p1) "append" apos) [e] [] cpos) none pos.line X.env = pure false := by rfl)
    (hd : (x == ("__debug__" : Str)) = false := by decide) (hcd : (x == ("__classdict__" : Str)) = false := by decide) :
    JS X W (fApp i fe) (.Expr (.Call (.Attribute (.Name x p1) "append" apos) [e] [] cpos) pos) :=
  ⟨PS.imp (ps_expr (pe_bm PySem.F.plainAttrs_list PySem.F.slot_list_append PySem.F.type_list_append mt_append (pe_var hN hv hd hcd) (pa_cons he.pe pa_nil hs) hb hfew hline hs rfl) hw) fun E σ H ⟨B, F, γ, r, o⟩ => by
    unfold fApp at o
    cases e0 : owL γ i with
    | none => rw [e0] at o; exact o.elim
    | some xs =>
      rw [e0] at o
      have e1 := owL_some e0
      obtain ⟨a, h1, vs, h2, rp⟩ := own_at r e1
      refine ⟨_, h1, .inl ⟨rfl, _, .inl (.inl h2)⟩, ?_⟩
      refine ex_of r o fun d v F1 H1 n1 r1 p1 o1 => ?_
      split at o1
      · rename_i hl
        have h3 := n1.h _ _ h2
        have rp1 := rp.mono n1.f
        exact ⟨a, vs, v, rfl, rfl, h3, by rw [← rp.length]; exact Nat.lt_trans hl lim_lt, o1 F1 σ _ (r1.change e1 h1 ⟨_, upd_same, rp1.append (.cons p1 .nil)⟩)⟩
      · exact o1.elim⟩
theorem js_ext (i : Nat) {x : Str} (he : JF X W fe e) (hN : X.N[i]? = some x := by rfl) (hv : Vis X.env.scope x := by first | exact Or.inl rfl | exact Or.inr (Or.inl rfl) | exact Or.inr (Or.inr rfl))
    (hb : attributeBase (.Name x p1) "extend" X.env (eval (.Name x p1) X.env) = eval (.Name x p1) X.env := by rfl)
    (hfew : ((backTo cpos (starEach [e] X.env)).all (fun x => !x.1) && (backToKw cpos (keywordEach [] X.env)).all (fun x => x.1.isSome) && decide (([e] : List Expr).length + ([] : List Keyword).length + (if ([] : List Keyword).isEmpty then 0 else 1) < 30)) = true := by rfl)
    (hline : (apos.endLine == cpos.line) = true := by rfl) (hs : starEach [e] X.env = (false, eval e X.env) :: starEach [] X.env := by rfl)
    (hw : swapsWith (.Call (.Attribute (.Name x p1) "extend" apos) [e] [] cpos) none pos.line X.env = pure false := by rfl)
    (hd : (x == ("__debug__" : Str)) = false := by decide) (hcd : (x == ("__classdict__" : Str)) = false := by decide) :
    JS X W (fExt i fe) (.Expr (.Call (.Attribute (.Name x p1) "extend" apos) [e] [] cpos) pos) :=
  ⟨PS.imp (ps_expr (pe_bm PySem.F.plainAttrs_list PySem.F.slot_list_extend PySem.F.type_list_extend mt_extend (pe_var hN hv hd hcd) (pa_cons he.pe pa_nil hs) hb hfew hline hs rfl) hw) fun E σ H ⟨B, F, γ, r, o⟩ => by
    unfold fExt at o
    cases e0 : owL γ i with
    | none => rw [e0] at o; exact o.elim
    | some xs =>
      rw [e0] at o
      have e1 := owL_some e0
      obtain ⟨a, h1, vs, h2, rp⟩ := own_at r e1
      refine ⟨_, h1, .inl ⟨rfl, _, .inl (.inl h2)⟩, ?_⟩
      refine ⟨F, γ, r.rs, ?_⟩
      cases e2 : fe γ with
      | ok d =>
        rw [e2] at o
        intro c F1 H1 n1 hc fc ow
        cases d <;> first | exact o.elim | skip
        rename_i ys
        obtain ⟨us, h4, rq⟩ := ow
        simp only [R.bind] at o
        split at o
        · rename_i hl
          have h3 := n1.h _ _ h2
          have rp1 := rp.mono n1.f
          exact ⟨a, c, vs, us, rfl, rfl, h3, h4, by rw [← rp.length, ← rq.length]; exact Nat.le_trans hl lim_line, o F1 σ _ ((r.next n1).change e1 h1 ⟨_, upd_same, rp1.append rq⟩)⟩
        · exact o.elim
      | ex c => rw [e2] at o; exact fun F' H' n => o σ F' H' (r.fi.next n)
      | no => rw [e2] at o; exact o⟩
theorem js_put (i : Nat) {x : Str} (hu : X.A.units + 1 < cLine) (hk : J X W fk k) (hv : J X W fv e) (hN : X.N[i]? = some x := by rfl) (hvis : Vis X.env.scope x := by first | exact Or.inl rfl | exact Or.inr (Or.inl rfl) | exact Or.inr (Or.inr rfl))
    (hs : swapsWith e (some (.Subscript (.Name x p1) k p2)) pos.line X.env = pure false := by rfl) (hd : (x == ("__debug__" : Str)) = false := by decide) (hcd : (x == ("__classdict__" : Str)) = false := by decide) :
    JS X W (fPut i fk fv) (.Assign [.Subscript (.Name x p1) k p2] e pos) :=
  ⟨PS.imp (ps_dput hu (pe_var hN hvis hd hcd) hk.pe hv.pe hs) fun E σ H ⟨B, F, γ, r, o⟩ => by
    unfold fPut at o
    cases e0 : owK γ i with
    | none => rw [e0] at o; exact o.elim
    | some es =>
      rw [e0] at o
      have e1 := owK_some e0
      obtain ⟨a, h1, kvs, h2, rp⟩ := own_at r e1
      refine ex_of r o fun d v F1 H1 n1 r1 p1 o1 => ?_
      refine ⟨_, h1, ?_⟩
      refine ex_of r1 o1 fun dk vk F2 H2 n2 r2 p2 o2 => ?_
      cases dk <;> first | exact o2.elim | skip
      rename_i s
      cases p2
      simp only at o2
      split at o2
      · rename_i hl
        have n12 := n1.trans n2
        have h3 := n12.h _ _ h2
        have rp1 := rp.mono n12.f
        exact ⟨a, _, rfl, .inl ⟨kvs, .inr (toS s), h3, rfl, by rw [← rp.length]; exact Nat.lt_trans hl lim_lt, rfl⟩, o2 F2 σ _ (r2.change e1 h1 ⟨_, upd_same, rp1.put s (p1.mono n2.f)⟩)⟩
      · exact o2.elim⟩
end
/-! ### dicts -/
section
variable {X : Cx} {W : WN} {fe fk fv fa fb fc : Ga → R D} {e k a b c : Expr} {pos apos cpos p1 p2 tpos : Pos}
theorem jf_dic0 : JF X W (bC (.dic [])) (.Dict [] [] pos) := ⟨PE.imp pe_dnewK fun σ H Q ⟨F, γ, r, o⟩ => fun p hp => by
  exact o p F _ (.laid r.emb hp _) hp (r.emb.free hp) ⟨[], upd_same, .nil⟩⟩
def bGet (fa fb fc : Ga → R D) : Ga → R D := fun γ => (fa γ).bind fun x => match x with
  | .dic es => (fb γ).bind fun y => (fc γ).bind fun z => match y with
    | .str k => .ok ((lookK es k).getD z)
    | _ => .no
  | _ => .no
theorem j_get (hu : X.A.units + 1 < cLine) (ha : JR X W fa a) (hb : J X W fb b) (hc : J X W fc c) (m : M2 X a "get" apos b c cpos := by exact ⟨rfl, rfl, rfl, rfl⟩) : J X W (bGet fa fb fc) (.Call (.Attribute a "get" apos) [b, c] [] cpos) :=
  ⟨PE.imp (pe_dget2 hu ha.pe hb.pe hc.pe m) fun σ H Q ⟨F, γ, r, o⟩ => by
    refine go1 (Z := fun z => Out (PV X.K F H) F H (fun c H' => W c σ H') z Q) r o (fun _ z => z) (fun z => z) fun dx x F1 H1 n1 r1 p1 o1 => ?_
    cases dx <;> first | exact o1.elim | skip
    rename_i es
    obtain ⟨d, kvs, rfl, s1, q1⟩ := p1.dic r1.emb
    refine ⟨d, rfl, .inl ⟨kvs, s1⟩, ?_⟩
    refine go1v (Z := fun z => Out (PV X.K F H) F H (fun c H' => W c σ H') z Q) r1 o1 (fun _ z F' H' n => z F' H' (n1.trans n)) (fun z => z) fun dy y F2 H2 n2 r2 p2 o2 => ?_
    refine go1v (Z := fun z => Out (PV X.K F H) F H (fun c H' => W c σ H') z Q) r2 o2 (fun _ z F' H' n => z F' H' ((n1.trans n2).trans n)) (fun z => z) fun dz z F3 H3 n3 r3 p3 o3 => ?_
    cases dy <;> first | exact o3.elim | skip
    rename_i s
    cases p2
    obtain ⟨d', kvs', e', s3, q3⟩ := ((p1.next n2).next n3).dic r3.emb
    cases e'
    refine ⟨_, .inl ⟨kvs', .inr (toS s), s3, rfl, rfl⟩, ?_⟩
    have q := PV.next (Q := Q) o3 ((n1.trans n2).trans n3)
    rcases q3.look s with ⟨z1, z2⟩ | ⟨d1, v1, z1, z2, z3⟩
    · rw [z2]; rw [z1] at q; exact q.here r3.emb p3
    · rw [z2]; rw [z1] at q; exact q.here r3.emb z3⟩
end
/-! ### in -/
/-- s stands somewhere in t -/
def subT (s t : Tx) : Bool := (List.range (t.length + 1)).any fun i => decide (i + s.length ≤ t.length) && ((t.drop i).take s.length == s)
theorem sub_occ (s t : Tx) : (!(Builtin.Str.occurrences (toS t) (toS s) 0 (toS t).length 1).isEmpty) = subT s t := by
  rw [Bool.eq_iff_iff, PySem.StrLaws.found_iff]
  unfold subT
  rw [List.any_eq_true]
  simp only [toS_len, PySem.StrLaws.subAt_eq]
  constructor
  · rintro ⟨i, h1, h2⟩
    exact ⟨i, List.mem_range.mpr (by omega), by simpa using ⟨h1, by simpa [toS] using h2⟩⟩
  · rintro ⟨i, _, h⟩
    rw [Bool.and_eq_true, decide_eq_true_iff] at h
    exact ⟨i, h.1, by simpa [toS] using h.2⟩
def flatD : D → Bool
  | .non => true
  | .bl _ => true
  | .int _ => true
  | .str s => s.all (· < 0x110000)
  | _ => false
def dInB : D → D → R Bool
  | .str s, .str t => .ok (subT s t)
  | .str k, .dic es => .ok (lookK es k).isSome
  | x, .lst xs => if pl 20 x = true ∧ pl 20 (.lst xs) = true then .ok (xs.any fun z => eqv 20 z x) else .no
  | x, .tup xs => if flatD x = true ∧ xs.all flatD = true then .ok (xs.any fun z => eqv 20 z x) else .no
  | _, _ => .no
def dIn (x y : D) : R D := (dInB x y).bind fun b => .ok (.bl b)
def dNotIn (x y : D) : R D := (dInB x y).bind fun b => .ok (.bl (!b))
theorem dInB_ne : ∀ x y c, dInB x y ≠ .ex c := fun x y c => by
  unfold dInB
  split <;> first | (intro h; cases h; done) | (split <;> intro h <;> cases h)
theorem toP_succ : ∀ (n : Nat) (d : D), pl n d = true → toP (n + 1) d = toP n d := by
  intro n
  induction n with
  | zero => intro d h; cases d <;> first | rfl | (cases h; done)
  | succ n ih =>
    intro d h
    cases d <;> first | rfl | (cases h; done) | skip
    · simp only [toP, PyData.list.injEq]
      refine List.map_congr_left fun x hx => ih x (List.all_eq_true.mp h x hx)
    · simp only [toP, PyData.tuple.injEq]
      refine List.map_congr_left fun x hx => ih x (List.all_eq_true.mp h x hx)
theorem pl_succ : ∀ (n : Nat) (d : D), pl n d = true → pl (n + 1) d = true := by
  intro n
  induction n with
  | zero => intro d h; cases d <;> first | rfl | exact h | (cases h; done)
  | succ n ih =>
    intro d h
    cases d <;> first | rfl | exact h | (cases h; done) | skip
    · exact List.all_eq_true.mpr fun x hx => ih x (List.all_eq_true.mp h x hx)
    · exact List.all_eq_true.mpr fun x hx => ih x (List.all_eq_true.mp h x hx)
theorem flat_v {K : PySem.W.Frag} {F H : Hp} {d : D} {v : V} (h : flatD d = true) (r : Rep1 K F H d v) : flatV v = true := by
  cases d <;> first | (cases h; done) | skip
  · cases r.non; rfl
  · cases r.bl; rfl
  · cases r.int; rfl
  · cases r.str; rfl
theorem eqV_of {K : PySem.W.Frag} {F H : Hp} {d e : D} {v u : V} (h : flatD d = true) (h2 : flatD e = true) (r : Rep1 K F H d v) (r2 : Rep1 K F H e u) : eqV v u = eqv 20 d e := by
  cases d <;> first | (cases h; done) | skip
  · cases r.non
    cases e <;> first | (cases h2; done) | skip
    · cases r2.non; rfl
    · cases r2.bl; rfl
    · cases r2.int; rfl
    · cases r2.str; rfl
  · cases r.bl
    cases e <;> first | (cases h2; done) | skip
    · cases r2.non; rfl
    · cases r2.bl; rfl
    · cases r2.int; rfl
    · cases r2.str; rfl
  · cases r.int
    cases e <;> first | (cases h2; done) | skip
    · cases r2.non; rfl
    · cases r2.bl; rfl
    · cases r2.int; rfl
    · cases r2.str; rfl
  · cases r.str
    cases e <;> first | (cases h2; done) | skip
    · cases r2.non; rfl
    · cases r2.bl; rfl
    · cases r2.int; rfl
    · cases r2.str; exact toS_beq _ _
theorem inV_of {K : PySem.W.Frag} {F H : Hp} {x : D} {v : V} (h : flatD x = true) (r : Rep1 K F H x v) : ∀ {xs : List D} {vs : List V}, xs.all flatD = true → Reps K F xs vs → inV v vs = xs.any (fun z => eqv 20 z x) ∧ vs.all flatV = true := by
  intro xs
  induction xs with
  | nil => intro vs _ q; cases q; exact ⟨rfl, rfl⟩
  | cons y ys ih =>
    intro vs ha q
    rw [List.all_cons, Bool.and_eq_true] at ha
    cases q with
    | cons q1 q2 =>
      obtain ⟨a, b⟩ := ih ha.2 q2
      refine ⟨?_, by rw [List.all_cons, flat_v (H := H) ha.1 (.inl q1), b]; rfl⟩
      unfold inV at a ⊢
      rw [List.any_cons, List.any_cons, a, eqV_of ha.1 h (.inl q1) r]
theorem in_run {X : Cx} {pins : List (Addr × Obj)} {s : Shared} {σ : L2.St} {H : Hp} {x y : V} {v u : Value} {F : Hp} {dx dy : D} {b : Bool} (hu : X.A.units + 65 < cLine) (neg : Bool) {Q : VK} (I : Inv X pins σ H s) (rx : RelV x v) (ry : RelV y u) (e : Emb F H) (r1 : Rep1 X.K F H dx x) (r2 : Rep1 X.K F H dy y)
    (hg : dInB dx dy = .ok b) (q : Q (.bl (if neg then !b else b)) H) : wpAny (model X.prog X.w) X.A (compareOp (if neg then .NotIn else .In) v u) (EP X pins σ Q) X.xe s := by
  unfold dInB at hg
  split at hg
  · rename_i s1 t1
    cases hg
    rw [← sub_occ] at q
    cases neg with
    | true => exact op_notin_str pins s σ H x y v u Q I rx ry ⟨_, _, r1.str, r2.str, q⟩
    | false => exact op_in_str pins s σ H x y v u Q I rx ry ⟨_, _, r1.str, r2.str, q⟩
  · rename_i k es
    cases hg
    obtain ⟨a, kvs, rfl, s1, p1⟩ := r2.dic e
    cases ry
    have ex := r1.str
    subst ex
    have hl : (lookK es k).isSome = (valV kvs (Sum.inr (toS k) : Key)).isSome := by
      rcases p1.look k with ⟨z1, z2⟩ | ⟨d1, v1, z1, z2, z3⟩
      · rw [z1, z2]; rfl
      · rw [z1, z2]; rfl
    rw [hl] at q
    have g : DGet H a (.str (toS k)) (valV kvs (Sum.inr (toS k) : Key)) := .inl ⟨kvs, .inr (toS k), s1, rfl, rfl⟩
    cases neg with
    | true => exact d_notIn (by omega) I g rx fun s3 I3 => ⟨.bl (!(valV kvs (Sum.inr (toS k) : Key)).isSome), H, I3, rfl, q⟩
    | false => exact d_in (by omega) I g rx fun s3 I3 => ⟨.bl (valV kvs (Sum.inr (toS k) : Key)).isSome, H, I3, rfl, q⟩
  · rename_i _ _ xs
    split at hg
    · rename_i hp
      cases hg
      have ha : xs.all (pl 19) = true := hp.2
      have e1 : ∀ z ∈ xs, PyData.eqv (toP 19 z) (toP 20 dx) = eqv 20 z dx := fun z hz => by
        have hz' := List.all_eq_true.mp ha z hz
        rw [← toP_succ 19 z hz', eqv_toP 20 z dx (pl_succ 19 z hz') hp.1]
      have e2 : ((xs.map (toP 19)).any fun z => PyData.eqv z (toP 20 dx)) = xs.any fun z => eqv 20 z dx := by
        rw [List.any_map]
        clear q r2 hp ha
        induction xs with
        | nil => rfl
        | cons z zs ih =>
          rw [List.any_cons, List.any_cons, ih (fun z hz => e1 z (List.mem_cons_of_mem _ hz))]
          congr 1
          exact e1 z List.mem_cons_self
      have d1 := dp_of1 e hp.1 r1
      have d2 := dp_of1 e hp.2 r2
      rw [← e2] at q
      cases neg with
      | true => exact op_notInD hu pins s σ H x y v u Q I rx ry ⟨_, _, d1, d2, toP_shaped hp.1, toP_shaped hp.2, q⟩
      | false => exact op_inD hu pins s σ H x y v u Q I rx ry ⟨_, _, d1, d2, toP_shaped hp.1, toP_shaped hp.2, q⟩
    · cases hg
  · rename_i _ _ xs
    split at hg
    · rename_i hp
      cases hg
      obtain ⟨a, vs, rfl, s1, p1⟩ := r2.tup e
      obtain ⟨i1, i2⟩ := inV_of hp.1 r1 hp.2 p1
      rw [← i1] at q
      cases neg with
      | true => exact op_notIn_seq pins s σ H x _ v u Q I rx ry ⟨a, vs, rfl, .inr s1, flat_v hp.1 r1, i2, q⟩
      | false => exact op_in_seq pins s σ H x _ v u Q I rx ry ⟨a, vs, rfl, .inr s1, flat_v hp.1 r1, i2, q⟩
    · cases hg
  · cases hg
theorem o_in {X : Cx} (hu : X.A.units + 65 < cLine) : OpD X (compareOp .In) dIn := by
  refine ⟨fun pins s σ H x y v u Q I rx ry ⟨F, dx, dy, d, e, r1, r2, hg, q⟩ => ?_, fun x y c => ?_⟩
  · unfold dIn at hg
    cases e1 : dInB dx dy with
    | ok b => rw [e1] at hg; cases hg; exact in_run hu false I rx ry e r1 r2 e1 (q.here e (.bl _))
    | ex c => exact absurd e1 (dInB_ne _ _ _)
    | no => rw [e1] at hg; cases hg
  · unfold dIn
    cases e1 : dInB x y with
    | ok b => intro h; cases h
    | ex c => exact absurd e1 (dInB_ne _ _ _)
    | no => intro h; cases h
theorem o_notin {X : Cx} (hu : X.A.units + 65 < cLine) : OpD X (compareOp .NotIn) dNotIn := by
  refine ⟨fun pins s σ H x y v u Q I rx ry ⟨F, dx, dy, d, e, r1, r2, hg, q⟩ => ?_, fun x y c => ?_⟩
  · unfold dNotIn at hg
    cases e1 : dInB dx dy with
    | ok b => rw [e1] at hg; cases hg; exact in_run hu true I rx ry e r1 r2 e1 (q.here e (.bl _))
    | ex c => exact absurd e1 (dInB_ne _ _ _)
    | no => rw [e1] at hg; cases hg
  · unfold dNotIn
    cases e1 : dInB x y with
    | ok b => intro h; cases h
    | ex c => exact absurd e1 (dInB_ne _ _ _)
    | no => intro h; cases h
/-! ### methods of texts -/
section
variable {X : Cx} {W : WN} {fa fb : Ga → R D} {a b : Expr} {cpos apos : Pos}
def b2s (g : Tx → D → R D) (fa fb : Ga → R D) : Ga → R D := fun γ => (fa γ).bind fun x => match x with
  | .str s => (fb γ).bind fun y => g s y
  | _ => .no
theorem j_m1 {id : String} {name : Str} {g : Tx → D → R D} (slot : Slot "str" name id) (ty : typeOf (.builtin id) = pure (.type "method_descriptor"))
    (rule : MtR X id (fun x xs H Q => ∃ F s dy y d, x = .str (toS s) ∧ xs = [y] ∧ Emb F H ∧ Rep1 X.K F H dy y ∧ g s dy = .ok d ∧ PV X.K F H d Q)) (ne : ∀ s y c, g s y ≠ .ex c) (ha : JR X W fa a) (hb : JR X W fb b)
    (hs : starEach [b] X.env = [(false, eval b X.env)] := by rfl) (hbase : attributeBase a name X.env (eval a X.env) = eval a X.env := by rfl) (hline : (apos.endLine == cpos.line) = true := by rfl) : J X W (b2s g fa fb) (.Call (.Attribute a name apos) [b] [] cpos) :=
  ⟨PE.imp (pe_m1 slot ty rule ha.pe hb.pe hs hbase hline) fun σ H Q ⟨F, γ, r, o⟩ => by
    refine go1 (Z := fun z => Out (PV X.K F H) F H (fun c H' => W c σ H') z Q) r o (fun _ z => z) (fun z => z) fun dx x F1 H1 n1 r1 p1 o1 => ?_
    cases dx <;> first | exact o1.elim | skip
    rename_i z
    refine ⟨⟨_, p1.str⟩, ?_⟩
    refine go1 (Z := fun z => Out (PV X.K F H) F H (fun c H' => W c σ H') z Q) r1 o1 (fun _ z F' H' n => z F' H' (n1.trans n)) (fun z => z) fun dy y F2 H2 n2 r2 p2 o2 => ?_
    cases e : g z dy with
    | ok d => rw [e] at o2; exact ⟨F2, z, dy, y, d, p1.str, rfl, r2.emb, p2, e, PV.next (Q := Q) o2 (n1.trans n2)⟩
    | ex c => exact absurd e (ne _ _ _)
    | no => rw [e] at o2; exact o2.elim⟩
/-- sep.join -/
def joinT (s : Tx) : List Tx → Tx
  | [] => []
  | [x] => x
  | x :: y :: r => x ++ (s ++ joinT s (y :: r))
def dJoin : Tx → D → R D
  | s, .lst xs => (o2r (asTxs xs)).bind fun ts => if (ts.map (·.length)).sum + ts.length * s.length ≤ lim then .ok (.str (joinT s ts)) else .no
  | _, _ => .no
theorem joinT_eq (s : Tx) : ∀ ts : List Tx, Str.join (toS s) (ts.map toS) = toS (joinT s ts) := by
  intro ts
  apply TL.ext_tl
  rw [TL.tl_join]
  have e : (ts.map toS).map TL.tl = ts := by
    rw [List.map_map]
    have : (TL.tl ∘ toS) = id := by funext y; simp [TL.tl, toS]
    rw [this, List.map_id]
  rw [e]
  show TL.joinL s ts = joinT s ts
  clear e
  induction ts with
  | nil => rfl
  | cons x r ih =>
    cases r with
    | nil => simp [TL.joinL, joinT]
    | cons y r => simp only [TL.joinL, joinT] at ih ⊢; rw [ih]
theorem j_join (ha : JR X W fa a) (hb : JR X W fb b) (hs : starEach [b] X.env = [(false, eval b X.env)] := by rfl) (hbase : attributeBase a "join" X.env (eval a X.env) = eval a X.env := by rfl) (hline : (apos.endLine == cpos.line) = true := by rfl) :
    J X W (b2s dJoin fa fb) (.Call (.Attribute a "join" apos) [b] [] cpos) :=
  j_m1 PySem.F.slot_str_join PySem.F.type_str_join (fun pins s σ H x xs v us Q I rx rs ⟨F, z, dy, y, d, e1, e2, e, r2, hg, q⟩ => by
    cases dy <;> first | (cases hg; done) | skip
    rename_i ts
    simp only [dJoin, o2r] at hg
    split at hg
    · rename_i ks hk
      have := asTxs_of hk
      subst this
      simp only [R.bind] at hg
      split at hg
      · rename_i hl
        cases hg
        obtain ⟨p, vs, rfl, s1, p1⟩ := r2.lst e
        rw [p1.txs] at s1
        refine mt_join pins s σ H x xs v us Q I rx rs ⟨_, p, _, e1, e2, .inl s1, ?_, ?_⟩
        · have hm : (List.map (fun x => x.length) (ks.map toS)) = ks.map (·.length) := by rw [List.map_map]; exact List.map_congr_left fun k _ => toS_len k
          rw [hm, List.length_map, toS_len]
          unfold lim at hl; omega
        · rw [TL.join_eq, joinT_eq]; exact q.here e (.str _)
      · cases hg
    · cases hg) (fun s y c => by
      cases y <;> simp only [dJoin, o2r] <;> first | (intro h; cases h; done) | skip
      split <;> simp only [R.bind] <;> first | (intro h; cases h; done) | (split <;> intro h <;> cases h)) ha hb hs hbase hline
end
end KN
/-! KnI: constants of the module, dict(), tuples backwards -/
namespace KN
open PySem PySem.Spec PyProof.Rows L2
theorem hu65_of {A : Around} {k : Nat} (hr : Room k A) : A.units + 65 < cLine := by have := hr.un; omega
theorem takes_W0 {X : Cx} {cl : Cl} : Takes X (VW cl W0) := takes0.imp fun c d σ H ⟨_, _, _, h⟩ => h
section
variable {X : Cx} {W : WN} {f fa fb fc : Ga → R D} {a b c e : Expr} {pos : Pos}
theorem j_globI {x : Str} {i : Int} (hm : ∃ t, X.mg x = some (.int i t)) (hg : Gl X x := by rfl) (hd : (x == ("__debug__" : Str)) = false := by decide) : J X W (bC (.int i)) (.Name x pos) := by
  obtain ⟨t, hm⟩ := hm
  exact j_glob (v := .int i) hg hm ⟨t, rfl⟩ (fun _ => .int i) hd
theorem j_globS {x : Str} {s : Tx} (hm : ∃ t, X.mg x = some (.str (toS s) t)) (hg : Gl X x := by rfl) (hd : (x == ("__debug__" : Str)) = false := by decide) : J X W (bC (.str s)) (.Name x pos) := by
  obtain ⟨t, hm⟩ := hm
  exact j_glob (v := .str (toS s)) hg hm ⟨t, rfl⟩ (fun _ => .str s) hd
end
/-! ### dict of a list of pairs -/
def asPrs : List D → Option (List (Tx × D))
  | [] => some []
  | .tup [.str k, d] :: xs => (asPrs xs).map ((k, d) :: ·)
  | _ :: _ => none
@[simp] theorem asPrs_map (ps : List (Tx × D)) : asPrs (ps.map fun p => D.tup [.str p.1, p.2]) = some ps := by
  induction ps with
  | nil => rfl
  | cons p ps ih => simp [asPrs, ih]
/-! ### t[::-1] -/
end KN
/-! KnJ: dicts of dicts -/
namespace KN
open PySem PySem.Spec PyProof.Rows L2
abbrev Tb := List (Tx × List (Tx × D))
def lookN : Tb → Tx → Option (List (Tx × D))
  | [], _ => none
  | (k, r) :: es, x => if k = x then some r else lookN es x
def putN : Tb → Tx → List (Tx × D) → Tb
  | [], x, r => [(x, r)]
  | (k, r0) :: es, x, r => if k = x then (k, r) :: es else (k, r0) :: putN es x r
theorem putK_mem {kvs : List (Key × V)} {k : Key} {v : V} {p : Key × V} (h : p ∈ putK kvs k v) : p ∈ kvs ∨ p = (k, v) := by
  unfold putK at h
  split at h
  · obtain ⟨q, hq, e⟩ := List.mem_map.mp h
    split at e
    · rename_i z; subst e; right; rw [← z]
    · subst e; exact .inl hq
  · rcases List.mem_append.mp h with h | h
    · exact .inl h
    · exact .inr (List.mem_singleton.mp h)
theorem putK_pos {kvs : List (Key × V)} {k : Key} {v v0 : V} (h : ∀ p ∈ kvs, p.1 ≠ k) : putK ((k, v0) :: kvs) k v = (k, v) :: kvs := by
  unfold putK
  have : (((k, v0) :: kvs).any fun kv => decide (kv.1 = k)) = true := by simp
  rw [if_pos this, List.map_cons, if_pos rfl]
  congr 1
  conv => rhs; rw [← List.map_id kvs]
  exact List.map_congr_left fun p hp => by rw [if_neg (h p hp)]; rfl
theorem putK_neg {kvs : List (Key × V)} {k k' : Key} {v v0 : V} (h : k' ≠ k) : putK ((k', v0) :: kvs) k v = (k', v0) :: putK kvs k v := by
  unfold putK
  rw [List.any_cons]
  have : decide (k' = k) = false := decide_eq_false h
  simp only [this, Bool.false_or]
  split
  · rw [List.map_cons, if_neg h]
  · rfl
section
variable {K : PySem.W.Frag} {F H : Hp} {a : Addr}
theorem OwK.look (c : Tx) : ∀ {es : Tb} {kvs : List (Key × V)}, OwK K F H a es kvs →
    (lookN es c = none ∧ valV kvs (Sum.inr (toS c)) = none) ∨ ∃ row r kv, lookN es c = some row ∧ valV kvs (Sum.inr (toS c)) = some (.ref r) ∧ r ≠ a ∧ F r = none ∧ H r = some (.dK kv) ∧ RepK K F row kv ∧ ((Sum.inr (toS c) : Key), V.ref r) ∈ kvs
  | [], [], _ => .inl ⟨rfl, rfl⟩
  | (k, row) :: es, (k', v) :: kvs, ⟨e, ⟨r, kv, e1, e2, e3, e4, e5, e6⟩, o⟩ => by
    subst e1
    subst e
    by_cases q : k = c
    · subst q
      exact .inr ⟨row, r, kv, by simp [lookN], valV_pos rfl, e2, e3, e4, e5, List.mem_cons_self⟩
    · have q' : ¬ (Sum.inr (toS k) : Key) = Sum.inr (toS c) := fun z => q (keyS_iff.mp z)
      rcases o.look c with ⟨h1, h2⟩ | ⟨row', r', kv', h1, h2, h3, h4, h5, h6, h7⟩
      · exact .inl ⟨by rw [lookN, if_neg q]; exact h1, by rw [valV_neg q']; exact h2⟩
      · exact .inr ⟨row', r', kv', by rw [lookN, if_neg q]; exact h1, by rw [valV_neg q']; exact h2, h3, h4, h5, h6, List.mem_cons_of_mem _ h7⟩
  | [], _ :: _, h => h.elim
  | _ :: _, [], h => h.elim
theorem OwK.len : ∀ {es : Tb} {kvs : List (Key × V)}, OwK K F H a es kvs → es.length = kvs.length
  | [], [], _ => rfl
  | (k, row) :: es, (k', v) :: kvs, ⟨e, _, o⟩ => by simp [o.len]
  | [], _ :: _, h => h.elim
  | _ :: _, [], h => h.elim
theorem mem_of_val {kvs : List (Key × V)} {k : Key} {v : V} (h : valV kvs k = some v) : ∃ p ∈ kvs, p.2 = v := by
  unfold valV at h
  cases e : kvs.find? fun kv => decide (kv.1 = k) with
  | none => rw [e] at h; cases h
  | some p => rw [e] at h; cases h; exact ⟨p, List.mem_of_find?_eq_some e, rfl⟩
theorem OwK.put {F2 H2 : Hp} (c : Tx) {row : List (Tx × D)} {q : Addr} {kv : List (Key × V)} (f : Same F F2) (q1 : q ≠ a) (q2 : F2 q = none) (q3 : H2 q = some (.dK kv)) (q4 : RepK K F2 row kv) : ∀ {es : Tb} {kvs : List (Key × V)}, OwK K F H a es kvs →
    (∀ k b u, (k, V.ref b) ∈ kvs → b ≠ q → F b = none → H b = some u → H2 b = some u ∧ F2 b = none) →
    (valV kvs (Sum.inr (toS c)) = some (.ref q) ∨ (valV kvs (Sum.inr (toS c)) = none ∧ ∀ p ∈ kvs, p.2 ≠ .ref q)) → OwK K F2 H2 a (putN es c row) (putK kvs (Sum.inr (toS c)) (.ref q))
  | [], [], _, _, h => ⟨rfl, ⟨q, kv, rfl, q1, q2, q3, q4, fun p hp => nomatch hp⟩, trivial⟩
  | (k, row0) :: es, (k', v) :: kvs, ⟨e, ⟨r, kv0, e1, e2, e3, e4, e5, e6⟩, o⟩, keep, h => by
    subst e1
    subst e
    by_cases z : k = c
    · subst z
      have hv : valV ((Sum.inr (toS k), V.ref r) :: kvs) (Sum.inr (toS k)) = some (.ref r) := valV_pos rfl
      have hq : r = q := by
        rcases h with h | ⟨h, _⟩
        · rw [hv] at h; cases h; rfl
        · rw [hv] at h; cases h
      subst hq
      rw [putK_pos fun p hp => (e6 p hp).1]
      have : putN ((k, row0) :: es) k row = (k, row) :: es := by simp [putN]
      rw [this]
      refine ⟨rfl, ⟨r, kv, rfl, q1, q2, q3, q4, e6⟩, o.next f fun k' b u m h1 h2 => keep k' b u (List.mem_cons_of_mem _ m) ?_ h1 h2⟩
      rintro rfl
      exact (e6 _ m).2 rfl
    · have z' : ¬ (Sum.inr (toS k) : Key) = Sum.inr (toS c) := fun y => z (keyS_iff.mp y)
      rw [putK_neg z']
      have : putN ((k, row0) :: es) c row = (k, row0) :: putN es c row := by simp [putN, z]
      rw [this]
      rw [valV_neg z'] at h
      have rq : r ≠ q := by
        rintro rfl
        rcases h with h | ⟨_, h⟩
        · obtain ⟨i, hi, he⟩ := mem_of_val h
          exact (e6 _ hi).2 he
        · exact h _ List.mem_cons_self rfl
      obtain ⟨y1, y2⟩ := keep _ r _ List.mem_cons_self rq e3 e4
      refine ⟨rfl, ⟨r, kv0, rfl, e2, y2, y1, e5.mono f, fun p hp => ?_⟩, o.put c f q1 q2 q3 q4 (fun k' b u m => keep k' b u (List.mem_cons_of_mem _ m)) ?_⟩
      · rcases putK_mem hp with hp | rfl
        · exact e6 p hp
        · exact ⟨fun y => z' y.symm, fun y => by cases y; exact rq rfl⟩
      · rcases h with h | ⟨h1, h2⟩
        · exact .inl h
        · exact .inr ⟨h1, fun p hp => h2 p (List.mem_cons_of_mem _ hp)⟩
  | [], _ :: _, h, _, _ => h.elim
  | _ :: _, [], h, _, _ => h.elim
/-- one row of one's own table is another -/
theorem RB.putRow {B : Bs} {γ : Ga} {σ : L2.St} (r : RB K B F γ σ H) {i : Nat} {es : Tb} (e : γ[i]? = some (.nd es)) {kvs : List (Key × V)} (ea : σ[i]? = some (some (.ref a))) (ek : H a = some (.dK kvs)) {c : Tx} {row : List (Tx × D)} {q : Addr} {kv : List (Key × V)} {H1 : Hp}
    (n : Nxt F H F H1) (hq : (valV kvs (Sum.inr (toS c)) = some (.ref q)) ∨ (valV kvs (Sum.inr (toS c)) = none ∧ H q = none)) (rp : RepK K F row kv) :
    RB K B F (γ.set i (.nd (putN es c row))) σ (upd (upd H1 q (.dK kv)) a (.dK (putK kvs (Sum.inr (toS c)) (.ref q)))) := by
  obtain ⟨a', kvs', e1, e2, e3, e4⟩ := r.rs.sl i _ e
  rw [ea] at e1; cases e1
  rw [ek] at e3; cases e3
  have qI : q ≠ a ∧ F q = none ∧ B.H0 q = none ∧ (Inn H (.nd es) σ[i]? q ∨ H q = none) := by
    rcases hq with h | ⟨_, h⟩
    · rcases e4.look c with ⟨_, z⟩ | ⟨row', r', kv', h1, h2, h3, h4, h5, h6, h7⟩
      · rw [h] at z; cases z
      · rw [h] at h2; cases h2
        exact ⟨h3, h4, r.ow i _ q e ⟨a, kvs, ea, ek, .inr ⟨_, h7⟩⟩, .inl ⟨a, kvs, ea, ek, .inr ⟨_, h7⟩⟩⟩
    · exact ⟨fun z => (by rw [z, ek] at h; cases h), r.rs.emb.free h, r.fi.free h, .inr h⟩
  obtain ⟨q1, q2, q3, q4⟩ := qI
  have a0 := r.ow i _ a e ⟨a, kvs, ea, ek, .inl rfl⟩
  refine r.chg e (s1 := .nd _) ⟨a, _, ea, e2, upd_same, OwK.put c (.refl _) q1 q2 ?_ rp e4 (fun k b u m nb fb hb => ⟨?_, fb⟩) ?_⟩ (((r.fi.next n).chg q2 q3).chg e2 a0) (.refl _) (fun b u hb fb nb => ⟨?_, fb⟩) fun b h => ?_
  · rw [upd_ne q1]; exact upd_same
  · obtain ⟨r', kv', w1, w2, w3, w4⟩ := e4.row m
    cases w1
    rw [upd_ne w2, upd_ne nb]; exact n.h _ _ hb
  · rcases hq with h | ⟨h1, h2⟩
    · exact .inl h
    · refine .inr ⟨h1, fun p hp z => ?_⟩
      obtain ⟨r', kv', w1, w2, w3, w4⟩ := e4.row (k := p.1) (v := p.2) hp
      rw [w1] at z; cases z
      rw [h2] at w4; cases w4
  · have n1 : b ≠ a := by rintro rfl; exact nb ⟨b, kvs, ea, ek, .inl rfl⟩
    have n2 : b ≠ q := by
      rintro rfl
      rcases q4 with h | h
      · exact nb h
      · rw [hb] at h; cases h
    rw [upd_ne n1, upd_ne n2]; exact n.h _ _ hb
  · obtain ⟨a2, kvs2, w1, w2, w3⟩ := h
    rw [ea] at w1; cases w1
    rw [upd_same] at w2; cases w2
    rcases w3 with rfl | ⟨k, m⟩
    · exact .inl ⟨b, kvs, ea, ek, .inl rfl⟩
    · rcases putK_mem m with m | m
      · exact .inl ⟨a, kvs, ea, ek, .inr ⟨k, m⟩⟩
      · cases m; exact q4
end
def fNd0 (i : Nat) : Ga → R Fl := fun γ => .ok (.nx (γ.set i (.nd [])))
def fBump (i r c l : Nat) : Ga → R Fl := fun γ => match γ[i]?, γ[c]?, γ[l]? with
  | some (.nd es), some (.va (.str ck)), some (.va (.str lk)) => match (lookK ((lookN es ck).getD []) lk).getD (.int 0) with
    | .int n => if (es.length < lim ∧ ((lookN es ck).getD []).length < lim) ∧ r < γ.length then .ok (.nx ((γ.set i (.nd (putN es ck (putD ((lookN es ck).getD []) lk (.int (n + 1)))))).set r .un)) else .no
    | _ => .no
  | _, _, _ => .no
section
variable {X : Cx} {W : WN}
theorem js_nd0 (i : Nat) {x : Str} {pos pos' p2 : Pos} (hN : X.N.Nodup) (hi : X.N[i]? = some x := by rfl) (hx : Loc X.env.scope x := by first | exact .inl rfl | exact .inr rfl) (hs : swapsWith (.Dict [] [] p2) (some (.Name x pos')) pos.line X.env = pure false := by rfl) (hf : X.fn x = true ∨ X.env.scope.names.lookup x = some .local := by first | exact .inl rfl | exact .inr rfl) :
    JS X W (fNd0 i) (.Assign [.Name x pos'] (.Dict [] [] p2) pos) := ⟨PS.imp (ps_set hN hi hx pe_dnewK hs hf) fun E σ H ⟨B, F, γ, r, o⟩ => fun p hp => by
  have n := Nxt.laid r.rs.emb hp (.dK [])
  refine o F _ _ ((r.next n).put i (s0 := .nd []) (x0 := some (.ref p)) ⟨p, [], rfl, r.rs.emb.free hp, upd_same, trivial⟩ (fun j s b nj e h1 h2 => ?_) fun b h => ?_)
  · have q := h1.back (r.rs.sl j s e) fun b u _ z => n.h _ _ z
    obtain ⟨_, u, hu⟩ := q.have (r.rs.sl j s e)
    obtain ⟨a, kvs, w1, w2, w3⟩ := h2
    cases w1
    rw [upd_same] at w2; cases w2
    rcases w3 with rfl | ⟨_, m⟩
    · rw [hp] at hu; cases hu
    · cases m
  · obtain ⟨a, kvs, w1, w2, w3⟩ := h
    cases w1
    rw [upd_same] at w2; cases w2
    rcases w3 with rfl | ⟨_, m⟩
    · exact r.fi.free hp
    · cases m⟩
theorem va_at {K : PySem.W.Frag} {F H : Hp} {γ : Ga} {σ : L2.St} (r : RS K F γ σ H) {i : Nat} {s : Tx} (e : γ[i]? = some (.va (.str s))) : σ[i]? = some (some (.str (toS s))) := by
  obtain ⟨v, e1, p⟩ := r.sl i _ e
  cases p; exact e1
/-- row = found.get(context, {}); row[letter] = row.get(letter, 0) + 1; found[context] = row -/
theorem jss_bump (i r c l : Nat) {fx rx cx lx : Str} {n1 : Nat} {n2 : Nat} {q1 q2 q3 q4 q5 q6 q7 q8 q9 q10 q11 q12 q13 q14 q15 q16 q17 q18 q19 q20 : Pos} (hN : X.N.Nodup) (hu : X.A.units + 1 < cLine) (ir : r ≠ i := by decide) (cr : r ≠ c := by decide) (lr : r ≠ l := by decide)
    (hi : X.N[i]? = some fx := by rfl) (hr : X.N[r]? = some rx := by rfl) (hc : X.N[c]? = some cx := by rfl) (hl : X.N[l]? = some lx := by rfl)
    (vi : Vis X.env.scope fx := by first | exact Or.inl rfl | exact Or.inr (Or.inl rfl) | exact Or.inr (Or.inr rfl)) (vr : Vis X.env.scope rx := by first | exact Or.inl rfl | exact Or.inr (Or.inl rfl) | exact Or.inr (Or.inr rfl))
    (vc : Vis X.env.scope cx := by first | exact Or.inl rfl | exact Or.inr (Or.inl rfl) | exact Or.inr (Or.inr rfl)) (vl : Vis X.env.scope lx := by first | exact Or.inl rfl | exact Or.inr (Or.inl rfl) | exact Or.inr (Or.inr rfl))
    (di : (fx == ("__debug__" : Str)) = false := by decide) (dr : (rx == ("__debug__" : Str)) = false := by decide) (dc : (cx == ("__debug__" : Str)) = false := by decide) (dl : (lx == ("__debug__" : Str)) = false := by decide)
    (ci : (fx == ("__classdict__" : Str)) = false := by decide) (cr' : (rx == ("__classdict__" : Str)) = false := by decide) (cc : (cx == ("__classdict__" : Str)) = false := by decide) (cl : (lx == ("__classdict__" : Str)) = false := by decide)
    (hx : Loc X.env.scope rx := by first | exact .inl rfl | exact .inr rfl) (hf : X.fn rx = true ∨ X.env.scope.names.lookup rx = some .local := by first | exact .inl rfl | exact .inr rfl)
    (s1 : swapsWith (.Call (.Attribute (.Name fx q1) "get" q2) [.Name cx q3, .Dict [] [] q4] [] q5) (some (.Name rx q6)) q7.line X.env = pure false := by rfl)
    (s2 : swapsWith (.BinOp (.Call (.Attribute (.Name rx q8) "get" q9) [.Name lx q10, .Constant (.int 0) n1 q11] [] q12) .Add (.Constant (.int 1) n2 q13) q14) (some (.Subscript (.Name rx q15) (.Name lx q16) q17)) q18.line X.env = pure false := by rfl)
    (s3 : swapsWith (.Name rx q19) (some (.Subscript (.Name fx q20) (.Name cx q1') q2')) q3'.line X.env = pure false := by rfl)
    (m1 : M2 X (.Name fx q1) "get" q2 (.Name cx q3) (.Dict [] [] q4) q5 := by exact ⟨rfl, rfl, rfl, rfl⟩)
    (m2 : M2 X (.Name rx q8) "get" q9 (.Name lx q10) (.Constant (.int 0) n1 q11) q12 := by exact ⟨rfl, rfl, rfl, rfl⟩) :
    JSs X W (fBump i r c l) [.Assign [.Name rx q6] (.Call (.Attribute (.Name fx q1) "get" q2) [.Name cx q3, .Dict [] [] q4] [] q5) q7,
      .Assign [.Subscript (.Name rx q15) (.Name lx q16) q17] (.BinOp (.Call (.Attribute (.Name rx q8) "get" q9) [.Name lx q10, .Constant (.int 0) n1 q11] [] q12) .Add (.Constant (.int 1) n2 q13) q14) q18,
      .Assign [.Subscript (.Name fx q20) (.Name cx q1') q2'] (.Name rx q19) q3'] :=
  ⟨PSs.imp (pss_cons (ps_set hN hr hx (pe_dget2 hu (pe_var hi vi di ci) (pe_var hc vc dc cc) pe_dnewK m1) s1 hf) (pss_cons (ps_dput hu (pe_var hr vr dr cr') (pe_var hl vl dl cl) (pe_add (pe_dget2 hu (pe_var hr vr dr cr') (pe_var hl vl dl cl) pe_int m2) pe_int) s2)
      (pss_one (ps_dput hu (pe_var hi vi di ci) (pe_var hc vc dc cc) (pe_var hr vr dr cr') s3)))) fun E σ H ⟨B, F, γ, R, o⟩ => by
    unfold fBump at o
    split at o
    · rename_i es ck lk e1 e2 e3
      split at o
      · rename_i n en
        split at o
        · rename_i hlen'
          obtain ⟨hlen, hgr⟩ := hlen'
          obtain ⟨a, kvs, a1, a2, a3, a4⟩ := R.rs.sl i _ e1
          have c1 := va_at R.rs e2
          have l1 := va_at R.rs e3
          have hσr : r < σ.length := by rw [← R.rs.len]; exact hgr
          have g1 : ∀ {x : Option V} {k : Nat}, r ≠ k → (σ.set r x)[k]? = σ[k]? := fun h => List.getElem?_set_ne h
          have g2 : ∀ {x : Option V}, (σ.set r x)[r]? = some x := List.getElem?_set_self hσr
          refine ⟨_, a1, a, rfl, .inl ⟨kvs, .inl a3⟩, _, c1, fun p hp => ?_⟩
          have nx := Nxt.laid R.rs.emb hp (.dK [])
          have pa : p ≠ a := by rintro rfl; rw [hp] at a3; cases a3
          refine ⟨valV kvs (.inr (toS ck)), .inl ⟨kvs, .inr (toS ck), .inl (nx.h _ _ a3), rfl, rfl⟩, ?_⟩
          -- the row
          have key : ∃ q kv, (valV kvs (.inr (toS ck))).getD (.ref p) = .ref q ∧ (valV kvs (Sum.inr (toS ck)) = some (.ref q) ∨ (valV kvs (Sum.inr (toS ck)) = none ∧ H q = none)) ∧ upd H p (.dK []) q = some (.dK kv) ∧ RepK X.K F ((lookN es ck).getD []) kv ∧ q ≠ a := by
            rcases a4.look ck with ⟨z1, z2⟩ | ⟨row, q, kv, z1, z2, z3, z4, z5, z6, z7⟩
            · refine ⟨p, [], by rw [z2]; rfl, .inr ⟨z2, hp⟩, upd_same, by rw [z1]; exact .nil, pa⟩
            · refine ⟨q, kv, by rw [z2]; rfl, .inl z2, nx.h _ _ z5, by rw [z1]; exact z6, z3⟩
          obtain ⟨q, kv, k1, k2, k3, k4, k5⟩ := key
          rw [k1]
          show tSeq _ _ E (σ.set r (some (.ref q))) (upd H p (.dK []))
          refine ⟨_, g2, q, rfl, .inl ⟨kv, .inl k3⟩, _, (g1 lr).trans l1, valV kv (.inr (toS lk)), .inl ⟨kv, .inr (toS lk), .inl k3, rfl, rfl⟩, ?_⟩
          have hn : (valV kv (.inr (toS lk))).getD (.int 0) = .int n := by
            rcases k4.look lk with ⟨z1, z2⟩ | ⟨d, v, z1, z2, z3⟩
            · rw [z1] at en; cases en; rw [z2]; rfl
            · rw [z1] at en; cases en; cases z3; rw [z2]; rfl
          refine ⟨n, 1, hn, rfl, ?_⟩
          refine ⟨_, g2, _, (g1 lr).trans l1, q, _, rfl, .inl ⟨kv, .inr (toS lk), k3, rfl, by rw [← k4.length]; exact Nat.lt_trans hlen.2 lim_lt, rfl⟩, ?_⟩
          refine ⟨_, g2, _, (g1 ir).trans a1, _, (g1 cr).trans c1, a, _, rfl, .inl ⟨kvs, .inr (toS ck), ?_, rfl, by rw [← a4.len]; exact Nat.lt_trans hlen.1 lim_lt, rfl⟩, ?_⟩
          · rw [upd_ne (Ne.symm k5)]; exact nx.h _ _ a3
          · exact o F _ _ ((R.putRow e1 a1 a3 nx k2 (k4.put lk (.int (n + 1)))).un r _)
        · exact o.elim
      · exact o.elim
    · exact o.elim⟩
end
end KN
/-! KnK: sorted lists of tuples -/
namespace KN
open PySem PySem.Spec PyProof.Rows L2
open PyProof.Rows.G (tupKeyC tupKindC isTupObj)
abbrev Ik := Int ⊕ Tx
def unI : Ik → D
  | .inl i => .int i
  | .inr s => .str s
def unT (k : List Ik) : D := .tup (k.map unI)
def asI : List D → Option (List Ik)
  | [] => some []
  | .int i :: xs => (asI xs).map (.inl i :: ·)
  | .str s :: xs => (asI xs).map (.inr s :: ·)
  | _ :: _ => none
def asTs : List D → Option (List (List Ik))
  | [] => some []
  | .tup ys :: xs => (asI ys).bind fun k => (asTs xs).map (k :: ·)
  | _ :: _ => none
theorem asI_of {xs : List D} {k : List Ik} (h : asI xs = some k) : xs = k.map unI := by
  induction xs generalizing k with
  | nil => cases h; rfl
  | cons x xs ih =>
    cases x <;> simp only [asI] at h <;> first | (cases h; done) | skip
    all_goals
      cases e : asI xs with
      | none => rw [e] at h; cases h
      | some ms => rw [e] at h; cases h; rw [ih e]; rfl
@[simp] theorem asI_map (k : List Ik) : asI (k.map unI) = some k := by
  induction k with
  | nil => rfl
  | cons x k ih => cases x <;> simp [asI, unI, ih]
theorem asTs_of {xs : List D} {ks : List (List Ik)} (h : asTs xs = some ks) : xs = ks.map unT := by
  induction xs generalizing ks with
  | nil => cases h; rfl
  | cons x xs ih =>
    cases x <;> simp only [asTs] at h <;> first | (cases h; done) | skip
    rename_i ys
    cases e : asI ys with
    | none => rw [e] at h; cases h
    | some k =>
      rw [e] at h
      cases e2 : asTs xs with
      | none => rw [e2] at h; cases h
      | some ms => rw [e2] at h; cases h; rw [ih e2, asI_of e]; rfl
@[simp] theorem asTs_map (ks : List (List Ik)) : asTs (ks.map unT) = some ks := by
  induction ks with
  | nil => rfl
  | cons k ks ih => simp [asTs, unT, ih]
def leK (a b : List Ik) : Bool := !(lexLt itemOrd b a)
def sortK (l : List (List Ik)) : List (List Ik) := l.mergeSort leK
theorem leK_total (a b : List Ik) : (leK a b || leK b a) = true := by
  unfold leK
  cases h : lexLt itemOrd b a with
  | false => rfl
  | true =>
    cases k : lexLt itemOrd a b with
    | false => rfl
    | true => have := lex_trans (O := itemOrd) _ _ _ h k; rw [lex_irrefl] at this; cases this
theorem leK_trans (a b c : List Ik) : leK a b = true → leK b c = true → leK a c = true := by
  unfold leK
  simp only [Bool.not_eq_true']
  intro h k
  cases z : lexLt itemOrd c a with
  | false => rfl
  | true =>
    rcases lex_negTrans (O := itemOrd) c b a z with y | y
    · rw [k] at y; cases y
    · rw [h] at y; cases y
theorem leK_anti {a b : List Ik} (h : leK a b = true) (k : leK b a = true) : a = b := by
  unfold leK at h k
  simp only [Bool.not_eq_true'] at h k
  exact lex_total (O := itemOrd) a b k h
theorem sortK_perm (l : List (List Ik)) : (sortK l).Perm l := List.mergeSort_perm _ _
theorem sortK_pw (l : List (List Ik)) : (sortK l).Pairwise (fun a b => leK a b = true) := List.pairwise_mergeSort leK_trans leK_total l
/-- all of one shape, and not empty -/
def okK : List (List Ik) → Bool
  | [] => true
  | k :: ks => !k.isEmpty && ks.all fun k' => (k'.map Sum.isRight) == k.map Sum.isRight
def shp (k : List Ik) (i : Nat) : Bool := (k.map Sum.isRight)[i]?.getD false
def vIt : Ik → V
  | .inl i => .int i
  | .inr s => .str (toS s)
theorem items_of {shape : Nat → Bool} : ∀ (k : List Ik) (i : Nat) (its : List Value), Vals (k.map vIt) its → (∀ j x, k[j]? = some x → shape (i + j) = x.isRight) → tupItems shape i its = some k
  | [], _, _, r, _ => by cases r; rfl
  | x :: k, i, _, r, h => by
    cases r with
    | cons r1 r2 =>
      have h0 := h 0 x rfl
      have ih := items_of k (i + 1) _ r2 fun j y e => by
        have := h (j + 1) y (by simpa using e)
        rw [show i + 1 + j = i + (j + 1) by omega]; exact this
      cases x with
      | inl n =>
        obtain ⟨t, rfl⟩ := r1
        have h0 : shape i = false := by simpa using h0
        simp [tupItems, h0, ih]
      | inr s =>
        obtain ⟨t, rfl⟩ := r1
        have h0 : shape i = true := by simpa using h0
        simp [tupItems, h0, ih, toS]
theorem paired_perm {α β : Type} {R : α → β → Prop} {us its : List β} (p : us.Perm its) : ∀ {ks : List α}, Paired R ks its → ∃ ks', ks'.Perm ks ∧ Paired R ks' us := by
  induction p with
  | nil => intro ks h; exact ⟨ks, .refl _, h⟩
  | cons x p ih =>
    intro ks h
    cases h with
    | cons h1 h2 =>
      obtain ⟨ks', a, b⟩ := ih h2
      exact ⟨_ :: ks', a.cons _, .cons h1 b⟩
  | swap x y l =>
    intro ks h
    cases h with
    | cons h1 h2 => cases h2 with | cons h3 h4 => exact ⟨_, .swap _ _ _, .cons h3 (.cons h1 h4)⟩
  | trans p q ih1 ih2 =>
    intro ks h
    obtain ⟨k1, a, b⟩ := ih2 h
    obtain ⟨k2, c, d⟩ := ih1 b
    exact ⟨k2, c.trans a, d⟩
theorem paired_get {α β : Type} {R : α → β → Prop} {xs : List α} {ys : List β} (h : Paired R xs ys) {i : Nat} {x : α} (e : xs[i]? = some x) : ∃ y, ys[i]? = some y ∧ R x y := by
  induction h generalizing i with
  | nil => simp at e
  | cons h1 _ ih =>
    cases i with
    | zero => simp at e; subst e; exact ⟨_, rfl, h1⟩
    | succ i => simp at e; simpa using ih e
theorem Reps.its {K : PySem.W.Frag} {F : Hp} : ∀ {k : List Ik} {vs : List V}, Reps K F (k.map unI) vs → vs = k.map vIt
  | [], _, h => by cases h; rfl
  | x :: k, _, h => by
    cases h with
    | cons h1 h2 =>
      rw [Reps.its h2]
      cases x <;> cases h1 <;> rfl
theorem reps_its {K : PySem.W.Frag} {F : Hp} : ∀ k : List Ik, Reps K F (k.map unI) (k.map vIt)
  | [] => .nil
  | .inl i :: k => .cons (.int i) (reps_its k)
  | .inr s :: k => .cons (.str s) (reps_its k)
theorem cr_sortedTG {X : Cx} : CallR X (.builtin "sorted") (fun vs H Q => ∃ (a : Addr) (xs : List V) (F : Hp) (ks : List (List Ik)), vs = [V.ref a] ∧ SqL X.K H a xs ∧ Emb F H ∧ Reps X.K F (ks.map unT) xs ∧ okK ks = true ∧
    ∀ (ys : List V) (p : Addr), Reps X.K F ((sortK ks).map unT) ys → H p = none → Q (.ref p) (upd H p (.lst ys))) := by
  intro pins s σ H vs us Q I r h
  obtain ⟨a, xs, F, ks, rfl, hs, em, rp, hok, q⟩ := h
  obtain ⟨its, rv, hl, hz⟩ := I.list hs
  obtain ⟨u, rfl, ru⟩ := vals1 r
  cases ru
  let shape : Nat → Bool := shp (ks.headD [])
  let T : List Ik → Value → Prop := fun k u => ∃ p, u = .ref p ∧ SqT X.K F p (k.map vIt) ∧ tupKeyC s.heap shape u = some k ∧ ∃ f, TupOf s.heap shape u f
  have hsh : ∀ k ∈ ks, k ≠ [] ∧ ∀ j x, k[j]? = some x → shape (0 + j) = x.isRight := by
    intro k hk
    cases ks with
    | nil => cases hk
    | cons k0 ks =>
      simp only [okK, Bool.and_eq_true, Bool.not_eq_true', List.all_eq_true, beq_iff_eq] at hok
      obtain ⟨h0, h1⟩ := hok
      have e : k.map Sum.isRight = k0.map Sum.isRight := by
        rcases List.mem_cons.mp hk with rfl | hk
        · rfl
        · exact h1 k hk
      refine ⟨?_, fun j x hx => ?_⟩
      · rintro rfl
        cases k0 with
        | nil => cases h0
        | cons _ _ => cases e
      · show shp k0 (0 + j) = _
        unfold shp
        rw [Nat.zero_add, ← e, List.getElem?_map, hx]; rfl
  have one : ∀ {k : List Ik} {v : V} {u : Value}, k ∈ ks → Rep X.K F (unT k) v → RelV v u → T k u := by
    intro k v u hk r1 r2
    cases r1 with
    | tup t1 t2 =>
      rename_i p vs
      have ev := Reps.its t2
      subst ev
      cases r2
      obtain ⟨jts, rj, ht, _⟩ := I.tuple (em.sqt t1)
      obtain ⟨o, ho, hc, n, hd⟩ := ht
      obtain ⟨hne, hs0⟩ := hsh k hk
      refine ⟨p, rfl, t1, ?_, ?_⟩
      · unfold tupKeyC
        have e1 : isTupObj s.heap (.ref p) = true := by simp [isTupObj, ho, hc]
        rw [if_pos e1]
        simp only [tupKey, ho, hd]
        exact items_of k 0 _ (by simpa using rj) hs0
      · cases k with
        | nil => exact absurd rfl hne
        | cons x k =>
          cases rj with
          | cons r3 r4 =>
            rename_i f jts
            refine ⟨f, p, o, _, n, rfl, ho, hc, hd, rfl, fun z => ?_, fun z => ?_⟩
            · have := hs0 0 x rfl
              rw [show shape (0 + 0) = shape 0 from rfl, z] at this
              cases x with
              | inl i => exact ⟨i, r3⟩
              | inr s => cases this
            · have := hs0 0 x rfl
              rw [show shape (0 + 0) = shape 0 from rfl, z] at this
              cases x with
              | inl i => cases this
              | inr s => exact ⟨_, r3⟩
  have all : ∀ {ks' : List (List Ik)} {xs : List V} {its : List Value}, (∀ k ∈ ks', k ∈ ks) → Reps X.K F (ks'.map unT) xs → Vals xs its → Paired T ks' its := by
    intro ks'
    induction ks' with
    | nil => intro xs its _ h1 h2; cases h1; cases h2; exact .nil
    | cons k ks' ih =>
      intro xs its hm h1 h2
      cases h1 with
      | cons h3 h4 => cases h2 with | cons h5 h6 => exact .cons (one (hm k List.mem_cons_self) h3 h5) (ih (fun k hk => hm k (List.mem_cons_of_mem _ hk)) h4 h6)
  have hT := all (fun _ h => h) rp rv
  have tups : ∀ {ks' : List (List Ik)} {its : List Value}, Paired T ks' its → ∃ fs, TupsOf s.heap shape its fs := by
    intro ks' its h
    induction h with
    | nil => exact ⟨[], .nil⟩
    | cons h1 _ ih =>
      obtain ⟨fs, h⟩ := ih
      obtain ⟨_, _, _, _, f, hf⟩ := h1
      exact ⟨f :: fs, .cons hf h⟩
  obtain ⟨fs, hfs⟩ := tups hT
  have keys : ∀ {ks' : List (List Ik)} {its : List Value}, Paired T ks' its → ∀ v ∈ its, ∃ l, tupKeyC s.heap shape v = some l := by
    intro ks' its h
    induction h with
    | nil => intro v hv; cases hv
    | cons h1 _ ih =>
      intro v hv
      rcases List.mem_cons.mp hv with rfl | hv
      · obtain ⟨_, _, _, h, _⟩ := h1; exact ⟨_, h⟩
      · exact ih v hv
  refine PyProof.Rows.G.sorted_tups (vs := its) hl.isList hfs (keys hT) (by rw [← rv.length]; exact hz) fun st' h1 h2 _ => ?_
  have hp : ((arrOf st').map (·.2)).toList.Perm its := by
    have e := Array.perm_iff_toList_perm.mp h1
    rw [pairsOf_toList] at e
    have := e.map (·.2)
    rw [Array.toList_map]
    refine this.trans ?_
    rw [show (its.zip its).map (·.2) = its from by
      rw [← List.unzip_snd, List.unzip_zip (Eq.refl _)]]
  have hself : ∀ x ∈ (arrOf st').toList, x.1 = x.2 := fun x hx => by
    have e := Array.perm_iff_toList_perm.mp h1
    rw [pairsOf_toList] at e
    exact (mem_zip_self (e.mem_iff.mp hx)).1
  obtain ⟨ks', kp, hT'⟩ := paired_perm hp hT
  have hks : ks' = sortK ks := by
    refine sorted_uniq (fun _ _ => leK_anti) (kp.trans (sortK_perm ks).symm) ?_ (sortK_pw ks)
    have hlen : ks'.length = (arrOf st').size := by rw [hT'.length]; simp
    have at_ : ∀ i (hi : i < ks'.length), (KK (tupKindC s.heap shape) (arrOf st') i : List Ik) = ks'[i] := fun i hi => by
      obtain ⟨u, hu, hTu⟩ := paired_get hT' (List.getElem?_eq_getElem hi)
      rw [Array.toList_map, List.getElem?_map] at hu
      have hi' : i < (arrOf st').size := by rw [← hlen]; exact hi
      have hx : (arrOf st')[i]? = some (arrOf st')[i] := Array.getElem?_eq_getElem hi'
      rw [Array.getElem?_toList, hx] at hu
      cases hu
      unfold KK
      rw [hx]
      obtain ⟨_, _, _, hk, _⟩ := hTu
      have hs := hself (arrOf st')[i] (by simp)
      show (tupKeyC s.heap shape (arrOf st')[i].1).getD [] = _
      rw [hs, hk]; rfl
    rw [List.pairwise_iff_getElem]
    intro i j hi hj hij
    have hsz : (pairsOf its).size = (arrOf st').size := h1.size_eq.symm
    have := h2 i j (Nat.le_of_lt hij) (by rw [hsz, ← hlen]; exact hj)
    rw [at_ i hi, at_ j hj] at this
    have this : lexLt itemOrd ks'[j] ks'[i] = false := this
    unfold leK
    rw [this]; rfl
  have back : ∀ {ks' : List (List Ik)} {us : List Value}, Paired T ks' us → ∃ ys, Vals ys us ∧ Reps X.K F (ks'.map unT) ys := by
    intro ks' us h
    induction h with
    | nil => exact ⟨[], .nil, .nil⟩
    | cons h1 _ ih =>
      obtain ⟨ys, a, b⟩ := ih
      obtain ⟨p, rfl, hq, _⟩ := h1
      exact ⟨.ref p :: ys, .cons rfl a, .cons (.tup hq (reps_its _)) b⟩
  obtain ⟨ys, vy, ry⟩ := back hT'
  rw [hks] at ry
  obtain ⟨ep, he'⟩ := PyProof.Rows.sortedAll_at s.heap its ((arrOf st').map (·.2))
  have hlen : ys.length ≤ sizeLine := by rw [vy.length, hp.length_eq, ← rv.length]; exact hz
  exact ⟨.ref _, upd H (s.heap.objs.size + 1) (.lst ys), I.laid (t' := s.toks) (fun _ _ => PyProof.Rows.sortedAll_old) (Nat.le_succ _) ⟨hlen, ((arrOf st').map (·.2)).toList, ep, vy, he'⟩, rfl, q _ _ ry (I.hok.fresh (Nat.le_succ _))⟩
def dSort : List D → R D
  | [.lst xs] => match asTs xs with
    | some ks => if okK ks = true then .ok (.lst ((sortK ks).map unT)) else dSorted [.lst xs]
    | none => dSorted [.lst xs]
  | ds => dSorted ds
theorem c_sort {X : Cx} (hc : X.calm = true) : CalF X (.builtin "sorted") dSort := by
  have c0 := c_sorted (X := X) hc
  refine ⟨fun pins s σ H xs us Q I rv ⟨F, ds, d, e, r, hg, q⟩ => ?_, fun x c => ?_⟩
  · have old : dSorted ds = .ok d → _ := fun z => c0.run pins s σ H xs us Q I rv ⟨F, ds, d, e, r, z, q⟩
    unfold dSort at hg
    split at hg
    · split at hg
      · split at hg
        · rename_i ys ks hk hok
          cases hg
          obtain ⟨x, rfl, r1⟩ := r.inv1
          obtain ⟨a, vs, rfl, s1, p1⟩ := r1.lst e
          have := asTs_of hk
          subst this
          exact cr_sortedTG pins s σ H _ us Q I rv ⟨a, vs, F, ks, rfl, s1, e, p1, hok, fun zs p hr hn => q.newL e hr p hn⟩
        · exact old hg
      · exact old hg
    · exact old hg
  · intro h
    unfold dSort at h
    split at h
    · split at h
      · split at h
        · cases h
        · exact c0.ne _ _ h
      · exact c0.ne _ _ h
    · exact c0.ne _ _ h
end KN
/-! KnL: more meanings -/
namespace KN
open PySem PySem.Spec PyProof.Rows L2
def bDic1 (fk fv : Ga → R D) : Ga → R D := fun γ => (fk γ).bind fun k => (fv γ).bind fun v => match k with
  | .str s => .ok (.dic [(s, v)])
  | _ => .no
/-! ### the lesser of two texts -/
section
variable {prog : Program} {w : World} {A : Around} {E : Value → Shared → Prop} {s : Shared} {Q : Value → Shared → Prop}
def ltS : Value → Value → Bool
  | .str x _, .str y _ => decide (x.cps.toList < y.cps.toList)
  | _, _ => false
theorem cmp_strs (vs : Array Value) (hn : ∀ v ∈ vs, ∃ x t, v = .str x t) : CmpOf prog w A .Lt (fun i v => vs[i]? = some v) (fun i j => ltS (vs.getD i .none) (vs.getD j .none)) := fun i j vi vj s Q E hi hj h => by
  have g1 : vs.getD i .none = vi := by rw [Array.getD_eq_getD_getElem?, hi]; rfl
  have g2 : vs.getD j .none = vj := by rw [Array.getD_eq_getD_getElem?, hj]; rfl
  have h : Q (.bool (ltS (vs.getD i .none) (vs.getD j .none))) s := h
  rw [g1, g2] at h
  obtain ⟨x, t, rfl⟩ := hn _ (Array.mem_of_getElem? hi)
  obtain ⟨y, u, rfl⟩ := hn _ (Array.mem_of_getElem? hj)
  exact wpAny_richCompare_same (op := .Lt) (T := "str") (typeIs_str s x t) (typeIs_str s y u) slot_str_lt (wpAny_call_entry slot_str_lt (typeIs_str s x t) entry_str_lt (show wpAny _ _ (ret (.bool (x.cps.toList < y.cps.toList))) _ _ s from wpAny_pure ⟨_, rfl, by simp, h⟩) (args_str_lt _ _))
theorem min_strs {x y : Str} {t u : Tok} (hh : A.handled = none) (h : ∀ h' tk, (∀ c o, s.heap.get? c = some o → h'.get? c = some o) → Q (if ltS (.str y u) (.str x t) = true then .str y u else .str x t) { s with heap := h', toks := tk }) :
    wpAny (model prog w) A (call (.builtin "min") [.str x t, .str y u]) Q E s := by
  have tup : (s.heap.push { cls := .type "tuple", data := .seq #[.str x t, .str y u] }).IsTuple s.heap.objs.size #[.str x t, .str y u] := ⟨_, Heap.get?_push_size _ rfl, rfl, 0, rfl⟩
  have big : (s.heap.push { cls := .type "tuple", data := .seq #[.str x t, .str y u] }).objs.size = s.heap.objs.size + 1 := Heap.size_push ..
  refine call_min_two (wpAny_pyIter_tuple tup ⟨_, [_, s.heap.objs.size], [_], _, _, _, _, rfl, Walks.tuple (A := A.in1) hh _ s.heap.objs.size (by rw [big]; exact Nat.ne_of_lt (Nat.lt_succ_self _)) #[.str x t, .str y u], ⟨⟨_, Heap.get?_push_size _ rfl, rfl, rfl⟩, tup.push _⟩, fun c hc => ?_, by simp, cmp_strs #[.str x t, .str y u] (by simp), fun v h' tk hP hk => ?_⟩)
  · show c < ((s.heap.push _).push _).objs.size
    rw [Heap.size_push, big]
    simp only [List.mem_cons, List.not_mem_nil, or_false] at hc
    rw [big] at hc
    rcases hc with rfl | rfl
    · exact Nat.lt_succ_self _
    · exact Nat.lt_succ_of_lt (Nat.lt_succ_self _)
  · have old : ∀ c o, s.heap.get? c = some o → h'.get? c = some o := fun c o e => hk c o (fun hm => (by
      have l := Heap.lt_size e
      simp only [List.mem_cons, List.not_mem_nil, or_false] at hm
      rw [big] at hm
      rw [hm] at l
      exact Nat.lt_irrefl _ (Nat.lt_of_succ_lt l))) (Heap.get?_push_of_some _ (Heap.get?_push_of_some _ e))
    have q := h h' tk old
    have hv : v = if ltS (.str y u) (.str x t) = true then .str y u else .str x t := by
      cases c : ltS (.str y u) (.str x t) <;> simp [argBest, c] at hP <;> simp [hP]
    rw [hv]; exact q
end
def dMinT : List D → R D
  | [.str a, .str b] => .ok (.str (if b < a then b else a))
  | ds => dMin ds
theorem c_minT {X : Cx} (hc : X.calm = true) : CalD X (.builtin "min") dMinT := by
  have c0 := c_min (X := X) hc
  refine ⟨fun pins s σ H xs us Q I rv ⟨F, ds, d, e, r, hg, q⟩ => ?_, fun x c => ?_⟩
  · have old : dMin ds = .ok d → _ := fun z => c0.run pins s σ H xs us Q I rv ⟨F, ds, d, e, r, z, q⟩
    unfold dMinT at hg
    split at hg
    · rename_i a b
      cases hg
      cases r with
      | cons r1 r2 =>
        cases r2 with
        | cons r3 r4 =>
          cases r4
          obtain rfl := r1.str
          obtain rfl := r3.str
          obtain ⟨u, w', rfl, ⟨t, rfl⟩, ⟨t', rfl⟩⟩ := vals2 rv
          refine min_strs (I.ok.hd hc) fun h' tk k => ⟨.str (toS (if b < a then b else a)), H, I.kept k, ?_, q.here e (.str _)⟩
          by_cases z : b < a
          · have : ltS (.str (toS b) t') (.str (toS a) t) = true := decide_eq_true (show (toS b).cps.toList < (toS a).cps.toList from z)
            rw [if_pos this, if_pos z]; exact ⟨_, rfl⟩
          · have : ¬ ltS (.str (toS b) t') (.str (toS a) t) = true := fun y => z (of_decide_eq_true y)
            rw [if_neg this, if_neg z]; exact ⟨_, rfl⟩
    · exact old hg
  · intro h
    unfold dMinT at h
    split at h
    · cases h
    · exact c0.ne _ _ h
/-! ### a dict of one entry -/
theorem jf_dic1 {X : Cx} {W : WN} {fk fv : Ga → R D} {k v : Expr} {pos : Pos} (hk : J X W fk k) (hv : J X W fv v) : JF X W (bDic1 fk fv) (.Dict [some k] [v] pos) :=
  ⟨PE.imp (pe_disp (pps_cons hk.pe hv.pe pps_nil) rfl rfl (by simp) (by simp)) fun σ H Q ⟨F, γ, r, o⟩ => fun p hp => by
    have n0 : Nxt F H F (upd H p (.dK [])) := .laid r.emb hp _
    have r0 := r.next n0
    have fp := r.emb.free hp
    refine go1v (Z := fun z => Out (PF X.K F H) F H (fun c H' => W c σ H') z Q) r0 o (fun _ z F' H' n => z F' H' (n0.trans n)) (fun z => z) fun dk vk F1 H1 n1 r1 p1 o1 => ?_
    refine go1v (Z := fun z => Out (PF X.K F H) F H (fun c H' => W c σ H') z Q) r1 o1 (fun _ z F' H' n => z F' H' ((n0.trans n1).trans n)) (fun z => z) fun dv vv F2 H2 n2 r2 p2 o2 => ?_
    cases dk <;> first | exact o2.elim | skip
    rename_i s
    cases p1
    have n12 := n1.trans n2
    have hp2 : H2 p = some (.dK []) := n12.h _ _ upd_same
    have fp2 : F2 p = none := n12.unf fp upd_same
    refine ⟨hp2, [(.inr (toS s), vv)], rfl, by simp, ?_⟩
    have big : Nxt F H F2 (upd H2 p (.dK (mergeK [] [(.inr (toS s), vv)]))) := ⟨n12.f, fun a u e => by
      rcases n12.fn a u e with y | y
      · exact .inl y
      · by_cases q : a = p
        · subst q; exact .inr hp
        · rw [upd_ne q] at y; exact .inr y, fun a u e => by rw [upd_ne (ne_of_none e fp2)]; exact n12.emb a u e, fun b u e => by
      have q : b ≠ p := ne_of_none e hp
      rw [upd_ne q]; exact n12.h _ _ (by rw [upd_ne q]; exact e)⟩
    exact o2 p F2 _ big hp fp2 ⟨[(.inr (toS s), vv)], upd_same, .cons p2 .nil⟩⟩
end KN
/-! KnS: sets of ints, of texts, made of a list or tuple; their members sorted; their number -/
namespace KN
open PySem PySem.Spec PyProof.Rows L2
section
variable {κ : Type} [DecidableEq κ] {P : Program} {w : World}
structure GTab (knd : PySem.KeyKind P w κ) (es : Array (Int × Value)) (t : SetTable) (ks : List κ) : Prop where
  el : ElemsOf knd es.toList
  nd : es.toList.Pairwise fun e f => ∀ k, knd.is k e.2 = true → ¬ knd.is k f.2 = true
  mem : ∀ k, k ∈ ks ↔ ∃ e ∈ es.toList, knd.is k e.2 = true
  few : es.size ≤ ks.length
  fit : t.fits es.size = true
  ris : Ris t.place.toList
  led : w.params.followText "set-order" = true ∨ t.led = true
/-- the set at a, its members are those of ks -/
def GSet (knd : PySem.KeyKind P w κ) (h : Heap) (a : Addr) (ks : List κ) : Prop := ∃ o es ep t, h.get? a = some o ∧ o.ExactSet ∧ o.data = .set es ep t ∧ GTab knd es t ks
variable {knd : PySem.KeyKind P w κ} {es es' : Array (Int × Value)} {t t' : SetTable} {ks ks' : List κ} {h h' : Heap} {a : Addr}
theorem GSet.at (G : GSet knd h a ks) (q : ∀ o, h.get? a = some o → h'.get? a = some o) : GSet knd h' a ks := by
  obtain ⟨o, es, ep, t, g1, g2⟩ := G
  exact ⟨o, es, ep, t, q o g1, g2⟩
theorem GTab.congr (G : GTab knd es t ks) (q : ∀ k, k ∈ ks' ↔ k ∈ ks) (l : es.size ≤ ks'.length) : GTab knd es t ks' := ⟨G.el, G.nd, fun k => (q k).trans (G.mem k), l, G.fit, G.ris, G.led⟩
theorem GSet.congr (G : GSet knd h a ks) (q : ∀ k, k ∈ ks' ↔ k ∈ ks) (l : ks.length ≤ ks'.length) : GSet knd h a ks' := by
  obtain ⟨o, es, ep, t, g1, g2, g3, G⟩ := G
  exact ⟨o, es, ep, t, g1, g2, g3, G.congr q (Nat.le_trans G.few l)⟩
theorem nd_perm {l m : List (Int × Value)} (p : l.Perm m) (n : m.Pairwise fun e f => ∀ k, knd.is k e.2 = true → ¬ knd.is k f.2 = true) : l.Pairwise fun e f => ∀ k, knd.is k e.2 = true → ¬ knd.is k f.2 = true :=
  (p.pairwise_iff (fun hxy k h1 h2 => hxy k h2 h1)).mpr n
theorem GTab.perm (G : GTab knd es t ks) (p : es'.toList.Perm es.toList) (f : t'.fits es'.size = true) (r : Ris t'.place.toList) (l : t'.led = t.led) : GTab knd es' t' ks := by
  have sz : es'.size = es.size := by rw [← Array.length_toList, p.length_eq, Array.length_toList]
  refine ⟨fun e he => G.el e (p.mem_iff.mp he), nd_perm p G.nd, fun k => (G.mem k).trans ⟨fun ⟨e, he, q⟩ => ⟨e, p.mem_iff.mpr he, q⟩, fun ⟨e, he, q⟩ => ⟨e, p.mem_iff.mp he, q⟩⟩, by rw [sz]; exact G.few, f, r, ?_⟩
  rw [l]; exact G.led
theorem GTab.add (G : GTab knd es t ks) {k : κ} {x : Value} (hx : knd.is k x = true) (hs : x.scannable = true) (new : k ∉ ks) (p : es'.toList.Perm ((knd.hash k, x) :: es.toList)) (f : t'.fits es'.size = true) (r : Ris t'.place.toList)
    (l : t'.led = t.led) : GTab knd es' t' (k :: ks) := by
  have sz : es'.size = es.size + 1 := by rw [← Array.length_toList, p.length_eq, List.length_cons, Array.length_toList]
  refine ⟨fun e he => ?_, nd_perm p (List.pairwise_cons.mpr ⟨fun e he k' h1 h2 => ?_, G.nd⟩), fun k' => ⟨fun hk => ?_, fun ⟨e, he, q⟩ => ?_⟩, by rw [sz, List.length_cons]; have := G.few; omega, f, r, by rw [l]; exact G.led⟩
  · rcases List.mem_cons.mp (p.mem_iff.mp he) with rfl | he
    · exact ⟨⟨k, hx, rfl⟩, hs⟩
    · exact G.el e he
  · have : k' = k := knd.inj x k' k h1 hx
    subst this
    exact new ((G.mem k').mpr ⟨e, he, h2⟩)
  · rcases List.mem_cons.mp hk with rfl | hk
    · exact ⟨_, p.mem_iff.mpr List.mem_cons_self, hx⟩
    · obtain ⟨e, he, q⟩ := (G.mem k').mp hk
      exact ⟨e, p.mem_iff.mpr (List.mem_cons_of_mem _ he), q⟩
  · rcases List.mem_cons.mp (p.mem_iff.mp he) with rfl | he
    · rw [knd.inj x k' k q hx]; exact List.mem_cons_self
    · exact List.mem_cons_of_mem _ ((G.mem k').mpr ⟨e, he, q⟩)
/-! ### add -/
variable {A : Around} {E : Value → Shared → Prop} {s : Shared}
theorem gTail {g : Bool → Sem Unit} (hg : ∀ (b : Bool) (s₁ : Shared) (Q' : Unit → Shared → Prop), Q' () s₁ → wpAny (model P w) A (g b) Q' E s₁) {o : Obj} {ep : Nat} (ho : s.heap.get? a = some o) (hex : o.ExactSet)
    (hd : o.data = .set es ep t') (G : GTab knd es' t ks) (few : es'.size < scanBound) {wd : Bool} {R : Option Bool → Shared → Prop} (hR : ∀ h', Heap.SameBut a s.heap h' → GSet knd h' a ks → R (some true) { s with heap := h' }) :
    wpAny (model P w) A (do
        storeSet a es' t
        if (!wd && t.tooFull) = true then do
            g (relayAll t es' (SetTable.grown es'.size)).2.2
            storeSet a (relayAll t es' (SetTable.grown es'.size)).1 (relayAll t es' (SetTable.grown es'.size)).2.1
            pure (some true)
          else pure (some true)) R E s := by
  refine wpAny_bind (wpAny_storeSet_of ho hd ?_ (fits_of_scanBound few))
  have o1 := L2.store_at (es' := es') (t' := t) ho hd
  have b1 := Heap.SameBut.update s.heap a (Obj.putSet es' t)
  split
  · have p2 := relayAll_perm t es' (SetTable.grown es'.size)
    have f2 := relayAll_fits t es' (SetTable.grown es'.size)
    have r2 := relayAll_ris t es' (SetTable.grown es'.size)
    have l2 := relayAll_led t es' (SetTable.grown es'.size)
    generalize relayAll t es' (SetTable.grown es'.size) = Z at p2 f2 r2 l2 ⊢
    obtain ⟨e2, t2, gv⟩ := Z
    dsimp only at p2 f2 r2 l2 ⊢
    have few2 : e2.size < scanBound := by
      have : e2.size = es'.size := by rw [← Array.length_toList, p2.length_eq, Array.length_toList]
      omega
    refine wpAny_bind (hg _ _ _ (wpAny_bind (wpAny_storeSet_of o1 rfl ?_ (fits_of_scanBound few2))))
    exact wpAny_pure (hR _ (b1.trans (Heap.SameBut.update _ a _)) ⟨_, e2, _, t2, L2.store_at o1 rfl, hex, rfl, G.perm p2 f2 r2 l2⟩)
  · exact wpAny_pure (hR _ b1 ⟨_, es', _, t, o1, hex, rfl, G⟩)
theorem gAdd {k : κ} {x : Value} {Q : Bool → Shared → Prop} (hx : knd.is k x = true) (hs : x.scannable = true) (G : GSet knd s.heap a ks) (room : ks.length + 1 < scanBound)
    (hQ : ∀ b h', Heap.SameBut a s.heap h' → GSet knd h' a (k :: ks) → Q b { s with heap := h' }) : wpAny (model P w) A (setAddHashed a x (knd.hash k)) Q E s := by
  obtain ⟨o, es, ep, t, ho, hex, hd, G⟩ := G
  have few := G.few
  have bnd : es.size < scanBound := by omega
  unfold setAddHashed setAddHashedIn
  refine wpAny_holding (wpAny_bind (wpAny_setState_of ho hd G.fit (show _ from ?_)))
  dsimp only
  rw [byScan_of hs bnd G.el]
  simp only [↓reduceIte]
  unfold setAddByScan
  refine wpAny_bind (wpAny_bind (wpAny_rule (wpAny_bind (wpAny_setScan_of hx ho hd G.fit G.el ?_))))
  cases e1 : List.findIdx? (fun e => knd.is k e.2) es.toList with
  | some j =>
    obtain ⟨j1, j2, _⟩ := List.findIdx?_eq_some_iff_getElem.mp e1
    have hk : k ∈ ks := (G.mem k).mpr ⟨es.toList[j], List.getElem_mem j1, j2⟩
    exact wpAny_pure (wpAny_pure (hQ false s.heap (Heap.SameBut.refl a s.heap) ⟨o, es, ep, t, ho, hex, hd, G.congr (fun k' => ⟨fun z => (List.mem_cons.mp z).elim (fun e => e ▸ hk) id, List.mem_cons_of_mem _⟩) (by rw [List.length_cons]; omega)⟩))
  | none =>
    dsimp only
    have new : k ∉ ks := fun z => by
      obtain ⟨e, he, q⟩ := (G.mem k).mp z
      have c := List.findIdx?_eq_none_iff.mp e1 e he
      rw [q] at c; cases c
    have gv : ∀ (b : Bool) {s₁ : Shared} {Q' : Unit → Shared → Prop}, Q' () s₁ → wpAny (model P w) A (match b with | true => rule "set.scan.the-table-gave-way" | false => pure ()) Q' E s₁ := by
      intro b s₁ Q' q
      cases b
      · exact wpAny_pure q
      · exact wpAny_rule q
    have p1 := layNew_perm t es (knd.hash k) x
    have f1 := layNew_fits t es (knd.hash k) x
    have r1 := layNew_ris t es (knd.hash k) x G.ris
    have l1 := layNew_led t es (knd.hash k) x
    generalize layNew t es (knd.hash k) x = Z at p1 f1 r1 l1 ⊢
    obtain ⟨e2, t2, wd, gave⟩ := Z
    dsimp only at p1 f1 r1 l1 ⊢
    rw [Array.toList_push] at p1
    have p2 : e2.toList.Perm ((knd.hash k, x) :: es.toList) := p1.trans (List.perm_append_singleton _ _)
    have few2 : e2.size < scanBound := by
      have : e2.size = es.size + 1 := by rw [← Array.length_toList, p2.length_eq, List.length_cons, Array.length_toList]
      omega
    have G2 := G.add hx hs new p2 f1 r1 l1
    have G3 := G.add (t' := { t2 with plain := false }) hx hs new p2 (SetTable.fits_plain_off f1) r1 l1
    refine wpAny_bind (gv _ ?_)
    have g0 : ∀ (b : Bool) (s₁ : Shared) (Q' : Unit → Shared → Prop), Q' () s₁ → wpAny (model P w) A (match b with | true => rule "set.scan.the-table-gave-way" | false => pure ()) Q' E s₁ := fun b s₁ Q' q => gv b q
    split
    · refine wpAny_bind ?_
      rw [hashByValue_scannable 8 hs]
      refine wpAny_pure ?_
      split
      · exact gTail (fun b s₁ Q' q => by cases b <;> first | exact wpAny_pure q | exact wpAny_rule q) ho hex hd G2 few2 fun h' sb g => wpAny_pure (hQ true h' sb g)
      · exact gTail (fun b s₁ Q' q => by cases b <;> first | exact wpAny_pure q | exact wpAny_rule q) ho hex hd G3 few2 fun h' sb g => wpAny_pure (hQ true h' sb g)
    · refine wpAny_bind (wpAny_pure (show _ from ?_))
      simp only [↓reduceIte]
      exact gTail (fun b s₁ Q' q => by cases b <;> first | exact wpAny_pure q | exact wpAny_rule q) ho hex hd G2 few2 fun h' sb g => wpAny_pure (hQ true h' sb g)
/-! ### set.update over what is walked -/
theorem gUpdate {I : Addr} {fp wr : List Addr} {Gn : Array GenState → Array GenState → Prop} {n : Nat} {Pv : Nat → Value → Prop} {St : Nat → Shared → Prop} {R : Result → Shared → Prop} (Wk : WalksS P w A.in1 I fp wr Gn n Pv St) (S : Addr) (out : S ∉ fp)
    (ks : List κ) (hn : n = ks.length) (room : ks.length + 1 < scanBound) (hv : ∀ i v, Pv i v → ∃ k, ks[i]? = some k ∧ knd.is k v = true ∧ v.scannable = true) :
    ∀ (m i : Nat) (s : Shared), n - i = m → i ≤ n → St i s → GSet knd s.heap S (ks.take i) → (∀ s', Moved (S :: wr) Gn s s' → GSet knd s'.heap S ks → R (.ok (.ret .none)) s') →
      codeAny (model P w) A (.builtin "set.update.loop" ⟨[.ref S, .ref I], []⟩) R s := by
  have nw : S ∉ wr := fun z => out (Wk.sub _ z)
  have up : ∀ b ∈ wr, b ∈ S :: wr := fun b z => List.mem_cons_of_mem _ z
  intro m
  induction m with
  | zero =>
    intro i s hm hi st G hR
    have : i = n := by omega
    subst this
    refine codeAny_builtin F.entry_set_update_loop (show _ from ?_)
    rw [Around.under_plainId F.plain_set_update_loop _]
    refine wpAny_bind (m := pyNext (.ref I)) (Wk.done s _ _ st fun s' mv => ?_)
    have e : ks.take i = ks := List.take_of_length_le (by omega)
    rw [e] at G
    exact wpAny_pure (hR s' (mv.mono up) (G.at fun o z => mv.heap S o nw z))
  | succ m ih =>
    intro i s hm hi st G hR
    have lt : i < n := by omega
    refine codeAny_builtin F.entry_set_update_loop (show _ from ?_)
    rw [Around.under_plainId F.plain_set_update_loop _]
    refine wpAny_bind (m := pyNext (.ref I)) (Wk.item i s _ _ lt st fun v s' hP st' mv => ?_)
    obtain ⟨k, ek, hx, hs⟩ := hv i v hP
    have G' : GSet knd s'.heap S (ks.take i) := G.at fun o z => mv.heap S o nw z
    have tl : (ks.take i).length ≤ ks.length := by rw [List.length_take]; omega
    refine wpAny_bind (m := holding [v] (setAdd S v)) (wpAny_holding (show wpAny _ _ (setAdd S v) _ _ _ from ?_))
    unfold setAdd
    refine wpAny_holding (wpAny_bind (knd.pyHash hx (gAdd (s := { s' with toks := s'.toks + 1 }) hx hs G' (by omega) fun b h' sb G2 => ?_)))
    have G3 : GSet knd h' S (ks.take (i + 1)) := G2.congr (fun j => by rw [List.take_add_one, ek]; simp [List.mem_append, or_comm]) (by
      rw [List.take_add_one, ek]; simp)
    refine wpAny_pure ⟨plainId_quiet F.plain_set_update_loop _, ih (i + 1) _ (by omega) lt (Wk.frame _ s' _ _ st' (Nat.le_succ _) fun b hb o e => ?_) G3 fun s'' mv2 G4 => hR s'' (Moved.trans Wk.gtrans ((mv.mono up).then_heap (Nat.le_succ _) fun b o hb e => ?_) mv2) G4⟩
    · rw [sb.2 b (fun z : b = S => out (by rw [← z]; exact hb))]; exact e
    · rw [sb.2 b (fun z : b = S => hb (by rw [z]; exact List.mem_cons_self))]; exact e
theorem gNew {h : Heap} {a : Addr} (ho : h.get? a = some { cls := .type "set", dict := none, data := .set #[] 0 (.fresh 0 0 (!w.params.followText "set-order")) }) : GSet knd h a ([] : List κ) := by
  refine ⟨_, #[], 0, _, ho, ⟨rfl, rfl, rfl⟩, rfl, fun e he => absurd he (by simp), by simp, by simp, Nat.le_refl _, by rfl, List.Pairwise.nil, ?_⟩
  show _ ∨ (!w.params.followText "set-order") = true
  cases w.params.followText "set-order"
  · exact .inr rfl
  · exact .inl rfl
set_option maxRecDepth 100000 in
set_option maxHeartbeats 3200000 in
theorem gCall_list {l : Addr} {its : Array Value} (ks : List κ) {Q : Value → Shared → Prop} (cl : A.handled = none) (hl : s.heap.IsList l its) (hn : its.size = ks.length) (hv : ∀ (i : Nat) (v : Value), its[i]? = some v → ∃ k, ks[i]? = some k ∧ knd.is k v = true ∧ v.scannable = true)
    (room : ks.length + 1 < scanBound) (hQ : ∀ (h' : Heap) (tk : Nat), GSet knd h' s.heap.objs.size ks → (∀ b o, s.heap.get? b = some o → h'.get? b = some o) → Q (.ref s.heap.objs.size) { s with heap := h', toks := tk }) :
    wpAny (model P w) A (call (.type "set") [.ref l]) Q E s := by
  obtain ⟨mc, mt, em⟩ := F.called_set.mro
  have c1 := F.called_set.made
  have c2 := F.called_set.sub
  refine wpAny_call (codeAny_of_tree (show wpAny _ _ (callAny (.type "set") _) _ _ _ from wpAny_pure ⟨Code.quiet_builtin _ (by decide +kernel), codeAny_builtin F.entry_type_call ?_⟩))
  rw [Around.under_plain (weight_type_call_type "set" [.ref l] []) rfl]
  have c3 := F.called_set.notType
  have c4 := F.called_set.canCreate
  have c5 := F.typeCall_set_1 (.ref l)
  repeat (any_goals (first | assumption | wp_step))
  let o0 : Obj := { cls := .type "set", dict := none, data := .set #[] 0 (.fresh 0 0 (!w.params.followText "set-order")) }
  refine codeAny_mono (code_set_led1 (.ref l) (E := E) (Q₁ := fun obj s₁ => obj = .ref s.heap.objs.size ∧ s₁ = { s with heap := s.heap.push o0 }) ⟨rfl, rfl⟩) fun r s₁ hr => ?_
  cases r with
  | error e => exact hr
  | ok fl =>
   cases fl with
   | ret ob =>
    obtain ⟨rfl, rfl⟩ := hr
    have g0 : (s.heap.push o0).get? s.heap.objs.size = some o0 := Heap.get?_push_size _ rfl
    have ty : Shared.TypeIs { s with heap := s.heap.push o0 } (.ref s.heap.objs.size) "set" := ⟨_, g0, rfl⟩
    have c6 := F.called_set.init.lookup
    have c7 := F.called_set.init.bind (.ref s.heap.objs.size)
    repeat (any_goals (first | assumption | wp_step))
    refine codeAny_mono (codeAny_call_builtin (R := wants (fun r s₂ => r = .none ∧ ∃ h' tk, s₂ = { s with heap := h', toks := tk } ∧ GSet knd h' s.heap.objs.size ks ∧ (∀ b o, s.heap.get? b = some o → h'.get? b = some o)) E) F.called_set.init.plain F.entry_set_init (check_set_init_1 ty ?_)) fun r₂ s₂ h2 => ?_
    · obtain ⟨ol, gl, cl1, nl, dl⟩ := hl
      obtain ⟨oc, od, oa, os1⟩ := ol
      simp only at cl1 dl
      subst cl1 dl
      have gl1 : (s.heap.push o0).get? l = some { cls := .type "list", dict := od, data := .seq its nl, slots := os1 } := Heap.get?_push_of_some _ gl
      have c8 := F.sub_list_set
      have c9 := F.sub_list_frozenset
      have c10 : (Value.type "list" == Value.type "dict") = false := (by decide)
      have is1 : (s.heap.push o0).IsList l its := ⟨_, gl1, rfl, nl, rfl⟩
      unfold Builtin.«set.__init__» noKeywords Builtin.Frozenset.updateFrom
      generalize ePI : pyIter = PI
      wp_walk
      subst ePI
      refine wpAny_pyIter_list is1 (wpAny_bind (wpAny_runValue ?_))
      have lt : l < s.heap.objs.size := Heap.lt_size gl
      have cl3 : A.in1.in1.in1.handled = none := (by simp [cl])
      have ne1 : l ≠ (s.heap.push o0).objs.size := (by rw [Heap.size_push]; exact Nat.ne_of_lt (Nat.lt_succ_of_lt lt))
      have out : s.heap.objs.size ∉ [(s.heap.push o0).objs.size, l] := by
        rw [Heap.size_push]
        intro z
        rcases List.mem_cons.mp z with z | z
        · exact absurd z (Nat.ne_of_lt (Nat.lt_succ_self _))
        · exact absurd (List.mem_singleton.mp z).symm (Nat.ne_of_lt lt)
      refine gUpdate (knd := knd) ((Walks.list cl3 _ l ne1 its).toS) s.heap.objs.size out ks hn room hv (its.size - 0) 0 _ (by omega) (Nat.zero_le _) ⟨⟨_, Heap.get?_push_size _ rfl, rfl, rfl⟩, is1.push _⟩ ?h0 ?hR
      case h0 => exact gNew (Heap.get?_push_of_some _ g0)
      case hR =>
        intro s' mv G
        obtain ⟨h', g2, d', tk', os'⟩ := s'
        have e1 : g2 = s.gens := mv.gens
        have e2 : d' = s.drawn := mv.drawn
        have e3 : os' = s.os := mv.os
        subst e1 e2 e3
        refine (show wpAny _ _ _ _ _ _ from wpAny_pure (show wpAny _ _ (ret Value.none) _ _ _ from wpAny_pure ⟨rfl, h', tk', rfl, G, fun b o e => ?_⟩))
        have lb : b < s.heap.objs.size := Heap.lt_size e
        refine mv.heap b o (fun z => ?_) (Heap.get?_push_of_some _ (Heap.get?_push_of_some _ e))
        rw [Heap.size_push] at z
        rcases List.mem_cons.mp z with z | z
        · exact absurd z (Nat.ne_of_lt lb)
        · exact absurd (List.mem_singleton.mp z) (Nat.ne_of_lt (Nat.lt_succ_of_lt lb))
    · cases r₂ with
      | error e => exact h2
      | ok f2 =>
       cases f2 with
       | ret v =>
        obtain ⟨rfl, h', tk, rfl, G, kp⟩ := h2
        repeat (any_goals (first | assumption | wp_step))
        exact hQ _ _ G kp
       | _ => exact h2.elim
   | _ => exact hr.elim
set_option maxRecDepth 100000 in
set_option maxHeartbeats 3200000 in
theorem gCall_tuple {l : Addr} {its : Array Value} (ks : List κ) {Q : Value → Shared → Prop} (cl : A.handled = none) (hl : s.heap.IsTuple l its) (hn : its.size = ks.length) (hv : ∀ (i : Nat) (v : Value), its[i]? = some v → ∃ k, ks[i]? = some k ∧ knd.is k v = true ∧ v.scannable = true)
    (room : ks.length + 1 < scanBound) (hQ : ∀ (h' : Heap) (tk : Nat), GSet knd h' s.heap.objs.size ks → (∀ b o, s.heap.get? b = some o → h'.get? b = some o) → Q (.ref s.heap.objs.size) { s with heap := h', toks := tk }) :
    wpAny (model P w) A (call (.type "set") [.ref l]) Q E s := by
  obtain ⟨mc, mt, em⟩ := F.called_set.mro
  have c1 := F.called_set.made
  have c2 := F.called_set.sub
  refine wpAny_call (codeAny_of_tree (show wpAny _ _ (callAny (.type "set") _) _ _ _ from wpAny_pure ⟨Code.quiet_builtin _ (by decide +kernel), codeAny_builtin F.entry_type_call ?_⟩))
  rw [Around.under_plain (weight_type_call_type "set" [.ref l] []) rfl]
  have c3 := F.called_set.notType
  have c4 := F.called_set.canCreate
  have c5 := F.typeCall_set_1 (.ref l)
  repeat (any_goals (first | assumption | wp_step))
  let o0 : Obj := { cls := .type "set", dict := none, data := .set #[] 0 (.fresh 0 0 (!w.params.followText "set-order")) }
  refine codeAny_mono (code_set_led1 (.ref l) (E := E) (Q₁ := fun obj s₁ => obj = .ref s.heap.objs.size ∧ s₁ = { s with heap := s.heap.push o0 }) ⟨rfl, rfl⟩) fun r s₁ hr => ?_
  cases r with
  | error e => exact hr
  | ok fl =>
   cases fl with
   | ret ob =>
    obtain ⟨rfl, rfl⟩ := hr
    have g0 : (s.heap.push o0).get? s.heap.objs.size = some o0 := Heap.get?_push_size _ rfl
    have ty : Shared.TypeIs { s with heap := s.heap.push o0 } (.ref s.heap.objs.size) "set" := ⟨_, g0, rfl⟩
    have c6 := F.called_set.init.lookup
    have c7 := F.called_set.init.bind (.ref s.heap.objs.size)
    repeat (any_goals (first | assumption | wp_step))
    refine codeAny_mono (codeAny_call_builtin (R := wants (fun r s₂ => r = .none ∧ ∃ h' tk, s₂ = { s with heap := h', toks := tk } ∧ GSet knd h' s.heap.objs.size ks ∧ (∀ b o, s.heap.get? b = some o → h'.get? b = some o)) E) F.called_set.init.plain F.entry_set_init (check_set_init_1 ty ?_)) fun r₂ s₂ h2 => ?_
    · obtain ⟨ol, gl, cl1, nl, dl⟩ := hl
      obtain ⟨oc, od, oa, os1⟩ := ol
      simp only at cl1 dl
      subst cl1 dl
      have gl1 : (s.heap.push o0).get? l = some { cls := .type "tuple", dict := od, data := .seq its nl, slots := os1 } := Heap.get?_push_of_some _ gl
      have c8 := F.sub_tuple_set
      have c9 := F.sub_tuple_frozenset
      have c10 : (Value.type "tuple" == Value.type "dict") = false := (by decide)
      have is1 : (s.heap.push o0).IsTuple l its := ⟨_, gl1, rfl, nl, rfl⟩
      unfold Builtin.«set.__init__» noKeywords Builtin.Frozenset.updateFrom
      generalize ePI : pyIter = PI
      wp_walk
      subst ePI
      refine wpAny_pyIter_tuple is1 (wpAny_bind (wpAny_runValue ?_))
      have lt : l < s.heap.objs.size := Heap.lt_size gl
      have cl3 : A.in1.in1.in1.handled = none := (by simp [cl])
      have ne1 : l ≠ (s.heap.push o0).objs.size := (by rw [Heap.size_push]; exact Nat.ne_of_lt (Nat.lt_succ_of_lt lt))
      have out : s.heap.objs.size ∉ [(s.heap.push o0).objs.size, l] := by
        rw [Heap.size_push]
        intro z
        rcases List.mem_cons.mp z with z | z
        · exact absurd z (Nat.ne_of_lt (Nat.lt_succ_self _))
        · exact absurd (List.mem_singleton.mp z).symm (Nat.ne_of_lt lt)
      refine gUpdate (knd := knd) ((Walks.tuple cl3 _ l ne1 its).toS) s.heap.objs.size out ks hn room hv (its.size - 0) 0 _ (by omega) (Nat.zero_le _) ⟨⟨_, Heap.get?_push_size _ rfl, rfl, rfl⟩, is1.push _⟩ ?h0 ?hR
      case h0 => exact gNew (Heap.get?_push_of_some _ g0)
      case hR =>
        intro s' mv G
        obtain ⟨h', g2, d', tk', os'⟩ := s'
        have e1 : g2 = s.gens := mv.gens
        have e2 : d' = s.drawn := mv.drawn
        have e3 : os' = s.os := mv.os
        subst e1 e2 e3
        refine (show wpAny _ _ _ _ _ _ from wpAny_pure (show wpAny _ _ (ret Value.none) _ _ _ from wpAny_pure ⟨rfl, h', tk', rfl, G, fun b o e => ?_⟩))
        have lb : b < s.heap.objs.size := Heap.lt_size e
        refine mv.heap b o (fun z => ?_) (Heap.get?_push_of_some _ (Heap.get?_push_of_some _ e))
        rw [Heap.size_push] at z
        rcases List.mem_cons.mp z with z | z
        · exact absurd z (Nat.ne_of_lt lb)
        · exact absurd (List.mem_singleton.mp z) (Nat.ne_of_lt (Nat.lt_succ_of_lt lb))
    · cases r₂ with
      | error e => exact h2
      | ok f2 =>
       cases f2 with
       | ret v =>
        obtain ⟨rfl, h', tk, rfl, G, kp⟩ := h2
        repeat (any_goals (first | assumption | wp_step))
        exact hQ _ _ G kp
       | _ => exact h2.elim
   | _ => exact hr.elim
/-! ### sorted -/
theorem gVals (G : GTab knd es t ks) {vs : List Value} (p : vs.Perm (es.toList.map (·.2))) : (∀ v ∈ vs, ∃ k, knd.is k v = true) ∧ vs.Pairwise (fun u v => ∀ k, knd.is k u = true → ¬ knd.is k v = true) ∧ (∀ k, k ∈ ks ↔ ∃ v ∈ vs, knd.is k v = true) ∧ vs.length = es.size := by
  refine ⟨fun v hv => ?_, (p.pairwise_iff (fun hxy k h1 h2 => hxy k h2 h1)).mpr (List.pairwise_map.mpr G.nd), fun k => (G.mem k).trans ⟨fun ⟨e, he, q⟩ => ⟨e.2, p.mem_iff.mpr (List.mem_map.mpr ⟨e, he, rfl⟩), q⟩, fun ⟨v, hv, q⟩ => ?_⟩, by rw [p.length_eq, List.length_map, Array.length_toList]⟩
  · obtain ⟨e, he, rfl⟩ := List.mem_map.mp (p.mem_iff.mp hv)
    obtain ⟨⟨k, q, _⟩, _⟩ := G.el e he
    exact ⟨k, q⟩
  · obtain ⟨e, he, rfl⟩ := List.mem_map.mp (p.mem_iff.mp hv)
    exact ⟨e, he, q⟩
end
section
variable {P : Program} {w : World} {A : Around} {E : Value → Shared → Prop} {s : Shared} {a : Addr}
theorem gAreS {vs : List Value} (h : ∀ v ∈ vs, ∃ k, (PySem.strKind P w).is k v = true) : ∃ ks, StrsAre vs ks ∧ ∀ (i : Nat) (v : Value), vs[i]? = some v → ∃ k, ks[i]? = some k ∧ (PySem.strKind P w).is k v = true := by
  induction vs with
  | nil => exact ⟨[], .nil, fun i v z => by simp at z⟩
  | cons v vs ih =>
    obtain ⟨ks, h1, h2⟩ := ih fun u hu => h u (List.mem_cons_of_mem _ hu)
    obtain ⟨k, q⟩ := h v List.mem_cons_self
    obtain ⟨tk, rfl⟩ := Value.isStrOf_shape q
    exact ⟨k :: ks, .cons k tk h1, fun i v z => by
      cases i with
      | zero => simp at z; subst z; exact ⟨k, rfl, q⟩
      | succ i => simp at z ⊢; exact h2 i v z⟩
theorem gSortedS {ks : List Str} {Q : Value → Shared → Prop} (G : GSet (PySem.strKind P w) s.heap a ks) (cl : A.handled = none) (room : ks.length < scanBound)
    (hQ : ∀ s' p (out : Array Value) (c : Nat) (ms : List Str), (∀ b o, s.heap.get? b = some o → s'.heap.get? b = some o) → s'.gens = s.gens → s'.os = s.os → s.heap.objs.size ≤ p → s'.heap.get? p = some (seqObj "list" out c) → StrsAre out.toList ms → ms.Nodup → (∀ k, k ∈ ms ↔ k ∈ ks) → sortedS ms = true → Q (.ref p) s') :
    wpAny (model P w) A (call (.builtin "sorted") [.ref a]) Q E s := by
  obtain ⟨o, es, ep, t, ho, hex, hd, G⟩ := G
  have few := G.few
  refine Calls.call_function_entry kind_sorted plain_sorted entry_sorted (args_sorted1 _) (show _ from ?_)
  unfold Builtin.«sorted»
  refine wpAny_bind (m := checkCount "sorted" 1 1 _) (wpAny_pure (wpAny_bind (collect_set (A := A.in1) cl ⟨o, ho, hex.1, hd⟩ G.fit (by omega) G.ris G.led fun s1 vs kp sz g1 o1 pm => ?_)))
  obtain ⟨v1, v2, v3, v4⟩ := gVals G pm
  obtain ⟨ns, v5, v6⟩ := gAreS v1
  have len : vs.length ≤ sizeLine := by rw [v4]; exact fits_of_scanBound (show es.size < scanBound by omega)
  refine wpAny_bind (wpAny_newList (show _ from ?_) len)
  have g2 : (s1.heap.push (seqObj "list" vs.toArray 0)).get? s1.heap.objs.size = some (seqObj "list" vs.toArray 0) := Heap.get?_push_size _ rfl
  refine wpAny_bind (wpAny_holding (wpAny_call_entry slot_list_sort ⟨_, g2, rfl⟩ entry_list_sort (list_sort_treeKAny strKind_oneLt g2 v5.keysOf (fun x y r e => keyKind_strs (by rw [← e]; exact v5)) len fun st' a1 a2 => ⟨_, rfl, ?_⟩) (args_list_sort _)))
  obtain ⟨ms, m1, m2, m3⟩ := sorted_out_str v5 a1 a2
  obtain ⟨c, hc⟩ := sortedHeap_at (vs := vs) (out := (arrOf st').map (·.2)) g2
  have nn : ns.Nodup := by
    refine List.pairwise_iff_getElem.mpr fun i j hi hj ij e => ?_
    have li : ns.length = vs.length := by have := v5.len_eq; omega
    obtain ⟨k, e1, q1⟩ := v6 i vs[i] (List.getElem?_eq_getElem (by omega))
    obtain ⟨k2, e2, q2⟩ := v6 j vs[j] (List.getElem?_eq_getElem (by omega))
    rw [List.getElem?_eq_getElem hi] at e1
    rw [List.getElem?_eq_getElem hj] at e2
    cases e1
    cases e2
    rw [← e] at q2
    exact List.pairwise_iff_getElem.mp v2 i j (by omega) (by omega) ij _ q1 q2
  have nm : ∀ k, k ∈ ns ↔ k ∈ ks := fun k => by
    rw [v3 k]
    have li : ns.length = vs.length := by have := v5.len_eq; omega
    constructor
    · intro hk
      obtain ⟨i, hi, rfl⟩ := List.mem_iff_getElem.mp hk
      obtain ⟨k, e1, q1⟩ := v6 i vs[i] (List.getElem?_eq_getElem (by omega))
      rw [List.getElem?_eq_getElem hi] at e1
      cases e1
      exact ⟨vs[i], List.getElem_mem _, q1⟩
    · rintro ⟨v, hv, q⟩
      obtain ⟨i, hi, rfl⟩ := List.mem_iff_getElem.mp hv
      obtain ⟨k', e1, q1⟩ := v6 i vs[i] (List.getElem?_eq_getElem (by omega))
      have : k = k' := (PySem.strKind P w).inj _ _ _ q q1
      subst this
      exact List.mem_of_getElem? e1
  refine wpAny_pure ⟨_, rfl, hQ _ s1.heap.objs.size _ c ms (fun b u e => ?_) g1 o1 sz hc m1 (m2.nodup_iff.mpr nn) (fun k => m2.mem_iff.trans (nm k)) m3⟩
  have q := kp b u e
  have lt := Heap.lt_size q
  show (sortedHeap _ s1.heap.objs.size vs _).get? b = some u
  rw [sortedHeap_old (Nat.ne_of_lt lt) (by rw [size_push']; exact Nat.lt_succ_of_lt lt)]
  exact Heap.get?_push_of_some _ q
end
section
variable {P : Program} {w : World} {A : Around} {E : Value → Shared → Prop} {s : Shared} {a : Addr}
theorem gAreI {vs : List Value} (h : ∀ v ∈ vs, ∃ k, (PySem.intKind P w).is k v = true) : ∃ ks, IntsAre vs ks ∧ ∀ (i : Nat) (v : Value), vs[i]? = some v → ∃ k, ks[i]? = some k ∧ (PySem.intKind P w).is k v = true := by
  induction vs with
  | nil => exact ⟨[], .nil, fun i v z => by simp at z⟩
  | cons v vs ih =>
    obtain ⟨ks, h1, h2⟩ := ih fun u hu => h u (List.mem_cons_of_mem _ hu)
    obtain ⟨k, q⟩ := h v List.mem_cons_self
    obtain ⟨tk, rfl⟩ := Value.isInt_shape q
    exact ⟨k :: ks, .cons k tk h1, fun i v z => by
      cases i with
      | zero => simp at z; subst z; exact ⟨k, rfl, q⟩
      | succ i => simp at z ⊢; exact h2 i v z⟩
theorem gSortedI {ks : List Int} {Q : Value → Shared → Prop} (G : GSet (PySem.intKind P w) s.heap a ks) (cl : A.handled = none) (room : ks.length < scanBound)
    (hQ : ∀ s' p (out : Array Value) (c : Nat) (ms : List Int), (∀ b o, s.heap.get? b = some o → s'.heap.get? b = some o) → s'.gens = s.gens → s'.os = s.os → s.heap.objs.size ≤ p → s'.heap.get? p = some (seqObj "list" out c) → IntsAre out.toList ms → ms.Nodup → (∀ k, k ∈ ms ↔ k ∈ ks) → ms.Pairwise (· ≤ ·) → Q (.ref p) s') :
    wpAny (model P w) A (call (.builtin "sorted") [.ref a]) Q E s := by
  obtain ⟨o, es, ep, t, ho, hex, hd, G⟩ := G
  have few := G.few
  refine Calls.call_function_entry kind_sorted plain_sorted entry_sorted (args_sorted1 _) (show _ from ?_)
  unfold Builtin.«sorted»
  refine wpAny_bind (m := checkCount "sorted" 1 1 _) (wpAny_pure (wpAny_bind (collect_set (A := A.in1) cl ⟨o, ho, hex.1, hd⟩ G.fit (by omega) G.ris G.led fun s1 vs kp sz g1 o1 pm => ?_)))
  obtain ⟨v1, v2, v3, v4⟩ := gVals G pm
  obtain ⟨ns, v5, v6⟩ := gAreI v1
  have len : vs.length ≤ sizeLine := by rw [v4]; exact fits_of_scanBound (show es.size < scanBound by omega)
  refine wpAny_bind (wpAny_newList (show _ from ?_) len)
  have g2 : (s1.heap.push (seqObj "list" vs.toArray 0)).get? s1.heap.objs.size = some (seqObj "list" vs.toArray 0) := Heap.get?_push_size _ rfl
  refine wpAny_bind (wpAny_holding (wpAny_call_entry slot_list_sort ⟨_, g2, rfl⟩ entry_list_sort (list_sort_treeKAny intKind_oneLt g2 v5.keysOfInt (fun x y r e => keyKind_ints (by rw [← e]; exact v5)) len fun st' a1 a2 => ⟨_, rfl, ?_⟩) (args_list_sort _)))
  obtain ⟨ms, m1, m2, m3⟩ := sorted_out v5 a1 (sortedTo_of_int a2)
  obtain ⟨c, hc⟩ := sortedHeap_at (vs := vs) (out := (arrOf st').map (·.2)) g2
  have nn : ns.Nodup := by
    refine List.pairwise_iff_getElem.mpr fun i j hi hj ij e => ?_
    have li : ns.length = vs.length := by have := v5.length; omega
    obtain ⟨k, e1, q1⟩ := v6 i vs[i] (List.getElem?_eq_getElem (by omega))
    obtain ⟨k2, e2, q2⟩ := v6 j vs[j] (List.getElem?_eq_getElem (by omega))
    rw [List.getElem?_eq_getElem hi] at e1
    rw [List.getElem?_eq_getElem hj] at e2
    cases e1
    cases e2
    rw [← e] at q2
    exact List.pairwise_iff_getElem.mp v2 i j (by omega) (by omega) ij _ q1 q2
  have nm : ∀ k, k ∈ ns ↔ k ∈ ks := fun k => by
    rw [v3 k]
    have li : ns.length = vs.length := by have := v5.length; omega
    constructor
    · intro hk
      obtain ⟨i, hi, rfl⟩ := List.mem_iff_getElem.mp hk
      obtain ⟨k, e1, q1⟩ := v6 i vs[i] (List.getElem?_eq_getElem (by omega))
      rw [List.getElem?_eq_getElem hi] at e1
      cases e1
      exact ⟨vs[i], List.getElem_mem _, q1⟩
    · rintro ⟨v, hv, q⟩
      obtain ⟨i, hi, rfl⟩ := List.mem_iff_getElem.mp hv
      obtain ⟨k', e1, q1⟩ := v6 i vs[i] (List.getElem?_eq_getElem (by omega))
      have : k = k' := (PySem.intKind P w).inj _ _ _ q q1
      subst this
      exact List.mem_of_getElem? e1
  refine wpAny_pure ⟨_, rfl, hQ _ s1.heap.objs.size _ c ms (fun b u e => ?_) g1 o1 sz hc m1 (m2.nodup_iff.mpr nn) (fun k => m2.mem_iff.trans (nm k)) m3⟩
  have q := kp b u e
  have lt := Heap.lt_size q
  show (sortedHeap _ s1.heap.objs.size vs _).get? b = some u
  rw [sortedHeap_old (Nat.ne_of_lt lt) (by rw [size_push']; exact Nat.lt_succ_of_lt lt)]
  exact Heap.get?_push_of_some _ q
end
/-! ### sorted(set(xs)), len(set(xs)) -/
def asSeq : D → Option (List D)
  | .lst xs => some xs
  | .tup xs => some xs
  | _ => none
def setOr (f : List Tx → D) (g : List Int → D) (d : D) : R D := match asSeq d with
  | none => .no
  | some xs => if xs.length < 4000 then match asTxs xs with
    | some ks => .ok (f ks.eraseDups)
    | none => match asInts xs with
      | some ns => .ok (g ns.eraseDups)
      | none => .no
    else .no
def dSortSet : D → R D := setOr (fun ks => .lst ((sortT ks).map D.str)) (fun ns => .lst ((sortI ns).map D.int))
def SqE (K : PySem.W.Frag) (H : Hp) (l : Addr) (vs : List V) : Prop := SqL K H l vs ∨ SqT K H l vs
def tSS (K : PySem.W.Frag) (q1 : List Str → Hp → VK → Prop) (q2 : List Int → Hp → VK → Prop) (ta : TE) : TE := fun σ H Q => ta σ H fun x H1 => ∃ l, x = .ref l ∧
  ((∃ ks : List Str, SqE K H1 l (ks.map V.str) ∧ ks.length < 4000 ∧ q1 ks H1 Q) ∨ ∃ ns : List Int, SqE K H1 l (ns.map V.int) ∧ ns.length < 4000 ∧ q2 ns H1 Q)
def q1S : List Str → Hp → VK → Prop := fun ks H Q => ∀ (ms : List Str) (p : Addr), ms.Nodup → (∀ k, k ∈ ms ↔ k ∈ ks) → sortedS ms = true → H p = none → Q (.ref p) (upd H p (.lst (ms.map V.str)))
def q2S : List Int → Hp → VK → Prop := fun ks H Q => ∀ (ms : List Int) (p : Addr), ms.Nodup → (∀ k, k ∈ ms ↔ k ∈ ks) → ms.Pairwise (· ≤ ·) → H p = none → Q (.ref p) (upd H p (.lst (ms.map V.int)))
section
variable {X : Cx} {a : Expr} {ta : TE} {p p2 q pos : Pos}
theorem str_at {ks : List Str} {us : List Value} (r : Vals (ks.map V.str) us) (i : Nat) (v : Value) (h : us[i]? = some v) : ∃ k, ks[i]? = some k ∧ (PySem.strKind X.prog X.w).is k v = true ∧ v.scannable = true := by
  induction ks generalizing us i with
  | nil => cases r; simp at h
  | cons k ks ih =>
    cases r with
    | cons r1 r2 =>
      cases i with
      | zero =>
        simp at h; subst h
        obtain ⟨tk, rfl⟩ := r1
        refine ⟨k, rfl, ?_, rfl⟩
        show Value.isStrOf k (.str k tk) = true
        simp [Value.isStrOf]
      | succ i => simp at h ⊢; exact ih r2 i h
theorem int_at {ks : List Int} {us : List Value} (r : Vals (ks.map V.int) us) (i : Nat) (v : Value) (h : us[i]? = some v) : ∃ k, ks[i]? = some k ∧ (PySem.intKind X.prog X.w).is k v = true ∧ v.scannable = true := by
  induction ks generalizing us i with
  | nil => cases r; simp at h
  | cons k ks ih =>
    cases r with
    | cons r1 r2 =>
      cases i with
      | zero =>
        simp at h; subst h
        obtain ⟨tk, rfl⟩ := r1
        refine ⟨k, rfl, ?_, rfl⟩
        show Value.isInt k (.int k tk) = true
        simp [Value.isInt]
      | succ i => simp at h ⊢; exact ih r2 i h
theorem made_set {pins : List (Addr × Obj)} {σ : L2.St} {H : Hp} {s : Shared} {l : Addr} {E : Value → Shared → Prop} {Q : Value → Shared → Prop} (hc : X.calm = true) (I : Inv X pins σ H s) {κ : Type} [DecidableEq κ] {knd : PySem.KeyKind X.prog X.w κ} {ks : List κ} {f : κ → V}
    (hl : SqE X.K H l (ks.map f)) (room : ks.length < 4000) (at_ : ∀ (us : List Value), Vals (ks.map f) us → ∀ (i : Nat) (v : Value), us[i]? = some v → ∃ k, ks[i]? = some k ∧ knd.is k v = true ∧ v.scannable = true)
    (hQ : ∀ h' tk, GSet knd h' s.heap.objs.size ks → Inv X pins σ H { s with heap := h', toks := tk } → Q (.ref s.heap.objs.size) { s with heap := h', toks := tk }) : wpAny (model X.prog X.w) X.A (call (.type "set") [.ref l]) Q E s := by
  have sb : ks.length + 1 < scanBound := by unfold scanBound; omega
  rcases hl with hl | hl
  · obtain ⟨its, r, pl, hz⟩ := I.list hl
    exact gCall_list (knd := knd) ks (I.ok.hd hc) pl.isList (by rw [List.size_toArray, ← r.length, List.length_map]) (fun i v e => at_ its r i v (by simpa using e)) sb fun h' tk G kp => hQ h' tk G (I.kept kp)
  · obtain ⟨its, r, pl, hz⟩ := I.tuple hl
    exact gCall_tuple (knd := knd) ks (I.ok.hd hc) pl (by rw [List.size_toArray, ← r.length, List.length_map]) (fun i v e => at_ its r i v (by simpa using e)) sb fun h' tk G kp => hQ h' tk G (I.kept kp)
theorem laid_list {pins : List (Addr × Obj)} {σ : L2.St} {H : Hp} {s s' : Shared} {p : Addr} {vs : List V} {out : Array Value} {c : Nat} (I : Inv X pins σ H s) (k : ∀ b o, s.heap.get? b = some o → s'.heap.get? b = some o) (g : s'.gens = s.gens) (o : s'.os = s.os)
    (hp : s.heap.objs.size ≤ p) (at_ : s'.heap.get? p = some (seqObj "list" out c)) (r : Vals vs out.toList) (len : vs.length ≤ sizeLine) : Inv X pins σ (upd H p (.lst vs)) s' ∧ H p = none :=
  ⟨I.call' (ch := []) o (Un.laid k hp (I.hok.fresh hp)) (I.hok.laid k hp ⟨len, out.toList, c, r, at_⟩) (by rw [g]; exact I.bare) (fun _ z => nomatch z), I.hok.fresh hp⟩
theorem nd_len {κ : Type} {ms ks : List κ} (nd : ms.Nodup) (h : ∀ k, k ∈ ms ↔ k ∈ ks) : ms.length ≤ ks.length := List.Nodup.length_le_of_subset nd fun k hk => (h k).mp hk
theorem pe_sortset (hc : X.calm = true) (hm : X.mg "sorted" = none) (hm2 : X.mg "set" = none) (ha : PE X a ta) (hg : Gl X "sorted" := by rfl) (hg2 : Gl X "set" := by rfl)
    (na : starEach [a] X.env = (false, eval a X.env) :: starEach [] X.env := by rfl) : PE X (.Call (.Name "sorted" p) [.Call (.Name "set" p2) [a] [] q] [] pos) (tSS X.K q1S q2S ta) := by
  refine ⟨fun pins s σ H Q I h => Call_ (ld_blt I hg hm PyProof.Rows.boot_sorted (PyProof.Rows.callWith_builtin1 (PyProof.Rows.args_cons (Call_ (ld_blt I hg2 hm2 PyProof.Rows.boot_set
    (PyProof.Rows.callWith_type1 (PyProof.Rows.args_cons (thn (ha.run pins s σ H _ I h) fun v s1 ⟨x, H1, I1, r1, q1⟩ => PyProof.Rows.args_nil ?_) na) na rfl))) rfl) rfl rfl))⟩
  obtain ⟨l, rfl, q1⟩ := q1
  cases r1
  rcases q1 with ⟨ks, hl, room, q1⟩ | ⟨ks, hl, room, q1⟩
  · refine made_set (knd := PySem.strKind X.prog X.w) hc I1 hl room (fun us r => str_at r) fun h' tk G I2 => PyProof.Rows.args_nil (gSortedS G (I2.ok.hd hc) (by unfold scanBound; omega) fun s' p out c ms k g o hp hg r nd mem so => ?_)
    obtain ⟨I3, hn⟩ := laid_list I2 k g o hp hg (vals_of_strs r) (by rw [List.length_map]; exact Nat.le_trans (nd_len nd mem) (fits_of_scanBound (by unfold scanBound; omega)))
    exact ⟨.ref p, _, I3, rfl, q1 ms p nd mem so hn⟩
  · refine made_set (knd := PySem.intKind X.prog X.w) hc I1 hl room (fun us r => int_at r) fun h' tk G I2 => PyProof.Rows.args_nil (gSortedI G (I2.ok.hd hc) (by unfold scanBound; omega) fun s' p out c ms k g o hp hg r nd mem so => ?_)
    obtain ⟨I3, hn⟩ := laid_list I2 k g o hp hg (vals_of_ints r) (by rw [List.length_map]; exact Nat.le_trans (nd_len nd mem) (fits_of_scanBound (by unfold scanBound; omega)))
    exact ⟨.ref p, _, I3, rfl, q1 ms p nd mem so hn⟩
theorem asSeq_of {K : PySem.W.Frag} {F H : Hp} (e : Emb F H) {d : D} {xs : List D} (h : asSeq d = some xs) {v : V} (r : Rep1 K F H d v) : ∃ l vs, v = .ref l ∧ SqE K H l vs ∧ Reps K F xs vs := by
  cases d <;> simp only [asSeq] at h <;> first | (cases h; done) | skip
  · cases h
    obtain ⟨a, vs, rfl, s, p⟩ := r.lst e
    exact ⟨a, vs, rfl, .inl s, p⟩
  · cases h
    obtain ⟨a, vs, rfl, s, p⟩ := r.tup e
    exact ⟨a, vs, rfl, .inr s, p⟩
theorem erase_nd {κ : Type} [BEq κ] [LawfulBEq κ] : ∀ (n : Nat) (ks : List κ), ks.length ≤ n → ks.eraseDups.Nodup
  | _, [], _ => by simp
  | n + 1, a :: ks, h => by
    rw [List.eraseDups_cons, List.nodup_cons]
    refine ⟨fun z => ?_, erase_nd n _ (Nat.le_trans (List.length_filter_le _ _) (by simpa using h))⟩
    have := (List.mem_filter.mp (List.mem_eraseDups.mp z)).2
    simp at this
theorem nd_erase {κ : Type} [BEq κ] [LawfulBEq κ] {ms ks : List κ} (nd : ms.Nodup) (h : ∀ k, k ∈ ms ↔ k ∈ ks) : ms.Perm ks.eraseDups := by
  refine (List.perm_ext_iff_of_nodup nd (erase_nd _ ks (Nat.le_refl _))).mpr fun k => ?_
  rw [h k, List.mem_eraseDups]
theorem of_set {K : PySem.W.Frag} {W : WN} {fa : Ga → R D} {f : List Tx → D} {g : List Int → D} {q1 : List Str → Hp → VK → Prop} {q2 : List Int → Hp → VK → Prop} {P : Hp → Hp → D → VK → Prop} {σ : L2.St} {H F : Hp} {γ : Ga} {Q : VK} (r : RS K F γ σ H)
    (o : Out (P F H) F H (fun c H' => W c σ H') (b1 (setOr f g) fa γ) Q)
    (h1 : ∀ (ks : List Tx) F1 H1, Nxt F H F1 H1 → P F H (f ks.eraseDups) Q → q1 (ks.map toS) H1 Q) (h2 : ∀ (ns : List Int) F1 H1, Nxt F H F1 H1 → P F H (g ns.eraseDups) Q → q2 ns H1 Q) : tSS K q1 q2 (rdR K W fa) σ H Q := by
  refine go1 (Z := fun z => Out (P F H) F H (fun c H' => W c σ H') z Q) r o (fun _ z => z) (fun z => z) fun dx x F1 H1 n1 r1 p1 o1 => ?_
  unfold setOr at o1
  split at o1
  · exact o1.elim
  · rename_i xs hxs
    obtain ⟨l, vs, rfl, s, rp⟩ := asSeq_of r1.emb hxs p1
    refine ⟨l, rfl, ?_⟩
    split at o1
    · rename_i hl
      split at o1
      · rename_i ks hk
        have := asTxs_of hk
        subst this
        rw [rp.txs] at s
        exact .inl ⟨ks.map toS, s, by simpa using hl, h1 ks F1 H1 n1 o1⟩
      · split at o1
        · rename_i ns hn
          have := asInts_of hn
          subst this
          rw [rp.ints] at s
          exact .inr ⟨ns, s, by simpa using hl, h2 ns F1 H1 n1 o1⟩
        · exact o1.elim
    · exact o1.elim
theorem back_toS {ms : List Str} {ks : List Tx} (h : ∀ k, k ∈ ms ↔ k ∈ ks.map toS) (nd : ms.Nodup) : ∃ zs : List Tx, ms = zs.map toS ∧ zs.Perm ks.eraseDups := by
  have e : (ms.map fun y => y.cps.toList).map toS = ms := by
    rw [List.map_map]
    have : (toS ∘ fun y : Str => y.cps.toList) = id := by funext y; exact toS_tl y
    rw [this, List.map_id]
  refine ⟨ms.map fun y => y.cps.toList, e.symm, nd_erase ?_ fun k => ?_⟩
  · rw [← e] at nd
    exact (List.pairwise_map.mp nd).imp fun h z => h (by rw [z])
  · constructor
    · intro hk
      obtain ⟨y, hy, rfl⟩ := List.mem_map.mp hk
      obtain ⟨z, hz, q⟩ := List.mem_map.mp ((h y).mp hy)
      subst q
      simpa [toS] using hz
    · intro hk
      exact List.mem_map.mpr ⟨toS k, (h _).mpr (List.mem_map.mpr ⟨k, hk, rfl⟩), by simp [toS]⟩
variable {W : WN} {fa : Ga → R D}
theorem jf_sortset (hc : X.calm = true) (hm : X.mg "sorted" = none) (hm2 : X.mg "set" = none) (ha : JR X W fa a) (hg : Gl X "sorted" := by rfl) (hg2 : Gl X "set" := by rfl)
    (na : starEach [a] X.env = (false, eval a X.env) :: starEach [] X.env := by rfl) : JF X W (b1 dSortSet fa) (.Call (.Name "sorted" p) [.Call (.Name "set" p2) [a] [] q] [] pos) :=
  ⟨PE.imp (pe_sortset hc hm hm2 ha.pe hg hg2 na) fun σ H Q ⟨F, γ, r, o⟩ => of_set (P := PF X.K) r o (fun ks F1 H1 n1 o1 ms p nd mem so hn => by
    obtain ⟨zs, rfl, pz⟩ := back_toS mem nd
    rw [sortT_of pz so]
    exact (PF.next (Q := Q) o1 n1).newTx n1.emb p hn) fun ns F1 H1 n1 o1 ms p nd mem so hn => by
    rw [sortI_of (nd_erase nd mem) so]
    exact (PF.next (Q := Q) o1 n1).newL n1.emb (reps_ints _) p hn⟩
end
end KN
/-! KnT: a list display told over -/
namespace KN
open PySem PySem.Spec PyProof.Rows L2
def dRep : D → D → R D
  | .lst xs, .int n => if 0 ≤ n ∧ n.natAbs < 1000000 ∧ xs.length * n.toNat ≤ lim then .ok (.lst (List.replicate n.toNat xs).flatten) else .no
  | _, _ => .no
theorem reps_rep {K : PySem.W.Frag} {F : Hp} {ds : List D} {vs : List V} (r : Reps K F ds vs) : ∀ n, Reps K F (List.replicate n ds).flatten (List.replicate n vs).flatten
  | 0 => .nil
  | n + 1 => by
    rw [List.replicate_succ, List.replicate_succ, List.flatten_cons, List.flatten_cons]
    exact r.append (reps_rep r n)
section
variable {X : Cx} {W : WN} {fa fb : Ga → R D} {a b : Expr} {pos : Pos}
theorem j_rep (ha : JF X W fa a) (hb : JR X W fb b) : J X W (b2 dRep fa fb) (.BinOp a .Mult b pos) := ⟨PE.imp (pe_op op_rep ha.pe hb.pe) fun σ H Q ⟨F, γ, r, o⟩ => by
  refine ⟨F, γ, r, ?_⟩
  unfold b2 at o
  cases e1 : fa γ with
  | ok dx =>
    simp only [e1, R.bind] at o
    intro p F1 H1 n1 hp fp ow
    refine ⟨F1, γ, r.next n1, ?_⟩
    cases e2 : fb γ with
    | ok dy =>
      simp only [e2] at o
      intro y F2 H2 n2 ry
      cases dx <;> cases dy <;> first | exact o.elim | skip
      rename_i xs i
      simp only [dRep] at o
      split at o
      · rename_i hl
        obtain ⟨vs, hv, rv⟩ := ow.next n2.f fun u z => n2.h _ _ z
        refine ⟨p, i, vs, rfl, ry.int, hv, by omega, by omega, ?_, fun l hl2 => ?_⟩
        · rw [← rv.length]; exact Nat.le_trans hl.2.2 lim_line
        · exact PV.newL (Q := Q) (PV.next (Q := Q) o (n1.trans n2)) n2.emb (reps_rep rv _) l hl2
      · exact o.elim
    | ex c => simp only [e2] at o; exact fun F' H' m => o F' H' (n1.trans m)
    | no => simp only [e2] at o; exact o
  | ex c => simp only [e1, R.bind] at o; exact o
  | no => simp only [e1, R.bind] at o; exact o⟩
end
end KN
/-! KnN: dicts of dicts, filled and counted in place -/
namespace KN
open PySem PySem.Spec PyProof.Rows L2
/-- if end not in found: found[end] = {} -/
def fNFill (i c : Nat) : Ga → R Fl := fun γ => match γ[i]?, γ[c]? with
  | some (.nd es), some (.va (.str ck)) => match lookN es ck with
    | some _ => .ok (.nx γ)
    | none => if es.length < lim then .ok (.nx (γ.set i (.nd (putN es ck [])))) else .no
  | _, _ => .no
/-- found[end][letter] = found[end].get(letter, 0) + 1 -/
def fNBump (i c l : Nat) : Ga → R Fl := fun γ => match γ[i]?, γ[c]?, γ[l]? with
  | some (.nd es), some (.va (.str ck)), some (.va (.str lk)) => match lookN es ck with
    | some row => match (lookK row lk).getD (.int 0) with
      | .int n => if row.length < lim then .ok (.nx (γ.set i (.nd (putN es ck (putD row lk (.int (n + 1))))))) else .no
      | _ => .no
    | none => .no
  | _, _, _ => .no
theorem OwK.put_same {K : PySem.W.Frag} {F H : Hp} {a : Addr} {c : Tx} {q : Addr} : ∀ {es : Tb} {kvs : List (Key × V)}, OwK K F H a es kvs → valV kvs (Sum.inr (toS c)) = some (.ref q) → putK kvs (Sum.inr (toS c)) (.ref q) = kvs
  | [], [], _, h => nomatch h
  | (k, row0) :: es, (k', v) :: kvs, ⟨e, ⟨r, kv0, e1, e2, e3, e4, e5, e6⟩, o⟩, h => by
    subst e1
    subst e
    by_cases z : k = c
    · subst z
      have hv : valV ((Sum.inr (toS k), V.ref r) :: kvs) (Sum.inr (toS k)) = some (.ref r) := valV_pos rfl
      rw [hv] at h; cases h
      exact putK_pos fun p hp => (e6 p hp).1
    · have z' : ¬ (Sum.inr (toS k) : Key) = Sum.inr (toS c) := fun y => z (keyS_iff.mp y)
      rw [valV_neg z'] at h
      rw [putK_neg z', o.put_same h]
  | [], _ :: _, h, _ => h.elim
  | _ :: _, [], h, _ => h.elim
theorem upd_back {H : Hp} {a q : Addr} {o o' : HO} (e : H a = some o) (n : q ≠ a) : upd (upd H q o') a o = upd H q o' := by
  funext b
  by_cases h : b = a
  · subst h; rw [upd_same, upd_ne (Ne.symm n), e]
  · rw [upd_ne h]
section
variable {X : Cx} {W : WN}
theorem js_nfill (i c : Nat) {fx cx : Str} {q1 q2 q3 q4 q5 q6 q7 q8 q9 : Pos} (hN : X.N.Nodup) (hu : X.A.units + 1 < cLine)
    (hi : X.N[i]? = some fx := by rfl) (hc : X.N[c]? = some cx := by rfl)
    (vi : Vis X.env.scope fx := by first | exact Or.inl rfl | exact Or.inr (Or.inl rfl) | exact Or.inr (Or.inr rfl)) (vc : Vis X.env.scope cx := by first | exact Or.inl rfl | exact Or.inr (Or.inl rfl) | exact Or.inr (Or.inr rfl))
    (di : (fx == ("__debug__" : Str)) = false := by decide) (dc : (cx == ("__debug__" : Str)) = false := by decide) (ci : (fx == ("__classdict__" : Str)) = false := by decide) (cc : (cx == ("__classdict__" : Str)) = false := by decide)
    (s1 : swapsWith (.Dict [] [] q4) (some (.Subscript (.Name fx q5) (.Name cx q6) q7)) q8.line X.env = pure false := by rfl) :
    JS X W (fNFill i c) (.If (.Compare (.Name cx q1) [.NotIn] [.Name fx q2] q3) [.Assign [.Subscript (.Name fx q5) (.Name cx q6) q7] (.Dict [] [] q4) q8] [] q9) :=
  ⟨PS.imp (ps_if (pt_cmp (pc_dnotin hu (pe_var hc vc dc cc) (pe_var hi vi di ci))) (pss_one (ps_dput hu (pe_var hi vi di ci) (pe_var hc vc dc cc) pe_dnewK s1)) pss_nil) fun E σ H ⟨B, F, γ, R, o⟩ => by
    unfold fNFill at o
    split at o
    · rename_i es ck e1 e2
      obtain ⟨a, kvs, a1, a2, a3, a4⟩ := R.rs.sl i _ e1
      have c1 := va_at R.rs e2
      refine ⟨_, c1, _, a1, a, valV kvs (.inr (toS ck)), rfl, .inl ⟨kvs, .inr (toS ck), .inl a3, rfl, rfl⟩, ?_⟩
      rcases a4.look ck with ⟨z1, z2⟩ | ⟨row, q, kv, z1, z2, z3, z4, z5, z6, z7⟩
      · rw [z1] at o
        simp only at o
        split at o
        · rename_i hl
          refine ⟨true, by rw [z2]; rfl, ?_⟩
          intro p hp
          have pa : p ≠ a := by rintro rfl; rw [hp] at a3; cases a3
          refine ⟨_, a1, _, c1, a, _, rfl, .inl ⟨kvs, .inr (toS ck), ?_, rfl, by rw [← a4.len]; exact Nat.lt_trans hl lim_lt, rfl⟩, ?_⟩
          · rw [upd_ne (Ne.symm pa)]; exact a3
          · exact o F _ _ (R.putRow e1 a1 a3 (Nxt.refl R.rs.emb) (.inr ⟨z2, hp⟩) .nil)
        · exact o.elim
      · rw [z1] at o
        simp only at o
        exact ⟨false, by rw [z2]; rfl, o F _ _ R⟩
    · exact o.elim⟩
theorem js_nbump (i c l : Nat) {fx cx lx : Str} {n1 n2 : Nat} {q1 q2 q3 q4 q5 q6 q7 q8 q9 q10 q11 q12 q13 q14 q15 : Pos} (hN : X.N.Nodup) (hu : X.A.units + 1 < cLine)
    (hi : X.N[i]? = some fx := by rfl) (hc : X.N[c]? = some cx := by rfl) (hl : X.N[l]? = some lx := by rfl)
    (vi : Vis X.env.scope fx := by first | exact Or.inl rfl | exact Or.inr (Or.inl rfl) | exact Or.inr (Or.inr rfl)) (vc : Vis X.env.scope cx := by first | exact Or.inl rfl | exact Or.inr (Or.inl rfl) | exact Or.inr (Or.inr rfl)) (vl : Vis X.env.scope lx := by first | exact Or.inl rfl | exact Or.inr (Or.inl rfl) | exact Or.inr (Or.inr rfl))
    (di : (fx == ("__debug__" : Str)) = false := by decide) (dc : (cx == ("__debug__" : Str)) = false := by decide) (dl : (lx == ("__debug__" : Str)) = false := by decide) (ci : (fx == ("__classdict__" : Str)) = false := by decide) (cc : (cx == ("__classdict__" : Str)) = false := by decide) (cl : (lx == ("__classdict__" : Str)) = false := by decide)
    (s1 : swapsWith (.BinOp (.Call (.Attribute (.Subscript (.Name fx q1) (.Name cx q2) q3) "get" q4) [.Name lx q5, .Constant (.int 0) n1 q6] [] q7) .Add (.Constant (.int 1) n2 q8) q9) (some (.Subscript (.Subscript (.Name fx q10) (.Name cx q11) q12) (.Name lx q13) q14)) q15.line X.env = pure false := by rfl)
    (m1 : M2 X (.Subscript (.Name fx q1) (.Name cx q2) q3) "get" q4 (.Name lx q5) (.Constant (.int 0) n1 q6) q7 := by exact ⟨rfl, rfl, rfl, rfl⟩) :
    JS X W (fNBump i c l) (.Assign [.Subscript (.Subscript (.Name fx q10) (.Name cx q11) q12) (.Name lx q13) q14] (.BinOp (.Call (.Attribute (.Subscript (.Name fx q1) (.Name cx q2) q3) "get" q4) [.Name lx q5, .Constant (.int 0) n1 q6] [] q7) .Add (.Constant (.int 1) n2 q8) q9) q15) :=
  ⟨PS.imp (ps_dput hu (pe_dget hu (pe_var hi vi di ci) (pe_var hc vc dc cc) (fun _ _ => rfl)) (pe_var hl vl dl cl) (pe_add (pe_dget2 hu (pe_dget hu (pe_var hi vi di ci) (pe_var hc vc dc cc) (fun _ _ => rfl)) (pe_var hl vl dl cl) pe_int m1) pe_int) s1) fun E σ H ⟨B, F, γ, R, o⟩ => by
    unfold fNBump at o
    split at o
    · rename_i es ck lk e1 e2 e3
      obtain ⟨a, kvs, a1, a2, a3, a4⟩ := R.rs.sl i _ e1
      have c1 := va_at R.rs e2
      have l1 := va_at R.rs e3
      rcases a4.look ck with ⟨z1, z2⟩ | ⟨row, q, kv, z1, z2, z3, z4, z5, z6, z7⟩
      · rw [z1] at o; exact o.elim
      · rw [z1] at o
        simp only at o
        split at o
        · rename_i n en
          split at o
          · rename_i hlen
            have hn : (valV kv (.inr (toS lk))).getD (.int 0) = .int n := by
              rcases z6.look lk with ⟨y1, y2⟩ | ⟨d, v, y1, y2, y3⟩
              · rw [y1] at en; cases en; rw [y2]; rfl
              · rw [y1] at en; cases en; cases y3; rw [y2]; rfl
            have gd : DGet H a (.str (toS ck)) (some (.ref q)) := .inl ⟨kvs, .inr (toS ck), .inl a3, rfl, z2.symm⟩
            refine ⟨_, a1, _, c1, a, _, rfl, gd, q, rfl, .inl ⟨kv, .inl z5⟩, _, l1, valV kv (.inr (toS lk)), .inl ⟨kv, .inr (toS lk), .inl z5, rfl, rfl⟩, ?_⟩
            refine ⟨n, 1, hn, rfl, ?_⟩
            refine ⟨_, a1, _, c1, a, _, rfl, gd, _, l1, q, _, rfl, .inl ⟨kv, .inr (toS lk), z5, rfl, by rw [← z6.length]; exact Nat.lt_trans hlen lim_lt, rfl⟩, ?_⟩
            have r2 := R.putRow e1 a1 a3 (Nxt.refl R.rs.emb) (.inl z2) (z6.put lk (.int (n + 1)))
            rw [a4.put_same z2, upd_back a3 z3] at r2
            exact o F _ _ r2
          · exact o.elim
        · exact o.elim
    · exact o.elim⟩
end
end KN
/-! KnX: raise, try, what is told of a caught error -/
namespace KN
open PySem PySem.Spec PyProof.Rows L2
/-! ### raise -/
/-- an error class of the program's own, over ValueError -/
structure ExR (K : PySem.W.Frag) (mg : Str → Option Value) (x : Str) (C : Addr) : Prop where
  g : mg x = some (.ref C)
  q : PySem.W.excIn K C [.type "ValueError", .type "Exception", .type "BaseException", .type "object"] "ValueError.__new__" = true
  k : PySem.W.keepIn K (.ref C) = true
  b : PySem.W.subIn K (.ref C) (.type "BaseException") = some true
  t : PySem.W.typeIn K (.ref C) = some (.type "type")
def fRaise (c : Nat) : Ga → R Fl := fun _ => .ex c
theorem js_raise {X : Cx} {W : WN} {cl : Cl} {c : Nat} {C : Addr} {x m : Str} {j : Nat} {p p2 pos pos' : Pos} (hcl : cl c = .ref C) (E : ExR X.K X.mg x C) (hc : X.calm = true) (tk : Takes X (VW cl W)) (hg : Gl X x := by rfl)
    (hdb : (x == ("__debug__" : Str)) = false := by decide) : JS X W (fRaise c) (.Raise (some (.Call (.Name x p) [.Constant (.str m) j p2] [] pos)) none pos') :=
  ⟨PS.imp (ps_raise hc tk (pmk_own PySem.F.excBase_ValueError E.q E.g E.k (raises_own E.b E.t) hg hdb)) fun E' σ H ⟨B, F, γ, r, o⟩ => ⟨c, hcl.symm, rfl, o σ F H r.fi⟩⟩
/-! ### a def that is told a caught error -/
structure FnE (P : Program) (w : World) (K : PySem.W.Frag) (mg : Str → Option Value) (base : Heap) (CX : CXT) (k : Nat) (f : Addr) (fd : FuncData) (ps : List Str) (sp : Addr × Obj → Sp) : Prop where
  len : ∀ p vs H Q E, sp p vs H Q E → vs.length = ps.length
  run : ∀ (A : Around) (outer : List Env) (s : Shared) (H : Hp) (args : Args) (us : List Value) (vs : List V) (Q : VK) (E : XK) (p : Addr × Obj), L2H.RoomH k A → L2H.PinOk outer H s p → Env0 P w K mg base A outer s H →
    BindsTo s fd args (ps.zip us) → Vals vs us → sp p vs H Q E → codeAny (model P w) A (.call (.ref f) args) (CR CX outer P w H s Q E) s
theorem fnE_of {CX : CXT} {P : Program} {w : World} {K : PySem.W.Frag} {mg : Str → Option Value} {base : Heap} {k : Nat} {x qual : Str} {st : Stmt} {f : Addr} {fd : FuncData} {N ps : List Str} {sp : Addr × Obj → Sp} (Fu : Fun K x qual st f fd) (S : FnScope N ps (defScope st))
    (len : ∀ p vs H Q E, sp p vs H Q E → vs.length = ps.length)
    (hb : ∀ (cdv : Value) (A : Around) (outer : List Env) (s : Shared) (H : Hp) (vs : List V) (Q : VK) (E : XK) (p : Addr × Obj), L2H.RoomH k (A.deeper (envOfC qual (defScope st) s.heap.objs.size f cdv)) → sp p vs H Q E →
      ∃ t, PSs (L2H.cxH CX P w K mg base N qual (defScope st) f cdv A outer s H E p) (defBody st) t ∧ t { nx := fun _ H' => Q .non H', rt := Q } (L2.start N vs) H) : FnE P w K mg base CX (k + 1) f fd ps sp := by
  obtain ⟨oc, od, kV, dc, pm, an, cd, ct, osl, rfl, lk, hcd⟩ := Fu.ex
  refine ⟨len, fun A outer s H args us vs Q E p hr hpin e0 bd r hsp => ?_⟩
  have ln := len _ _ _ _ _ hsp
  have kin : K.In s.heap := e0.mod.kin.keeps fun b o e => (e0.bs b o e).1
  have nl : s.heap.NoLimit := e0.mod.nolimit.keeps fun b o e => (e0.bs b o e).1
  have kd : ∀ y ∈ ps.zip us, (defScope st).names.lookup y.1 = some .local ∨ ((defScope st).names.lookup y.1 = some .cell ∧ ((cellsFrom (s.heap.objs.size + 1) (defScope st).names []).lookup y.1).isSome = true) := by
    rintro ⟨n, v⟩ hy
    exact (S.par n (List.of_mem_zip hy).1).imp id fun q => ⟨q, PySem.W.cellsFrom_some _ _ _ (.inl q)⟩
  refine codeAny_call_function hr.depth (kin _ _ lk) rfl S.co S.gen rfl (PySem.W.codeRec_of kin hcd) (bd _ _ _ _ (wpAny_newFunctionEnv_cells S.kind kd fun env he s1 y => ?_))
  subst he
  obtain ⟨t, h1, h2⟩ := hb cd A outer s H vs Q E p (hr.deeper _) hsp
  have I : Inv (L2H.cxH CX P w K mg base N qual (defScope st) f cd A outer s H E p) [] (L2.start N vs) H s1 := L2H.inv_startH S hpin e0 ln r y
  refine ⟨nl.keeps y.toInCall.keep, codeAny_func (wpAny_mono (h1.run [] s1 (L2.start N vs) H _ I h2) (fun fl s' hs => ?_) fun e s' hs => hs)⟩
  have fin : ∀ {σ' : L2.St} {H' : Hp} {v : V} {u : Value}, Inv (L2H.cxH CX P w K mg base N qual (defScope st) f cd A outer s H E p) [] σ' H' s' → RelV v u → Q v H' → CE outer P w H s Q u s' := fun {σ' H' v u} J rv q => ⟨v, H', J.os, J.bare, J.base, J.hok, rv, q⟩
  cases fl with
  | ret u =>
    obtain ⟨v, σ', H', J, rv, q⟩ := hs
    exact fin J rv q
  | next =>
    obtain ⟨σ', H', J, q⟩ := hs
    exact fin (v := .non) (u := .none) J rfl q
  | brk => exact hs.choose_spec.choose_spec.2.elim
  | cont => exact hs.choose_spec.choose_spec.2.elim
section
variable {X : Cx} {CX : CXT} {k : Nat} {f : Addr} {fd : FuncData} {ps : List Str} {sp : Addr × Obj → Sp} {E : L2.St → XK} {x : Str} {q pos : Pos} {e : Expr} {es : List Expr} {t : TA} {p : Addr × Obj}
theorem pe_callE (F : FnE X.prog X.w X.K X.mg X.base CX k f fd ps sp) (hr : L2H.RoomH k X.A) (hp : p ∈ X.pn) (hg : Gl X x) (hm : X.mg x = some (.ref f)) (hk : PySem.W.keepIn X.K (.ref f) = true) (hb : Binds X.K fd ps []) (hx : ∀ σ, PassesAt CX X σ (E σ))
    (ha : PA X (e :: es) t) (hdb : (x == ("__debug__" : Str)) = false := by decide) (he : starEach (e :: es) X.env = (false, eval e X.env) :: starEach es X.env := by rfl) (hpl : (backTo pos (starEach es X.env)).any (·.1) = false := by rfl) :
    PE X (.Call (.Name x q) (e :: es) [] pos) (tCallS (sp p) E t) := by
  refine ⟨fun pins s σ H Q I h => wpAny_Call_Name_kw (ld_glob I hg hm (PySem.W.callWith_K (h₀ := X.base) I.ok.mod.kin hk (thn (ha.run pos pins s σ H _ I h) fun us s1 ⟨vs, H1, I1, r, w⟩ => ⟨I1.kIn, ?_⟩) he hpl) hdb)⟩
  have ln : us.length = ps.length := by rw [← r.length]; exact F.len _ _ _ _ _ w
  have bd := hb s1 us I1.kIn (by rw [List.append_nil]; exact ln)
  rw [List.append_nil] at bd
  have pn := I1.pin p (List.mem_append_left _ hp)
  have po : L2H.PinOk X.stack H1 s1 p := ⟨pn.1, pn.2.1, fun hm => (List.mem_cons.mp (I1.stkSub p.1 hm)).elim pn.2.2.1 pn.2.2.2.1, pn.2.2.2.2⟩
  refine wpAny_call (codeAny_mono (F.run X.A X.stack s1 H1 ⟨us, []⟩ us vs Q (E σ) p hr po I1.env0 bd r w) fun r s' hq => ?_)
  cases r with
  | error e => exact hx σ pins H1 s1 e s' I1 hq
  | ok fl =>
    cases fl with
    | ret u => exact I1.after hq
    | next => exact hq.elim
    | brk => exact hq.elim
    | cont => exact hq.elim
end
/-- the promise: what is told is h's word of the error's class -/
def spE (cl : Cl) (K : PySem.W.Frag) (h : Nat → R D) : Addr × Obj → Sp := fun p vs H Q E => vs = [.ref p.1] ∧ ∃ c d F, Zc (cl c) none p.2 ∧ (∃ ws, p.2.data = .fields ws) ∧ h c = .ok d ∧ Emb F H ∧ PV K F H d Q
def startE (n : Nat) (a : Addr) : Ga := .xc a :: List.replicate (n - 1) .un
theorem rs_startE {K : PySem.W.Frag} {F H : Hp} {N : List Str} {a : Addr} (e : Emb F H) (h : 0 < N.length) : RS K F (startE N.length a) (L2.start N [.ref a]) H := by
  have no : ∀ (i : Nat) (s : Sl) (x : Option (Option V)) (b : Addr), (startE N.length a)[i]? = some s → ¬ Inn H s x b := fun i s x b q => by
    unfold startE at q
    cases i with
    | zero => simp at q; subst q; exact id
    | succ i =>
      simp only [List.getElem?_cons_succ, List.getElem?_replicate] at q
      split at q <;> cases q
      exact id
  refine ⟨e, by simp [startE, L2.start], fun i s q => ?_, fun i j d d' b h1 h2 i1 _ => absurd i1 (no i d _ b h1)⟩
  unfold startE at q
  cases i with
  | zero => simp at q; subst q; rfl
  | succ i =>
    simp only [List.getElem?_cons_succ, List.getElem?_replicate] at q
    split at q <;> cases q
    trivial
section
variable {P : Program} {w : World} {K : PySem.W.Frag} {mg : Str → Option Value} {base : Heap}
theorem fokE {x qual : Str} {st : Stmt} {f : Addr} {fd : FuncData} {N : List Str} {y : Str} {k : Nat} {cl : Cl} {h : Nat → R D} {body : Addr → Nat → Ga → R Fl} (Fu : Fun K x qual st f fd) (S : FnScope N [y] (defScope st))
    (hv : ∀ a c d, h c = .ok d → body a c (startE N.length a) = .ok (.rt d))
    (hb : ∀ (cdv : Value) (A : Around) (outer : List Env) (s : Shared) (H : Hp) (E : XK) (p : Addr × Obj) (c : Nat) (d : D), h c = .ok d → Zc (cl c) none p.2 → (∃ ws, p.2.data = .fields ws) → L2H.RoomH k (A.deeper (envOfC qual (defScope st) s.heap.objs.size f cdv)) →
      JSs (L2H.cxH (L2.CX P w) P w K mg base N qual (defScope st) f cdv A outer s H E p) W0 (body p.1 c) (defBody st)) :
    FnE P w K mg base (L2.CX P w) (k + 1) f fd [y] (spE cl K h) := by
  refine fnE_of Fu S (fun p vs H Q E hs => by rw [hs.1]; rfl) fun cdv A outer s H vs Q E p hr hs => ?_
  obtain ⟨rfl, c, d, F, hz, hf, hd, em, q⟩ := hs
  refine ⟨_, (hb cdv A outer s H E p c d hd hz hf hr).pss, ⟨F, H, []⟩, F, startE N.length p.1, ⟨rs_startE em ?_, .start em, fun i s b e1 e2 => ?_⟩, ?_⟩
  · have := congrArg List.length S.pre
    simp at this
    omega
  · unfold startE at e1
    cases i with
    | zero => simp at e1; subst e1; exact e2.elim
    | succ i =>
      simp only [List.getElem?_cons_succ, List.getElem?_replicate] at e1
      split at e1 <;> cases e1
      exact e2.elim
  · rw [hv _ _ _ hd]
    exact fun v F' H' fi p => q v F' H' fi.nxt p
end
/-! ### isinstance of the error -/
def bE (i : Nat) (a : Addr) (b : Bool) : Ga → R D := fun γ => match γ[i]? with
  | some (.xc a') => if a' = a then .ok (.bl b) else .no
  | _ => .no
theorem call_isP {X : Cx} {D : Addr} {p : Addr × Obj} (C : ExcC X.K D) (hp : p ∈ X.pn) (hz : Zc (.ref D) none p.2) (hf : ∃ vs, p.2.data = .fields vs) : CallR X (.builtin "isinstance") (rIsE X.K D p.1) := by
  intro pins s σ H xs us Q I r h
  obtain ⟨c, cv, b, rfl, hcv, e, q⟩ := h
  cases r with
  | cons r1 r2 =>
    cases r2 with
    | cons r3 r4 =>
      cases r4
      cases r1
      cases hcv _ r3
      obtain ⟨g1, _⟩ := I.pin p (List.mem_append_left _ hp)
      obtain ⟨vs, hv⟩ := hf
      obtain ⟨a, oe⟩ := p
      have J : PySem.W.InstAt s.heap a oe D none := by
        obtain ⟨oc, od, oda, osl⟩ := oe
        obtain ⟨h1, h2⟩ := hz
        simp only at h1 h2 hv
        subst h1 h2 hv
        exact ⟨g1, rfl, rfl, trivial⟩
      exact PySem.W.kia_one (PySem.W.handS_kitx_exc C.hg C.hk C.hs C.hd C.ha C.hn C.ht C.hm) I.kIn J e (fun z => nomatch z) fun tk => ⟨.bl b, H, I.kept (t' := tk) fun _ _ z => z, rfl, q⟩
section
variable {X : Cx} {W : WN} {D : Addr} {p : Addr × Obj} {c : V} {cv : Value} {b : Bool} {i : Nat} {x y : Str} {q1 q2 q3 pos : Pos}
theorem j_isE (C : ExcC X.K D) (hp : p ∈ X.pn) (hz : Zc (.ref D) none p.2) (hf : ∃ vs, p.2.data = .fields vs) (hc : PE X (.Name y q3) (tC c)) (hcv : ∀ u, RelV c u → u = cv) (hk : PySem.W.kitOne X.K (.ref D) cv = some b) (hm : X.mg "isinstance" = none) (hg : Gl X "isinstance" := by rfl)
    (hN : X.N[i]? = some x := by rfl) (hv : Vis X.env.scope x := by first | exact Or.inl rfl | exact Or.inr (Or.inl rfl) | exact Or.inr (Or.inr rfl)) (hd : (x == ("__debug__" : Str)) = false := by decide) (hcd : (x == ("__classdict__" : Str)) = false := by decide)
    (he : starEach [.Name x q2, .Name y q3] X.env = (false, eval (.Name x q2) X.env) :: starEach [.Name y q3] X.env := by rfl) (he2 : starEach [.Name y q3] X.env = (false, eval (.Name y q3) X.env) :: starEach [] X.env := by rfl)
    (hpl : (backTo pos (starEach [.Name y q3] X.env)).any (·.1) = false := by rfl) : J X W (bE i p.1 b) (.Call (.Name "isinstance" q1) [.Name x q2, .Name y q3] [] pos) := by
  refine ⟨PE.imp (pe_callB (call_isP C hp hz hf) hg hm boot_isinstance (pa_cons (pe_var hN hv hd hcd) (pa_cons hc pa_nil he2) he) (by decide) (by decide) he hpl) fun σ H Q ⟨F, γ, r, o⟩ => ?_⟩
  unfold bE at o
  cases e1 : γ[i]? with
  | none => rw [e1] at o; exact o.elim
  | some s =>
    rw [e1] at o
    cases s with
    | un => exact o.elim
    | va d => exact o.elim
    | ow d => exact o.elim
    | nd d => exact o.elim
    | xc a =>
      simp only at o
      split at o
      · rename_i ea
        subst ea
        exact ⟨_, r.sl i _ e1, c, cv, b, rfl, hcv, hk, PV.here (Q := Q) o r.emb (.bl _)⟩
      · exact o.elim
/-- a class of the program by its name -/
theorem pe_cls {C : Addr} (hm : X.mg y = some (.ref C)) (hg : Gl X y := by rfl) (hd : (y == ("__debug__" : Str)) = false := by decide) : PE X (.Name y q3) (tC (.ref C)) :=
  ⟨fun pins s σ H Q I h => ld_glob I hg hm ⟨.ref C, H, I, rfl, h⟩ hd⟩
theorem rel_ref {C : Addr} : ∀ u, RelV (.ref C) u → u = .ref C := fun u h => by cases h; rfl
theorem rel_ty {n : String} : ∀ u, RelV (.ty n) u → u = .type n := fun u h => by cases h; rfl
end
/-! ### xs.count(b), xs.index(b), of truths -/
def bM1 (g : D → D → R D) (fa fb : Ga → R D) : Ga → R D := fun γ => (fa γ).bind fun x => match x with
  | .lst _ => (fb γ).bind fun y => g x y
  | _ => .no
def dCount : D → D → R D
  | .lst xs, .bl b => (o2r (asBls xs)).bind fun bs => .ok (.int (bs.count b : Nat))
  | _, _ => .no
def dIndex : D → D → R D
  | .lst xs, .bl b => (o2r (asBls xs)).bind fun bs => if b ∈ bs then .ok (.int (bs.idxOf b : Nat)) else .no
  | _, _ => .no
theorem dCount_ne : ∀ x y c, dCount x y ≠ .ex c := fun x y c => by
  cases x <;> cases y <;> simp only [dCount, o2r] <;> first | (intro h; cases h; done) | skip
  split <;> intro h <;> cases h
theorem dIndex_ne : ∀ x y c, dIndex x y ≠ .ex c := fun x y c => by
  cases x <;> cases y <;> simp only [dIndex, o2r] <;> first | (intro h; cases h; done) | skip
  split
  · simp only [R.bind]
    split <;> intro h <;> cases h
  · intro h; cases h
theorem flat_bls (bs : List Bool) : (bs.map V.bl).all flatV = true := by
  rw [List.all_eq_true]
  intro v hv
  obtain ⟨b, _, rfl⟩ := List.mem_map.mp hv
  rfl
theorem eqV_bl (a b : Bool) : eqV (.bl a) (.bl b) = (a == b) := by cases a <;> cases b <;> rfl
section
variable {X : Cx}
theorem mt_countB : MtR X "list.count" (fun x xs H Q => ∃ (p : Addr) (bs : List Bool) (b : Bool), x = .ref p ∧ xs = [.bl b] ∧ SqL X.K H p (bs.map V.bl) ∧ Q (.int (bs.count b : Nat)) H) := by
  intro pins s σ H x xs v us Q I rx rxs h
  obtain ⟨p, bs, b, rfl, rfl, hs, q⟩ := h
  cases rx
  obtain ⟨u, rfl, ru⟩ := rxs.one
  obtain ⟨its, rv, ⟨⟨cls, dd, data, sl⟩, n, ho, hc, hdn, hd⟩, hlen⟩ := I.list hs
  simp only at hc hd
  subst hc hd
  refine call_meets PySem.F.slot_list_count ⟨_, ho, rfl⟩ PySem.F.entry_list_count (PySem.F.args_list_count_2 _ _) (SeqAt.list_countAt p its.toArray n dd sl u (eqU (.bl b))) ⟨ho, fun y hy => mem_eqAt ru rfl rv (flat_bls bs) y (by simpa using hy), ?_⟩
  have e : ∀ (bs : List Bool) (its : List Value), Vals (bs.map V.bl) its → its.countP (eqU (.bl b)) = bs.count b := by
    intro bs
    induction bs with
    | nil => intro its r; cases r; rfl
    | cons a bs ih =>
      intro its r
      cases r with
      | cons r1 r2 =>
        rw [List.countP_cons, ih _ r2, List.count_cons, eqU_of r1 rfl, eqV_bl]
  refine ⟨.int (bs.count b : Nat), H, I.tok _, ⟨s.toks, ?_⟩, q⟩
  show Value.int ((its.toArray.toList.countP (eqU (.bl b)) : Nat) : Int) s.toks = _
  rw [show its.toArray.toList = its from rfl, e bs its rv]
variable {W : WN} {fa fb : Ga → R D} {a b : Expr} {apos cpos : Pos}
theorem j_meth1 {id : String} {name : Str} {g : D → D → R D} {r : V → List V → Hp → VK → Prop} (slot : Slot "list" name id) (ty : typeOf (.builtin id) = pure (.type "method_descriptor")) (rule : MtR X id r)
    (hr : ∀ F H dx dy d x y Q, Emb F H → Rep1 X.K F H dx x → Rep1 X.K F H dy y → g dx dy = .ok d → PV X.K F H d Q → r x [y] H Q) (ne : ∀ x y c, g x y ≠ .ex c) (ha : JR X W fa a) (hb : JR X W fb b)
    (hbase : attributeBase a name X.env (eval a X.env) = eval a X.env := by rfl)
    (hfew : ((backTo cpos (starEach [b] X.env)).all (fun x => !x.1) && (backToKw cpos (keywordEach [] X.env)).all (fun x => x.1.isSome) && decide ([b].length + ([] : List Keyword).length + (if ([] : List Keyword).isEmpty then 0 else 1) < 30)) = true := by rfl)
    (hline : (apos.endLine == cpos.line) = true := by rfl) (hs : starEach [b] X.env = (false, eval b X.env) :: starEach [] X.env := by rfl) (hplain : (backTo cpos (starEach [] X.env)).any (·.1) = false := by rfl) :
    J X W (bM1 g fa fb) (.Call (.Attribute a name apos) [b] [] cpos) := ⟨PE.imp (pe_bm PySem.F.plainAttrs_list slot ty rule ha.pe (pa_cons hb.pe pa_nil hs) hbase hfew hline hs hplain) fun σ H Q ⟨F, γ, r0, o⟩ => by
  refine ⟨F, γ, r0, ?_⟩
  unfold bM1 at o
  cases e1 : fa γ with
  | ok dx =>
    simp only [e1, R.bind] at o
    intro x F1 H1 n1 p1
    cases dx with
    | lst xs =>
      simp only at o
      obtain ⟨l, vs, rfl, s1, _⟩ := p1.lst n1.emb
      refine ⟨.inl ⟨rfl, _, s1⟩, F1, γ, r0.next n1, ?_⟩
      cases e2 : fb γ with
      | ok dy =>
        simp only [e2] at o
        cases e3 : g (.lst xs) dy with
        | ok d =>
          rw [e3] at o
          exact fun y F2 H2 n2 p2 => hr F2 H2 _ dy d _ y Q n2.emb (p1.next n2) p2 e3 (PV.next (Q := Q) o (n1.trans n2))
        | ex c => exact absurd e3 (ne _ _ _)
        | no => rw [e3] at o; exact o.elim
      | ex c => simp only [e2] at o; exact fun F2 H2 n2 => o F2 H2 (n1.trans n2)
      | no => simp only [e2] at o; exact o.elim
    | _ => exact o.elim
  | ex c => simp only [e1, R.bind] at o; exact o
  | no => simp only [e1, R.bind] at o; exact o⟩
end
end KN
namespace KN
open PySem PySem.Spec PyProof.Rows L2
theorem j_countB {X : Cx} {W : WN} {fa fb : Ga → R D} {a b : Expr} {apos cpos : Pos} (ha : JR X W fa a) (hb : JR X W fb b)
    (hbase : attributeBase a "count" X.env (eval a X.env) = eval a X.env := by rfl)
    (hfew : ((backTo cpos (starEach [b] X.env)).all (fun x => !x.1) && (backToKw cpos (keywordEach [] X.env)).all (fun x => x.1.isSome) && decide ([b].length + ([] : List Keyword).length + (if ([] : List Keyword).isEmpty then 0 else 1) < 30)) = true := by rfl)
    (hline : (apos.endLine == cpos.line) = true := by rfl) (hs : starEach [b] X.env = (false, eval b X.env) :: starEach [] X.env := by rfl) (hplain : (backTo cpos (starEach [] X.env)).any (·.1) = false := by rfl) :
    J X W (bM1 dCount fa fb) (.Call (.Attribute a "count" apos) [b] [] cpos) :=
  j_meth1 (name := "count") PySem.F.slot_list_count (by rfl) mt_countB (fun F H dx dy d x y Q em p1 p2 e q => by
    cases dx <;> cases dy <;> simp only [dCount] at e <;> first | (cases e; done) | skip
    rename_i xs bb
    cases e2 : asBls xs with
    | none => rw [e2] at e; cases e
    | some bs =>
      rw [e2] at e
      cases e
      have := asBls_of e2
      subst this
      obtain ⟨l, vs, rfl, s1, r1⟩ := p1.lst em
      have := r1.bls
      subst this
      have hy : y = .bl bb := by
        rcases p2 with p2 | p2
        · cases p2; rfl
        · obtain ⟨_, _, z⟩ := p2
          exact z.elim
      subst hy
      exact ⟨l, bs, bb, rfl, rfl, s1, PV.here (Q := Q) q em (.int _)⟩) dCount_ne ha hb hbase hfew hline hs hplain
theorem j_indexB {X : Cx} {W : WN} {fa fb : Ga → R D} {a b : Expr} {apos cpos : Pos} (ha : JR X W fa a) (hb : JR X W fb b)
    (hbase : attributeBase a "index" X.env (eval a X.env) = eval a X.env := by rfl)
    (hfew : ((backTo cpos (starEach [b] X.env)).all (fun x => !x.1) && (backToKw cpos (keywordEach [] X.env)).all (fun x => x.1.isSome) && decide ([b].length + ([] : List Keyword).length + (if ([] : List Keyword).isEmpty then 0 else 1) < 30)) = true := by rfl)
    (hline : (apos.endLine == cpos.line) = true := by rfl) (hs : starEach [b] X.env = (false, eval b X.env) :: starEach [] X.env := by rfl) (hplain : (backTo cpos (starEach [] X.env)).any (·.1) = false := by rfl) :
    J X W (bM1 dIndex fa fb) (.Call (.Attribute a "index" apos) [b] [] cpos) :=
  j_meth1 (name := "index") PySem.F.slot_list_index (by rfl) mt_index (fun F H dx dy d x y Q em p1 p2 e q => by
    cases dx <;> cases dy <;> simp only [dIndex] at e <;> first | (cases e; done) | skip
    rename_i xs bb
    cases e2 : asBls xs with
    | none => rw [e2] at e; cases e
    | some bs =>
      rw [e2] at e
      simp only [o2r, R.bind] at e
      split at e
      · rename_i hin
        cases e
        have := asBls_of e2
        subst this
        obtain ⟨l, vs, rfl, s1, r1⟩ := p1.lst em
        have := r1.bls
        subst this
        have hy : y = .bl bb := by
          rcases p2 with p2 | p2
          · cases p2; rfl
          · obtain ⟨_, _, z⟩ := p2
            exact z.elim
        subst hy
        have lt : bs.idxOf bb < bs.length := List.idxOf_lt_length_iff.mpr hin
        refine ⟨l, _, .bl bb, bs.idxOf bb, .bl bb, rfl, rfl, s1, rfl, flat_bls bs, ?_, ?_, ?_, PV.here (Q := Q) q em (.int _)⟩
        · rw [List.getElem?_map, List.getElem?_eq_getElem lt, List.getElem_idxOf]; rfl
        · rw [eqV_bl]; simp
        · intro m z' hm hz
          rw [List.getElem?_map] at hz
          obtain ⟨c, hc, rfl⟩ := Option.map_eq_some_iff.mp hz
          rw [eqV_bl]
          have hml : m < bs.length := by omega
          rw [List.getElem?_eq_getElem hml] at hc
          cases hc
          have := List.not_of_lt_findIdx (p := (· == bb)) (xs := bs) (i := m) (by simpa [List.idxOf] using hm)
          simpa using this
      · cases e) dIndex_ne ha hb hbase hfew hline hs hplain
/-! ### try: .. except X as n: return f(n) -/
def fTryR (fb : Ga → R Fl) (h : Nat → R D) : Ga → R Fl := fun γ => match fb γ with
  | .ex c => (match h c with | .ok d => .ok (.rt d) | _ => .no)
  | r => r
def wnL (X : Cx) (cl : Cl) (W : WX) : WN := fun c σ H => σ.length = X.N.length → W (cl c) none σ H
theorem takesL {X : Cx} {cl : Cl} {W : WX} (t : Takes X W) : Takes X (VW cl (wnL X cl W)) := fun u s' ⟨a, B, sI, pins, σ, H, cls, d, e, I, nb, up, sky, na, os, ag, c, e1, e2, w⟩ =>
  t u s' ⟨a, B, sI, pins, σ, H, cls, d, e, I, nb, up, sky, na, os, ag, by subst e1 e2; exact w I.len⟩
/-- what the suite wishes -/
def tsR (K : PySem.W.Frag) (cl : Cl) (h : Nat → R D) (i : Nat) : Addr → Value → Option Addr → TS := fun a cls d D' σ H => σ[i]? = some (some (.ref a)) ∧ ∃ c dd F, cls = cl c ∧ d = none ∧ h c = .ok dd ∧ Emb F H ∧ PV K F H dd D'.rt
theorem js_tryR {X : Cx} {W : WN} {cl : Cl} {k i : Nat} {f C : Addr} {fd : FuncData} {y fn x n : Str} {h : Nat → R D} {fb : Ga → R Fl} {body : List Stmt} {np q q2 cpos rpos pos' pos : Pos}
    (Fe : FnE X.prog X.w X.K X.mg X.base (L2.CX X.prog X.w) k f fd [y] (spE cl X.K h)) (hr : L2H.RoomH k X.A) (hm : X.mg fn = some (.ref f)) (hk : PySem.W.keepIn X.K (.ref f) = true) (hb : Binds X.K fd [y] [])
    (hx : ∀ c d, h c = .ok d → PySem.W.exmOne X.K (cl c) (.ref C) = some true) (hmx : X.mg x = some (.ref C))
    (hbody : ∀ (pn : List (Addr × Obj)) (xe : Value → Shared → Prop) (Wn : WN), Takes (X.tr pn xe) (VW cl Wn) → PassesOwn (model X.prog X.w) X.A X.env xe → JSs (X.tr pn xe) Wn fb body)
    (hs : X.stack = X.env :: X.outer := by rfl) (hf : X.env.frame = some X.env.locals := by rfl) (hN : X.N.Nodup := by decide) (hi : X.N[i]? = some n := by rfl) (hln : X.env.kindOf n = some .local := by rfl)
    (hg : Gl X fn := by rfl) (hgx : Gl X x := by rfl) (hdb : (fn == ("__debug__" : Str)) = false := by decide) (hdx : (x == ("__debug__" : Str)) = false := by decide) (hdn : (n == ("__debug__" : Str)) = false := by decide) (hcn : (n == ("__classdict__" : Str)) = false := by decide)
    (he : starEach [.Name n q2] X.env = (false, eval (.Name n q2) X.env) :: starEach [] X.env := by rfl) (hpl : (backTo cpos (starEach [] X.env)).any (·.1) = false := by rfl) :
    JS X W (fTryR fb h) (.Try body [.ExceptHandler (some (.Name x np)) (some n) [.Return (some (.Call (.Name fn q) [.Name n q2] [] cpos)) rpos] pos'] [] [] pos) := by
  refine ⟨PS.imp (ps_try_as (Wout := fun _ _ _ _ => False) (tb := fun W => rdS X.K (wnL X cl W) fb) (ts := tsR X.K cl h i) hs hf hN hi hln ⟨hgx, hdx, .inl hmx⟩ takes0 (fun W pn xe tk hp => (hbody pn xe _ (takesL tk) hp).pss) fun a oe cls d pn hz hfd =>
    PSs.imp (pss_one (ps_ret (pe_callE (X := X.suite a ((a, oe) :: pn)) (E := fun _ _ _ _ => False) (p := (a, oe)) Fe ⟨hr.dp, hr.un⟩ List.mem_cons_self hg hm hk hb (fun σ => passAt (W := fun _ _ _ _ => False) takes0 σ) (pa_cons (pe_var hi (.inl hln) hdn hcn) pa_nil he) hdb he hpl))) ?_) fun E σ H ⟨B, F, γ, r, o⟩ => ?_⟩
  · rintro E σ H ⟨h1, c, dd, F, rfl, rfl, h2, em, p⟩
    exact ⟨_, h1, rfl, c, dd, F, hz, hfd, h2, em, p⟩
  · refine ⟨B, F, γ, r, ?_⟩
    unfold fTryR at o
    cases e : fb γ with
    | ok fl => rw [e] at o; cases fl <;> exact o
    | no => rw [e] at o; exact o.elim
    | ex c =>
      simp only [e] at o
      intro σ' F' H' fi hl
      cases e2 : h c with
      | ex c' => simp only [e2] at o; exact o.elim
      | no => simp only [e2] at o; exact o.elim
      | ok dd =>
        simp only [e2] at o
        refine ⟨true, hx c dd e2, fun _ a ha => ⟨?_, c, dd, F', rfl, rfl, e2, fi.emb, fun v F2 H2 n2 p2 => o v F2 H2 (fi.next n2) p2⟩, fun z => nomatch z⟩
        rw [List.getElem?_set_self]
        rw [hl]
        exact (List.getElem?_eq_some_iff.mp hi).1
end KN
namespace KN
open PySem PySem.Spec PyProof.Rows L2
/-! ### the program's errors -/
structure ErrOne (K : PySem.W.Frag) (x : Str) (C L : Addr) : Prop where
  n : PySem.W.nsIn K mainGlobals x = some (some (.ref C))
  q : PySem.W.excIn K C [.type "ValueError", .type "Exception", .type "BaseException", .type "object"] "ValueError.__new__" = true
  k : PySem.W.keepIn K (.ref C) = true
  b : PySem.W.subIn K (.ref C) (.type "BaseException") = some true
  v : PySem.W.subIn K (.ref C) (.type "ValueError") = some true
  l : PySem.W.subIn K (.ref C) (.ref L) = some true
  t : PySem.W.typeIn K (.ref C) = some (.type "type")
  hg : PySem.W.findIn K (.ref C) "__getattribute__" = some (some (.builtin "BaseException.__getattribute__"))
  hk : PySem.W.findIn K (.ref C) "__getattr__" = some none
  hd : PySem.W.hasDictIn K C = true
  ha : PySem.W.findIn K (.ref C) "__class__" = some (some (.builtin "object.__class__"))
  hn : PySem.W.specialIn K (.builtin "object.__class__") "__get__" = some (some (.builtin "getset_descriptor.__get__"))
  ht : PySem.W.takesIn K (.builtin "object.__class__") = some true
  hm : PySem.W.mroIn K C (.type "object") = some true
structure ErrL (K : PySem.W.Frag) (L : Addr) : Prop where
  n : PySem.W.nsIn K mainGlobals "LikeError" = some (some (.ref L))
  b : PySem.W.subIn K (.ref L) (.type "BaseException") = some true
  t : PySem.W.typeIn K (.ref L) = some (.type "type")
  hd : PySem.W.hasDictIn K L = true
def errName : Nat → Str
  | 0 => "NoBook"
  | 1 => "NoOrder"
  | 2 => "NoName"
  | 3 => "NoWish"
  | 4 => "NoNumber"
  | 5 => "NotMade"
  | 6 => "TooShort"
  | 7 => "Nothing"
  | 8 => "NoText"
  | _ => "LikeError"
theorem ErrOne.x {K : PySem.W.Frag} {x : Str} {C L : Addr} {h : Heap} {mg : Str → Option Value} (E : ErrOne K x C L) (X : K.In h) (G : h.Ns mainGlobals mg) : ExR K mg x C := ⟨PySem.W.mg_of X G E.n, E.q, E.k, E.b, E.t⟩
theorem ErrOne.c {K : PySem.W.Frag} {x : Str} {C L : Addr} (E : ErrOne K x C L) : ExcC K C := ⟨E.hg, E.hk, E.b, E.hd, E.ha, E.hn, E.ht, E.hm⟩
theorem isSome_cls {K : PySem.W.Frag} {C : Addr} (h : PySem.W.hasDictIn K C = true) : (PySem.W.clsIn K C).isSome = true := by
  obtain ⟨cd, hc, _⟩ := PySem.W.any_some h
  rw [hc]; rfl
theorem kit_cls {K : PySem.W.Frag} {C D : Addr} {b : Bool} (hd : PySem.W.hasDictIn K D = true) (ht : PySem.W.typeIn K (.ref D) = some (.type "type")) (s : PySem.W.subIn K (.ref C) (.ref D) = some b) (s2 : PySem.W.subIn K (.ref D) (.ref D) = some true) :
    PySem.W.kitOne K (.ref C) (.ref D) = some b := by
  unfold PySem.W.kitOne
  split
  · rename_i h
    have e : C = D := Value.ref.inj (beq_iff_eq.mp h)
    subst e
    rw [s2] at s
    exact s
  · unfold PySem.W.kitCls
    have e2 : ((PySem.W.clsIn K D).isSome && PySem.W.typeIn K (.ref D) == some (.type "type")) = true := by rw [isSome_cls hd, ht]; rfl
    simp only [e2, if_true]
    exact s
theorem kit_val {K : PySem.W.Frag} {C : Addr} (s : PySem.W.subIn K (.ref C) (.type "ValueError") = some true) : PySem.W.kitOne K (.ref C) (.type "ValueError") = some true := by
  unfold PySem.W.kitOne
  split
  · rfl
  · unfold PySem.W.kitCls
    have e2 : PySem.W.kitMeta "ValueError" = true := by decide
    simp only [e2, if_true]
    exact s
structure Errs (hs : List Nat) (K : PySem.W.Frag) (mg : Str → Option Value) where
  e : Nat → Addr
  L : Addr
  g : mg "LikeError" = some (.ref L)
  x : ∀ c, c ∈ hs → ExR K mg (errName c) (e c)
  c : ∀ c, c ∈ hs → ExcC K (e c)
  kit : ∀ c i, c ∈ hs → i ∈ hs → PySem.W.kitOne K (.ref (e c)) (.ref (e i)) = some (decide (c = i))
  val : ∀ c, c ∈ hs → PySem.W.kitOne K (.ref (e c)) (.type "ValueError") = some true
  exm : ∀ c, c ∈ hs → PySem.W.exmOne K (.ref (e c)) (.ref L) = some true
  exo : ∀ c i, c ∈ hs → i ∈ hs → PySem.W.exmOne K (.ref (e c)) (.ref (e i)) = some (decide (c = i))
/-- the classes by their numbers -/
def clE {hs : List Nat} {K : PySem.W.Frag} {mg : Str → Option Value} (T : Errs hs K mg) : Cl := fun c => .ref (T.e c)
def hRef (hs fl : List Nat) (c : Nat) : R D := if c ∈ hs then .ok (.tup [.str [114, 101, 102, 117, 115, 101, 100], .int (if c ∈ fl then (fl.idxOf c : Nat) else -1)]) else .no
theorem hRef_lt {hs fl : List Nat} {c : Nat} {d : D} (h : hRef hs fl c = .ok d) : c ∈ hs := by
  unfold hRef at h
  split at h
  · assumption
  · cases h
/-- what is promised of a law: it tells, and raises nothing -/
def spOk (K : PySem.W.Frag) (n : Nat) (g : List D → R D) : Sp := fun vs H Q E => ∃ F ds d, vs.length = n ∧ Emb F H ∧ Reps K F ds vs ∧ g ds = .ok d ∧ PV K F H d Q
theorem spOk_D {K : PySem.W.Frag} {cl : Cl} {n : Nat} {g : List D → R D} : ∀ vs H Q E, spOk K n g vs H Q E → spD K cl n g vs H Q E := fun vs H Q E ⟨F, ds, d, a, b, c, e, q⟩ => ⟨F, ds, a, b, c, by rw [e]; exact q⟩
theorem law_endX {K : PySem.W.Frag} {H : Hp} {a : Addr} {ns : List Int} {n : Nat} {g : List D → R D} (h : ∀ ns : List Int, ns.length ≤ n → g [.lst (ns.map .int)] = .ok (.bl true)) (hl : ns.length ≤ n) (hS : SqL K H a (ns.map V.int)) :
    spOk K 1 g [.ref a] H (fun v _ => v = .bl true) fun _ _ _ => False := by
  have gen : ∀ F : Hp, Emb F H → SqL K F a (ns.map V.int) → spOk K 1 g [.ref a] H (fun v _ => v = .bl true) fun _ _ _ => False := fun F e s => by
    refine ⟨F, [.lst (ns.map .int)], _, rfl, e, .cons (.lst s (reps_ints ns)) .nil, h ns hl, ?_⟩
    intro v F' H' _ r
    cases r; rfl
  rcases hS with (h1 | ⟨o, h1⟩) | h1
  · exact gen (upd (fun _ => none) a (.lst (ns.map V.int))) (fun b o z => by
      by_cases q : b = a
      · subst q; rw [upd_same] at z; cases z; exact .inl h1
      · rw [upd_ne q] at z; cases z) (.inl (.inl upd_same))
  · exact gen (upd (fun _ => none) a (.frz o (.lst (ns.map V.int)))) (fun b o z => by
      by_cases q : b = a
      · subst q; rw [upd_same] at z; cases z; exact .inl h1
      · rw [upd_ne q] at z; cases z) (.inl (.inr ⟨o, upd_same⟩))
  · exact gen _ Emb.none (.inr h1)
theorem bE_here {a : Addr} {b : Bool} {r : Ga} : bE 0 a b (.xc a :: r) = .ok (.bl b) := by simp [bE]
theorem hvR {hs fl : List Nat} {m : Addr → Nat → Ga → R Fl} (h : ∀ a c, c ∈ hs → m a c (startE 2 a) = .ok (.rt (.tup [.str [114, 101, 102, 117, 115, 101, 100], .int (if c ∈ fl then (fl.idxOf c : Nat) else -1)]))) : ∀ a c d, hRef hs fl c = .ok d → m a c (startE 2 a) = .ok (.rt d) := fun a c d e => by
  have q := hRef_lt e
  rw [h a c q]
  unfold hRef at e
  rw [if_pos q] at e
  cases e
  rfl
theorem hu_of_H {A : Around} {k : Nat} (r : L2H.RoomH k A) : A.units + 64 < cLine ∧ A.units + 65 < cLine ∧ A.units + 1 < cLine := ⟨by have := r.un; omega, by have := r.un; omega, by have := r.un; omega⟩
end KN
/-! KnU: a text or a tuple times a number -/
/-! KnV: sorted(d.items()) -/
namespace KN
open PySem PySem.Spec PyProof.Rows L2
open PyProof.Rows.G (tupKeyC tupKindC isTupObj)
abbrev itK (e : Tx × Int) : List Ik := [.inr e.1, .inl e.2]
def shI (i : Nat) : Bool := i == 0
def TI (h : Heap) (Z : Addr → List V → Prop) (k : List Ik) (u : Value) : Prop := ∃ (a : Addr) (e : Tx × Int) (x y : Value), u = .ref a ∧ Z a [.str (toS e.1), .int e.2] ∧ k = itK e ∧ RelV (.str (toS e.1)) x ∧ RelV (.int e.2) y ∧ h.get? a = some { cls := .type "tuple", data := .seq #[x, y] }
theorem TI.key {h : Heap} {Z : Addr → List V → Prop} {k : List Ik} {u : Value} (t : TI h Z k u) : tupKeyC h shI u = some k := by
  obtain ⟨a, e, x, y, rfl, _, rfl, r1, r2, hg⟩ := t
  unfold tupKeyC
  have e1 : isTupObj h (.ref a) = true := by simp [isTupObj, hg]
  rw [if_pos e1]
  simp only [tupKey, hg]
  refine items_of (itK e) 0 _ (by
    show Vals [V.str (toS e.1), V.int e.2] [x, y]
    exact .cons r1 (.cons r2 .nil)) fun j z hz => ?_
  cases j with
  | zero => cases hz; rfl
  | succ j =>
    cases j with
    | zero => cases hz; rfl
    | succ j => simp [itK] at hz
theorem TI.tup {h : Heap} {Z : Addr → List V → Prop} {k : List Ik} {u : Value} (t : TI h Z k u) : ∃ f, TupOf h shI u f := by
  obtain ⟨a, e, x, y, rfl, _, rfl, r1, r2, hg⟩ := t
  refine ⟨x, a, _, _, _, rfl, hg, rfl, rfl, rfl, (fun z => nomatch z), fun _ => ?_⟩
  obtain ⟨tk, rfl⟩ := r1
  exact ⟨_, _, rfl⟩
theorem TI.keep {h h' : Heap} {Z : Addr → List V → Prop} {k : List Ik} {u : Value} (t : TI h Z k u) (q : ∀ b o, h.get? b = some o → h'.get? b = some o) : TI h' Z k u := by
  obtain ⟨a, e, x, y, e1, e2, e3, r1, r2, hg⟩ := t
  exact ⟨a, e, x, y, e1, e2, e3, r1, r2, q _ _ hg⟩
end KN
/-! KnW: [f, g, ..][i](..) -/
namespace KN
open PySem PySem.Spec PyProof.Rows L2
theorem arm_call_sub (a b : Expr) (p2 : Pos) (args : List Expr) (keywords : List Keyword) (pos : Pos) (env : Env) : eval (.Call (.Subscript a b p2) args keywords pos) env = (do
    callWith pos (← eval (.Subscript a b p2) env) [] (backTo pos (starEach args env)) (backToKw pos (keywordEach keywords env))) := rfl
/-- the i-th of the defs -/
structure FnM (X : Cx) (cl : Cl) (n : Nat) (f : Addr) (g : List D → R D) : Prop where
  ex : ∃ (k : Nat) (fd : FuncData) (ps : List Str), FnOk X.prog X.w X.K X.mg X.base (L2.CX X.prog X.w) k f fd ps (spD X.K cl n g) ∧ Room k X.A ∧ PySem.W.keepIn X.K (.ref f) = true ∧ Binds X.K fd ps []
section
variable {X : Cx} {W : WN} {cl : Cl} {fi : Ga → R D} {fas : Ga → R (List D)} {n : Nat} {fs : List Addr} {gs : List (List D → R D)} {t : TA} {e ix : Expr} {es els : List Expr} {pL p2 pos : Pos}
def bSel (gs : List (List D → R D)) (fi : Ga → R D) (fas : Ga → R (List D)) : Ga → R D := fun γ => (fi γ).bind fun d => match d with
  | .int i => match atI gs i with
    | some g => (fas γ).bind g
    | none => .no
  | _ => .no
def tSel (X : Cx) (W : WN) (cl : Cl) (n : Nat) (te : TE) (ta : TA) : TE := fun σ H Q => te σ H fun v H1 => ∃ f g, v = .ref f ∧ FnM X cl n f g ∧ ta σ H1 fun vs H2 => spD X.K cl n g vs H2 Q (WE (VW cl W) σ)
theorem pe_sel {te : TE} {ta : TA} (hc : PE X (.Subscript (.List els pL) ix p2) te) (tk : Takes X (VW cl W)) (ha : PA X (e :: es) ta)
    (he : starEach (e :: es) X.env = (false, eval e X.env) :: starEach es X.env := by rfl) (hpl : (backTo pos (starEach es X.env)).any (·.1) = false := by rfl) :
    PE X (.Call (.Subscript (.List els pL) ix p2) (e :: es) [] pos) (tSel X W cl n te ta) := by
  refine ⟨fun pins s σ H Q I h => ?_⟩
  rw [arm_call_sub]
  refine wpAny_bind (thn (hc.run pins s σ H _ I h) fun u s1 ⟨v, H1, I1, r1, f, g, ev, M, q⟩ => ?_)
  subst ev
  cases r1
  obtain ⟨k, fd, ps, F, hr, hk, hb⟩ := M.ex
  refine PySem.W.callWith_K (h₀ := X.base) I1.ok.mod.kin hk (thn (ha.run pos pins s1 σ H1 _ I1 q) fun us s2 ⟨vs, H2, I2, r, q2⟩ => ⟨I2.kIn, ?_⟩) he hpl
  exact run_fnS F hr hb (passAt tk σ) I2 r q2
theorem atI_zip {α β : Type} {xs : List α} {ys : List β} {i : Int} {y : β} (hl : xs.length = ys.length) (h : atI ys i = some y) : ∃ (j : Nat) (x : α), atI xs i = some x ∧ xs[j]? = some x ∧ ys[j]? = some y := by
  unfold atI at h ⊢
  rw [hl]
  cases hz : ixN ys.length i with
  | none => rw [hz] at h; cases h
  | some j =>
    rw [hz] at h
    have h : ys[j]? = some y := h
    have hj : j < xs.length := by rw [hl]; exact (List.getElem?_eq_some_iff.mp h).1
    exact ⟨j, xs[j], List.getElem?_eq_getElem hj, List.getElem?_eq_getElem hj, h⟩
theorem atI_map {α β : Type} {xs : List α} {i : Int} {x : α} (g : α → β) (h : atI xs i = some x) : atI (xs.map g) i = some (g x) := by
  unfold atI at h ⊢
  rw [List.length_map]
  cases hz : ixN xs.length i with
  | none => rw [hz] at h; cases h
  | some j =>
    rw [hz] at h
    have h : xs[j]? = some x := h
    show (xs.map g)[j]? = _
    rw [List.getElem?_map, h]; rfl
theorem j_sel (hl : fs.length = gs.length) (hn : fs.length ≤ 100) (A : ∀ (i : Nat) (f : Addr) (g : List D → R D), fs[i]? = some f → gs[i]? = some g → FnM X cl n f g) (hel : PA X els t) (ht : ∀ σ H Q, Q (fs.map V.ref) H → t σ H Q) (hb : JR X W fi ix) (ha : JA X W fas (e :: es)) (tk : Takes X (VW cl W)) (hna : ∀ γ ds, fas γ = .ok ds → ds.length = n)
    (hs : PlainIx ix := by exact fun _ _ => rfl)
    (he : starEach (e :: es) X.env = (false, eval e X.env) :: starEach es X.env := by rfl) (hpl : (backTo pos (starEach es X.env)).any (·.1) = false := by rfl) :
    J X W (bSel gs fi fas) (.Call (.Subscript (.List els pL) ix p2) (e :: es) [] pos) :=
  ⟨PE.imp (pe_sel (n := n) (cl := cl) (pe_ix ix_list (pe_lst hel) hb.pe hs) tk ha.pa he hpl) fun σ H Q ⟨F, γ, r, o⟩ => by
    refine ht σ H _ ⟨by rw [List.length_map]; have := sizeLine_eq; omega, fun p hp => ?_⟩
    have n1 : Nxt F H F (upd H p (.lst (fs.map V.ref))) := .laid r.emb hp _
    unfold bSel at o
    refine go1 (Z := fun z => Out (PV X.K F H) F H (fun c H' => W c σ H') z Q) (r.next n1) (F := F) (H := upd H p (.lst (fs.map V.ref))) (γ := γ) (k := fun d => match d with
      | .int i => match atI gs i with
        | some g => (fas γ).bind g
        | none => .no
      | _ => .no) o (fun c z F' H' m => z F' H' (n1.trans m)) (fun z => z) fun d y F2 H2 n2 r2 p2 o2 => ?_
    cases d with
    | int i =>
      cases hg : atI gs i with
      | none => simp only [hg] at o2; exact o2.elim
      | some g =>
        simp only [hg] at o2
        obtain ⟨j, f, e1, e2, e3⟩ := atI_zip hl hg
        have ev : atI (fs.map V.ref) i = some (V.ref f) := atI_map V.ref e1
        refine ⟨p, fs.map V.ref, i, V.ref f, rfl, p2.int, .inl (.inl (n2.h _ _ upd_same)), ev, f, g, rfl, A j f g e2 e3, ?_⟩
        have n3 := n1.trans n2
        exact tCall_of (g := g) (fs := fas) hna r2 (by
          show Out (PV X.K F2 H2) F2 H2 (fun c H' => W c σ H') ((fas γ).bind g) Q
          cases hz : (fas γ).bind g with
          | ok d => rw [hz] at o2; exact PV.next (Q := Q) o2 n3
          | ex c => rw [hz] at o2; exact fun F' H' m => o2 F' H' (n3.trans m)
          | no => rw [hz] at o2; exact o2.elim)
    | _ => exact o2.elim⟩
end
end KN
/-! KnM: the meanings of the defs that stand in more than one law (printed by wip/shared.py) -/
namespace KN
open PySem PySem.Spec PyProof.Rows L2
noncomputable section
def m_is_number : Ga → R Fl := fRet (bAnd (b1 (dIsi .int) (bVar 0)) (bAnd (b1 dNot (b1 (dIsi .bool) (bVar 0))) (bCh dLe dLe (bVar 1) (bVar 0) (bVar 2))))
def g_is_number : List D → R D := fnD 3 m_is_number
def m_is_name : Ga → R Fl := fRet (bAnd (b1 (dIsi .str) (bVar 0)) (bAnd (bCh dLe dLe (bC (.int 1)) (bN dLen (bCons (bVar 0) (bNil))) (bC (.int 8))) (bN dAll (bCons (bLcE (bVar 0) [1] (bdN 1) yes (b2 dIn (bVar 1) (bC (.str [97, 98, 99, 100, 101, 102, 103, 104, 105, 106, 107, 108, 109, 110, 111, 112, 113, 114, 115, 116, 117, 118, 119, 120, 121, 122])))) (bNil)))))
def g_is_name : List D → R D := fnD 2 m_is_name
def m_is_book : Ga → R Fl := fRet (bAnd (b1 (dIsi .tup) (bVar 0)) (bAnd (bCh dLe dLe (bC (.int 1)) (bN dLen (bCons (bVar 0) (bNil))) (bC (.int 8))) (bN dAll (bCons (bLcE (bVar 0) [1] (bdN 1) yes (bCall g_is_name (bCons (bVar 1) (bNil)))) (bNil)))))
def g_is_book : List D → R D := fnD 2 m_is_book
def m_need_book : Ga → R Fl := fIf (tNot (tVal (bCall g_is_book (bCons (bVar 0) (bNil))))) (fRaise 0) (fNil)
def g_need_book : List D → R D := fnD 1 m_need_book
def m_need_order : Ga → R Fl := fIf (tNot (tVal (bCall g_is_number (bCons (bVar 0) (bCons (bC (.int 1)) (bCons (bC (.int 3)) (bNil))))))) (fRaise 1) (fNil)
def g_need_order : List D → R D := fnD 1 m_need_order
def m_end_of : Ga → R Fl := fRet (bSl (bVar 1) (pSo (bN dMax (bCons (bC (.int 0)) (bCons (b2 dSub (bN dLen (bCons (bVar 1) (bNil))) (bVar 0)) (bNil))))) (pNo))
def g_end_of : List D → R D := fnD 2 m_end_of
def m_counted : Ga → R Fl := fSeq (fNd0 2) (fSeq (fForE (bVar 0) (bdN 3) (fForI (iR1 (b2 dAdd (bN dLen (bCons (bVar 3) (bNil))) (bC (.int 1)))) (bdN 4) (fSeq (fSet 5 (bCall g_end_of (bCons (bVar 1) (bCons (bSl (bVar 3) (pNo) (pSo (bVar 4))) (bNil))))) (fSeq (fSet 6 (bSl (bVar 3) (pSo (bVar 4)) (pSo (b2 dAdd (bVar 4) (bC (.int 1)))))) (fBump 2 7 5 6))))) (fFz 2 (fRet (bVar 2))))
def g_counted : List D → R D := fnD 8 m_counted
def m__law_cell : Ga → R Fl := fSeq (fIf (tVal (b2 dEq (bVar 0) (bLst (bNil)))) (fRet (b2 dMul (bC (.int 7)) (bVar 1))) (fNil)) (fRet (b2 dAdd (b2 dIx (bVar 0) (b2 dMod (bVar 1) (bN dLen (bCons (bVar 0) (bNil))))) (b2 dMul (bC (.int 6553)) (b2 dDiv (bVar 1) (bN dLen (bCons (bVar 0) (bNil)))))))
def g__law_cell : List D → R D := fnD 2 m__law_cell
def m__law_drawn : Ga → R Fl := fSeq (fSet 3 (b2 dMod (b2 dAdd (b2 dMul (b2 dMod (bCall g__law_cell (bCons (bVar 0) (bCons (bVar 1) (bNil)))) (bC (.int 2147483563))) (bC (.int 69069))) (b2 dMul (bC (.int 104723)) (b2 dAdd (bVar 1) (bC (.int 1))))) (bC (.int 2147483563)))) (fSeq (fSet 3 (b2 dMod (b2 dAdd (b2 dMul (bVar 3) (bVar 3)) (b2 dDiv (bVar 3) (bC (.int 3)))) (bC (.int 2147483399)))) (fRet (b2 dMod (b2 dDiv (b2 dMod (b2 dAdd (b2 dMul (bVar 3) (bVar 3)) (b2 dDiv (bVar 3) (bC (.int 7)))) (bC (.int 2147483647))) (bC (.int 11))) (bVar 2))))
def g__law_drawn : List D → R D := fnD 4 m__law_drawn
def m__law_name : Ga → R Fl := fSeq (fSet 3 (b2 dAdd (bC (.int 1)) (bCall g__law_drawn (bCons (bVar 0) (bCons (bVar 1) (bCons (bVar 2) (bNil))))))) (fSeq (fSet 4 (b2 dIx (bLst (bCons (bC (.str [97, 98])) (bCons (bC (.str [97, 98])) (bCons (bC (.str [97, 98, 122])) (bNil))))) (bCall g__law_drawn (bCons (bVar 0) (bCons (b2 dAdd (bVar 1) (bC (.int 9))) (bCons (bC (.int 3)) (bNil))))))) (fRet (b2s dJoin (bC (.str [])) (bLcI (iR1 (bVar 3)) [5] (bdN 5) yes (b2 dIx (bVar 4) (bCall g__law_drawn (bCons (bVar 0) (bCons (b2 dAdd (b2 dAdd (bVar 1) (bC (.int 1))) (bVar 5)) (bCons (bN dLen (bCons (bVar 4) (bNil))) (bNil))))))))))
def g__law_name : List D → R D := fnD 6 m__law_name
def m__law_book : Ga → R Fl := fSeq (fSet 4 (bTup (bNil))) (fSeq (fForI (iR1 (b2 dAdd (bC (.int 1)) (bCall g__law_drawn (bCons (bVar 0) (bCons (bVar 1) (bCons (bVar 2) (bNil))))))) (bdN 5) (fSet 4 (b2 dAdd (bVar 4) (bTup (bCons (bCall g__law_name (bCons (bVar 0) (bCons (b2 dAdd (b2 dAdd (bVar 1) (bC (.int 1))) (b2 dMul (bC (.int 10)) (bVar 5))) (bCons (bVar 3) (bNil))))) (bNil)))))) (fRet (bVar 4)))
def g__law_book : List D → R D := fnD 6 m__law_book
def m__law_counts : Ga → R Fl := fSeq (fNd0 2) (fSeq (fForE (bVar 0) (bdN 3) (fForI (iR1 (b2 dAdd (bN dLen (bCons (bVar 3) (bNil))) (bC (.int 1)))) (bdN 4) (fSeq (fSet 5 (bIf (tVal (b2 dGt (bVar 4) (bC (.int 0)))) (bSl (bSl (bVar 3) (pNo) (pSo (bVar 4))) (pSo (b2 dSub (bC (.int 0)) (bN dMinT (bCons (bVar 1) (bCons (bVar 4) (bNil)))))) (pNo)) (bC (.str [])))) (fSeq (fSet 6 (bSl (bVar 3) (pSo (bVar 4)) (pSo (b2 dAdd (bVar 4) (bC (.int 1)))))) (fSeq (fNFill 2 5) (fNBump 2 5 6)))))) (fFz 2 (fRet (bVar 2))))
def g__law_counts : List D → R D := fnD 7 m__law_counts
def m__law_row : Ga → R Fl := fSeq (fSet 3 (bIf (tVal (b2 dNe (bVar 2) (bC (.str [])))) (bSl (bVar 2) (pSo (b2 dSub (bC (.int 0)) (bN dMinT (bCons (bVar 1) (bCons (bN dLen (bCons (bVar 2) (bNil))) (bNil)))))) (pNo)) (bC (.str [])))) (fRet (bGet (bCall g__law_counts (bCons (bVar 0) (bCons (bVar 1) (bNil)))) (bVar 3) (bC (.dic []))))
def g__law_row : List D → R D := fnD 4 m__law_row
def m__law_lowest : Ga → R Fl := fSeq (fSet 2 (bVar 0)) (fSeq (fSet 3 (bVar 1)) (fSeq (fWh (tVal (b2 dGt (bVar 3) (bC (.int 0)))) (fPar 2 3 (bVar 3) (b2 dMod (bVar 2) (bVar 3)))) (fRet (bTup (bCons (b2 dDiv (bVar 0) (bVar 2)) (bCons (b2 dDiv (bVar 1) (bVar 2)) (bNil)))))))
def g__law_lowest : List D → R D := fnD 4 m__law_lowest
def m__law_share : Ga → R Fl := fSeq (fSet 3 (bC (.int 1))) (fSeq (fSet 4 (bC (.int 1))) (fSeq (fForI (iR1 (b2 dAdd (bN dLen (bCons (bVar 2) (bNil))) (bC (.int 1)))) (bdN 5) (fSeq (fSet 6 (bCall g__law_row (bCons (bVar 0) (bCons (bVar 1) (bCons (bSl (bVar 2) (pNo) (pSo (bVar 5))) (bNil)))))) (fSeq (fSet 3 (b2 dMul (bVar 3) (bGet (bVar 6) (bSl (bVar 2) (pSo (bVar 5)) (pSo (b2 dAdd (bVar 5) (bC (.int 1))))) (bC (.int 0))))) (fSet 4 (b2 dMul (bVar 4) (bN dMax (bCons (bC (.int 1)) (bCons (bN dSum (bCons (bLcE (bVar 6) [7] (bdN 7) yes (b2 dIx (bVar 6) (bVar 7))) (bNil))) (bNil))))))))) (fRet (bCall g__law_lowest (bCons (bVar 3) (bCons (bVar 4) (bNil)))))))
def g__law_share : List D → R D := fnD 8 m__law_share
def m__law_sum : Ga → R Fl := fSeq (fSet 1 (bC (.int 0))) (fSeq (fSet 2 (bC (.int 1))) (fSeq (fForE (bVar 0) (bdN 3) (fBd (bdT [1, 2]) (bCall g__law_lowest (bCons (b2 dAdd (b2 dMul (bVar 1) (b2 dIx (bVar 3) (bC (.int 1)))) (b2 dMul (b2 dIx (bVar 3) (bC (.int 0))) (bVar 2))) (bCons (b2 dMul (bVar 2) (b2 dIx (bVar 3) (bC (.int 1)))) (bNil)))))) (fRet (bTup (bCons (bVar 1) (bCons (bVar 2) (bNil)))))))
def g__law_sum : List D → R D := fnD 4 m__law_sum
def m__law_made : Ga → R Fl := fSeq (fOwn 3 (bLst (bNil))) (fSeq (fSet 4 (bLst (bCons (bC (.str [])) (bNil)))) (fSeq (fForI (iR1 (b2 dAdd (bVar 2) (bC (.int 1)))) (bdN 5) (fSeq (fSet 6 (bLst (bNil))) (fSeq (fForE (bVar 4) (bdN 7) (fSeq (fSet 8 (bCall g__law_row (bCons (bVar 0) (bCons (bVar 1) (bCons (bVar 7) (bNil)))))) (fSeq (fIf (tVal (b2 dIn (bC (.str [])) (bVar 8))) (fApp 3 (bVar 7)) (fNil)) (fSet 6 (b2 dAdd (bVar 6) (bLcE (bN dSort (bCons (bVar 8) (bNil))) [9] (bdN 9) (tVal (b2 dNe (bVar 9) (bC (.str [])))) (b2 dAdd (bVar 7) (bVar 9)))))))) (fSet 4 (bVar 6))))) (fFz 3 (fRet (bVar 3)))))
def g__law_made : List D → R D := fnD 10 m__law_made
def m_lowest : Ga → R Fl := fSeq (fSet 2 (bVar 0)) (fSeq (fSet 3 (bVar 1)) (fSeq (fWh (tVal (b2 dGt (bVar 2) (bC (.int 0)))) (fPar 2 3 (b2 dMod (bVar 3) (bVar 2)) (bVar 2))) (fRet (bTup (bCons (b2 dDiv (bVar 0) (bVar 3)) (bCons (b2 dDiv (bVar 1) (bVar 3)) (bNil)))))))
def g_lowest : List D → R D := fnD 4 m_lowest
def m_added : Ga → R Fl := fRet (bCall g_lowest (bCons (b2 dAdd (b2 dMul (b2 dIx (bVar 0) (bC (.int 0))) (b2 dIx (bVar 1) (bC (.int 1)))) (b2 dMul (b2 dIx (bVar 1) (bC (.int 0))) (b2 dIx (bVar 0) (bC (.int 1))))) (bCons (b2 dMul (b2 dIx (bVar 0) (bC (.int 1))) (b2 dIx (bVar 1) (bC (.int 1)))) (bNil))))
def g_added : List D → R D := fnD 2 m_added
def m_times : Ga → R Fl := fRet (bCall g_lowest (bCons (b2 dMul (b2 dIx (bVar 0) (bC (.int 0))) (b2 dIx (bVar 1) (bC (.int 0)))) (bCons (b2 dMul (b2 dIx (bVar 0) (bC (.int 1))) (b2 dIx (bVar 1) (bC (.int 1)))) (bNil))))
def g_times : List D → R D := fnD 2 m_times
def m_part_of : Ga → R Fl := fSeq (fSet 3 (bGet (bVar 0) (bVar 1) (bC (.dic [])))) (fSeq (fIf (tVal (b2 dNotIn (bVar 2) (bVar 3))) (fRet (bTup (bCons (bC (.int 0)) (bCons (bC (.int 1)) (bNil))))) (fNil)) (fRet (bCall g_lowest (bCons (b2 dIx (bVar 3) (bVar 2)) (bCons (bN dSum (bCons (bLcE (bVar 3) [4] (bdN 4) yes (b2 dIx (bVar 3) (bVar 4))) (bNil))) (bNil))))))
def g_part_of : List D → R D := fnD 5 m_part_of
def m_need_number : Ga → R Fl := fIf (tNot (tVal (bCall g_is_number (bCons (bVar 0) (bCons (bVar 1) (bCons (bVar 2) (bNil))))))) (fRaise 4) (fNil)
def g_need_number : List D → R D := fnD 3 m_need_number
def m_need_all : Ga → R Fl := fSeq (fExpr (bCall g_need_book (bCons (bVar 0) (bNil)))) (fSeq (fExpr (bCall g_need_order (bCons (bVar 1) (bNil)))) (fExpr (bCall g_need_number (bCons (bVar 2) (bCons (bC (.int 1)) (bCons (bC (.int 8)) (bNil)))))))
def g_need_all : List D → R D := fnD 3 m_need_all
def m_ways : Ga → R Fl := fSeq (fSet 3 (bDic1 (bC (.str [])) (bTup (bCons (bC (.int 1)) (bCons (bTup (bCons (bC (.int 1)) (bCons (bC (.int 1)) (bNil)))) (bNil)))))) (fSeq (fForI (iR1 (bVar 2)) (bdN 4) (fSeq (fOwn 5 (bC (.dic []))) (fSeq (fForE (bVar 3) (bdN 6) (fSeq (fBd (bdT [8, 9]) (b2 dIx (bVar 3) (bVar 6))) (fForE (bGet (bVar 0) (bVar 6) (bC (.dic []))) (bdN 7) (fIf (tVal (b2 dNe (bVar 7) (bC (.str [])))) (fSeq (fSet 10 (bCall g_end_of (bCons (bVar 1) (bCons (b2 dAdd (bVar 6) (bVar 7)) (bNil))))) (fSeq (fSet 11 (bGet (bRd 5) (bVar 10) (bTup (bCons (bC (.int 0)) (bCons (bTup (bCons (bC (.int 0)) (bCons (bC (.int 1)) (bNil)))) (bNil)))))) (fSeq (fSet 12 (bCall g_times (bCons (bVar 9) (bCons (bCall g_part_of (bCons (bVar 0) (bCons (bVar 6) (bCons (bVar 7) (bNil))))) (bNil))))) (fPut 5 (bVar 10) (bTup (bCons (b2 dAdd (b2 dIx (bVar 11) (bC (.int 0))) (bVar 8)) (bCons (bCall g_added (bCons (b2 dIx (bVar 11) (bC (.int 1))) (bCons (bVar 12) (bNil)))) (bNil)))))))) (fNil))))) (fFz 5 (fSet 3 (bVar 5)))))) (fRet (bVar 3)))
def g_ways : List D → R D := fnD 13 m_ways
def m_how_many : Ga → R Fl := fSeq (fExpr (bCall g_need_all (bCons (bVar 0) (bCons (bVar 1) (bCons (bVar 2) (bNil)))))) (fSeq (fSet 3 (bCall g_counted (bCons (bVar 0) (bCons (bVar 1) (bNil))))) (fSeq (fSet 4 (bCall g_ways (bCons (bVar 3) (bCons (bVar 1) (bCons (bVar 2) (bNil)))))) (fRet (bN dSum (bCons (bLcE (bVar 4) [5] (bdN 5) (tVal (b2 dIn (bC (.str [])) (bGet (bVar 3) (bVar 5) (bC (.dic []))))) (b2 dIx (b2 dIx (bVar 4) (bVar 5)) (bC (.int 0)))) (bNil))))))
def g_how_many : List D → R D := fnD 6 m_how_many
def m_share_of_length : Ga → R Fl := fSeq (fExpr (bCall g_need_all (bCons (bVar 0) (bCons (bVar 1) (bCons (bVar 2) (bNil)))))) (fSeq (fSet 3 (bCall g_counted (bCons (bVar 0) (bCons (bVar 1) (bNil))))) (fSeq (fSet 4 (bTup (bCons (bC (.int 0)) (bCons (bC (.int 1)) (bNil))))) (fSeq (fSet 5 (bCall g_ways (bCons (bVar 3) (bCons (bVar 1) (bCons (bVar 2) (bNil)))))) (fSeq (fForE (bVar 5) (bdN 6) (fSet 4 (bCall g_added (bCons (bVar 4) (bCons (bCall g_times (bCons (b2 dIx (b2 dIx (bVar 5) (bVar 6)) (bC (.int 1))) (bCons (bCall g_part_of (bCons (bVar 3) (bCons (bVar 6) (bCons (bC (.str [])) (bNil))))) (bNil)))) (bNil)))))) (fRet (bVar 4))))))
def g_share_of_length : List D → R D := fnD 7 m_share_of_length
def m_share_up_to : Ga → R Fl := fSeq (fExpr (bCall g_need_all (bCons (bVar 0) (bCons (bVar 1) (bCons (bVar 2) (bNil)))))) (fSeq (fSet 3 (bTup (bCons (bC (.int 0)) (bCons (bC (.int 1)) (bNil))))) (fSeq (fForI (iR2 (bC (.int 1)) (b2 dAdd (bVar 2) (bC (.int 1)))) (bdN 4) (fSet 3 (bCall g_added (bCons (bVar 3) (bCons (bCall g_share_of_length (bCons (bVar 0) (bCons (bVar 1) (bCons (bVar 4) (bNil))))) (bNil)))))) (fRet (bVar 3))))
def g_share_up_to : List D → R D := fnD 5 m_share_up_to
def m_lengthened : Ga → R Fl := fSeq (fOwn 3 (bLst (bNil))) (fSeq (fForE (bVar 2) (bdN 4) (fExt 3 (bLcE (bN dSort (bCons (bGet (bVar 0) (bCall g_end_of (bCons (bVar 1) (bCons (bVar 4) (bNil)))) (bC (.dic []))) (bNil))) [5] (bdN 5) (tVal (b2 dNe (bVar 5) (bC (.str [])))) (b2 dAdd (bVar 4) (bVar 5))))) (fFz 3 (fRet (bVar 3))))
def g_lengthened : List D → R D := fnD 6 m_lengthened
def m_all_made : Ga → R Fl := fSeq (fExpr (bCall g_need_all (bCons (bVar 0) (bCons (bVar 1) (bCons (bVar 2) (bNil)))))) (fSeq (fSet 3 (bCall g_counted (bCons (bVar 0) (bCons (bVar 1) (bNil))))) (fSeq (fSet 4 (bLst (bCons (bC (.str [])) (bNil)))) (fSeq (fForI (iR1 (bVar 2)) (bdN 5) (fSet 4 (bCall g_lengthened (bCons (bVar 3) (bCons (bVar 1) (bCons (bVar 4) (bNil))))))) (fRet (bN dSort (bCons (bLcE (bVar 4) [6] (bdN 6) (tVal (b2 dIn (bC (.str [])) (bGet (bVar 3) (bCall g_end_of (bCons (bVar 1) (bCons (bVar 6) (bNil)))) (bC (.dic []))))) (bVar 6)) (bNil)))))))
def g_all_made : List D → R D := fnD 7 m_all_made
def m_lengths : Ga → R Fl := fSeq (fExpr (bCall g_need_book (bCons (bVar 0) (bNil)))) (fSeq (fExpr (bCall g_need_order (bCons (bVar 1) (bNil)))) (fRet (bLcI (iR2 (bC (.int 1)) (b2 dAdd (bC (.int 8)) (bC (.int 1)))) [2] (bdN 2) (tVal (b2 dGt (bCall g_how_many (bCons (bVar 0) (bCons (bVar 1) (bCons (bVar 2) (bNil))))) (bC (.int 0)))) (bVar 2))))
def g_lengths : List D → R D := fnD 3 m_lengths
end
end KN
/-! KnZ: a law's end -/
namespace KN
open PySem PySem.Spec PyProof.Rows L2
theorem cx_end {P : Program} {w : World} {outer : List Env} {H : Hp} {s s' : Shared} {e : Value} (h : L2.CX P w outer H s (fun _ _ _ => False) e s') : False := by
  obtain ⟨_, _, _, _, _, _, _, _, _, _, _, _, h⟩ := h
  exact h
end KN
/-! PA: how meanings are computed; the small defs of every law -/
namespace KN
open PySem PySem.Spec PyProof.Rows L2
noncomputable section
section
variable {f g : Ga → R Fl} {fa fb fc : Ga → R D} {γ : Ga} {p q : Ga → R Bool}
@[simp] theorem fSeq_e : fSeq f g γ = match f γ with | .ok (.nx γ') => g γ' | r => r := rfl
@[simp] theorem fSet_e {i} : fSet i fa γ = (fa γ).bind fun d => .ok (.nx (γ.set i (.va d))) := rfl
@[simp] theorem fOwn_e {i} : fOwn i fa γ = (fa γ).bind fun d => .ok (.nx (γ.set i (.ow d))) := rfl
@[simp] theorem fNd0_e {i} : fNd0 i γ = .ok (.nx (γ.set i (.nd []))) := rfl
@[simp] theorem fExpr_e : fExpr fa γ = (fa γ).bind fun _ => .ok (.nx γ) := rfl
@[simp] theorem fRet_e : fRet fa γ = (fa γ).bind fun d => .ok (.rt d) := rfl
@[simp] theorem fRetN_e : fRetN γ = .ok (.rt .non) := rfl
@[simp] theorem fNil_e : fNil γ = .ok (.nx γ) := rfl
@[simp] theorem fIf_e : fIf p f g γ = (p γ).bind fun b => if b = true then f γ else g γ := rfl
@[simp] theorem fFz_e {i} : fFz i f γ = match γ[i]? with
  | some (.ow d) => f (γ.set i (.va d))
  | some (.nd es) => f (γ.set i (.va (.dic (es.map fun e => (e.1, .dic e.2)))))
  | _ => .no := rfl
@[simp] theorem bVar_e {i} : bVar i γ = match γ[i]? with | some (.va d) => .ok d | _ => .no := rfl
@[simp] theorem bRd_e {i} : bRd i γ = match γ[i]? with | some (.ow d) => .ok d | _ => .no := rfl
@[simp] theorem bC_e {d} : bC d γ = .ok d := rfl
@[simp] theorem b1_e {h} : b1 h fa γ = (fa γ).bind h := rfl
@[simp] theorem b2_e {h} : b2 h fa fb γ = (fa γ).bind fun x => (fb γ).bind fun y => h x y := rfl
@[simp] theorem bNil_e : bNil γ = .ok [] := rfl
@[simp] theorem bCons_e {fs} : bCons fa fs γ = (fa γ).bind fun x => (fs γ).bind fun xs => .ok (x :: xs) := rfl
@[simp] theorem bN_e {h fs} : bN h fs γ = (fs γ).bind h := rfl
@[simp] theorem bCall_e {h fs} : bCall h fs γ = (fs γ).bind h := rfl
@[simp] theorem bIf_e : bIf p fa fb γ = (p γ).bind fun b => if b = true then fa γ else fb γ := rfl
@[simp] theorem tVal_e : tVal fa γ = (fa γ).bind tB := rfl
@[simp] theorem tB_e {b} : tB (.bl b) = .ok b := rfl
@[simp] theorem tAnd_e : tAnd p q γ = (p γ).bind fun b => if b = true then q γ else .ok false := rfl
@[simp] theorem tOr_e : tOr p q γ = (p γ).bind fun b => if b = true then .ok true else q γ := rfl
@[simp] theorem tNot_e : tNot p γ = (p γ).bind fun b => .ok (!b) := rfl
@[simp] theorem bTup_e {fs} : bTup fs γ = (fs γ).bind fun xs => if xs.length ≤ lim then .ok (.tup xs) else .no := rfl
@[simp] theorem bLst_e {fs} : bLst fs γ = (fs γ).bind fun xs => if xs.length ≤ lim then .ok (.lst xs) else .no := rfl
@[simp] theorem fnD_e {n body ds} : fnD n body ds = match body (ds.map .va ++ List.replicate (n - ds.length) .un) with
  | .ok (.rt d) => .ok d
  | .ok (.nx _) => .ok .non
  | .ex c => .ex c
  | _ => .no := rfl
end
@[simp] theorem dAdd_i {i j} : dAdd (.int i) (.int j) = .ok (.int (i + j)) := rfl
@[simp] theorem dSub_i {i j} : dSub (.int i) (.int j) = .ok (.int (i - j)) := rfl
@[simp] theorem dLt_i {i j} : dLt (.int i) (.int j) = .ok (.bl (decide (i < j))) := rfl
@[simp] theorem dLe_i {i j} : dLe (.int i) (.int j) = .ok (.bl (decide (i ≤ j))) := rfl
@[simp] theorem dGt_i {i j} : dGt (.int i) (.int j) = .ok (.bl (decide (j < i))) := rfl
@[simp] theorem dGe_i {i j} : dGe (.int i) (.int j) = .ok (.bl (decide (j ≤ i))) := rfl
@[simp] theorem dLen_l {xs} : dLen [.lst xs] = .ok (.int xs.length) := rfl
@[simp] theorem dLen_t {xs} : dLen [.tup xs] = .ok (.int xs.length) := rfl
@[simp] theorem dLen_d {xs} : dLen [.dic xs] = .ok (.int xs.length) := rfl
theorem lim_val : lim = 1000000 := rfl
theorem log_s {n : Nat} (hn : n < 2 ^ 100) : n.log2 ≤ 100 := by
  rcases Nat.eq_zero_or_pos n with rfl | hp
  · decide
  · have := (Nat.log2_lt (by omega)).mpr hn; omega
theorem dMul_i {i j : Int} : dMul (.int i) (.int j) = if i.natAbs.log2 + j.natAbs.log2 < 1000000 then .ok (.int (i * j)) else .no := rfl
theorem dDiv_i {i j : Int} : dDiv (.int i) (.int j) = if 0 < j ∧ j.natAbs.log2 < 9000 then .ok (.int (i / j)) else .no := rfl
theorem dMod_i {i j : Int} : dMod (.int i) (.int j) = if 0 < j then .ok (.int (i % j)) else .no := rfl
theorem dMul_s {i j : Int} (h : i.natAbs < 2 ^ 100) (k : j.natAbs < 2 ^ 100) : dMul (.int i) (.int j) = .ok (.int (i * j)) := by
  have h1 := log_s h
  have h2 := log_s k
  rw [dMul_i, if_pos (by omega)]
theorem dDiv_s {i j : Int} (h : 0 < j) (k : j.natAbs < 2 ^ 100) : dDiv (.int i) (.int j) = .ok (.int (i / j)) := by
  have h2 := log_s k
  rw [dDiv_i, if_pos ⟨h, by omega⟩]
theorem dMod_s {i j : Int} (h : 0 < j) : dMod (.int i) (.int j) = .ok (.int (i % j)) := by rw [dMod_i, if_pos h]
def Lk (ns : List Int) : D := .lst (ns.map .int)
theorem at_nat {α : Type} {xs : List α} {i : Int} (h0 : 0 ≤ i) (h1 : i < xs.length) : ∃ x, atI xs i = some x ∧ xs[i.toNat]? = some x := by
  obtain ⟨n, rfl⟩ := Int.eq_ofNat_of_zero_le h0
  have hn : n < xs.length := by omega
  exact ⟨xs[n], L2.atI_nat (List.getElem?_eq_getElem hn), List.getElem?_eq_getElem hn⟩
@[simp] theorem dIx_l {xs i} : dIx (.lst xs) (.int i) = o2r (L2.atI xs i) := rfl
@[simp] theorem dIx_t {xs i} : dIx (.tup xs) (.int i) = o2r (L2.atI xs i) := rfl
@[simp] theorem dIx_d {es k} : dIx (.dic es) (.str k) = o2r (lookK es k) := rfl
@[simp] theorem o2r_some {α : Type} {a : α} : o2r (some a) = .ok a := rfl
theorem pl_lst (n : Nat) (xs : List D) : pl (n + 1) (.lst xs) = xs.all (pl n) := rfl
theorem pl_tup (n : Nat) (xs : List D) : pl (n + 1) (.tup xs) = xs.all (pl n) := rfl
@[simp] theorem pl_int (n : Nat) (i : Int) : pl n (.int i) = true := by cases n <;> rfl
@[simp] theorem pl_bl (n : Nat) (i : Bool) : pl n (.bl i) = true := by cases n <;> rfl
@[simp] theorem pl_non (n : Nat) : pl n .non = true := by cases n <;> rfl
@[simp] theorem pl_str (n : Nat) (s : Tx) : pl n (.str s) = s.all (· < 0x110000) := by cases n <;> rfl
@[simp] theorem eqv_int (n : Nat) (i j : Int) : eqv n (.int i) (.int j) = (i == j) := by cases n <;> rfl
@[simp] theorem eqv_str (n : Nat) (i j : Tx) : eqv n (.str i) (.str j) = (i == j) := by cases n <;> rfl
theorem eqv_lst (n : Nat) (xs ys : List D) : eqv (n + 1) (.lst xs) (.lst ys) = eqvL (eqv n) xs ys := rfl
theorem eqv_tup (n : Nat) (xs ys : List D) : eqv (n + 1) (.tup xs) (.tup ys) = eqvL (eqv n) xs ys := rfl
theorem dEq_p {d e : D} (h : pl 20 d = true) (k : pl 20 e = true) : dEq d e = .ok (.bl (eqv 20 d e)) := by unfold dEq; rw [if_pos ⟨h, k⟩]
theorem dNe_p {d e : D} (h : pl 20 d = true) (k : pl 20 e = true) : dNe d e = .ok (.bl (!eqv 20 d e)) := by unfold dNe; rw [if_pos ⟨h, k⟩]
theorem i2n_i {i : Int} (h : -(2 ^ 60) ≤ i ∧ i < 2 ^ 60) : i2n (.int i) = .ok i := by simp only [i2n]; rw [if_pos (by omega)]
theorem cell_ok {ns : List Int} (hns : ns.length ≤ 63) {k : Int} (h0 : 0 ≤ k) (h1 : k < 2 ^ 90) : ∃ i, g__law_cell [Lk ns, .int k] = .ok (.int i) := by
  unfold g__law_cell Lk
  rw [fnD_e]
  cases ns with
  | nil =>
    refine ⟨7 * k, ?_⟩
    have e7 : (7 : Int).natAbs < 2 ^ 100 := by decide
    have e : dMul (.int 7) (.int k) = .ok (.int (7 * k)) := dMul_s e7 (by omega)
    simp [m__law_cell, dEq, pl, eqv, eqvL, e]
  | cons n ns =>
    have hl : (0 : Int) < (((n :: ns).length : Nat) : Int) := by simp only [List.length_cons]; omega
    have e1 : dEq (.lst ((n :: ns).map D.int)) (.lst []) = .ok (.bl false) := by
      simp [dEq, pl, eqv, eqvL]
    have hm1 := Int.emod_nonneg k (show (((n :: ns).length : Nat) : Int) ≠ 0 by omega)
    have hm2 := Int.emod_lt_of_pos k hl
    obtain ⟨x, hx, hx1⟩ := at_nat (xs := (n :: ns).map D.int) hm1 (by rw [List.length_map]; exact hm2)
    have hx2 : ∃ j, x = .int j := by
      have := List.mem_of_getElem? hx1
      rw [List.mem_map] at this
      obtain ⟨j, _, rfl⟩ := this
      exact ⟨j, rfl⟩
    obtain ⟨j, rfl⟩ := hx2
    refine ⟨j + 6553 * (k / (((n :: ns).length : Nat) : Int)), ?_⟩
    have e2 : dMod (.int k) (.int (((n :: ns).map D.int).length : Nat)) = .ok (.int (k % (((n :: ns).length : Nat) : Int))) := by rw [List.length_map]; exact dMod_s hl
    have e3 : dDiv (.int k) (.int (((n :: ns).map D.int).length : Nat)) = .ok (.int (k / (((n :: ns).length : Nat) : Int))) := by
      rw [List.length_map]
      exact dDiv_s hl (by omega)
    have hq1 : 0 ≤ k / (((n :: ns).length : Nat) : Int) := Int.ediv_nonneg h0 (by omega)
    have hq2 : k / (((n :: ns).length : Nat) : Int) ≤ k := Int.ediv_le_self _ h0
    have e4 : dMul (.int 6553) (.int (k / (((n :: ns).length : Nat) : Int))) = .ok (.int (6553 * (k / (((n :: ns).length : Nat) : Int)))) := dMul_s (by omega) (by omega)
    generalize (List.map D.int (n :: ns)) = L at *
    generalize (((n :: ns).length : Nat) : Int) = m at *
    simp [m__law_cell, lim_val, e1, e2, e3, e4, hx]
def drawnF (ns : List Int) (k m : Int) : Int := match g__law_drawn [Lk ns, .int k, .int m] with
  | .ok (.int i) => i
  | _ => 0
theorem drawn_ok {ns : List Int} (hns : ns.length ≤ 63) {k m : Int} (h0 : 0 ≤ k) (h1 : k < 2 ^ 60) (hm : 0 < m) : g__law_drawn [Lk ns, .int k, .int m] = .ok (.int (drawnF ns k m)) ∧ 0 ≤ drawnF ns k m ∧ drawnF ns k m < m := by
  have key : ∃ i, g__law_drawn [Lk ns, .int k, .int m] = .ok (.int (i % m)) := by
    obtain ⟨c, hc⟩ := cell_ok hns h0 (show k < 2 ^ 90 by omega)
    have b1 := Int.emod_nonneg c (show (2147483563 : Int) ≠ 0 by decide)
    have b2 := Int.emod_lt_of_pos c (show (0 : Int) < 2147483563 by decide)
    have e1 : dMul (.int (c % 2147483563)) (.int 69069) = .ok (.int (c % 2147483563 * 69069)) := dMul_s (by omega) (by omega)
    have e2 : dMul (.int 104723) (.int (k + 1)) = .ok (.int (104723 * (k + 1))) := dMul_s (by omega) (by omega)
    obtain ⟨x, hx⟩ : ∃ x, x = (c % 2147483563 * 69069 + 104723 * (k + 1)) % 2147483563 := ⟨_, rfl⟩
    have x1 : 0 ≤ x := by rw [hx]; exact Int.emod_nonneg _ (by decide)
    have x2 : x < 2147483563 := by rw [hx]; exact Int.emod_lt_of_pos _ (by decide)
    have e3 : dMul (.int x) (.int x) = .ok (.int (x * x)) := dMul_s (by omega) (by omega)
    obtain ⟨y, hy⟩ : ∃ y, y = (x * x + x / 3) % 2147483399 := ⟨_, rfl⟩
    have y1 : 0 ≤ y := by rw [hy]; exact Int.emod_nonneg _ (by decide)
    have y2 : y < 2147483399 := by rw [hy]; exact Int.emod_lt_of_pos _ (by decide)
    have e4 : dMul (.int y) (.int y) = .ok (.int (y * y)) := dMul_s (by omega) (by omega)
    have md : ∀ {a b : Int}, 0 < b → dMod (.int a) (.int b) = .ok (.int (a % b)) := fun h => dMod_s h
    have dv : ∀ {a b : Int}, 0 < b → b < 1000 → dDiv (.int a) (.int b) = .ok (.int (a / b)) := fun h k => dDiv_s h (by omega)
    refine ⟨(y * y + y / 7) % 2147483647 / 11, ?_⟩
    unfold g__law_drawn
    rw [fnD_e]
    simp [m__law_drawn, hc, md, dv, e1, e2, hm, ← hx, e3, ← hy, e4]
  obtain ⟨i, hi⟩ := key
  have : drawnF ns k m = i % m := by unfold drawnF; rw [hi]
  rw [this]
  exact ⟨hi, Int.emod_nonneg _ (by omega), Int.emod_lt_of_pos _ hm⟩
/-! ### comprehensions, loops -/
section
variable {bd : D → Ga → R Ga} {ifs : Ga → R Bool} {elt : Ga → R D} {γ : Ga}
theorem lcGo_fil {α : Type} {inj : α → D} {p : α → Bool} {f : α → D} : ∀ {l : List α}, (∀ a ∈ l, ∃ γ1, bd (inj a) γ = .ok γ1 ∧ ifs γ1 = .ok (p a) ∧ (p a = true → elt γ1 = .ok (f a))) → lcGo bd ifs elt γ (l.map inj) = .ok ((l.filter p).map f)
  | [], _ => rfl
  | a :: l, h => by
    obtain ⟨γ1, h1, h2, h3⟩ := h a List.mem_cons_self
    have ih := lcGo_fil (l := l) fun b hb => h b (List.mem_cons_of_mem _ hb)
    rw [List.map_cons]
    unfold lcGo
    cases hp : p a with
    | true => simp [h1, h2, hp, h3 hp, ih]
    | false => simp [h1, h2, hp, ih]
theorem lcGo_map {α : Type} {inj f : α → D} {l : List α} (h : ∀ a ∈ l, ∃ γ1, bd (inj a) γ = .ok γ1 ∧ elt γ1 = .ok (f a)) : lcGo bd yes elt γ (l.map inj) = .ok (l.map f) := by
  have := lcGo_fil (bd := bd) (ifs := yes) (elt := elt) (γ := γ) (inj := inj) (p := fun _ => true) (f := f) (l := l) fun a ha => by
    obtain ⟨γ1, h1, h2⟩ := h a ha
    exact ⟨γ1, h1, rfl, fun _ => h2⟩
  rw [this]
  congr 2
  exact List.filter_eq_self.mpr fun _ _ => rfl
theorem lcGo_ex {α : Type} {inj : α → D} {P : D → Prop} : ∀ {l : List α}, (∀ a ∈ l, ∃ γ1 d, bd (inj a) γ = .ok γ1 ∧ elt γ1 = .ok d ∧ P d) → ∃ ds, lcGo bd yes elt γ (l.map inj) = .ok ds ∧ ds.length = l.length ∧ ∀ d ∈ ds, P d
  | [], _ => ⟨[], rfl, rfl, fun _ h => nomatch h⟩
  | a :: l, h => by
    obtain ⟨γ1, d, h1, h2, h3⟩ := h a List.mem_cons_self
    obtain ⟨ds, i1, i2, i3⟩ := lcGo_ex (l := l) fun b hb => h b (List.mem_cons_of_mem _ hb)
    refine ⟨d :: ds, ?_, by simp [i2], fun e he => ?_⟩
    · rw [List.map_cons]
      unfold lcGo
      simp [h1, h2, i1, yes]
    · rcases List.mem_cons.mp he with rfl | he
      · exact h3
      · exact i3 e he
theorem lcOut_e {vs : List Nat} {ds ys : List D} (h : lcGo bd ifs elt (wipeG γ vs) ds = .ok ys) (hl : ys.length ≤ lim) : lcOut bd ifs elt vs γ ds = .ok (.lst ys) := by
  unfold lcOut
  rw [h]
  simp [hl]
variable {body : Ga → R Fl}
/-- a loop that ends well, by an invariant -/
theorem forGo_inv {α : Type} {inj : α → D} {I : List α → Ga → Prop} {l0 : List α} {γ : Ga} (step : ∀ done a rest γ, l0 = done ++ a :: rest → I done γ → ∃ γ1, bd (inj a) γ = .ok γ1 ∧ ∃ γ2, (body γ1 = .ok (.nx γ2) ∨ body γ1 = .ok (.ct γ2)) ∧ I (done ++ [a]) γ2) (h0 : I [] γ) : ∃ γ', forGo bd body (l0.map inj) γ = .ok (.nx γ') ∧ I l0 γ' := by
  have aux : ∀ (l done : List α) (γ : Ga), l0 = done ++ l → I done γ → ∃ γ', forGo bd body (l.map inj) γ = .ok (.nx γ') ∧ I l0 γ' := by
    intro l
    induction l with
    | nil => intro done γ e h; exact ⟨γ, rfl, by rw [e]; simpa using h⟩
    | cons a l ih =>
      intro done γ e h
      obtain ⟨γ1, h1, γ2, h2, h3⟩ := step done a l γ e h
      obtain ⟨γ', i1, i2⟩ := ih (done ++ [a]) γ2 (by rw [e]; simp) h3
      refine ⟨γ', ?_, i2⟩
      rw [List.map_cons]
      unfold forGo
      rcases h2 with h2 | h2 <;> simp [h1, h2, i1]
  exact aux l0 [] γ rfl h0
theorem range_split {n i : Nat} {done rest : List Nat} (h : List.range n = done ++ i :: rest) : i = done.length ∧ done.length < n := by
  have e : (List.range n)[done.length]? = some i := by rw [h]; simp
  have l : done.length < n := by
    have := congrArg List.length h
    simp at this; omega
  rw [List.getElem?_range l] at e
  cases e; exact ⟨rfl, l⟩
end
theorem joinT_nil : ∀ ts : List Tx, joinT [] ts = ts.flatten
  | [] => rfl
  | [x] => by simp [joinT]
  | x :: y :: r => by rw [joinT, joinT_nil (y :: r)]; simp
theorem rng_e {n : Nat} {lo : Int} : rngD lo n = (List.range n).map fun i => .int (lo + (i : Nat)) := rfl
/-- letters of the laws' names -/
def ltr (c : Nat) : Prop := c = 97 ∨ c = 98 ∨ c = 122
def nameF (ns : List Int) (at_ most : Int) : Tx := match g__law_name [Lk ns, .int at_, .int most] with
  | .ok (.str s) => s
  | _ => []
theorem one_letters : ∀ {ds : List D}, (∀ d ∈ ds, ∃ c, ltr c ∧ d = .str [c]) → ∃ cs : List Nat, ds = cs.map (fun c => .str [c]) ∧ ∀ c ∈ cs, ltr c
  | [], _ => ⟨[], rfl, fun _ h => nomatch h⟩
  | d :: ds, h => by
    obtain ⟨c, hc, rfl⟩ := h d List.mem_cons_self
    obtain ⟨cs, rfl, h2⟩ := one_letters (ds := ds) fun e he => h e (List.mem_cons_of_mem _ he)
    exact ⟨c :: cs, rfl, fun e he => by
      rcases List.mem_cons.mp he with rfl | he
      · exact hc
      · exact h2 e he⟩
theorem asTxs_one (cs : List Nat) : asTxs (cs.map fun c => D.str [c]) = some (cs.map fun c => [c]) := by
  induction cs with
  | nil => rfl
  | cons c cs ih => simp [asTxs, ih]
theorem flat_one (cs : List Nat) : (cs.map fun c => [c]).flatten = cs := by
  induction cs with
  | nil => rfl
  | cons c cs ih => simp [ih]
theorem sum_one (cs : List Nat) : ((cs.map fun c => [c]).map List.length).sum = cs.length := by
  induction cs with
  | nil => rfl
  | cons c cs ih => rw [List.map_cons, List.map_cons, List.sum_cons, ih, List.length_cons]; simp; omega
theorem join_one {cs : List Nat} (h : cs.length ≤ lim) : dJoin [] (.lst (cs.map fun c => .str [c])) = .ok (.str cs) := by
  show ((o2r (asTxs (cs.map fun c => D.str [c]))).bind fun ts => if (ts.map (·.length)).sum + ts.length * ([] : Tx).length ≤ lim then R.ok (D.str (joinT [] ts)) else R.no) = _
  rw [asTxs_one, o2r_some]
  show (if ((cs.map fun c => [c]).map List.length).sum + _ ≤ lim then _ else _) = _
  rw [sum_one, joinT_nil, flat_one, if_pos (by simpa using h)]
theorem name_ok {ns : List Int} (hns : ns.length ≤ 63) {k m : Int} (h0 : 0 ≤ k) (h1 : k < 2 ^ 50) (hm : 0 < m) (hm2 : m < 1000) : g__law_name [Lk ns, .int k, .int m] = .ok (.str (nameF ns k m)) ∧ 0 < (nameF ns k m).length ∧ ((nameF ns k m).length : Int) ≤ m ∧ ∀ c ∈ nameF ns k m, ltr c := by
  have key : ∃ cs : Tx, g__law_name [Lk ns, .int k, .int m] = .ok (.str cs) ∧ 0 < cs.length ∧ (cs.length : Int) ≤ m ∧ ∀ c ∈ cs, ltr c := by
    obtain ⟨d1, d2, d3⟩ := drawn_ok hns h0 (show k < 2 ^ 60 by omega) hm
    obtain ⟨e1, e2, e3⟩ := drawn_ok hns (show 0 ≤ k + 9 by omega) (show k + 9 < 2 ^ 60 by omega) (show (0 : Int) < 3 by decide)
    generalize drawnF ns k m = n at *
    generalize drawnF ns (k + 9) 3 = j at *
    obtain ⟨L, hL, hLl, hLc⟩ : ∃ L : Tx, L2.atI [D.str [97, 98], D.str [97, 98], D.str [97, 98, 122]] j = some (.str L) ∧ (L.length = 2 ∨ L.length = 3) ∧ ∀ c ∈ L, ltr c := by
      have : j = 0 ∨ j = 1 ∨ j = 2 := by omega
      rcases this with rfl | rfl | rfl
      · exact ⟨[97, 98], rfl, .inl rfl, by simp [ltr]⟩
      · exact ⟨[97, 98], rfl, .inl rfl, by simp [ltr]⟩
      · exact ⟨[97, 98, 122], rfl, .inr rfl, by simp [ltr]⟩
    have hn : -(2 ^ 60) ≤ 1 + n ∧ 1 + n < 2 ^ 60 := by omega
    have comp : ∃ ds, lcGo (bdN 5) yes (b2 dIx (bVar 4) (bCall g__law_drawn (bCons (bVar 0) (bCons (b2 dAdd (b2 dAdd (bVar 1) (bC (.int 1))) (bVar 5)) (bCons (bN dLen (bCons (bVar 4) (bNil))) (bNil)))))) (wipeG [.va (Lk ns), .va (.int k), .va (.int m), .va (.int (1 + n)), .va (.str L), .un] [5]) ((List.range (1 + n).toNat).map fun i => .int (0 + (i : Nat))) = .ok ds ∧ ds.length = (List.range (1 + n).toNat).length ∧ ∀ d ∈ ds, ∃ c, ltr c ∧ d = .str [c] := by
      refine lcGo_ex fun i hi => ?_
      have hi := List.mem_range.mp hi
      have hLL : ((L.length : Nat) : Int) ≤ 3 := by omega
      obtain ⟨f1, f2, f3⟩ := drawn_ok hns (show 0 ≤ k + 1 + (0 + (i : Nat)) by omega) (show k + 1 + (0 + (i : Nat)) < 2 ^ 60 by omega) (show (0 : Int) < (L.length : Nat) by omega)
      obtain ⟨c, hc1, hc2⟩ := at_nat (xs := L) f2 f3
      refine ⟨_, .str [c], rfl, ?_, c, hLc c (List.mem_of_getElem? hc2), rfl⟩
      have l1 : L.length ≤ lim := by rw [lim_val]; omega
      simp [wipeG, dLen, dIx, l1, f1, hc1] at f1 hc1 ⊢
      simp [f1, hc1]
      exact l1
    obtain ⟨ds, c1, c2, c3⟩ := comp
    obtain ⟨cs, rfl, c4⟩ := one_letters c3
    rw [List.length_map, List.length_range] at c2
    have c5 := lcOut_e c1 (by rw [lim_val, List.length_map]; omega)
    refine ⟨cs, ?_, by omega, by omega, c4⟩
    have j1 : dJoin [] (.lst (cs.map fun c => .str [c])) = .ok (.str cs) := join_one (by rw [lim_val]; omega)
    unfold g__law_name
    rw [fnD_e]
    have c6 : bLcI (iR1 (bVar 3)) [5] (bdN 5) yes (b2 dIx (bVar 4) (bCall g__law_drawn (bCons (bVar 0) (bCons (b2 dAdd (b2 dAdd (bVar 1) (bC (.int 1))) (bVar 5)) (bCons (bN dLen (bCons (bVar 4) (bNil))) (bNil)))))) [.va (Lk ns), .va (.int k), .va (.int m), .va (.int (1 + n)), .va (.str L), .un] = .ok (.lst (cs.map fun c => .str [c])) := by
      unfold bLcI iR1
      simp [i2n_i hn, rng_e]
      simpa using c5
    simp [m__law_name, d1, e1, hL, lim_val, b2s, c6, j1]
  obtain ⟨cs, h⟩ := key
  have : nameF ns k m = cs := by unfold nameF; rw [h.1]
  rw [this]
  exact h
/-- a book -/
def bkD (b : List Tx) : D := .tup (b.map .str)
def goodN (m : Int) (x : Tx) : Prop := 0 < x.length ∧ (x.length : Int) ≤ m ∧ ∀ c ∈ x, ltr c
def bookF (ns : List Int) (at_ many most : Int) : List Tx := match g__law_book [Lk ns, .int at_, .int many, .int most] with
  | .ok (.tup xs) => (asTxs xs).getD []
  | _ => []
theorem book_ok {ns : List Int} (hns : ns.length ≤ 63) {k many m : Int} (h0 : 0 ≤ k) (h1 : k < 2 ^ 40) (hmy : 0 < many) (hmy2 : many < 1000) (hm : 0 < m) (hm2 : m < 1000) :
    g__law_book [Lk ns, .int k, .int many, .int m] = .ok (bkD (bookF ns k many m)) ∧ 0 < (bookF ns k many m).length ∧ ((bookF ns k many m).length : Int) ≤ many ∧ ∀ x ∈ bookF ns k many m, goodN m x := by
  have key : ∃ b : List Tx, g__law_book [Lk ns, .int k, .int many, .int m] = .ok (bkD b) ∧ 0 < b.length ∧ (b.length : Int) ≤ many ∧ ∀ x ∈ b, goodN m x := by
    obtain ⟨d1, d2, d3⟩ := drawn_ok hns h0 (show k < 2 ^ 60 by omega) hmy
    generalize drawnF ns k many = n at *
    have hn : -(2 ^ 60) ≤ 1 + n ∧ 1 + n < 2 ^ 60 := by omega
    have loop := forGo_inv (bd := bdN 5) (body := fSet 4 (b2 dAdd (bVar 4) (bTup (bCons (bCall g__law_name (bCons (bVar 0) (bCons (b2 dAdd (b2 dAdd (bVar 1) (bC (.int 1))) (b2 dMul (bC (.int 10)) (bVar 5))) (bCons (bVar 3) (bNil))))) (bNil)))))
      (inj := fun i : Nat => D.int (0 + (i : Nat))) (l0 := List.range (1 + n).toNat)
      (I := fun done γ => ∃ b s5, γ = [.va (Lk ns), .va (.int k), .va (.int many), .va (.int m), .va (bkD b), s5] ∧ b.length = done.length ∧ ∀ x ∈ b, goodN m x)
      (γ := [.va (Lk ns), .va (.int k), .va (.int many), .va (.int m), .va (.tup []), .un]) (fun done i rest γ hr hI => by
        obtain ⟨hi1, hi⟩ := range_split hr
        obtain ⟨b, s5, rfl, hb, hg⟩ := hI
        have e1 : dMul (.int 10) (.int (i : Nat)) = .ok (.int (10 * (i : Nat))) := dMul_s (by decide) (by omega)
        obtain ⟨f1, f2, f3, f4⟩ := name_ok hns (show 0 ≤ k + 1 + 10 * (i : Nat) by omega) (show k + 1 + 10 * (i : Nat) < 2 ^ 50 by omega) hm hm2
        refine ⟨_, rfl, [.va (Lk ns), .va (.int k), .va (.int many), .va (.int m), .va (bkD (b ++ [nameF ns (k + 1 + 10 * (i : Nat)) m])), .va (.int (i : Nat))], .inl ?_, _, _, rfl, ?_, ?_⟩
        · have e2 : dAdd (bkD b) (.tup [.str (nameF ns (k + 1 + 10 * (i : Nat)) m)]) = .ok (bkD (b ++ [nameF ns (k + 1 + 10 * (i : Nat)) m])) := by
            unfold bkD dAdd
            simp only
            rw [if_pos (by rw [lim_val]; simp; omega)]
            simp
          simp [e1, f1, lim_val, e2]
        · simp [hb]
        · intro x hx
          rcases List.mem_append.mp hx with hx | hx
          · exact hg x hx
          · rw [List.mem_singleton.mp hx]; exact ⟨f2, f3, f4⟩) ⟨[], _, rfl, rfl, fun _ h => nomatch h⟩
    obtain ⟨γ', l1, l2⟩ := loop
    obtain ⟨b, s5, rfl, hb, hg⟩ := l2
    have hb' : b.length = (1 + n).toNat := by simpa using hb
    refine ⟨b, ?_, by omega, by omega, hg⟩
    unfold g__law_book
    rw [fnD_e]
    simp [m__law_book, d1, lim_val, fForI, iR1, i2n_i hn, rng_e]
    simp at l1
    simp [l1]
  obtain ⟨b, h⟩ := key
  have : bookF ns k many m = b := by unfold bookF; rw [h.1]; simp [bkD]
  rw [this]
  exact h
end
end KN
/-! PB: association lists, tables of counts, no program in sight -/
namespace KN
open PySem PySem.Spec PyProof.Rows L2
/-! ### association lists -/
section
variable {α β : Type}
def lk : List (Tx × α) → Tx → Option α
  | [], _ => none
  | (k, r) :: es, x => if k = x then some r else lk es x
def pt : List (Tx × α) → Tx → α → List (Tx × α)
  | [], x, r => [(x, r)]
  | (k, r0) :: es, x, r => if k = x then (k, r) :: es else (k, r0) :: pt es x r
def ks (r : List (Tx × α)) : List Tx := r.map (·.1)
theorem lk_pt (r : List (Tx × α)) (x y : Tx) (v : α) : lk (pt r x v) y = if x = y then some v else lk r y := by
  induction r with
  | nil => simp [pt, lk]
  | cons e r ih =>
    obtain ⟨k, r0⟩ := e
    unfold pt
    by_cases h : k = x
    · subst h
      by_cases h2 : k = y <;> simp [lk, h2]
    · by_cases h2 : k = y
      · subst h2
        have : ¬ x = k := fun z => h z.symm
        simp [h, lk, this]
      · simp [h, lk, h2, ih]
theorem lk_none {r : List (Tx × α)} {x : Tx} : lk r x = none ↔ x ∉ ks r := by
  induction r with
  | nil => simp [lk, ks]
  | cons e r ih =>
    obtain ⟨k, r0⟩ := e
    unfold lk
    by_cases h : k = x
    · subst h; simp [ks]
    · have h' : ¬ x = k := fun z => h z.symm
      simp only [h, if_false, ih, ks, List.map_cons, List.mem_cons, h', false_or]
theorem lk_mem {r : List (Tx × α)} {x : Tx} {v : α} (h : lk r x = some v) : (x, v) ∈ r := by
  induction r with
  | nil => cases h
  | cons e r ih =>
    obtain ⟨k, r0⟩ := e
    unfold lk at h
    split at h
    · rename_i q; subst q; cases h; exact List.mem_cons_self
    · exact List.mem_cons_of_mem _ (ih h)
theorem mem_lk {r : List (Tx × α)} (nd : (ks r).Nodup) {x : Tx} {v : α} (h : (x, v) ∈ r) : lk r x = some v := by
  induction r with
  | nil => cases h
  | cons e r ih =>
    obtain ⟨k, r0⟩ := e
    unfold lk
    rw [ks, List.map_cons, List.nodup_cons] at nd
    rcases List.mem_cons.mp h with h | h
    · cases h; simp
    · have : k ≠ x := by rintro rfl; exact nd.1 (List.mem_map.mpr ⟨_, h, rfl⟩)
      rw [if_neg this]; exact ih nd.2 h
theorem ks_pt (r : List (Tx × α)) (x : Tx) (v : α) : ks (pt r x v) = if x ∈ ks r then ks r else ks r ++ [x] := by
  induction r with
  | nil => simp [pt, ks]
  | cons e r ih =>
    obtain ⟨k, r0⟩ := e
    unfold pt
    by_cases h : k = x
    · subst h; simp [ks]
    · have h' : ¬ x = k := fun z => h z.symm
      rw [if_neg h]
      show k :: ks (pt r x v) = _
      rw [ih]
      by_cases m : x ∈ ks r
      · have : x ∈ ks ((k, r0) :: r) := List.mem_cons_of_mem _ m
        rw [if_pos m, if_pos this]; rfl
      · have : x ∉ ks ((k, r0) :: r) := fun z => by
          rcases List.mem_cons.mp z with z | z
          · exact h' z
          · exact m z
        rw [if_neg m, if_neg this]; rfl
theorem nd_pt {r : List (Tx × α)} (nd : (ks r).Nodup) (x : Tx) (v : α) : (ks (pt r x v)).Nodup := by
  rw [ks_pt]
  split
  · exact nd
  · rename_i h
    rw [List.nodup_append]
    exact ⟨nd, by simp, fun a ha b hb => by rw [List.mem_singleton.mp hb]; rintro rfl; exact h ha⟩
theorem len_pt (r : List (Tx × α)) (x : Tx) (v : α) : (pt r x v).length ≤ r.length + 1 := by
  have := congrArg List.length (ks_pt r x v)
  have e1 : (pt r x v).length = (ks (pt r x v)).length := by simp [ks]
  have e2 : (ks r).length = r.length := by simp [ks]
  rw [e1, this]
  split <;> simp [e2]
theorem lk_map (f : α → β) (r : List (Tx × α)) (x : Tx) : lk (r.map fun e => (e.1, f e.2)) x = (lk r x).map f := by
  induction r with
  | nil => rfl
  | cons e r ih =>
    obtain ⟨k, r0⟩ := e
    simp only [List.map_cons, lk]
    split
    · rfl
    · exact ih
theorem pt_map (f : α → β) (r : List (Tx × α)) (x : Tx) (v : α) : (pt r x v).map (fun e => (e.1, f e.2)) = pt (r.map fun e => (e.1, f e.2)) x (f v) := by
  induction r with
  | nil => rfl
  | cons e r ih =>
    obtain ⟨k, r0⟩ := e
    simp only [List.map_cons, pt]
    split
    · rfl
    · rw [List.map_cons, ih]
theorem ks_map (f : α → β) (r : List (Tx × α)) : ks (r.map fun e => (e.1, f e.2)) = ks r := by
  simp [ks]
/-- sorted by keys -/
def lst (d : α) (r : List (Tx × α)) : List (Tx × α) := (sortT (ks r)).map fun l => (l, (lk r l).getD d)
/-- strictly rising keys -/
def SS (r : List (Tx × α)) : Prop := (ks r).Pairwise (· < ·)
theorem SS.nd {r : List (Tx × α)} (h : SS r) : (ks r).Nodup := List.Pairwise.imp (R := fun a b : Tx => a < b) (S := fun a b : Tx => a ≠ b) (fun {a b} h e => by subst e; exact List.lt_irrefl _ h) h
theorem self_map (d : α) {r : List (Tx × α)} (nd : (ks r).Nodup) : r = (ks r).map fun l => (l, (lk r l).getD d) := by
  unfold ks
  rw [List.map_map]
  conv => lhs; rw [← List.map_id r]
  refine List.map_congr_left fun e he => ?_
  have := mem_lk nd (show (e.1, e.2) ∈ r from he)
  simp [this]
end
/-! ### tables of counts -/
abbrev Rw := List (Tx × Int)
abbrev Tt := List (Tx × Rw)
abbrev Ev := Tx × Tx
def bump (t : Tt) (e : Ev) : Tt := pt t e.1 (pt ((lk t e.1).getD []) e.2 ((lk ((lk t e.1).getD []) e.2).getD 0 + 1))
def rowOf (t : Tt) (c : Tx) : Rw := (lk t c).getD []
def tabOf (es : List Ev) : Tt := es.foldl bump []
/-- the row of what a context was followed by -/
structure TabOk (t : Tt) (es : List Ev) : Prop where
  nd : (ks t).Nodup
  rnd : ∀ c, (ks (rowOf t c)).Nodup
  len : t.length ≤ es.length
  rlen : ∀ c, (rowOf t c).length ≤ es.length
  key : ∀ c, lk t c = none ↔ ∀ l, (c, l) ∉ es
  val : ∀ c l, lk (rowOf t c) l = if es.count (c, l) = 0 then none else some (es.count (c, l) : Int)
theorem rowOf_bump (t : Tt) (e : Ev) (c : Tx) : rowOf (bump t e) c = if e.1 = c then pt (rowOf t c) e.2 ((lk (rowOf t c) e.2).getD 0 + 1) else rowOf t c := by
  unfold rowOf bump
  rw [lk_pt]
  split
  · rename_i h; subst h; rfl
  · rfl
theorem TabOk.step {t : Tt} {es : List Ev} (h : TabOk t es) (e : Ev) : TabOk (bump t e) (es ++ [e]) := by
  refine ⟨nd_pt h.nd _ _, fun c => ?_, ?_, fun c => ?_, fun c => ?_, fun c l => ?_⟩
  · rw [rowOf_bump]
    split
    · exact nd_pt (h.rnd c) _ _
    · exact h.rnd c
  · refine Nat.le_trans (len_pt _ _ _) ?_
    have := h.len; simp; omega
  · rw [rowOf_bump]
    have := h.rlen c
    split
    · refine Nat.le_trans (len_pt _ _ _) ?_
      simp; omega
    · simp; omega
  · unfold bump
    rw [lk_pt]
    by_cases q : e.1 = c
    · subst q
      simp only [if_pos, reduceCtorEq, false_iff]
      intro z
      exact z e.2 (by simp)
    · rw [if_neg q, h.key c]
      constructor
      · intro z l m
        rcases List.mem_append.mp m with m | m
        · exact z l m
        · rw [← List.mem_singleton.mp m] at q; exact q rfl
      · intro z l m
        exact z l (List.mem_append_left _ m)
  · rw [rowOf_bump, List.count_append]
    by_cases q : e.1 = c
    · subst q
      rw [if_pos rfl, lk_pt, h.val]
      by_cases q2 : e.2 = l
      · subst q2
        have : List.count (e.1, e.2) [e] = 1 := by simp
        rw [if_pos rfl, this]
        by_cases z : es.count (e.1, e.2) = 0
        · simp [z]
        · simp [z]
      · have : List.count (e.1, l) [e] = 0 := by
          rw [List.count_eq_zero]
          intro m
          have := List.mem_singleton.mp m
          exact q2 (by rw [← this])
        rw [if_neg q2, this, Nat.add_zero, h.val]
    · have : List.count (c, l) [e] = 0 := by
        rw [List.count_eq_zero]
        intro m
        have := List.mem_singleton.mp m
        exact q (by rw [← this])
      rw [if_neg q, this, Nat.add_zero, h.val]
theorem tabOk (es : List Ev) : TabOk (tabOf es) es := by
  have aux : ∀ (es done : List Ev) (t : Tt), TabOk t done → TabOk (es.foldl bump t) (done ++ es) := by
    intro es
    induction es with
    | nil => intro done t h; simpa using h
    | cons e es ih =>
      intro done t h
      have := ih (done ++ [e]) (bump t e) (h.step e)
      simpa using this
  have := aux es [] [] ⟨by simp [ks], fun c => by simp [rowOf, lk, ks], by simp, fun c => by simp [rowOf, lk], fun c => by simp [lk], fun c l => by simp [rowOf, lk]⟩
  simpa [tabOf] using this
/-- what follows c, with its counts, by rising letters -/
def rowL (es : List Ev) (c : Tx) : Rw := lst 0 (rowOf (tabOf es) c)
end KN
/-! PC: names, books, contexts, counts: what the defs answer -/
namespace KN
open PySem PySem.Spec PyProof.Rows L2
noncomputable section
def rowD (r : Rw) : List (Tx × D) := r.map fun e => (e.1, .int e.2)
def tabD (t : Tt) : Tb := t.map fun e => (e.1, rowD e.2)
theorem lookN_lk (es : Tb) (c : Tx) : lookN es c = lk es c := by
  induction es with
  | nil => rfl
  | cons e es ih => obtain ⟨k, r⟩ := e; simp only [lookN, lk, ih]
theorem putN_pt (es : Tb) (c : Tx) (r : List (Tx × D)) : putN es c r = pt es c r := by
  induction es with
  | nil => rfl
  | cons e es ih => obtain ⟨k, r⟩ := e; simp only [putN, pt, ih]
theorem lookK_lk (es : List (Tx × D)) (c : Tx) : lookK es c = lk es c := by
  unfold lookK
  induction es with
  | nil => rfl
  | cons e es ih =>
    obtain ⟨k, r⟩ := e
    rw [List.find?_cons]
    unfold lk
    by_cases h : k = c
    · subst h; simp
    · have : (k == c) = false := by simp [h]
      simp only [this, h, if_false]; exact ih
theorem putD_pt {es : List (Tx × D)} (nd : (ks es).Nodup) (c : Tx) (d : D) : putD es c d = pt es c d := by
  unfold putD
  induction es with
  | nil => rfl
  | cons e es ih =>
    obtain ⟨k, r⟩ := e
    rw [ks, List.map_cons, List.nodup_cons] at nd
    unfold pt
    by_cases h : k = c
    · subst h
      rw [if_pos (by simp), if_pos rfl, List.map_cons]
      simp only [beq_self_eq_true, if_true]
      congr 1
      conv => rhs; rw [← List.map_id es]
      refine List.map_congr_left fun e he => ?_
      have : e.1 ≠ k := by rintro rfl; exact nd.1 (List.mem_map.mpr ⟨_, he, rfl⟩)
      simp [this]
    · have hk : (k == c) = false := by simp [h]
      rw [if_neg h, List.any_cons]
      simp only [hk, Bool.false_or]
      rw [← ih nd.2]
      split
      · rw [List.map_cons]
        simp only [hk, Bool.false_eq_true, if_false]
      · rfl
theorem lk_rowD (r : Rw) (l : Tx) : lk (rowD r) l = (lk r l).map .int := lk_map D.int r l
theorem pt_rowD (r : Rw) (l : Tx) (n : Int) : pt (rowD r) l (.int n) = rowD (pt r l n) := (pt_map D.int r l n).symm
theorem lk_tabD (t : Tt) (c : Tx) : lk (tabD t) c = (lk t c).map rowD := lk_map rowD t c
theorem pt_tabD (t : Tt) (c : Tx) (r : Rw) : pt (tabD t) c (rowD r) = tabD (pt t c r) := (pt_map rowD t c r).symm
theorem ks_rowD (r : Rw) : ks (rowD r) = ks r := ks_map D.int r
theorem len_rowD (r : Rw) : (rowD r).length = r.length := by simp [rowD]
theorem len_tabD (t : Tt) : (tabD t).length = t.length := by simp [tabD]
theorem look_tabD (t : Tt) (c : Tx) : (lookN (tabD t) c).getD [] = rowD (rowOf t c) := by
  rw [lookN_lk, lk_tabD]
  unfold rowOf
  cases lk t c <;> rfl
theorem fBump_ok {i r c l : Nat} {γ : Ga} {t : Tt} {es : List Ev} (h : TabOk t es) (hl : es.length < 1000) {ck lt : Tx} (h1 : γ[i]? = some (.nd (tabD t))) (h2 : γ[c]? = some (.va (.str ck))) (h3 : γ[l]? = some (.va (.str lt))) (h4 : r < γ.length) :
    fBump i r c l γ = .ok (.nx ((γ.set i (.nd (tabD (bump t (ck, lt))))).set r .un)) := by
  unfold fBump
  rw [h1, h2, h3]
  simp only [look_tabD]
  have e1 : (lookK (rowD (rowOf t ck)) lt).getD (.int 0) = .int ((lk (rowOf t ck) lt).getD 0) := by
    rw [lookK_lk, lk_rowD]
    cases lk (rowOf t ck) lt <;> rfl
  rw [e1]
  simp only
  have l1 := h.len
  have l2 := h.rlen ck
  rw [if_pos ⟨⟨by rw [len_tabD, lim_val]; omega, by rw [len_rowD, lim_val]; omega⟩, h4⟩]
  have e2 : putD (rowD (rowOf t ck)) lt (.int ((lk (rowOf t ck) lt).getD 0 + 1)) = rowD (pt (rowOf t ck) lt ((lk (rowOf t ck) lt).getD 0 + 1)) := by
    rw [putD_pt (by rw [ks_rowD]; exact h.rnd ck), pt_rowD]
  rw [e2, putN_pt, pt_tabD]
  rfl
/-! ### contexts -/
def endT (o : Nat) (t : Tx) : Tx := t.drop (t.length - o)
theorem cut_from {α : Type} (xs : List α) (k : Nat) : cutL xs (some (k : Int)) none = xs.drop k := by
  unfold cutL
  rw [HT.sIx_nat, HT.sIx_none]
  rcases Nat.le_total k xs.length with h | h
  · rw [Nat.min_eq_left h]
    exact List.take_of_length_le (by simp)
  · rw [Nat.min_eq_right h, List.drop_eq_nil_of_le h]; simp
theorem cut_to {α : Type} (xs : List α) (k : Nat) : cutL xs none (some (k : Int)) = xs.take k := by
  unfold cutL
  rw [HT.sIx_nat, HT.sIx_none]
  rcases Nat.le_total k xs.length with h | h
  · rw [Nat.min_eq_left h]; simp
  · rw [Nat.min_eq_right h, List.take_of_length_le h]; simp
theorem cut_mid {α : Type} (xs : List α) (i j : Nat) : cutL xs (some (i : Int)) (some (j : Int)) = (xs.drop i).take (j - i) := by
  unfold cutL
  rw [HT.sIx_nat, HT.sIx_nat]
  rcases Nat.le_total i xs.length with h | h
  · rw [Nat.min_eq_left h]
    rcases Nat.le_total j xs.length with h2 | h2
    · rw [Nat.min_eq_left h2]
    · rw [Nat.min_eq_right h2, List.take_of_length_le (by simp), List.take_of_length_le (by simp; omega)]
  · rw [Nat.min_eq_right h, List.drop_eq_nil_of_le h]; simp
theorem end_ok (o : Nat) {t : Tx} (h : t.length ≤ 1000) : g_end_of [.int o, .str t] = .ok (.str (endT o t)) := by
  have hl : t.length ≤ lim := by rw [lim_val]; omega
  unfold g_end_of
  rw [fnD_e]
  have e : max (0 : Int) ((t.length : Nat) - (o : Nat)) = ((t.length - o : Nat) : Int) := by omega
  simp [m_end_of, bSl, pSo, pNo, dLen, hl, dMax, toI, e, dSl, cut_from, endT]
/-- what a name tells -/
def evs (o : Nat) (x : Tx) : List Ev := (List.range (x.length + 1)).map fun i => (endT o (x.take i), (x.drop i).take 1)
def evB (o : Nat) (b : List Tx) : List Ev := b.flatMap (evs o)
theorem evs_len (o : Nat) (x : Tx) : (evs o x).length = x.length + 1 := by simp [evs]
/-- at most 8 names, of at most 8 letters -/
def smallB (b : List Tx) : Prop := b.length ≤ 8 ∧ ∀ x ∈ b, x.length ≤ 8
theorem evB_len {o : Nat} : ∀ {b : List Tx}, (∀ x ∈ b, x.length ≤ 8) → (evB o b).length ≤ 9 * b.length
  | [], _ => by simp [evB]
  | x :: b, h => by
    have := evB_len (o := o) (b := b) fun y hy => h y (List.mem_cons_of_mem _ hy)
    have h0 := h x List.mem_cons_self
    unfold evB at this ⊢
    rw [List.flatMap_cons, List.length_append, evs_len, List.length_cons]
    omega
theorem tab_app (es fs : List Ev) : tabOf (es ++ fs) = fs.foldl bump (tabOf es) := by simp [tabOf]
def tblD (t : Tt) : D := .dic (t.map fun e => (e.1, .dic (rowD e.2)))
def cStep (x : Tx) (o : Nat) : Nat → Ev := fun i => (endT o (x.take i), (x.drop i).take 1)
theorem evs_e (o : Nat) (x : Tx) : evs o x = (List.range (x.length + 1)).map (cStep x o) := rfl
theorem tab_snoc (es : List Ev) (e : Ev) : tabOf (es ++ [e]) = bump (tabOf es) e := by
  rw [tab_app, List.foldl_cons, List.foldl_nil]
theorem cut1 {x : Tx} (lx : x.length ≤ lim) (i : Nat) : dSl (.str x) none (some (i : Int)) = .ok (.str (x.take i)) := by
  show (if x.length ≤ lim then R.ok (D.str (cutL x none (some (i : Int)))) else .no) = _
  rw [if_pos lx, cut_to]
theorem cut2 {x : Tx} (lx : x.length ≤ lim) (i : Nat) : dSl (.str x) (some (i : Int)) (some ((i : Int) + 1)) = .ok (.str ((x.drop i).take 1)) := by
  have : (i : Int) + 1 = ((i + 1 : Nat) : Int) := by omega
  show (if x.length ≤ lim then R.ok (D.str (cutL x (some (i : Int)) (some ((i : Int) + 1)))) else .no) = _
  rw [if_pos lx, this, cut_mid, Nat.add_sub_cancel_left]
def cIn : Ga → R Fl := fSeq (fSet 5 (bCall g_end_of (bCons (bVar 1) (bCons (bSl (bVar 3) (pNo) (pSo (bVar 4))) (bNil))))) (fSeq (fSet 6 (bSl (bVar 3) (pSo (bVar 4)) (pSo (b2 dAdd (bVar 4) (bC (.int 1)))))) (fBump 2 7 5 6))
def cOut : Ga → R Fl := fForI (iR1 (b2 dAdd (bN dLen (bCons (bVar 3) (bNil))) (bC (.int 1)))) (bdN 4) cIn
theorem m_counted_e : m_counted = fSeq (fNd0 2) (fSeq (fForE (bVar 0) (bdN 3) cOut) (fFz 2 (fRet (bVar 2)))) := rfl
theorem cIn_ok {B : D} {o : Nat} {x : Tx} {es : List Ev} {i : Nat} {s5 s6 s7 : Sl} (hes : es.length < 1000) (hx : x.length ≤ 8) :
    cIn [.va B, .va (.int o), .nd (tabD (tabOf es)), .va (.str x), .va (.int (i : Nat)), s5, s6, s7] = .ok (.nx [.va B, .va (.int o), .nd (tabD (tabOf (es ++ [cStep x o i]))), .va (.str x), .va (.int (i : Nat)), .va (.str (endT o (x.take i))), .va (.str ((x.drop i).take 1)), .un]) := by
  have lx : x.length ≤ lim := by rw [lim_val]; omega
  have c1 := cut1 lx i
  have c2 := cut2 lx i
  have c3 := end_ok o (t := x.take i) (by simp; omega)
  have fb := fBump_ok (i := 2) (r := 7) (c := 5) (l := 6) (tabOk es) hes (ck := endT o (x.take i)) (lt := (x.drop i).take 1) (γ := [.va B, .va (.int o), .nd (tabD (tabOf es)), .va (.str x), .va (.int (i : Nat)), .va (.str (endT o (x.take i))), .va (.str ((x.drop i).take 1)), s7]) rfl rfl rfl (by simp)
  rw [tab_snoc]
  unfold cStep
  generalize endT o (x.take i) = ck at *
  generalize (x.drop i).take 1 = lt at *
  simp at fb
  simp [cIn, bSl, pNo, pSo, toI, c1, c2, c3, fb]
theorem cOut_ok {B : D} {o : Nat} {x : Tx} {es : List Ev} {s4 s5 s6 s7 : Sl} (hes : es.length < 900) (hx : x.length ≤ 8) :
    ∃ s4' s5' s6' s7', cOut [.va B, .va (.int o), .nd (tabD (tabOf es)), .va (.str x), s4, s5, s6, s7] = .ok (.nx [.va B, .va (.int o), .nd (tabD (tabOf (es ++ evs o x))), .va (.str x), s4', s5', s6', s7']) := by
  have inner := forGo_inv (bd := bdN 4) (inj := fun i : Nat => D.int (0 + (i : Nat))) (l0 := List.range (x.length + 1)) (body := cIn)
    (I := fun dn γ => ∃ s4 s5 s6 s7, γ = [.va B, .va (.int o), .nd (tabD (tabOf (es ++ dn.map (cStep x o)))), .va (.str x), s4, s5, s6, s7])
    (γ := [.va B, .va (.int o), .nd (tabD (tabOf es)), .va (.str x), s4, s5, s6, s7]) (fun dn i rest γ hr hI => by
      obtain ⟨s4, s5, s6, s7, rfl⟩ := hI
      obtain ⟨hi1, hi2⟩ := range_split hr
      have st := cIn_ok (B := B) (o := o) (x := x) (es := es ++ dn.map (cStep x o)) (i := i) (s5 := s5) (s6 := s6) (s7 := s7) (by simp; omega) hx
      refine ⟨_, rfl, [.va B, .va (.int o), .nd (tabD (tabOf (es ++ dn.map (cStep x o) ++ [cStep x o i]))), .va (.str x), .va (.int (i : Nat)), .va (.str (endT o (x.take i))), .va (.str ((x.drop i).take 1)), .un], .inl ?_, ?_⟩
      · rw [← st]; simp
      · exact ⟨_, _, _, _, by rw [List.map_append, List.append_assoc, List.map_cons, List.map_nil]⟩) ⟨s4, s5, s6, s7, by simp⟩
  obtain ⟨γ', i1, s4', s5', s6', s7', rfl⟩ := inner
  refine ⟨s4', s5', s6', s7', ?_⟩
  have lx : x.length ≤ lim := by rw [lim_val]; omega
  have e5 : i2n (.int ((x.length : Int) + 1)) = .ok ((x.length : Int) + 1) := i2n_i (by omega)
  have e6 : ((x.length : Int) + 1).toNat = x.length + 1 := by omega
  rw [← evs_e] at i1
  simp at i1
  simp [cOut, fForI, iR1, dLen, lx, e5, e6, rng_e, i1]
theorem counted_ok {b : List Tx} (hb : smallB b) (o : Nat) : g_counted [bkD b, .int o] = .ok (tblD (tabOf (evB o b))) := by
  have outer := forGo_inv (bd := bdN 3) (inj := D.str) (l0 := b) (body := cOut)
    (I := fun done γ => ∃ s3 s4 s5 s6 s7, γ = [.va (bkD b), .va (.int o), .nd (tabD (tabOf (evB o done))), s3, s4, s5, s6, s7])
    (γ := [.va (bkD b), .va (.int o), .nd [], .un, .un, .un, .un, .un]) (fun done x rest γ hx hI => by
      obtain ⟨s3, s4, s5, s6, s7, rfl⟩ := hI
      have hxl : x.length ≤ 8 := hb.2 x (by rw [hx]; simp)
      have hdl : (evB o done).length ≤ 72 := by
        have := evB_len (o := o) (b := done) fun y hy => hb.2 y (by rw [hx]; simp [hy])
        have h8 := hb.1
        rw [hx] at h8
        simp at h8
        omega
      obtain ⟨s4', s5', s6', s7', st⟩ := cOut_ok (B := bkD b) (o := o) (x := x) (es := evB o done) (s4 := s4) (s5 := s5) (s6 := s6) (s7 := s7) (by omega) hxl
      refine ⟨_, rfl, _, .inl st, .va (.str x), s4', s5', s6', s7', ?_⟩
      rw [show evB o (done ++ [x]) = evB o done ++ evs o x by unfold evB; rw [List.flatMap_append]; simp]) ⟨.un, .un, .un, .un, .un, rfl⟩
  obtain ⟨γ', o1, s3, s4, s5, s6, s7, rfl⟩ := outer
  unfold g_counted
  rw [fnD_e, m_counted_e]
  unfold bkD at o1 ⊢
  simp [fForE, items]
  simp [o1, tblD, tabD]
/-! ### names and books -/
def nameOk (s : Tx) : Prop := 1 ≤ s.length ∧ s.length ≤ 8 ∧ ∀ c ∈ s, 97 ≤ c ∧ c ≤ 122
def bookOk (b : List Tx) : Prop := 1 ≤ b.length ∧ b.length ≤ 8 ∧ ∀ x ∈ b, nameOk x
theorem bookOk.small {b : List Tx} (h : bookOk b) : smallB b := ⟨h.2.1, fun x hx => (h.2.2 x hx).2.1⟩
theorem letter_in {c : Nat} (h : 97 ≤ c ∧ c ≤ 122) : dIn (.str [c]) (.str [97, 98, 99, 100, 101, 102, 103, 104, 105, 106, 107, 108, 109, 110, 111, 112, 113, 114, 115, 116, 117, 118, 119, 120, 121, 122]) = .ok (.bl true) := by
  have : c ∈ (List.range' 97 26) := by rw [List.mem_range'_1]; omega
  have all : ∀ c ∈ List.range' 97 26, subT [c] [97, 98, 99, 100, 101, 102, 103, 104, 105, 106, 107, 108, 109, 110, 111, 112, 113, 114, 115, 116, 117, 118, 119, 120, 121, 122] = true := by decide
  unfold dIn dInB
  simp [all c this]
theorem all_true {α : Type} (l : List α) : dAll [.lst (l.map fun _ => D.bl true)] = .ok (.bl true) := by
  have e : (l.map fun _ => D.bl true) = (l.map fun _ => true).map D.bl := by rw [List.map_map]; rfl
  rw [e]
  generalize hz : (l.map fun _ => true) = z
  have hz2 : z.all id = true := by rw [← hz]; simp
  show ((o2r (asBls (z.map D.bl))).bind fun ns => R.ok (D.bl (ns.all id))) = _
  rw [asBls_map, o2r_some]
  show R.ok (D.bl (z.all id)) = _
  rw [hz2]
theorem isName_ok {s : Tx} (h : nameOk s) : g_is_name [.str s] = .ok (.bl true) := by
  obtain ⟨h1, h2, h3⟩ := h
  have hl : s.length ≤ lim := by rw [lim_val]; omega
  have h1' : (1 : Int) ≤ s.length := by omega
  have h2' : (s.length : Int) ≤ 8 := by omega
  unfold g_is_name
  rw [fnD_e]
  have comp := lcGo_map (bd := bdN 1) (elt := b2 dIn (bVar 1) (bC (.str [97, 98, 99, 100, 101, 102, 103, 104, 105, 106, 107, 108, 109, 110, 111, 112, 113, 114, 115, 116, 117, 118, 119, 120, 121, 122]))) (γ := wipeG [.va (.str s), .un] [1]) (inj := fun c : Nat => D.str [c]) (f := fun _ => .bl true) (l := s) fun c hc => ⟨_, rfl, by
    have := letter_in (h3 c hc)
    simp [wipeG, this]⟩
  have c2 := lcOut_e comp (by rw [List.length_map]; exact hl)
  have a1 := all_true s
  simp [m_is_name, bAnd, dIsi, isT, bCh, dLen, hl, h1', h2', bLcE, items, sgn, c2, a1]
theorem isBook_ok {b : List Tx} (h : bookOk b) : g_is_book [bkD b] = .ok (.bl true) := by
  obtain ⟨h1, h2, h3⟩ := h
  have hl : b.length ≤ lim := by rw [lim_val]; omega
  have h1' : (1 : Int) ≤ b.length := by omega
  have h2' : (b.length : Int) ≤ 8 := by omega
  unfold g_is_book
  rw [fnD_e]
  have comp := lcGo_map (bd := bdN 1) (elt := bCall g_is_name (bCons (bVar 1) (bNil))) (γ := wipeG [.va (bkD b), .un] [1]) (inj := D.str) (f := fun _ => .bl true) (l := b) fun c hc => ⟨_, rfl, by
    have := isName_ok (h3 c hc)
    simp [wipeG, this]⟩
  have c2 := lcOut_e comp (by rw [List.length_map]; exact hl)
  have a1 := all_true b
  unfold bkD at c2 ⊢
  simp [m_is_book, bAnd, dIsi, isT, bCh, h1', h2', bLcE, items, c2, a1]
theorem needBook_ok {b : List Tx} (h : bookOk b) : g_need_book [bkD b] = .ok .non := by
  have := isBook_ok h
  unfold g_need_book
  rw [fnD_e]
  simp [m_need_book, this]
theorem isNumber_ok {i lo hi : Int} : g_is_number [.int i, .int lo, .int hi] = .ok (.bl (decide (lo ≤ i ∧ i ≤ hi))) := by
  unfold g_is_number
  rw [fnD_e]
  by_cases h : lo ≤ i <;> simp [m_is_number, bAnd, dIsi, isT, bCh, dNot, h]
theorem needOrder_ok {o : Nat} (h : 1 ≤ o ∧ o ≤ 3) : g_need_order [.int o] = .ok .non := by
  have := isNumber_ok (i := (o : Int)) (lo := 1) (hi := 3)
  unfold g_need_order
  rw [fnD_e]
  have e : decide ((1 : Int) ≤ o ∧ (o : Int) ≤ 3) = true := by simp; omega
  rw [e] at this
  simp [m_need_order, this]
/-! ### rows -/
end
end KN
/-! PD: behind and table -/
namespace KN
open PySem PySem.Spec PyProof.Rows L2
noncomputable section
theorem look_tbl (t : Tt) (c : Tx) : lookK (t.map fun e => (e.1, D.dic (rowD e.2))) c = (lk t c).map fun r => .dic (rowD r) := by
  rw [lookK_lk]
  exact lk_map (fun r => D.dic (rowD r)) t c
theorem get_tbl (t : Tt) (c : Tx) : (lookK (t.map fun e => (e.1, D.dic (rowD e.2))) c).getD (.dic []) = .dic (rowD (rowOf t c)) := by
  rw [look_tbl]
  unfold rowOf
  cases lk t c <;> rfl
theorem nameOk.pl {s : Tx} (h : nameOk s) : s.all (· < 0x110000) = true := by
  rw [List.all_eq_true]
  intro c hc
  have := (h.2.2 c hc).2
  simp; omega
theorem evB_small {b : List Tx} (hb : smallB b) (o : Nat) : (evB o b).length ≤ 72 := by
  have := evB_len (o := o) hb.2
  have := hb.1
  omega
end
end KN
/-! PE1: laws about rows, contexts, events -/
namespace KN
open PySem PySem.Spec PyProof.Rows L2
noncomputable section
/-! ### equal to itself -/
theorem eqvL_refl {f : D → D → Bool} : ∀ {xs : List D}, (∀ x ∈ xs, f x x = true) → eqvL f xs xs = true
  | [], _ => rfl
  | x :: xs, h => by
    show (f x x && eqvL f xs xs) = true
    rw [h x List.mem_cons_self, eqvL_refl fun y hy => h y (List.mem_cons_of_mem _ hy)]; rfl
theorem eqv_refl : ∀ (n : Nat) (d : D), pl n d = true → eqv n d d = true
  | n, .non, _ => by cases n <;> rfl
  | n, .bl b, _ => by cases n <;> simp [eqv]
  | n, .int i, _ => by simp
  | n, .str s, _ => by simp
  | 0, .lst _, h => nomatch h
  | 0, .tup _, h => nomatch h
  | n + 1, .lst xs, h => by
    rw [eqv_lst]
    rw [pl_lst, List.all_eq_true] at h
    exact eqvL_refl fun x hx => eqv_refl n x (h x hx)
  | n + 1, .tup xs, h => by
    rw [eqv_tup]
    rw [pl_tup, List.all_eq_true] at h
    exact eqvL_refl fun x hx => eqv_refl n x (h x hx)
  | n, .dic _, h => by cases n <;> exact nomatch h
theorem dNe_self {d : D} (h : pl 20 d = true) : dNe d d = .ok (.bl false) := by rw [dNe_p h h, eqv_refl 20 d h]; rfl
theorem dEq_self {d : D} (h : pl 20 d = true) : dEq d d = .ok (.bl true) := by rw [dEq_p h h, eqv_refl 20 d h]
def chs (s : Tx) : Prop := ∀ c ∈ s, c < 0x110000
theorem chs.all {s : Tx} (h : chs s) : s.all (· < 0x110000) = true := by
  rw [List.all_eq_true]; intro c hc; simpa using h c hc
/-! ### contexts -/
theorem endT_idem (o : Nat) (t : Tx) : endT o (endT o t) = endT o t := by
  unfold endT
  rw [List.length_drop, List.drop_drop]
  congr 1; omega
theorem endT_nil (o : Nat) : endT o [] = [] := by simp [endT]
theorem endT_mem {o : Nat} {t : Tx} {c : Nat} (h : c ∈ endT o t) : c ∈ t := List.mem_of_mem_drop h
theorem endT_len (o : Nat) (t : Tx) : (endT o t).length ≤ t.length := by simp [endT]
/-- nothing, or a name -/
def txtOk (t : Tx) : Prop := t = [] ∨ nameOk t
theorem txtOk.chs {t : Tx} (h : txtOk t) : chs t := by
  intro c hc
  rcases h with rfl | h
  · cases hc
  · have := (h.2.2 c hc).2; omega
theorem txtOk.len {t : Tx} (h : txtOk t) : t.length ≤ 8 := by
  rcases h with rfl | h
  · simp
  · exact h.2.1
theorem txtOk_of {t : Tx} (h : t.length ≤ 8) (k : ∀ c ∈ t, 97 ≤ c ∧ c ≤ 122) : txtOk t := by
  cases t with
  | nil => exact .inl rfl
  | cons c t => exact .inr ⟨by simp, h, k⟩
theorem txtOk.let {t : Tx} (h : txtOk t) : ∀ c ∈ t, 97 ≤ c ∧ c ≤ 122 := by
  intro c hc
  rcases h with rfl | h
  · cases hc
  · exact h.2.2 c hc
theorem txtOk.end {t : Tx} (h : txtOk t) (o : Nat) : txtOk (endT o t) := txtOk_of (Nat.le_trans (endT_len o t) h.len) fun c hc => h.let c (endT_mem hc)
/-! ### events -/
theorem evB_mem {o : Nat} {b : List Tx} {e : Ev} (h : e ∈ evB o b) : ∃ x ∈ b, ∃ i, i ≤ x.length ∧ e = (endT o (x.take i), (x.drop i).take 1) := by
  unfold evB at h
  obtain ⟨x, hx, h⟩ := List.mem_flatMap.mp h
  unfold evs at h
  obtain ⟨i, hi, rfl⟩ := List.mem_map.mp h
  exact ⟨x, hx, i, by have := List.mem_range.mp hi; omega, rfl⟩
theorem ev_ctx {o : Nat} {b : List Tx} (hb : ∀ x ∈ b, nameOk x) {e : Ev} (h : e ∈ evB o b) : txtOk e.1 ∧ endT o e.1 = e.1 ∧ chs e.2 := by
  obtain ⟨x, hx, i, hi, rfl⟩ := evB_mem h
  have hn := hb x hx
  refine ⟨txtOk.end (txtOk_of ?_ ?_) o, endT_idem o _, fun c hc => ?_⟩
  · have := hn.2.1; simp; omega
  · exact fun c hc => hn.2.2 c (List.mem_of_mem_take hc)
  · have := (hn.2.2 c (List.mem_of_mem_drop (List.mem_of_mem_take hc))).2; omega
/-! ### sorted rows are sorted -/
/-! ### sums -/
theorem perm_sum {l m : List Int} (p : l.Perm m) : l.sum = m.sum := by
  induction p with
  | nil => rfl
  | cons x _ ih => simp [ih]
  | swap x y l => simp; omega
  | trans _ _ h1 h2 => exact h1.trans h2
def rsum (r : Rw) : Int := (r.map (·.2)).sum
theorem rsum_pt (r : Rw) (nd : (ks r).Nodup) (l : Tx) (n : Int) : rsum (pt r l n) = rsum r - (lk r l).getD 0 + n := by
  induction r with
  | nil => simp [rsum, pt, lk]
  | cons e r ih =>
    obtain ⟨k, m⟩ := e
    rw [ks, List.map_cons, List.nodup_cons] at nd
    have ih := ih nd.2
    unfold rsum at ih ⊢
    unfold pt lk
    by_cases h : k = l
    · simp [h]; omega
    · simp [h, ih]; omega
theorem rsum_lst {r : Rw} (nd : (ks r).Nodup) : rsum (lst 0 r) = rsum r := by
  unfold rsum lst
  rw [List.map_map]
  conv => rhs; rw [self_map 0 nd, List.map_map]
  exact perm_sum ((sortT_perm _).map _)
theorem rowsum (es : List Ev) (c : Tx) : rsum (rowL es c) = (es.countP fun e => e.1 == c : Nat) := by
  unfold rowL
  rw [rsum_lst ((tabOk es).rnd c)]
  have aux : ∀ (fs done : List Ev), rsum (rowOf (tabOf done) c) = (done.countP fun e => e.1 == c : Nat) → rsum (rowOf (tabOf (done ++ fs)) c) = ((done ++ fs).countP fun e => e.1 == c : Nat) := by
    intro fs
    induction fs with
    | nil => intro done h; simpa using h
    | cons f fs ih =>
      intro done h
      have := ih (done ++ [f]) (by
        rw [tab_snoc, rowOf_bump, List.countP_append]
        by_cases z : f.1 = c
        · rw [if_pos z, rsum_pt _ ((tabOk done).rnd c), h]
          simp [z]; omega
        · rw [if_neg z, h]; simp [z])
      simpa using this
  have := aux es [] (by simp [rowOf, tabOf, lk, rsum])
  simpa using this
end
end KN
/-! PF: fractions -/
namespace KN
open PySem PySem.Spec PyProof.Rows L2
noncomputable section
def frD (q : Rat) : D := .tup [.int q.num, .int (q.den : Int)]
/-- neither part is long -/
def sz (n : Nat) (q : Rat) : Prop := 0 ≤ q.num ∧ q.num < 2 ^ n ∧ q.den < 2 ^ n
theorem log_lt {n m : Nat} (h : n < 2 ^ m) : n.log2 ≤ m := by
  rcases Nat.eq_zero_or_pos n with rfl | hp
  · simp
  · have := (Nat.log2_lt (by omega)).mpr h; omega
theorem dMul_l {i j : Int} {a b : Nat} (h : i.natAbs < 2 ^ a) (k : j.natAbs < 2 ^ b) (ab : a + b ≤ 9000) : dMul (.int i) (.int j) = .ok (.int (i * j)) := by
  have h1 := log_lt h
  have h2 := log_lt k
  rw [dMul_i, if_pos (by omega)]
theorem dDiv_l {i j : Int} {b : Nat} (h : 0 < j) (k : j.natAbs < 2 ^ b) (hb : b ≤ 8000) : dDiv (.int i) (.int j) = .ok (.int (i / j)) := by
  have h2 := log_lt k
  rw [dDiv_i, if_pos ⟨h, by omega⟩]
def lowP : Ga → R Bool := tVal (b2 dGt (bVar 2) (bC (.int 0)))
def lowB : Ga → R Fl := fPar 2 3 (b2 dMod (bVar 3) (bVar 2)) (bVar 2)
theorem low_loop (a0 a1 : Sl) : ∀ (n u d : Nat), u ≤ n → ∃ N, whN lowP lowB N [a0, a1, .va (.int u), .va (.int d)] = some (.ok (.nx [a0, a1, .va (.int 0), .va (.int (Nat.gcd u d : Nat))]))
  | n, 0, d, _ => by
    refine ⟨1, ?_⟩
    simp [whN, lowP]
  | 0, u + 1, d, h => by omega
  | n + 1, u + 1, d, h => by
    have hlt : d % (u + 1) ≤ n := by have := Nat.mod_lt d (show 0 < u + 1 by omega); omega
    obtain ⟨N, hN⟩ := low_loop a0 a1 n (d % (u + 1)) (u + 1) hlt
    refine ⟨N + 1, ?_⟩
    have e1 : dMod (.int (d : Nat)) (.int ((u + 1 : Nat) : Int)) = .ok (.int ((d % (u + 1) : Nat) : Int)) := by
      rw [dMod_s (by omega), Int.natCast_emod]
    have e2 : lowP [a0, a1, .va (.int ((u + 1 : Nat) : Int)), .va (.int d)] = .ok true := by
      have : (0 : Int) < ((u + 1 : Nat) : Int) := by omega
      simp only [lowP, tVal_e, b2_e, bVar_e, bC_e, List.getElem?_cons_succ, List.getElem?_cons_zero, R.bind, dGt_i, tB_e, this, decide_true]
    have e3 : lowB [a0, a1, .va (.int ((u + 1 : Nat) : Int)), .va (.int d)] = .ok (.nx [a0, a1, .va (.int ((d % (u + 1) : Nat) : Int)), .va (.int ((u + 1 : Nat) : Int))]) := by
      simp only [lowB, fPar, b2_e, bVar_e, List.getElem?_cons_succ, List.getElem?_cons_zero, R.bind, e1]
      rfl
    rw [Nat.gcd_succ]
    simp only [whN, e2, e3, if_true]
    exact hN
theorem m_lowest_e : m_lowest = fSeq (fSet 2 (bVar 0)) (fSeq (fSet 3 (bVar 1)) (fSeq (fWh lowP lowB) (fRet (bTup (bCons (b2 dDiv (bVar 0) (bVar 3)) (bCons (b2 dDiv (bVar 1) (bVar 3)) (bNil))))))) := rfl
theorem lowest_ok (u d : Nat) (hd : 0 < d) {m : Nat} (hm : d < 2 ^ m) (hm2 : m ≤ 8000) : g_lowest [.int u, .int d] = .ok (frD (mkRat u d)) := by
  obtain ⟨N, hN⟩ := low_loop (.va (.int u)) (.va (.int d)) u u d (Nat.le_refl _)
  have hw := fWh_eq hN
  have g0 : 0 < Nat.gcd u d := Nat.gcd_pos_of_pos_right _ hd
  have g1 : Nat.gcd u d ≤ d := Nat.gcd_le_right _ hd
  have hd0 : d ≠ 0 := by omega
  have e1 : dDiv (.int u) (.int (Nat.gcd u d : Nat)) = .ok (.int ((mkRat u d).num)) := by
    rw [dDiv_l (b := m) (by omega) (by omega) hm2, Rat.num_mkRat, if_neg hd0, Nat.gcd_comm d]; rfl
  have e2 : dDiv (.int d) (.int (Nat.gcd u d : Nat)) = .ok (.int ((mkRat u d).den : Int)) := by
    rw [dDiv_l (b := m) (by omega) (by omega) hm2, Rat.den_mkRat, if_neg hd0, Nat.gcd_comm d]; rfl
  generalize Nat.gcd u d = g at *
  unfold g_lowest
  rw [fnD_e, m_lowest_e]
  simp only [fSeq_e, fSet_e, bVar_e, R.bind, List.map_cons, List.map_nil, List.length_cons, List.length_nil, List.replicate, List.cons_append, List.nil_append, List.getElem?_cons_succ, List.getElem?_cons_zero, List.set_cons_succ, List.set_cons_zero, hw]
  simp [e1, e2, lim_val, frD]
theorem at0 (a b : D) : L2.atI [a, b] 0 = some a := rfl
theorem at1 (a b : D) : L2.atI [a, b] 1 = some b := rfl
theorem sz.abs {n : Nat} {q : Rat} (h : sz n q) : q.num.natAbs < 2 ^ n := by
  obtain ⟨h1, h2, _⟩ := h
  have : ((2 ^ n : Nat) : Int) = 2 ^ n := by simp
  omega
theorem nat_of {i : Int} (h : 0 ≤ i) : ∃ n : Nat, i = n := ⟨i.toNat, by omega⟩
theorem times_ok {p q : Rat} {a b : Nat} (hp : sz a p) (hq : sz b q) (hab : a + b ≤ 8000) : g_times [frD p, frD q] = .ok (frD (p * q)) := by
  have h1 := hp.abs
  have h2 := hq.abs
  have e1 : dMul (.int p.num) (.int q.num) = .ok (.int (p.num * q.num)) := dMul_l h1 h2 (by omega)
  have e2 : dMul (.int (p.den : Int)) (.int (q.den : Int)) = .ok (.int ((p.den * q.den : Nat) : Int)) := by
    rw [dMul_l (a := a) (b := b) (by have := hp.2.2; omega) (by have := hq.2.2; omega) (by omega), Int.natCast_mul]
  obtain ⟨u, hu⟩ := nat_of (Int.mul_nonneg hp.1 hq.1)
  have hd : p.den * q.den < 2 ^ (a + b) := by rw [Nat.pow_add]; exact Nat.mul_lt_mul'' hp.2.2 hq.2.2
  have l := lowest_ok u (p.den * q.den) (Nat.mul_pos p.den_pos q.den_pos) hd (by omega)
  rw [Rat.mul_def', hu]
  rw [hu] at e1
  unfold g_times frD
  rw [fnD_e]
  simp [m_times, at0, at1, e1, e2] at l ⊢
  simp [l, frD]
theorem added_ok {p q : Rat} {a b : Nat} (hp : sz a p) (hq : sz b q) (hab : a + b ≤ 8000) : g_added [frD p, frD q] = .ok (frD (p + q)) := by
  have h1 := hp.abs
  have h2 := hq.abs
  have e1 : dMul (.int p.num) (.int (q.den : Int)) = .ok (.int (p.num * q.den)) := dMul_l h1 (b := b) (by have := hq.2.2; omega) (by omega)
  have e3 : dMul (.int q.num) (.int (p.den : Int)) = .ok (.int (q.num * p.den)) := dMul_l h2 (b := a) (by have := hp.2.2; omega) (by omega)
  have e2 : dMul (.int (p.den : Int)) (.int (q.den : Int)) = .ok (.int ((p.den * q.den : Nat) : Int)) := by
    rw [dMul_l (a := a) (b := b) (by have := hp.2.2; omega) (by have := hq.2.2; omega) (by omega), Int.natCast_mul]
  obtain ⟨u, hu⟩ := nat_of (Int.add_nonneg (Int.mul_nonneg hp.1 (Int.natCast_nonneg q.den)) (Int.mul_nonneg hq.1 (Int.natCast_nonneg p.den)))
  have hd : p.den * q.den < 2 ^ (a + b) := by rw [Nat.pow_add]; exact Nat.mul_lt_mul'' hp.2.2 hq.2.2
  have l := lowest_ok u (p.den * q.den) (Nat.mul_pos p.den_pos q.den_pos) hd (by omega)
  rw [Rat.add_def', hu]
  unfold g_added frD
  rw [fnD_e]
  simp [m_added, at0, at1, e1, e2, e3, hu] at l ⊢
  simp [l, frD]
theorem sz_mono {n m : Nat} {q : Rat} (h : sz n q) (k : n ≤ m) : sz m q := by
  have : 2 ^ n ≤ 2 ^ m := Nat.pow_le_pow_right (by decide) k
  have c1 : ((2 ^ n : Nat) : Int) = 2 ^ n := by simp
  have c2 : ((2 ^ m : Nat) : Int) = 2 ^ m := by simp
  obtain ⟨h1, h2, h3⟩ := h
  refine ⟨h1, ?_, by omega⟩
  omega
theorem sz_mk {u d n : Nat} (hd : 0 < d) (hu : u < 2 ^ n) (hd2 : d < 2 ^ n) : sz n (mkRat u d) := by
  have hd0 : d ≠ 0 := by omega
  unfold sz
  rw [Rat.num_mkRat, Rat.den_mkRat, if_neg hd0, if_neg hd0]
  have c1 : ((2 ^ n : Nat) : Int) = 2 ^ n := by simp
  have g : 0 < Nat.gcd d u := Nat.gcd_pos_of_pos_left _ hd
  have e : ((u : Int)) / ((Nat.gcd d (u : Int).natAbs : Nat) : Int) = ((u / Nat.gcd d u : Nat) : Int) := by simp
  have l1 : u / Nat.gcd d u ≤ u := Nat.div_le_self _ _
  have l2 : d / Nat.gcd d u ≤ d := Nat.div_le_self _ _
  rw [e]
  refine ⟨Int.natCast_nonneg _, ?_, ?_⟩
  · rw [← c1]; exact Int.ofNat_lt.mpr (Nat.lt_of_le_of_lt l1 hu)
  · simpa using Nat.lt_of_le_of_lt l2 hd2
theorem sz_mul {p q : Rat} {a b : Nat} (hp : sz a p) (hq : sz b q) : sz (a + b) (p * q) := by
  rw [Rat.mul_def']
  obtain ⟨u, hu⟩ := nat_of (Int.mul_nonneg hp.1 hq.1)
  obtain ⟨x, hx⟩ := nat_of hp.1
  obtain ⟨y, hy⟩ := nat_of hq.1
  have h1 := hp.abs
  have h2 := hq.abs
  rw [hu]
  refine sz_mk (Nat.mul_pos p.den_pos q.den_pos) ?_ ?_
  · rw [hx, hy] at hu
    rw [hx] at h1
    rw [hy] at h2
    have : u = x * y := by rw [← Int.natCast_mul] at hu; omega
    rw [this, Nat.pow_add]
    exact Nat.mul_lt_mul'' (by simpa using h1) (by simpa using h2)
  · rw [Nat.pow_add]; exact Nat.mul_lt_mul'' hp.2.2 hq.2.2
theorem sz_add {p q : Rat} {a b : Nat} (hp : sz a p) (hq : sz b q) : sz (a + b + 1) (p + q) := by
  rw [Rat.add_def']
  obtain ⟨x, hx⟩ := nat_of hp.1
  obtain ⟨y, hy⟩ := nat_of hq.1
  have h1 := hp.abs
  have h2 := hq.abs
  rw [hx] at h1
  rw [hy] at h2
  have h1 : x < 2 ^ a := by simpa using h1
  have h2 : y < 2 ^ b := by simpa using h2
  have e : p.num * (q.den : Int) + q.num * (p.den : Int) = ((x * q.den + y * p.den : Nat) : Int) := by rw [hx, hy]; simp
  rw [e]
  have i1 : x * q.den < 2 ^ (a + b) := by rw [Nat.pow_add]; exact Nat.mul_lt_mul'' h1 hq.2.2
  have i2 : y * p.den < 2 ^ (a + b) := by rw [Nat.pow_add, Nat.mul_comm (2 ^ a)]; exact Nat.mul_lt_mul'' h2 hp.2.2
  have i3 : p.den * q.den < 2 ^ (a + b) := by rw [Nat.pow_add]; exact Nat.mul_lt_mul'' hp.2.2 hq.2.2
  have i4 : 2 ^ (a + b + 1) = 2 * 2 ^ (a + b) := by rw [Nat.pow_succ]; omega
  exact sz_mk (Nat.mul_pos p.den_pos q.den_pos) (by omega) (by omega)
theorem pl_fr (n : Nat) (q : Rat) : pl (n + 1) (frD q) = true := by
  unfold frD; rw [pl_tup]; simp
theorem fr_zero : frD 0 = .tup [.int 0, .int 1] := rfl
end
end KN
/-! PG: shares of names -/
namespace KN
open PySem PySem.Spec PyProof.Rows L2
noncomputable section
def tot (es : List Ev) (c : Tx) : Nat := es.countP fun e => e.1 == c
/-- how often l is behind c, of all behind c -/
def pq (es : List Ev) (e : Ev) : Rat := mkRat (es.count e) (tot es e.1)
theorem count_le_tot (es : List Ev) (e : Ev) : es.count e ≤ tot es e.1 := by
  unfold tot List.count
  exact List.countP_mono_left fun x _ h => by
    have : x = e := by simpa using h
    subst this; simp
theorem tot_le (es : List Ev) (c : Tx) : tot es c ≤ es.length := List.countP_le_length
theorem pq_sz {es : List Ev} (h : es.length < 2 ^ 8) (e : Ev) : sz 8 (pq es e) := by
  have h1 := count_le_tot es e
  have h2 := tot_le es e.1
  unfold pq
  by_cases z : tot es e.1 = 0
  · rw [z, Rat.mkRat_zero]; exact ⟨by decide, by decide, by decide⟩
  · exact sz_mk (by omega) (by omega) (by omega)
theorem pq_zero {es : List Ev} {e : Ev} (h : es.count e = 0) : pq es e = 0 := by
  unfold pq
  rw [h]; exact Rat.zero_mkRat _
theorem sum_vals {r : Rw} (nd : (ks r).Nodup) : ((ks r).map fun l => (lk r l).getD 0).sum = rsum r := by
  unfold rsum
  conv => rhs; rw [self_map 0 nd, List.map_map]
  rfl
theorem rsum_row (es : List Ev) (c : Tx) : rsum (rowOf (tabOf es) c) = (tot es c : Nat) := by
  have := rowsum es c
  unfold rowL at this
  rw [rsum_lst ((tabOk es).rnd c)] at this
  exact this
theorem part_ok {es : List Ev} (hes : es.length < 2 ^ 8) (c l : Tx) : g_part_of [tblD (tabOf es), .str c, .str l] = .ok (frD (pq es (c, l))) := by
  have T := tabOk es
  have hg := get_tbl (tabOf es) c
  have hv := T.val c l
  have hnd := T.rnd c
  have hlen := T.rlen c
  have hrs := rsum_row es c
  have e1 : lookK (rowD (rowOf (tabOf es) c)) l = (lk (rowOf (tabOf es) c) l).map .int := by rw [lookK_lk, lk_rowD]
  unfold g_part_of
  rw [fnD_e]
  unfold tblD
  by_cases z : es.count (c, l) = 0
  · rw [if_pos z] at hv
    rw [pq_zero z, fr_zero]
    have e2 : dNotIn (.str l) (.dic (rowD (rowOf (tabOf es) c))) = .ok (.bl true) := by
      unfold dNotIn dInB; simp [e1, hv]
    simp [m_part_of, bGet, hg, e2, lim_val]
  · rw [if_neg z] at hv
    have e2 : dNotIn (.str l) (.dic (rowD (rowOf (tabOf es) c))) = .ok (.bl false) := by
      unfold dNotIn dInB; simp [e1, hv]
    have e3 : lookK (rowD (rowOf (tabOf es) c)) l = some (.int (es.count (c, l) : Nat)) := by rw [e1, hv]; rfl
    have hk : keysD (rowD (rowOf (tabOf es) c)) = (ks (rowOf (tabOf es) c)).map D.str := by
      unfold keysD rowD ks; rw [List.map_map, List.map_map]; rfl
    have comp := lcGo_map (bd := bdN 4) (elt := b2 dIx (bVar 3) (bVar 4)) (γ := wipeG [.va (.dic ((tabOf es).map fun e => (e.1, D.dic (rowD e.2)))), .va (.str c), .va (.str l), .va (.dic (rowD (rowOf (tabOf es) c))), .un] [4]) (inj := D.str) (f := fun l => .int ((lk (rowOf (tabOf es) c) l).getD 0)) (l := ks (rowOf (tabOf es) c)) fun k hk => ⟨_, rfl, by
      have : ∃ n, lk (rowOf (tabOf es) c) k = some n := by
        cases z : lk (rowOf (tabOf es) c) k with
        | none => exact absurd hk (lk_none.mp z)
        | some n => exact ⟨n, rfl⟩
      obtain ⟨n, hn⟩ := this
      have lk1 : lookK (rowD (rowOf (tabOf es) c)) k = some (.int n) := by rw [lookK_lk, lk_rowD, hn]; rfl
      simp [wipeG, lk1, hn]⟩
    have hl2 : (ks (rowOf (tabOf es) c)).length = (rowOf (tabOf es) c).length := by simp [ks]
    have c2 := lcOut_e comp (by rw [List.length_map, lim_val]; omega)
    have e5 : ((ks (rowOf (tabOf es) c)).map fun l => D.int ((lk (rowOf (tabOf es) c) l).getD 0)) = ((ks (rowOf (tabOf es) c)).map fun l => (lk (rowOf (tabOf es) c) l).getD 0).map D.int := by rw [List.map_map]; rfl
    have e6 : dSum [.lst ((ks (rowOf (tabOf es) c)).map fun l => D.int ((lk (rowOf (tabOf es) c) l).getD 0))] = .ok (.int (tot es c : Nat)) := by
      rw [e5]
      show (o2r (asInts _)).bind (fun ns => R.ok (D.int ns.sum)) = _
      rw [asInts_map, o2r_some]
      show R.ok (D.int _) = _
      rw [sum_vals hnd, hrs]
    have hc := count_le_tot es (c, l)
    have ht := tot_le es c
    have hc : es.count (c, l) ≤ tot es c := hc
    have lo := lowest_ok (es.count (c, l)) (tot es c) (by omega) (m := 8) (by omega) (by omega)
    have hpq : pq es (c, l) = mkRat (es.count (c, l) : Nat) (tot es c) := rfl
    rw [hpq]
    generalize rowD (rowOf (tabOf es) c) = RD at *
    generalize ks (rowOf (tabOf es) c) = KS at *
    generalize (tabOf es).map (fun e => (e.1, D.dic (rowD e.2))) = TD at *
    simp [m_part_of, bGet, hg, e2, e3, bLcE, items, hk, c2, e6, lo]
/-! ### steps -/
theorem dLen_s {x : Tx} (h : x.length ≤ lim) : dLen [.str x] = .ok (.int x.length) := by
  show (if x.length ≤ lim then R.ok (D.int x.length) else .no) = _
  rw [if_pos h]
theorem iR1_s {fa : Ga → R D} {γ : Ga} {n : Nat} (h : fa γ = .ok (.int n)) (hn : n < 2 ^ 60) : iR1 fa γ = .ok ((List.range n).map fun i => .int (0 + (i : Nat))) := by
  have e : i2n (.int n) = .ok (n : Int) := i2n_i (by omega)
  unfold iR1
  simp [h, e, rng_e]
/-! ### shares -/
def shq (es : List Ev) (l : List Ev) : Rat := l.foldl (fun q e => q * pq es e) 1
def shareQ (es : List Ev) (o : Nat) (x : Tx) : Rat := shq es (evs o x)
theorem shq_sz {es : List Ev} (hes : es.length < 2 ^ 8) (l : List Ev) : sz (8 * l.length + 1) (shq es l) := by
  have aux : ∀ (l : List Ev) (q : Rat) (n : Nat), sz n q → sz (8 * l.length + n) (l.foldl (fun q e => q * pq es e) q) := by
    intro l
    induction l with
    | nil => intro q n h; simpa using h
    | cons e l ih =>
      intro q n h
      have := ih (q * pq es e) (n + 8) (sz_mul h (pq_sz hes e))
      rw [List.foldl_cons, List.length_cons]
      exact sz_mono this (by omega)
  exact aux l 1 1 ⟨by decide, by decide, by decide⟩
theorem shareQ_sz {b : List Tx} (hb : bookOk b) (o : Nat) {x : Tx} (hx : nameOk x) : sz 80 (shareQ (evB o b) o x) := by
  have hes : (evB o b).length < 2 ^ 8 := by have := evB_small hb.small o; omega
  refine sz_mono (shq_sz hes (evs o x)) ?_
  rw [evs_len]; have := hx.2.1; omega
end
end KN
/-! PH: steps through a body, frames; more about shares -/
namespace KN
open PySem PySem.Spec PyProof.Rows L2
noncomputable section
section
variable {f g : Ga → R Fl} {γ γ' : Ga} {p : Ga → R Bool} {d : D} {i : Nat}
theorem seq_nx (h : f γ = .ok (.nx γ')) : fSeq f g γ = g γ' := by rw [fSeq_e, h]
theorem if_f (h : p γ = .ok false) : fIf p f fNil γ = .ok (.nx γ) := by rw [fIf_e, h]; rfl
theorem fn_rt {n : Nat} {ds : List D} (h : f (ds.map .va ++ List.replicate (n - ds.length) .un) = .ok (.rt d)) : fnD n f ds = .ok d := by rw [fnD_e, h]
theorem set_e {fa : Ga → R D} (h : fa γ = .ok d) : fSet i fa γ = .ok (.nx (γ.set i (.va d))) := by rw [fSet_e, h]; rfl
theorem ret_e {fa : Ga → R D} (h : fa γ = .ok d) : fRet fa γ = .ok (.rt d) := by rw [fRet_e, h]; rfl
theorem forE_e {fe : Ga → R D} {bd : D → Ga → R Ga} {ds : List D} {r : R Fl} (h : fe γ = .ok d) (hd : items d = .ok ds) (hn : ∀ es, d ≠ .dic es) (k : forGo bd g ds γ = r) : fForE fe bd g γ = r := by
  unfold fForE
  rw [h]
  cases d <;> first | exact absurd rfl (hn _) | (simp only [R.bind]; rw [hd]; exact k)
theorem lcE_e {fe elt : Ga → R D} {vs : List Nat} {bd : D → Ga → R Ga} {ifs : Ga → R Bool} {ds ys : List D} (h : fe γ = .ok d) (hd : items d = .ok ds) (k : lcGo bd ifs elt (wipeG γ vs) ds = .ok ys) (hl : ys.length ≤ lim) : bLcE fe vs bd ifs elt γ = .ok (.lst ys) := by
  unfold bLcE
  rw [h]
  simp only [R.bind]
  rw [hd]
  exact lcOut_e k hl
/-- a slot that holds d -/
abbrev At (γ : Ga) (i : Nat) (d : D) : Prop := γ[i]? = some (.va d)
theorem At.v (h : At γ i d) : bVar i γ = .ok d := by
  unfold At at h
  rw [bVar_e, h]
theorem At.set {s : Sl} {j : Nat} (h : At γ i d) (n : j ≠ i) : At (γ.set j s) i d := by
  unfold At at h ⊢
  rw [List.getElem?_set_ne n]; exact h
theorem At.new (h : i < γ.length) : At (γ.set i (.va d)) i d := by
  unfold At
  rw [List.getElem?_set_self h]
theorem At.wipe {vs : List Nat} (h : At γ i d) (n : i ∉ vs) : At (wipeG γ vs) i d := by
  induction vs with
  | nil => exact h
  | cons v vs ih =>
    simp only [List.mem_cons, not_or] at n
    exact (ih n.2).set (fun e => n.1 e.symm)
end
/-! ### shares -/
theorem mk_add {a b : Int} {t : Nat} (h : t ≠ 0) : mkRat a t + mkRat b t = mkRat (a + b) t := by
  rw [Rat.mkRat_add_mkRat _ _ h h, ← Int.add_mul, Rat.mkRat_mul_right h]
theorem pq_nonneg (es : List Ev) (e : Ev) : 0 ≤ pq es e := by
  have : 0 ≤ (pq es e).num := by
    unfold pq
    rw [Rat.num_mkRat]
    split
    · decide
    · exact Int.ediv_nonneg (by omega) (by omega)
  exact Rat.num_nonneg.mp this
theorem pq_pos {es : List Ev} {e : Ev} (h : e ∈ es) : 0 < pq es e := by
  have h0 := pq_nonneg es e
  have hc := List.count_pos_iff.mpr h
  have ht := count_le_tot es e
  have : pq es e ≠ 0 := by
    unfold pq
    rw [Rat.mkRat_ne_zero (by omega)]
    omega
  exact Rat.lt_of_le_of_ne h0 (Ne.symm this)
theorem pq_le_one (es : List Ev) (e : Ev) : pq es e ≤ 1 := by
  have hc := count_le_tot es e
  unfold pq
  by_cases z : tot es e.1 = 0
  · rw [z, Rat.mkRat_zero]; decide
  · have e1 : (1 : Rat) = mkRat (tot es e.1 : Nat) (tot es e.1) := by
      have := Rat.mkRat_mul_right (n := 1) (d := 1) (a := tot es e.1) z
      rw [Int.one_mul, Nat.one_mul] at this
      rw [this]; rfl
    have e2 : mkRat (tot es e.1 : Nat) (tot es e.1) = mkRat (es.count e : Nat) (tot es e.1) + mkRat ((tot es e.1 - es.count e : Nat)) (tot es e.1) := by
      rw [mk_add z]; congr 1; omega
    have e3 : 0 ≤ mkRat ((tot es e.1 - es.count e : Nat)) (tot es e.1) := by
      refine Rat.num_nonneg.mp ?_
      rw [Rat.num_mkRat, if_neg z]
      exact Int.ediv_nonneg (by omega) (by omega)
    rw [e1, e2]
    have := Rat.add_le_add_left (a := 0) (b := mkRat ((tot es e.1 - es.count e : Nat)) (tot es e.1)) (c := mkRat (es.count e : Nat) (tot es e.1))
    rw [Rat.add_zero] at this
    exact this.mpr e3
theorem shq_snoc (es l : List Ev) (e : Ev) : shq es (l ++ [e]) = shq es l * pq es e := by unfold shq; rw [List.foldl_append]; rfl
theorem shq_bnd (es : List Ev) : ∀ l : List Ev, ∀ q : Rat, 0 ≤ q → q ≤ 1 → 0 ≤ l.foldl (fun q e => q * pq es e) q ∧ l.foldl (fun q e => q * pq es e) q ≤ 1
  | [], q, h1, h2 => ⟨h1, h2⟩
  | e :: l, q, h1, h2 => shq_bnd es l (q * pq es e) (Rat.mul_nonneg h1 (pq_nonneg es e)) (by
    have a := Rat.mul_le_mul_of_nonneg_left (pq_le_one es e) h1
    rw [Rat.mul_one] at a
    exact Rat.le_trans a h2)
theorem share_ge (es : List Ev) (o : Nat) (x : Tx) : 0 ≤ shareQ es o x := (shq_bnd es _ 1 (by decide) (by decide)).1
end
end KN
/-! PI: small things that many laws ask -/
namespace KN
open PySem PySem.Spec PyProof.Rows L2
noncomputable section
theorem xNil : dNe (.lst []) (.lst []) = .ok (.bl false) := dNe_self (by rfl)
theorem nameOk.chs {x : Tx} (h : nameOk x) : chs x := fun c hc => by have := (h.2.2 c hc).2; omega
theorem nameOk.lim {x : Tx} (h : nameOk x) : x.length ≤ lim := by have := h.2.1; rw [lim_val]; omega
theorem goodN.nm {m : Int} (hm : m ≤ 8) {x : Tx} (h : goodN m x) : nameOk x := ⟨by have := h.1; omega, by have := h.2.1; omega, fun c hc => by
  rcases h.2.2 c hc with rfl | rfl | rfl <;> decide⟩
theorem evLe {o : Nat} {m : Nat} : ∀ {b : List Tx}, (∀ x ∈ b, x.length ≤ m) → (evB o b).length ≤ (m + 1) * b.length
  | [], _ => by simp [evB]
  | x :: b, h => by
    have := evLe (o := o) (b := b) fun y hy => h y (List.mem_cons_of_mem _ hy)
    have h0 := h x List.mem_cons_self
    unfold evB at this ⊢
    rw [List.flatMap_cons, List.length_append, evs_len, List.length_cons, Nat.mul_add]
    omega
theorem dMinT_i (i j : Int) : dMinT [.int i, .int j] = .ok (.int (min i j)) := rfl
/-! ### products -/
theorem shq_ne {es : List Ev} : ∀ {l : List Ev} {q : Rat}, l.foldl (fun q e => q * pq es e) q ≠ 0 ↔ q ≠ 0 ∧ ∀ e ∈ l, pq es e ≠ 0
  | [], q => by simp
  | e :: l, q => by
    rw [List.foldl_cons, shq_ne (l := l)]
    constructor
    · rintro ⟨h1, h2⟩
      refine ⟨fun z => h1 (by rw [z, Rat.zero_mul]), fun f hf => ?_⟩
      rcases List.mem_cons.mp hf with rfl | hf
      · exact fun z => h1 (by rw [z, Rat.mul_zero])
      · exact h2 f hf
    · rintro ⟨h1, h2⟩
      refine ⟨fun z => ?_, fun f hf => h2 f (List.mem_cons_of_mem _ hf)⟩
      rcases Rat.mul_eq_zero.mp z with y | y
      · exact h1 y
      · exact h2 e List.mem_cons_self y
theorem share_pos_iff {es : List Ev} {o : Nat} {x : Tx} : 0 < shareQ es o x ↔ ∀ e ∈ evs o x, pq es e ≠ 0 := by
  have h := shq_ne (es := es) (l := evs o x) (q := 1)
  constructor
  · intro p
    exact (h.mp (fun z => by
      have p : 0 < (evs o x).foldl (fun q e => q * pq es e) 1 := p
      rw [z] at p; exact Rat.lt_irrefl p)).2
  · intro p
    exact Rat.lt_of_le_of_ne (share_ge es o x) (Ne.symm (h.mpr ⟨by decide, p⟩))
end
end KN
set_option maxHeartbeats 400000
/-! PJ: the best of many books -/
namespace KN
open PySem PySem.Spec PyProof.Rows L2
noncomputable section
/-! ### the first of the greatest -/
/-! ### products -/
theorem sz0 : sz 1 0 := ⟨by decide, by decide, by decide⟩
end
end KN
set_option maxHeartbeats 400000
/-! PK: makers, best_maker; laws of the best -/
set_option maxHeartbeats 400000
/-! PL: all that a book makes -/
namespace KN
open PySem PySem.Spec PyProof.Rows L2
noncomputable section
def nxt (es : List Ev) (c : Tx) : List Tx := (sortT (ks (rowOf (tabOf es) c))).filter fun l => !(l == [])
def grow (es : List Ev) (o : Nat) (ts : List Tx) : List Tx := ts.flatMap fun t => (nxt es (endT o t)).map (t ++ ·)
def paths (es : List Ev) (o : Nat) : Nat → List Tx
  | 0 => [[]]
  | n + 1 => grow es o (paths es o n)
theorem grow_app (es : List Ev) (o : Nat) (a b : List Tx) : grow es o (a ++ b) = grow es o a ++ grow es o b := by unfold grow; rw [List.flatMap_append]
theorem dSort_strs (l : List Tx) : dSort [.lst (l.map .str)] = .ok (.lst ((sortT l).map .str)) := by
  cases l with
  | nil => simp [dSort, asTs, okK, sortK, sortT]
  | cons x l =>
    have e : asTs ((x :: l).map D.str) = none := rfl
    have e2 : asTxs ((x :: l).map D.str) = some (x :: l) := asTxs_map _
    unfold dSort
    simp only [e]
    unfold dSorted
    simp only [e2]
theorem dSort_row {r : Rw} (h : r.length < 64) : dSort [.dic (rowD r)] = .ok (.lst ((sortT (ks r)).map .str)) := by
  have e1 : (rowD r).map (·.1) = ks r := ks_rowD r
  unfold dSort dSorted
  simp only [len_rowD, h, if_true, e1]
theorem row_chs {es : List Ev} (h : ∀ e ∈ es, chs e.2) {c l : Tx} (hl : l ∈ ks (rowOf (tabOf es) c)) : chs l := by
  have : lk (rowOf (tabOf es) c) l ≠ none := fun z => lk_none.mp z hl
  rw [(tabOk es).val] at this
  split at this
  · exact absurd rfl this
  · rename_i z
    exact h (c, l) (Decidable.byContradiction fun y => z (List.count_eq_zero.mpr y))
theorem row_mem2 {es : List Ev} {c l : Tx} : l ∈ ks (rowOf (tabOf es) c) ↔ (c, l) ∈ es := by
  have h := (tabOk es).val c l
  constructor
  · intro hl
    have : lk (rowOf (tabOf es) c) l ≠ none := fun z => lk_none.mp z hl
    rw [h] at this
    split at this
    · exact absurd rfl this
    · rename_i z
      exact Decidable.byContradiction fun y => z (List.count_eq_zero.mpr y)
  · intro hl
    refine Decidable.byContradiction fun y => ?_
    have := lk_none.mpr y
    rw [h] at this
    split at this
    · rename_i z; exact List.count_eq_zero.mp z hl
    · cases this
theorem nxt_mem {es : List Ev} {c l : Tx} : l ∈ nxt es c ↔ (c, l) ∈ es ∧ l ≠ [] := by
  unfold nxt
  rw [List.mem_filter, (sortT_perm _).mem_iff, row_mem2]
  simp
def leB : Ga → R Fl := fExt 3 (bLcE (bN dSort (bCons (bGet (bVar 0) (bCall g_end_of (bCons (bVar 1) (bCons (bVar 4) (bNil)))) (bC (.dic []))) (bNil))) [5] (bdN 5) (tVal (b2 dNe (bVar 5) (bC (.str [])))) (b2 dAdd (bVar 4) (bVar 5)))
theorem m_lengthened_e : m_lengthened = fSeq (fOwn 3 (bLst (bNil))) (fSeq (fForE (bVar 2) (bdN 4) leB) (fFz 3 (fRet (bVar 3)))) := rfl
theorem lengthened_ok {es : List Ev} (hes : es.length < 64) (hc : ∀ e ∈ es, chs e.2 ∧ e.2.length ≤ 8) (o : Nat) {ts : List Tx} (ht : ∀ t ∈ ts, t.length ≤ 500) (hl : (grow es o ts).length ≤ lim) :
    g_lengthened [tblD (tabOf es), .int o, .lst (ts.map .str)] = .ok (.lst ((grow es o ts).map .str)) := by
  let T := tblD (tabOf es)
  let L := D.lst (ts.map D.str)
  obtain ⟨γ', l1, s4, s5, rfl⟩ := forGo_inv (bd := bdN 4) (inj := D.str) (l0 := ts) (body := leB) (I := fun dn γ => ∃ s4 s5, γ = [.va T, .va (.int o), .va L, .ow (.lst ((grow es o dn).map .str)), s4, s5]) (γ := [.va T, .va (.int o), .va L, .ow (.lst []), .un, .un]) (fun dn t rest γ hr hI => by
    obtain ⟨s4, s5, rfl⟩ := hI
    have htt : t.length ≤ 500 := ht t (by rw [hr]; simp)
    have en := end_ok o (t := t) (by omega)
    have hrow : (rowOf (tabOf es) (endT o t)).length < 64 := Nat.lt_of_le_of_lt ((tabOk es).rlen _) hes
    have so := dSort_row hrow
    have gt := get_tbl (tabOf es) (endT o t)
    have comp := lcGo_fil (bd := bdN 5) (ifs := tVal (b2 dNe (bVar 5) (bC (.str [])))) (elt := b2 dAdd (bVar 4) (bVar 5)) (γ := wipeG [.va T, .va (.int o), .va L, .ow (.lst ((grow es o dn).map .str)), .va (.str t), s5] [5]) (inj := D.str) (p := fun l : Tx => !(l == [])) (f := fun l => .str (t ++ l)) (l := sortT (ks (rowOf (tabOf es) (endT o t)))) fun l hlm => ⟨_, rfl, by
      have hm := (sortT_perm _).mem_iff.mp hlm
      have hcl := row_chs (fun e he => (hc e he).1) hm
      have e : dNe (.str l) (.str []) = .ok (.bl (!(l == []))) := by
        rw [dNe_p (by rw [pl_str]; exact hcl.all) (by simp), eqv_str]
      generalize T = T' at *
      generalize L = L' at *
      simp [wipeG, e], fun _ => by
      have hm := (sortT_perm _).mem_iff.mp hlm
      have h8 := (hc _ (row_mem2.mp hm)).2
      have e : dAdd (.str t) (.str l) = .ok (.str (t ++ l)) := by
        show (if t.length + l.length ≤ lim then R.ok (D.str (t ++ l)) else .no) = _
        rw [if_pos (by rw [lim_val]; simp at h8; omega)]
      generalize T = T' at *
      generalize L = L' at *
      simp [wipeG, e]⟩
    have eg : grow es o (dn ++ [t]) = grow es o dn ++ (nxt es (endT o t)).map (t ++ ·) := by
      rw [grow_app]; congr 1; unfold grow; simp
    have hsz : (grow es o dn).length + (nxt es (endT o t)).length ≤ lim := by
      have : grow es o ts = grow es o dn ++ ((nxt es (endT o t)).map (t ++ ·) ++ grow es o rest) := by
        rw [hr, grow_app]; congr 1
      rw [this] at hl
      simp at hl
      omega
    have c2 := lcE_e (γ := [.va T, .va (.int o), .va L, .ow (.lst ((grow es o dn).map .str)), .va (.str t), s5]) (fe := bN dSort (bCons (bGet (bVar 0) (bCall g_end_of (bCons (bVar 1) (bCons (bVar 4) (bNil)))) (bC (.dic []))) (bNil))) (d := .lst ((sortT (ks (rowOf (tabOf es) (endT o t)))).map .str)) (by
      show bN dSort _ [.va (.dic ((tabOf es).map fun e => (e.1, .dic (rowD e.2)))), .va (.int o), .va L, _, .va (.str t), s5] = _
      generalize L = L' at *
      simp [bGet, en, gt, so]) rfl comp (by
      rw [List.length_map]
      have : (nxt es (endT o t)).length ≤ lim := by omega
      exact this)
    refine ⟨_, rfl, [.va T, .va (.int o), .va L, .ow (.lst ((grow es o (dn ++ [t])).map .str)), .va (.str t), s5], .inl ?_, _, _, rfl⟩
    show leB [.va T, .va (.int o), .va L, .ow (.lst ((grow es o dn).map .str)), .va (.str t), s5] = _
    have ol : owL [.va T, .va (.int o), .va L, .ow (.lst ((grow es o dn).map .str)), .va (.str t), s5] 3 = some ((grow es o dn).map .str) := rfl
    unfold leB fExt
    rw [ol]
    simp only
    rw [c2]
    show (if _ ≤ lim then _ else _) = _
    have e3 : ((sortT (ks (rowOf (tabOf es) (endT o t)))).filter fun l => !(l == [])).map (fun l => D.str (t ++ l)) = ((nxt es (endT o t)).map (t ++ ·)).map D.str := by
      rw [List.map_map]; rfl
    rw [if_pos (by rw [List.length_map, List.length_map]; exact hsz), eg, List.map_append, e3]
    rfl) ⟨.un, .un, rfl⟩
  unfold g_lengthened
  refine fn_rt ?_
  rw [m_lengthened_e]
  show fSeq _ _ [.va T, .va (.int o), .va L, .un, .un, .un] = _
  rw [seq_nx (γ' := [.va T, .va (.int o), .va L, .ow (.lst []), .un, .un]) (by rw [fOwn_e]; simp [lim_val])]
  rw [seq_nx (forE_e (d := L) rfl rfl (fun es h => nomatch (show D.lst _ = .dic es from h)) l1)]
  rfl
theorem needNumber_ok {i lo hi : Int} (h : lo ≤ i ∧ i ≤ hi) : g_need_number [.int i, .int lo, .int hi] = .ok .non := by
  have := isNumber_ok (i := i) (lo := lo) (hi := hi)
  rw [decide_eq_true h] at this
  unfold g_need_number
  rw [fnD_e]
  simp [m_need_number, this]
theorem needAll_ok {b : List Tx} (hb : bookOk b) {o : Nat} (ho : 1 ≤ o ∧ o ≤ 3) {n : Nat} (hn : 1 ≤ n ∧ n ≤ 8) : g_need_all [bkD b, .int o, .int n] = .ok .non := by
  have h1 := needBook_ok hb
  have h2 := needOrder_ok ho
  have h3 := needNumber_ok (i := (n : Int)) (lo := 1) (hi := 8) (by omega)
  unfold g_need_all
  rw [fnD_e]
  simp [m_need_all, h1, h2, h3]
theorem path_len {es : List Ev} (hc : ∀ e ∈ es, e.2.length ≤ 1) (o : Nat) : ∀ (n : Nat), ∀ t ∈ paths es o n, t.length = n
  | 0, t, h => by
    have : t = [] := List.mem_singleton.mp h
    rw [this]; rfl
  | n + 1, t, h => by
    obtain ⟨u, hu, h⟩ := List.mem_flatMap.mp h
    obtain ⟨l, hl, rfl⟩ := List.mem_map.mp h
    have ih := path_len hc o n u hu
    obtain ⟨h1, h2⟩ := nxt_mem.mp hl
    have := hc _ h1
    have : l.length = 1 := by
      have : l.length ≠ 0 := fun z => h2 (List.length_eq_zero_iff.mp z)
      have := hc _ h1
      simp at this; omega
    rw [List.length_append, ih, this]
/-- the end may stand behind t -/
def ends (es : List Ev) (o : Nat) (t : Tx) : Bool := decide ((endT o t, []) ∈ es)
def made (es : List Ev) (o n : Nat) : List Tx := sortT ((paths es o n).filter (ends es o))
theorem m_all_made_e : m_all_made = fSeq (fExpr (bCall g_need_all (bCons (bVar 0) (bCons (bVar 1) (bCons (bVar 2) (bNil)))))) (fSeq (fSet 3 (bCall g_counted (bCons (bVar 0) (bCons (bVar 1) (bNil))))) (fSeq (fSet 4 (bLst (bCons (bC (.str [])) (bNil)))) (fSeq (fForI (iR1 (bVar 2)) (bdN 5) (fSet 4 (bCall g_lengthened (bCons (bVar 3) (bCons (bVar 1) (bCons (bVar 4) (bNil))))))) (fRet (bN dSort (bCons (bLcE (bVar 4) [6] (bdN 6) (tVal (b2 dIn (bC (.str [])) (bGet (bVar 3) (bCall g_end_of (bCons (bVar 1) (bCons (bVar 6) (bNil)))) (bC (.dic []))))) (bVar 6)) (bNil))))))) := rfl
theorem in_row {es : List Ev} (c l : Tx) : dIn (.str l) (.dic (rowD (rowOf (tabOf es) c))) = .ok (.bl (decide ((c, l) ∈ es))) := by
  show (R.ok (lookK (rowD (rowOf (tabOf es) c)) l).isSome).bind (fun b => R.ok (D.bl b)) = _
  rw [lookK_lk, lk_rowD, (tabOk es).val]
  show R.ok (D.bl _) = _
  congr 2
  rw [Bool.eq_iff_iff]
  by_cases z : es.count (c, l) = 0
  · have := List.count_eq_zero.mp z
    simp [z, this]
  · have : (c, l) ∈ es := Decidable.byContradiction fun y => z (List.count_eq_zero.mpr y)
    simp [z, this]
theorem allMade_ok {b : List Tx} (hb : bookOk b) {o : Nat} (ho : 1 ≤ o ∧ o ≤ 3) {n : Nat} (hn : 1 ≤ n ∧ n ≤ 8) (hes : (evB o b).length < 64) (hs : ∀ k, k ≤ n → (paths (evB o b) o k).length ≤ lim) :
    g_all_made [bkD b, .int o, .int n] = .ok (.lst ((made (evB o b) o n).map .str)) := by
  have ch : ∀ e ∈ evB o b, chs e.2 ∧ e.2.length ≤ 1 := fun e he => by
    refine ⟨(ev_ctx hb.2.2 he).2.2, ?_⟩
    obtain ⟨x, _, i, _, rfl⟩ := evB_mem he
    simp; omega
  have h1 := needAll_ok hb ho hn
  have h2 := counted_ok hb.small o
  have pl := path_len (fun e he => (ch e he).2) o
  let T := tblD (tabOf (evB o b))
  let B := bkD b
  obtain ⟨γ', l1, s5, rfl⟩ := forGo_inv (bd := bdN 5) (inj := fun i : Nat => D.int (0 + (i : Nat))) (l0 := List.range n) (body := fSet 4 (bCall g_lengthened (bCons (bVar 3) (bCons (bVar 1) (bCons (bVar 4) (bNil))))))
    (I := fun dn γ => ∃ s5, γ = [.va B, .va (.int o), .va (.int n), .va T, .va (.lst ((paths (evB o b) o dn.length).map .str)), s5, .un]) (γ := [.va B, .va (.int o), .va (.int n), .va T, .va (.lst [.str []]), .un, .un]) (fun dn i rest γ hr hI => by
      obtain ⟨s5, rfl⟩ := hI
      obtain ⟨hi1, hi2⟩ := range_split hr
      have le := lengthened_ok hes (fun e he => ⟨(ch e he).1, by have := (ch e he).2; omega⟩) o (ts := paths (evB o b) o dn.length) (fun t ht => by rw [pl _ t ht]; omega) (hs (dn.length + 1) (by omega))
      have le : g_lengthened [T, .int o, .lst ((paths (evB o b) o dn.length).map .str)] = .ok (.lst ((paths (evB o b) o (dn ++ [i]).length).map .str)) := by
        rw [List.length_append]; exact le
      refine ⟨_, rfl, [.va B, .va (.int o), .va (.int n), .va T, .va (.lst ((paths (evB o b) o (dn ++ [i]).length).map .str)), .va (.int (0 + (i : Nat))), .un], .inl ?_, _, rfl⟩
      generalize (paths (evB o b) o (dn ++ [i]).length).map D.str = PN at *
      generalize (paths (evB o b) o dn.length).map D.str = PL at *
      generalize T = T' at *
      generalize B = B' at *
      simp [le]) ⟨.un, rfl⟩
  rw [List.length_range] at l1
  have comp := lcGo_fil (bd := bdN 6) (ifs := tVal (b2 dIn (bC (.str [])) (bGet (bVar 3) (bCall g_end_of (bCons (bVar 1) (bCons (bVar 6) (bNil)))) (bC (.dic []))))) (elt := bVar 6) (γ := wipeG [.va B, .va (.int o), .va (.int n), .va (.dic ((tabOf (evB o b)).map fun e => (e.1, .dic (rowD e.2)))), .va (.lst ((paths (evB o b) o n).map .str)), s5, .un] [6]) (inj := D.str) (p := ends (evB o b) o) (f := D.str) (l := paths (evB o b) o n) fun t ht => ⟨_, rfl, by
    have en := end_ok o (t := t) (by rw [pl _ t ht]; omega)
    have gt := get_tbl (tabOf (evB o b)) (endT o t)
    have ir := in_row (es := evB o b) (endT o t) []
    have e : decide ((endT o t, []) ∈ evB o b) = ends (evB o b) o t := rfl
    rw [e] at ir
    generalize B = B' at *
    simp [wipeG, bGet, en, gt, ir], fun _ => by simp [wipeG]⟩
  have c2 := lcE_e (γ := [.va B, .va (.int o), .va (.int n), .va T, .va (.lst ((paths (evB o b) o n).map .str)), s5, .un]) (fe := bVar 4) (d := .lst ((paths (evB o b) o n).map .str)) rfl rfl comp (by
    rw [List.length_map]
    exact Nat.le_trans (List.length_filter_le _ _) (hs n (Nat.le_refl _)))
  have so := dSort_strs ((paths (evB o b) o n).filter (ends (evB o b) o))
  unfold g_all_made
  refine fn_rt ?_
  rw [m_all_made_e]
  show fSeq _ _ [.va B, .va (.int o), .va (.int n), .un, .un, .un, .un] = _
  rw [seq_nx (γ' := [.va B, .va (.int o), .va (.int n), .un, .un, .un, .un]) (by rw [fExpr_e]; simp [B, h1])]
  rw [seq_nx (γ' := [.va B, .va (.int o), .va (.int n), .va T, .un, .un, .un]) (by simp [B, T, h2])]
  rw [seq_nx (γ' := [.va B, .va (.int o), .va (.int n), .va T, .va (.lst [.str []]), .un, .un]) (by simp [lim_val])]
  have ef : fForI (iR1 (bVar 2)) (bdN 5) (fSet 4 (bCall g_lengthened (bCons (bVar 3) (bCons (bVar 1) (bCons (bVar 4) (bNil)))))) [.va B, .va (.int o), .va (.int n), .va T, .va (.lst [.str []]), .un, .un] = .ok (.nx [.va B, .va (.int o), .va (.int n), .va T, .va (.lst ((paths (evB o b) o n).map .str)), s5, .un]) := by
    unfold fForI
    rw [iR1_s (fa := bVar 2) (n := n) rfl (by omega)]
    exact l1
  rw [seq_nx ef]
  refine ret_e ?_
  rw [bN_e, bCons_e, c2]
  exact so
end
end KN
set_option maxHeartbeats 400000
/-! PM: what is made, by its shares -/
namespace KN
open PySem PySem.Spec PyProof.Rows L2
noncomputable section
theorem step_app {o i : Nat} {u l : Tx} (h : i < u.length) : cStep (u ++ l) o i = cStep u o i := by
  unfold cStep
  rw [List.take_append_of_le_length (by omega), List.drop_append_of_le_length (by omega)]
  congr 1
  rw [List.take_append_of_le_length (by simp; omega)]
theorem step_last {o : Nat} {u l : Tx} (h : l.length ≤ 1) : cStep (u ++ l) o u.length = (endT o u, l) := by
  unfold cStep
  simp [List.take_of_length_le h]
theorem path_mem {es : List Ev} (hc : ∀ e ∈ es, e.2.length ≤ 1) (o : Nat) : ∀ (n : Nat) (t : Tx), t ∈ paths es o n ↔ t.length = n ∧ ∀ i, i < n → cStep t o i ∈ es
  | 0, t => by
    constructor
    · intro h
      have : t = [] := List.mem_singleton.mp h
      subst this
      exact ⟨rfl, fun i hi => by omega⟩
    · rintro ⟨h, _⟩
      rw [List.length_eq_zero_iff.mp h]
      exact List.mem_singleton.mpr rfl
  | n + 1, t => by
    constructor
    · intro h
      have hlen := path_len hc o (n + 1) t h
      refine ⟨hlen, ?_⟩
      obtain ⟨u, hu, h⟩ := List.mem_flatMap.mp h
      obtain ⟨l, hl, rfl⟩ := List.mem_map.mp h
      obtain ⟨h1, h2⟩ := (path_mem hc o n u).mp hu
      obtain ⟨h3, h4⟩ := nxt_mem.mp hl
      have h5 : l.length ≤ 1 := hc _ h3
      intro i hi
      by_cases z : i < n
      · rw [step_app (by omega)]; exact h2 i z
      · have : i = u.length := by omega
        rw [this, step_last h5]; exact h3
    · rintro ⟨h1, h2⟩
      have e : t = t.take n ++ t.drop n := (List.take_append_drop n t).symm
      have hl : (t.drop n).length = 1 := by simp; omega
      have hu : (t.take n).length = n := by simp; omega
      refine List.mem_flatMap.mpr ⟨t.take n, (path_mem hc o n _).mpr ⟨hu, fun i hi => ?_⟩, List.mem_map.mpr ⟨t.drop n, nxt_mem.mpr ⟨?_, ?_⟩, e.symm⟩⟩
      · have := h2 i (by omega)
        rw [e, step_app (by omega)] at this
        exact this
      · have := h2 n (by omega)
        rw [e] at this
        have q := step_last (o := o) (u := t.take n) (l := t.drop n) (by omega)
        rw [hu] at q
        rw [q] at this
        exact this
      · intro z; rw [z] at hl; simp at hl
theorem pq_iff {es : List Ev} {e : Ev} : pq es e ≠ 0 ↔ e ∈ es := by
  constructor
  · intro h
    exact Decidable.byContradiction fun z => h (pq_zero (List.count_eq_zero.mpr z))
  · intro h z
    have := pq_pos h
    rw [z] at this
    exact Rat.lt_irrefl this
theorem share_iff {es : List Ev} {o : Nat} {t : Tx} : 0 < shareQ es o t ↔ ∀ e ∈ evs o t, e ∈ es := by
  rw [share_pos_iff]
  exact ⟨fun h e he => pq_iff.mp (h e he), fun h e he => pq_iff.mpr (h e he)⟩
theorem made_mem {es : List Ev} (hc : ∀ e ∈ es, e.2.length ≤ 1) {o n : Nat} {t : Tx} : t ∈ made es o n ↔ t.length = n ∧ 0 < shareQ es o t := by
  unfold made
  rw [(sortT_perm _).mem_iff, List.mem_filter, path_mem hc]
  unfold ends
  rw [decide_eq_true_iff, share_iff]
  constructor
  · rintro ⟨⟨h1, h2⟩, h3⟩
    refine ⟨h1, fun e he => ?_⟩
    rw [evs_e] at he
    obtain ⟨i, hi, rfl⟩ := List.mem_map.mp he
    have hi := List.mem_range.mp hi
    by_cases z : i < n
    · exact h2 i z
    · have : i = t.length := by omega
      rw [this]
      unfold cStep
      simpa using h3
  · rintro ⟨h1, h2⟩
    refine ⟨⟨h1, fun i hi => h2 _ (by rw [evs_e]; exact List.mem_map.mpr ⟨i, List.mem_range.mpr (by omega), rfl⟩)⟩, ?_⟩
    have := h2 (cStep t o t.length) (by rw [evs_e]; exact List.mem_map.mpr ⟨t.length, List.mem_range.mpr (by omega), rfl⟩)
    unfold cStep at this
    simpa using this
theorem nxt_nodup (es : List Ev) (c : Tx) : (nxt es c).Nodup := by
  unfold nxt
  exact List.Pairwise.filter _ ((sortT_perm _).nodup_iff.mpr ((tabOk es).rnd c))
end
end KN
set_option maxHeartbeats 400000
/-! PN: ways: numbers and shares by contexts -/
namespace KN
open PySem PySem.Spec PyProof.Rows L2
noncomputable section
abbrev Wt := List (Tx × (Int × Rat))
abbrev It3 := Tx × (Int × Rat)
def wv (W : Wt) (k : Tx) : Int × Rat := (lk W k).getD (0, 0)
def wadd (W : Wt) (e : It3) : Wt := pt W e.1 ((wv W e.1).1 + e.2.1, (wv W e.1).2 + e.2.2)
def rS : List Rat → Rat := fun l => l.foldl (· + ·) 0
theorem rS_acc : ∀ (l : List Rat) (a : Rat), l.foldl (· + ·) a = a + rS l
  | [], a => (Rat.add_zero a).symm
  | x :: l, a => by
    unfold rS
    rw [List.foldl_cons, List.foldl_cons, rS_acc l, rS_acc l, Rat.zero_add, Rat.add_assoc]
theorem rS_cons (x : Rat) (l : List Rat) : rS (x :: l) = x + rS l := by
  show (x :: l).foldl _ 0 = _
  rw [List.foldl_cons, rS_acc, Rat.zero_add]
theorem rS_app (l m : List Rat) : rS (l ++ m) = rS l + rS m := by
  show (l ++ m).foldl _ 0 = _
  rw [List.foldl_append, rS_acc]; rfl
theorem wfold_nd : ∀ (its : List It3) {W : Wt}, (ks W).Nodup → (ks (its.foldl wadd W)).Nodup
  | [], _, h => h
  | e :: its, W, h => wfold_nd its (nd_pt h _ _)
/-! ### no denominator is long -/
def fct : Nat → Nat
  | 0 => 1
  | n + 1 => (n + 1) * fct n
theorem fct_pos : ∀ n, 0 < fct n
  | 0 => by decide
  | n + 1 => Nat.mul_pos (by omega) (fct_pos n)
theorem fct_dvd {t : Nat} (h0 : 0 < t) : ∀ {n : Nat}, t ≤ n → t ∣ fct n
  | 0, h => by omega
  | n + 1, h => by
    by_cases z : t = n + 1
    · subst z; exact Nat.dvd_mul_right _ _
    · exact Nat.dvd_mul_left_of_dvd (fct_dvd h0 (by omega)) _
theorem fct72 : fct 72 < 2 ^ 346 := by decide +kernel
/-- a share of n steps, summed over m -/
def Fr (n m : Nat) (q : Rat) : Prop := ∃ a : Nat, q = mkRat a (fct 72 ^ n) ∧ a ≤ m * fct 72 ^ n
theorem K_ne (n : Nat) : fct 72 ^ n ≠ 0 := Nat.ne_of_gt (Nat.pow_pos (fct_pos 72))
theorem Fr.zero (n : Nat) : Fr n 0 0 := ⟨0, (Rat.zero_mkRat _).symm, by omega⟩
theorem Fr.one : Fr 0 1 1 := ⟨1, rfl, by simp⟩
theorem Fr.add {n m k : Nat} {p q : Rat} (hp : Fr n m p) (hq : Fr n k q) : Fr n (m + k) (p + q) := by
  obtain ⟨a, rfl, h1⟩ := hp
  obtain ⟨b, rfl, h2⟩ := hq
  refine ⟨a + b, by rw [mk_add (K_ne n), Int.natCast_add], ?_⟩
  rw [Nat.add_mul]; omega
theorem mk_mul (a b : Int) {c d : Nat} : mkRat a c * mkRat b d = mkRat (a * b) (c * d) := by
  first | exact Rat.mkRat_mul_mkRat .. | simp [Rat.mkRat_mul_mkRat]
theorem pq_fct {es : List Ev} (hes : es.length ≤ 72) (e : Ev) : ∃ c : Nat, pq es e = mkRat c (fct 72) ∧ c ≤ fct 72 := by
  have hc := count_le_tot es e
  have ht := tot_le es e.1
  unfold pq
  by_cases z : tot es e.1 = 0
  · rw [z, Rat.mkRat_zero]; exact ⟨0, (Rat.zero_mkRat _).symm, by omega⟩
  · obtain ⟨k, hk⟩ := fct_dvd (t := tot es e.1) (by omega) (n := 72) (by omega)
    have k0 : k ≠ 0 := by
      rintro rfl
      have := fct_pos 72
      omega
    refine ⟨es.count e * k, ?_, ?_⟩
    · rw [hk, Int.natCast_mul, Rat.mkRat_mul_right k0]
    · rw [hk]; exact Nat.mul_le_mul_right _ hc
theorem Fr.mul {n m : Nat} {q : Rat} (hq : Fr n m q) {es : List Ev} (hes : es.length ≤ 72) (e : Ev) : Fr (n + 1) m (q * pq es e) := by
  obtain ⟨a, rfl, h1⟩ := hq
  obtain ⟨c, h2, h3⟩ := pq_fct hes e
  refine ⟨a * c, by rw [h2, mk_mul, Nat.pow_succ, Int.natCast_mul], ?_⟩
  rw [Nat.pow_succ, ← Nat.mul_assoc]
  exact Nat.mul_le_mul h1 h3
theorem Fr.sz {n m : Nat} {q : Rat} (hq : Fr n m q) (hn : n ≤ 9) (hm : m < 2 ^ 20) : sz 3200 q := by
  obtain ⟨a, rfl, h1⟩ := hq
  have k1 : fct 72 ^ n ≤ 2 ^ 3114 := by
    have h := Nat.pow_le_pow_left (Nat.le_of_lt fct72) n
    have h2 : (2 ^ 346) ^ n ≤ 2 ^ 3114 := by
      rw [← Nat.pow_mul]
      exact Nat.pow_le_pow_right (by decide) (by omega)
    exact Nat.le_trans h h2
  have k2 : a < 2 ^ 3200 := by
    have h2 : m * fct 72 ^ n ≤ 2 ^ 20 * 2 ^ 3114 := Nat.mul_le_mul (by omega) k1
    rw [← Nat.pow_add] at h2
    have h3 : 2 ^ (20 + 3114) < 2 ^ 3200 := Nat.pow_lt_pow_right (by decide) (by decide)
    omega
  have k3 : fct 72 ^ n < 2 ^ 3200 := Nat.lt_of_le_of_lt k1 (Nat.pow_lt_pow_right (by decide) (by decide))
  exact sz_mk (Nat.pos_of_ne_zero (K_ne n)) k2 k3
end
end KN
set_option maxHeartbeats 400000
/-! PO: ways, evaluated -/
namespace KN
open PySem PySem.Spec PyProof.Rows L2
noncomputable section
def wE (e : Int × Rat) : D := .tup [.int e.1, frD e.2]
def wD (W : Wt) : List (Tx × D) := W.map fun e => (e.1, wE e.2)
theorem lk_wD (W : Wt) (k : Tx) : lk (wD W) k = (lk W k).map wE := lk_map wE W k
theorem get_wD (W : Wt) (k : Tx) : (lookK (wD W) k).getD (.tup [.int 0, .tup [.int 0, .int 1]]) = wE (wv W k) := by
  rw [lookK_lk, lk_wD]
  unfold wv
  cases lk W k <;> rfl
theorem ks_wD (W : Wt) : ks (wD W) = ks W := ks_map wE W
theorem put_wD {W : Wt} (nd : (ks W).Nodup) (k : Tx) (v : Int × Rat) : putD (wD W) k (wE v) = wD (pt W k v) := by
  rw [putD_pt (by rw [ks_wD]; exact nd)]
  exact (pt_map wE W k v).symm
abbrev pt' {α : Type} := @pt α
def wI : Ga → R Fl := fSeq (fSet 10 (bCall g_end_of (bCons (bVar 1) (bCons (b2 dAdd (bVar 6) (bVar 7)) (bNil))))) (fSeq (fSet 11 (bGet (bRd 5) (bVar 10) (bTup (bCons (bC (.int 0)) (bCons (bTup (bCons (bC (.int 0)) (bCons (bC (.int 1)) (bNil)))) (bNil)))))) (fSeq (fSet 12 (bCall g_times (bCons (bVar 9) (bCons (bCall g_part_of (bCons (bVar 0) (bCons (bVar 6) (bCons (bVar 7) (bNil))))) (bNil))))) (fPut 5 (bVar 10) (bTup (bCons (b2 dAdd (b2 dIx (bVar 11) (bC (.int 0))) (bVar 8)) (bCons (bCall g_added (bCons (b2 dIx (bVar 11) (bC (.int 1))) (bCons (bVar 12) (bNil)))) (bNil)))))))
structure Wk (es : List Ev) (o : Nat) (n : D) (γ : Ga) : Prop where
  len : γ.length = 13
  t : At γ 0 (tblD (tabOf es))
  o : At γ 1 (.int o)
  n : At γ 2 n
abbrev Ao' (γ : Ga) (i : Nat) (d : D) : Prop := γ[i]? = some (.ow d)
theorem Wk.set {es : List Ev} {o : Nat} {n : D} {γ : Ga} {s : Sl} {j : Nat} (F : Wk es o n γ) (h1 : 3 ≤ j) : Wk es o n (γ.set j s) :=
  ⟨by simp [F.len], F.t.set (by omega), F.o.set (by omega), F.n.set (by omega)⟩
theorem Ao'.set {γ : Ga} {s : Sl} {i j : Nat} {d : D} (h : Ao' γ i d) (n : j ≠ i) : Ao' (γ.set j s) i d := by
  unfold Ao' at h ⊢
  rw [List.getElem?_set_ne n]; exact h
theorem wI_ok {es : List Ev} (hes : es.length ≤ 72) {o : Nat} {n X : D} {γ : Ga} (F : Wk es o n γ) {c l : Tx} {m : Int} {q : Rat} {W : Wt} (h3 : At γ 3 X) (h6 : At γ 6 (.str c)) (h7 : At γ 7 (.str l)) (h8 : At γ 8 (.int m)) (h9 : At γ 9 (frD q)) (h5 : Ao' γ 5 (.dic (wD W)))
    (hcl : c.length + l.length ≤ 500) (nd : (ks W).Nodup) (hW : W.length < 900000) {a b : Nat} (ha : sz a q) (hb : sz b (wv W (endT o (c ++ l))).2) (hab : a + 8 + b ≤ 8000) :
    ∃ γ', wI γ = .ok (.nx γ') ∧ Wk es o n γ' ∧ At γ' 3 X ∧ At γ' 6 (.str c) ∧ At γ' 8 (.int m) ∧ At γ' 9 (frD q) ∧ Ao' γ' 5 (.dic (wD (wadd W (endT o (c ++ l), (m, q * pq es (c, l)))))) := by
  have en := end_ok o (t := c ++ l) (by simp; omega)
  have pt := part_ok (es := es) (by omega) c l
  have tm := times_ok ha (pq_sz (es := es) (by omega) (c, l)) (by omega)
  have ad := added_ok hb (sz_mul ha (pq_sz (es := es) (by omega) (c, l))) (by omega)
  have cc : dAdd (.str c) (.str l) = .ok (.str (c ++ l)) := by
    show (if c.length + l.length ≤ lim then R.ok (D.str (c ++ l)) else .no) = _
    rw [if_pos (by rw [lim_val]; omega)]
  have gw := get_wD W (endT o (c ++ l))
  have pw := put_wD nd (endT o (c ++ l)) ((wv W (endT o (c ++ l))).1 + m, (wv W (endT o (c ++ l))).2 + q * pq es (c, l))
  have ew : wadd W (endT o (c ++ l), (m, q * pq es (c, l))) = pt' W (endT o (c ++ l)) ((wv W (endT o (c ++ l))).1 + m, (wv W (endT o (c ++ l))).2 + q * pq es (c, l)) := rfl
  rw [ew]
  have lw : (wD W).length < lim := by unfold wD; rw [List.length_map, lim_val]; omega
  have l2 : 2 ≤ lim := by decide
  generalize endT o (c ++ l) = k at *
  generalize wv W k = v at *
  generalize pq es (c, l) = p at *
  have t0 := F.t
  have t1 := F.o
  have hl := F.len
  unfold wI
  have e10 : fSet 10 (bCall g_end_of (bCons (bVar 1) (bCons (b2 dAdd (bVar 6) (bVar 7)) (bNil)))) γ = .ok (.nx (γ.set 10 (.va (.str k)))) := set_e (by
    simp [t1, h6, h7, cc, en])
  rw [seq_nx e10]
  have a10 : At (γ.set 10 (.va (.str k))) 10 (.str k) := At.new (by omega)
  have e11 : fSet 11 (bGet (bRd 5) (bVar 10) (bTup (bCons (bC (.int 0)) (bCons (bTup (bCons (bC (.int 0)) (bCons (bC (.int 1)) (bNil)))) (bNil))))) (γ.set 10 (.va (.str k))) = .ok (.nx ((γ.set 10 (.va (.str k))).set 11 (.va (wE v)))) := set_e (by
    have h5' := Ao'.set (s := .va (.str k)) h5 (j := 10) (by omega)
    unfold bGet
    generalize wD W = WD at *
    simp only [bRd_e, h5', bVar_e, a10, bTup_e, bCons_e, bNil_e, bC_e, R.bind, List.length_cons, List.length_nil, l2, if_true, gw])
  rw [seq_nx e11]
  have F1 : Wk es o n ((γ.set 10 (.va (.str k))).set 11 (.va (wE v))) := (F.set (by omega)).set (by omega)
  have g3 : At ((γ.set 10 (.va (.str k))).set 11 (.va (wE v))) 3 X := (h3.set (by omega)).set (by omega)
  have g5 : Ao' ((γ.set 10 (.va (.str k))).set 11 (.va (wE v))) 5 (.dic (wD W)) := (h5.set (by omega)).set (by omega)
  have g6 : At ((γ.set 10 (.va (.str k))).set 11 (.va (wE v))) 6 (.str c) := (h6.set (by omega)).set (by omega)
  have g7 : At ((γ.set 10 (.va (.str k))).set 11 (.va (wE v))) 7 (.str l) := (h7.set (by omega)).set (by omega)
  have g8 : At ((γ.set 10 (.va (.str k))).set 11 (.va (wE v))) 8 (.int m) := (h8.set (by omega)).set (by omega)
  have g9 : At ((γ.set 10 (.va (.str k))).set 11 (.va (wE v))) 9 (frD q) := (h9.set (by omega)).set (by omega)
  have g10 : At ((γ.set 10 (.va (.str k))).set 11 (.va (wE v))) 10 (.str k) := a10.set (by omega)
  have g11 : At ((γ.set 10 (.va (.str k))).set 11 (.va (wE v))) 11 (wE v) := At.new (by simp; omega)
  generalize (γ.set 10 (.va (.str k))).set 11 (.va (wE v)) = γ1 at *
  have t0 := F1.t
  have hl1 := F1.len
  have e12 : fSet 12 (bCall g_times (bCons (bVar 9) (bCons (bCall g_part_of (bCons (bVar 0) (bCons (bVar 6) (bCons (bVar 7) (bNil))))) (bNil)))) γ1 = .ok (.nx (γ1.set 12 (.va (frD (q * p))))) := set_e (by
    generalize tblD (tabOf es) = T at *
    simp [t0, g6, g7, g9, pt, tm])
  rw [seq_nx e12]
  have k5 : Ao' (γ1.set 12 (.va (frD (q * p)))) 5 (.dic (wD W)) := g5.set (by omega)
  have k8 : At (γ1.set 12 (.va (frD (q * p)))) 8 (.int m) := g8.set (by omega)
  have k10 : At (γ1.set 12 (.va (frD (q * p)))) 10 (.str k) := g10.set (by omega)
  have k11 : At (γ1.set 12 (.va (frD (q * p)))) 11 (wE v) := g11.set (by omega)
  have k12 : At (γ1.set 12 (.va (frD (q * p)))) 12 (frD (q * p)) := At.new (by omega)
  refine ⟨(γ1.set 12 (.va (frD (q * p)))).set 5 (.ow (.dic (wD (pt' W k (v.1 + m, v.2 + q * p))))), ?_, (F1.set (by omega)).set (by omega), (g3.set (by omega)).set (by omega), (g6.set (by omega)).set (by omega), k8.set (by omega), (g9.set (by omega)).set (by omega), List.getElem?_set_self (by simp; omega)⟩
  have ok : owK (γ1.set 12 (.va (frD (q * p)))) 5 = some (wD W) := by unfold owK; rw [k5]
  unfold fPut
  rw [ok]
  simp only
  have val : bTup (bCons (b2 dAdd (b2 dIx (bVar 11) (bC (.int 0))) (bVar 8)) (bCons (bCall g_added (bCons (b2 dIx (bVar 11) (bC (.int 1))) (bCons (bVar 12) (bNil)))) (bNil))) (γ1.set 12 (.va (frD (q * p)))) = .ok (wE (v.1 + m, v.2 + q * p)) := by
    unfold wE at k11 ⊢
    generalize γ1.set 12 (.va (frD (q * p))) = γ2 at *
    simp [k8, k11, k12, at0, at1, ad, l2]
  rw [val, k10.v]
  show (if (wD W).length < lim then R.ok (Fl.nx (List.set (γ1.set 12 (.va (frD (q * p)))) 5 (.ow (.dic (putD (wD W) k (wE (v.1 + m, v.2 + q * p))))))) else R.no) = _
  rw [if_pos lw, pw]
/-! ### the letters behind a context -/
theorem forE_d {g : Ga → R Fl} {γ γ' : Ga} {fe : Ga → R D} {bd : D → Ga → R Ga} {es : List (Tx × D)} (h : fe γ = .ok (.dic es)) (k : forGo bd g (keysD es) γ = .ok (.nx γ')) : fForE fe bd g γ = .ok (.nx γ') := by
  unfold fForE
  rw [h]
  simp only [R.bind]
  rw [k]; rfl
def wL : Ga → R Fl := fIf (tVal (b2 dNe (bVar 7) (bC (.str [])))) wI (fNil)
def items3 (es : List Ev) (o : Nat) (c : Tx) (m : Int) (q : Rat) (ls : List Tx) : List It3 := (ls.filter fun l => !(l == [])).map fun l => (endT o (c ++ l), (m, q * pq es (c, l)))
theorem keys_row (r : Rw) : keysD (rowD r) = (ks r).map .str := by
  unfold keysD rowD ks; rw [List.map_map, List.map_map]; rfl
theorem wL_loop {es : List Ev} (hes : es.length ≤ 72) {o : Nat} {n X : D} {γ : Ga} (F : Wk es o n γ) {c : Tx} {m : Int} {q : Rat} {W : Wt} (h3 : At γ 3 X) (h6 : At γ 6 (.str c)) (h8 : At γ 8 (.int m)) (h9 : At γ 9 (frD q)) (h5 : Ao' γ 5 (.dic (wD W)))
    {ls : List Tx} (hc : c.length ≤ 400) (hls : ∀ l ∈ ls, l.length ≤ 8 ∧ chs l) (nd : (ks W).Nodup) (hW : W.length + ls.length < 900000) {a b : Nat} (ha : sz a q) (hab : a + 8 + b ≤ 8000)
    (hb : ∀ (dn : List Tx) (k : Tx), (∃ rest, ls = dn ++ rest) → sz b (wv ((items3 es o c m q dn).foldl wadd W) k).2) :
    ∃ γ', forGo (bdN 7) wL (ls.map .str) γ = .ok (.nx γ') ∧ Wk es o n γ' ∧ At γ' 3 X ∧ At γ' 6 (.str c) ∧ At γ' 8 (.int m) ∧ At γ' 9 (frD q) ∧ Ao' γ' 5 (.dic (wD ((items3 es o c m q ls).foldl wadd W))) := by
  have len : ∀ (its : List It3) (W : Wt), (its.foldl wadd W).length ≤ W.length + its.length := by
    intro its
    induction its with
    | nil => intro W; simp
    | cons e its ih =>
      intro W
      have h1 := ih (wadd W e)
      have h2 := len_pt W e.1 ((wv W e.1).1 + e.2.1, (wv W e.1).2 + e.2.2)
      have h2 : (wadd W e).length ≤ W.length + 1 := h2
      rw [List.foldl_cons, List.length_cons]; omega
  obtain ⟨γ', l1, r⟩ := forGo_inv (bd := bdN 7) (inj := D.str) (l0 := ls) (body := wL) (I := fun dn γ => Wk es o n γ ∧ At γ 3 X ∧ At γ 6 (.str c) ∧ At γ 8 (.int m) ∧ At γ 9 (frD q) ∧ Ao' γ 5 (.dic (wD ((items3 es o c m q dn).foldl wadd W)))) (γ := γ) (fun dn l rest γ hr hI => by
    obtain ⟨F, h3, h6, h8, h9, h5⟩ := hI
    obtain ⟨hl8, hlc⟩ := hls l (by rw [hr]; simp)
    have hlen := F.len
    have F1 : Wk es o n (γ.set 7 (.va (.str l))) := F.set (by omega)
    have g7 : At (γ.set 7 (.va (.str l))) 7 (.str l) := At.new (by omega)
    have g3 : At (γ.set 7 (.va (.str l))) 3 X := h3.set (by omega)
    have g6 : At (γ.set 7 (.va (.str l))) 6 (.str c) := h6.set (by omega)
    have g8 : At (γ.set 7 (.va (.str l))) 8 (.int m) := h8.set (by omega)
    have g9 : At (γ.set 7 (.va (.str l))) 9 (frD q) := h9.set (by omega)
    have g5 := Ao'.set (s := .va (.str l)) h5 (j := 7) (by omega)
    have ne : dNe (.str l) (.str []) = .ok (.bl (!(l == []))) := by
      rw [dNe_p (by rw [pl_str]; exact hlc.all) (by simp), eqv_str]
    by_cases z : l = []
    · subst z
      have ne : dNe (.str []) (.str []) = .ok (.bl false) := ne
      have e : items3 es o c m q (dn ++ [[]]) = items3 es o c m q dn := by unfold items3; simp
      refine ⟨_, rfl, γ.set 7 (.va (.str [])), .inl ?_, F1, g3, g6, g8, g9, by rw [e]; exact g5⟩
      exact if_f (by simp [g7, ne])
    · have zb : (l == []) = false := by simpa using z
      rw [zb] at ne
      have e : items3 es o c m q (dn ++ [l]) = items3 es o c m q dn ++ [(endT o (c ++ l), (m, q * pq es (c, l)))] := by unfold items3; simp [z]
      have li : (items3 es o c m q dn).length ≤ dn.length := by
        unfold items3
        rw [List.length_map]
        exact List.length_filter_le _ _
      have hdl : dn.length < ls.length := by rw [hr]; simp
      obtain ⟨γ', r1, r2, r3, r4, r5, r6, r7⟩ := wI_ok hes F1 (l := l) g3 g6 g7 g8 g9 g5 (by omega) (wfold_nd _ nd) (by have := len (items3 es o c m q dn) W; omega) ha (hb dn _ ⟨l :: rest, hr⟩) hab
      refine ⟨_, rfl, γ', .inl ?_, r2, r3, r4, r5, r6, by rw [e, List.foldl_append]; exact r7⟩
      unfold wL
      rw [fIf_e]
      have tv : tVal (b2 dNe (bVar 7) (bC (.str []))) (γ.set 7 (.va (.str l))) = .ok true := by
        rw [tVal_e, b2_e, g7.v]
        simp only [bC_e, R.bind, ne]
        rfl
      rw [tv]
      exact r1) ⟨F, h3, h6, h8, h9, h5⟩
  exact ⟨γ', l1, r⟩
end
end KN
set_option maxHeartbeats 400000
/-! PP: what ways come to, in plain words -/
namespace KN
open PySem PySem.Spec PyProof.Rows L2
noncomputable section
def rowl (es : List Ev) (c : Tx) : List Tx := ks (rowOf (tabOf es) c)
def stepW (es : List Ev) (o : Nat) (W : Wt) : List It3 := W.flatMap fun e => items3 es o e.1 e.2.1 e.2.2 (rowl es e.1)
def waysL (es : List Ev) (o : Nat) : Nat → Wt
  | 0 => [([], (1, 1))]
  | n + 1 => (stepW es o (waysL es o n)).foldl wadd []
/-! ### sums -/
theorem rS_nil : rS [] = 0 := rfl
theorem rS_mul {α : Type} (c : Rat) (f : α → Rat) : ∀ l : List α, rS (l.map fun x => c * f x) = c * rS (l.map f)
  | [] => by simp [rS_nil, Rat.mul_zero]
  | a :: l => by rw [List.map_cons, List.map_cons, rS_cons, rS_cons, rS_mul c f l, Rat.mul_add]
theorem rS_flat {α β : Type} (f : α → List β) (g : β → Rat) : ∀ l : List α, rS ((l.flatMap f).map g) = rS (l.map fun a => rS ((f a).map g))
  | [] => rfl
  | a :: l => by rw [List.flatMap_cons, List.map_append, rS_app, List.map_cons, rS_cons, rS_flat f g l]
theorem rS_perm {l m : List Rat} (h : l.Perm m) : rS l = rS m := by
  induction h with
  | nil => rfl
  | cons x _ ih => rw [rS_cons, rS_cons, ih]
  | swap x y l => rw [rS_cons, rS_cons, rS_cons, rS_cons, ← Rat.add_assoc, ← Rat.add_assoc, Rat.add_comm x y]
  | trans _ _ h1 h2 => exact h1.trans h2
theorem rS_filter0 {α : Type} (p : α → Bool) (f : α → Rat) : ∀ l : List α, (∀ a ∈ l, p a = false → f a = 0) → rS ((l.filter p).map f) = rS (l.map f)
  | [], _ => rfl
  | a :: l, h => by
    have ih := rS_filter0 p f l fun b hb => h b (List.mem_cons_of_mem _ hb)
    rw [List.filter_cons, List.map_cons, rS_cons]
    cases z : p a with
    | true => simp only [if_true]; rw [List.map_cons, rS_cons, ih]
    | false => rw [h a List.mem_cons_self z, Rat.zero_add]; simpa using ih
theorem rS_len (l : List α) : rS (l.map fun _ => (1 : Rat)) = ((l.length : Nat) : Rat) := by
  induction l with
  | nil => rfl
  | cons a l ih => rw [List.map_cons, rS_cons, ih, List.length_cons, Rat.natCast_add, Rat.add_comm]; rfl
/-! ### a sum over contexts -/
structure Lin (es : List Ev) (π : Int × Rat → Rat) (w : Ev → Rat) : Prop where
  zero : π (0, 0) = 0
  one : π (1, 1) = 1
  add : ∀ a b : Int × Rat, π (a.1 + b.1, a.2 + b.2) = π a + π b
  mul : ∀ (v : Int × Rat) (e : Ev), π (v.1, v.2 * pq es e) = π v * w e
theorem lin_q (es : List Ev) : Lin es (fun v => v.2) (pq es) := ⟨rfl, rfl, fun _ _ => rfl, fun _ _ => rfl⟩
theorem lin_m (es : List Ev) : Lin es (fun v => (v.1 : Rat)) (fun _ => 1) := ⟨rfl, rfl, fun a b => Rat.intCast_add _ _, fun v e => (Rat.mul_one _).symm⟩
theorem wadd_cons (k : Tx) (v : Int × Rat) (W : Wt) (e : It3) : wadd ((k, v) :: W) e = if k = e.1 then (k, (v.1 + e.2.1, v.2 + e.2.2)) :: W else (k, v) :: wadd W e := by
  unfold wadd wv
  simp only [pt, lk]
  by_cases z : k = e.1
  · simp only [z, if_true, Option.getD_some]
  · simp only [z, if_false]
def gI (π : Int × Rat → Rat) (F : Tx → Rat) (W : List It3) : Rat := rS (W.map fun e => π e.2 * F e.1)
section
variable {es : List Ev} {π : Int × Rat → Rat} {w : Ev → Rat} (L : Lin es π w)
include L
theorem gI_wadd (F : Tx → Rat) : ∀ (W : Wt) (e : It3), gI π F (wadd W e) = gI π F W + π e.2 * F e.1
  | [], e => by
    have h := L.add (0, 0) e.2
    unfold gI wadd
    show rS ([(e.1, ((0 : Int) + e.2.1, (0 : Rat) + e.2.2))].map fun e => π e.2 * F e.1) = rS [] + _
    rw [List.map_cons, rS_cons, List.map_nil, rS_nil]
    simp only at h ⊢
    rw [h, L.zero]
    grind
  | (k, v) :: W, e => by
    have ih := gI_wadd F W e
    rw [wadd_cons]
    unfold gI at *
    by_cases z : k = e.1
    · have h := L.add v e.2
      simp only [z, if_true, List.map_cons, rS_cons]
      rw [h]; grind
    · simp only [z, if_false, List.map_cons, rS_cons]
      rw [ih]; grind
theorem gI_fold (F : Tx → Rat) : ∀ (its : List It3) (W : Wt), gI π F (its.foldl wadd W) = gI π F W + gI π F its
  | [], W => by show _ = _ + rS []; rw [rS_nil, Rat.add_zero]; rfl
  | e :: its, W => by
    rw [List.foldl_cons, gI_fold F its, gI_wadd L F W e]
    have : gI π F (e :: its) = π e.2 * F e.1 + gI π F its := by unfold gI; rw [List.map_cons, rS_cons]
    rw [this, Rat.add_assoc]
def nxF (es : List Ev) (o : Nat) (w : Ev → Rat) (F : Tx → Rat) (c : Tx) : Rat := rS (((rowl es c).filter fun l => !(l == [])).map fun l => w (c, l) * F (endT o (c ++ l)))
theorem gI_items (F : Tx → Rat) (o : Nat) (e : It3) : gI π F (items3 es o e.1 e.2.1 e.2.2 (rowl es e.1)) = π e.2 * nxF es o w F e.1 := by
  unfold gI items3 nxF
  rw [List.map_map, ← rS_mul]
  congr 1
  refine List.map_congr_left fun l _ => ?_
  have := L.mul e.2 (e.1, l)
  simp only [Function.comp] at this ⊢
  rw [this]; grind
theorem gI_step (F : Tx → Rat) (o : Nat) (W : Wt) : gI π F (stepW es o W) = gI π (nxF es o w F) W := by
  unfold stepW
  show rS ((W.flatMap _).map _) = _
  rw [rS_flat]
  show _ = rS (W.map _)
  congr 1
  refine List.map_congr_left fun e _ => ?_
  exact gI_items L F o e
omit L in
def wT (w : Ev → Rat) (o : Nat) (t : Tx) : Rat := ((List.range t.length).map (cStep t o)).foldl (fun q e => q * w e) 1
def pS (es : List Ev) (w : Ev → Rat) (o : Nat) (F : Tx → Rat) (n : Nat) : Rat := rS ((paths es o n).map fun t => wT w o t * F (endT o t))
omit L in
theorem wT_app (o : Nat) {t l : Tx} (h : l.length = 1) : wT w o (t ++ l) = wT w o t * w (endT o t, l) := by
  unfold wT
  rw [List.length_append, h, List.range_succ, List.map_append, List.foldl_append]
  have e : (List.range t.length).map (cStep (t ++ l) o) = (List.range t.length).map (cStep t o) := List.map_congr_left fun i hi => step_app (List.mem_range.mp hi)
  rw [e]
  show _ * w (cStep (t ++ l) o t.length) = _
  rw [step_last (by omega)]
omit L in
theorem end_app (o : Nat) (t l : Tx) : endT o (endT o t ++ l) = endT o (t ++ l) := by
  unfold endT
  rw [List.length_append, List.length_append, List.length_drop]
  have e : t.drop (t.length - o) ++ l = (t ++ l).drop (t.length - o) := (List.drop_append_of_le_length (by omega)).symm
  rw [e, List.drop_drop]
  congr 1; omega
omit L in
theorem pS_succ (hc : ∀ e ∈ es, e.2.length ≤ 1) (o : Nat) (F : Tx → Rat) (n : Nat) : pS es w o F (n + 1) = pS es w o (nxF es o w F) n := by
  unfold pS
  show rS ((grow es o (paths es o n)).map _) = _
  unfold grow
  rw [rS_flat]
  congr 1
  refine List.map_congr_left fun t _ => ?_
  unfold nxF
  rw [← rS_mul, List.map_map]
  have p : (nxt es (endT o t)).Perm ((rowl es (endT o t)).filter fun l => !(l == [])) := (sortT_perm _).filter _
  refine (rS_perm (p.map _)).trans ?_
  congr 1
  refine List.map_congr_left fun l hl => ?_
  have h1 := nxt_mem.mp (p.mem_iff.mpr hl)
  have h2 : l.length = 1 := by
    have := hc _ h1.1
    have h3 : l.length ≠ 0 := fun z => h1.2 (List.length_eq_zero_iff.mp z)
    simp only at this; omega
  simp only [Function.comp]
  rw [wT_app o h2, end_app]; grind
theorem ways_sum (hc : ∀ e ∈ es, e.2.length ≤ 1) (o : Nat) : ∀ (n : Nat) (F : Tx → Rat), gI π F (waysL es o n) = pS es w o F n
  | 0, F => by
    show rS ([(([] : Tx), ((1 : Int), (1 : Rat)))].map _) = rS ([([] : Tx)].map _)
    rw [List.map_cons, List.map_cons, rS_cons, rS_cons]
    simp only [L.one]
    simp [wT, endT]
  | n + 1, F => by
    show gI π F ((stepW es o (waysL es o n)).foldl wadd []) = _
    rw [gI_fold L, gI_step L, ways_sum hc o n, pS_succ hc]
    show rS [] + _ = _
    rw [rS_nil, Rat.zero_add]
end
/-! ### sizes -/
def FrZ (n : Nat) (v : Int × Rat) : Prop := 0 ≤ v.1 ∧ Fr n v.1.toNat v.2
theorem FrZ.add {n : Nat} {u v : Int × Rat} (hu : FrZ n u) (hv : FrZ n v) : FrZ n (u.1 + v.1, u.2 + v.2) := by
  have h1 := hu.1
  have h2 := hv.1
  refine ⟨by show 0 ≤ u.1 + v.1; omega, ?_⟩
  have : (u.1 + v.1).toNat = u.1.toNat + v.1.toNat := by omega
  show Fr n (u.1 + v.1).toNat _
  rw [this]
  exact hu.2.add hv.2
theorem FrZ.zero (n : Nat) : FrZ n (0, 0) := ⟨by decide, Fr.zero n⟩
theorem mem_pt {α : Type} {k : Tx} {v : α} : ∀ {W : List (Tx × α)} {e : Tx × α}, e ∈ pt W k v → e ∈ W ∨ e = (k, v)
  | [], e, h => .inr (List.mem_singleton.mp h)
  | (k', v') :: W, e, h => by
    unfold pt at h
    split at h
    · rename_i z
      subst z
      rcases List.mem_cons.mp h with h | h
      · exact .inr h
      · exact .inl (List.mem_cons_of_mem _ h)
    · rcases List.mem_cons.mp h with h | h
      · exact .inl (by rw [h]; exact List.mem_cons_self)
      · rcases mem_pt h with h | h
        · exact .inl (List.mem_cons_of_mem _ h)
        · exact .inr h
theorem wv_or (W : Wt) (k : Tx) : wv W k = (0, 0) ∨ (k, wv W k) ∈ W := by
  unfold wv
  cases h : lk W k with
  | none => exact .inl rfl
  | some v => exact .inr (lk_mem h)
theorem fold_fr {n : Nat} : ∀ (its : List It3) {W : Wt}, (∀ e ∈ W, FrZ n e.2) → (∀ e ∈ its, FrZ n e.2) → ∀ e ∈ its.foldl wadd W, FrZ n e.2
  | [], _, h, _ => h
  | e :: its, W, h, k => fold_fr its (W := wadd W e) (fun f hf => by
    rcases mem_pt hf with hf | rfl
    · exact h f hf
    · refine FrZ.add ?_ (k e List.mem_cons_self)
      rcases wv_or W e.1 with z | z
      · rw [z]; exact .zero n
      · exact h _ z) fun f hf => k f (List.mem_cons_of_mem _ hf)
def cI (W : List It3) : Int := (W.map fun e => e.2.1).sum
theorem cI_wadd : ∀ (W : Wt) (e : It3), cI (wadd W e) = cI W + e.2.1
  | [], e => by unfold cI wadd; show ([((0 : Int) + e.2.1)]).sum = ([] : List Int).sum + e.2.1; simp
  | (k, v) :: W, e => by
    have ih := cI_wadd W e
    rw [wadd_cons]
    unfold cI at *
    by_cases z : k = e.1
    · simp only [z, if_true, List.map_cons, List.sum_cons]
      omega
    · simp only [z, if_false, List.map_cons, List.sum_cons]
      rw [ih]; omega
theorem cI_fold : ∀ (its : List It3) (W : Wt), cI (its.foldl wadd W) = cI W + cI its
  | [], W => by show _ = _ + ([] : List Int).sum; simp
  | e :: its, W => by
    rw [List.foldl_cons, cI_fold its, cI_wadd]
    have : cI (e :: its) = e.2.1 + cI its := by unfold cI; simp
    omega
theorem cI_app (a b : List It3) : cI (a ++ b) = cI a + cI b := by unfold cI; rw [List.map_append, List.sum_append]
theorem cI_ge {its : List It3} (h : ∀ e ∈ its, 0 ≤ e.2.1) : 0 ≤ cI its := by
  induction its with
  | nil => decide
  | cons e its ih =>
    have h1 := h e List.mem_cons_self
    have h2 := ih fun f hf => h f (List.mem_cons_of_mem _ hf)
    unfold cI at h2 ⊢
    rw [List.map_cons, List.sum_cons]; omega
theorem cI_mem {W : List It3} (h : ∀ e ∈ W, 0 ≤ e.2.1) {e : It3} (he : e ∈ W) : e.2.1 ≤ cI W := by
  obtain ⟨a, b, rfl⟩ := List.append_of_mem he
  have h1 := cI_ge fun f hf => h f (List.mem_append_left _ hf)
  have h2 := cI_ge (its := b) fun f hf => h f (List.mem_append_right _ (List.mem_cons_of_mem _ hf))
  rw [cI_app]
  have : cI (e :: b) = e.2.1 + cI b := by unfold cI; simp
  omega
theorem cI_gI : ∀ W : List It3, (cI W : Rat) = gI (fun v => (v.1 : Rat)) (fun _ => 1) W
  | [] => rfl
  | e :: W => by
    have ih := cI_gI W
    unfold cI gI at *
    rw [List.map_cons, List.sum_cons, List.map_cons, rS_cons, Rat.intCast_add, ih, Rat.mul_one]
theorem wT_one (o : Nat) (t : Tx) : wT (fun _ => 1) o t = 1 := by
  unfold wT
  generalize (List.range t.length).map (cStep t o) = l
  induction l with
  | nil => rfl
  | cons e l ih => rw [List.foldl_cons, Rat.mul_one]; exact ih
theorem cI_ways {es : List Ev} (hc : ∀ e ∈ es, e.2.length ≤ 1) (o n : Nat) : cI (waysL es o n) = ((paths es o n).length : Nat) := by
  have h := ways_sum (lin_m es) hc o n fun _ => 1
  rw [← cI_gI] at h
  have e : pS es (fun _ => 1) o (fun _ => 1) n = (((paths es o n).length : Nat) : Rat) := by
    unfold pS
    rw [← rS_len]
    congr 1
    refine List.map_congr_left fun t _ => ?_
    rw [wT_one, Rat.mul_one]
  rw [e] at h
  exact_mod_cast h
theorem items_fr {es : List Ev} (hes : es.length ≤ 72) {o n : Nat} {W : Wt} (h : ∀ e ∈ W, FrZ n e.2) : ∀ e ∈ stepW es o W, FrZ (n + 1) e.2 := fun e he => by
  obtain ⟨f, hf, he⟩ := List.mem_flatMap.mp he
  obtain ⟨l, _, rfl⟩ := List.mem_map.mp he
  exact ⟨(h f hf).1, (h f hf).2.mul hes (f.1, l)⟩
theorem ways_fr {es : List Ev} (hes : es.length ≤ 72) (o : Nat) : ∀ n, ∀ e ∈ waysL es o n, FrZ n e.2
  | 0, e, he => by rw [List.mem_singleton.mp he]; exact ⟨by decide, Fr.one⟩
  | n + 1, e, he => fold_fr _ (W := []) (fun _ h => nomatch h) (items_fr hes (ways_fr hes o n)) e he
theorem ways_nd (es : List Ev) (o : Nat) : ∀ n, (ks (waysL es o n)).Nodup
  | 0 => by show [([] : Tx)].Nodup; simp
  | n + 1 => wfold_nd _ (by show ([] : List Tx).Nodup; simp)
theorem fold_keys : ∀ (its : List It3) (W : Wt), ∀ k ∈ ks (its.foldl wadd W), k ∈ ks W ∨ k ∈ its.map (·.1)
  | [], W, k, h => .inl h
  | e :: its, W, k, h => by
    rcases fold_keys its (wadd W e) k h with h | h
    · unfold wadd at h
      rw [ks_pt] at h
      split at h
      · exact .inl h
      · rcases List.mem_append.mp h with h | h
        · exact .inl h
        · rw [List.mem_singleton.mp h]; exact .inr (by simp)
    · exact .inr (List.mem_cons_of_mem _ h)
theorem ways_keys {es : List Ev} {o n : Nat} {k : Tx} (h : k ∈ ks (waysL es o n)) : k = [] ∨ ∃ e ∈ es, k = endT o (e.1 ++ e.2) := by
  cases n with
  | zero => exact .inl (List.mem_singleton.mp h)
  | succ n =>
    rcases fold_keys _ _ k h with h | h
    · exact nomatch h
    · obtain ⟨e, he, rfl⟩ := List.mem_map.mp h
      obtain ⟨f, hf, he⟩ := List.mem_flatMap.mp he
      obtain ⟨l, hl, rfl⟩ := List.mem_map.mp he
      exact .inr ⟨(f.1, l), row_mem2.mp (List.mem_filter.mp hl).1, rfl⟩
theorem ways_len {es : List Ev} (o n : Nat) : (waysL es o n).length ≤ es.length + 1 := by
  have h := List.Nodup.length_le_of_subset (l₂ := [] :: es.map fun e => endT o (e.1 ++ e.2)) (ways_nd es o n) fun k hk => by
    rcases ways_keys hk with h | ⟨e, he, h⟩
    · rw [h]; exact List.mem_cons_self
    · rw [h]; exact List.mem_cons_of_mem _ (List.mem_map.mpr ⟨e, he, rfl⟩)
  unfold ks at h
  simpa using h
end
end KN
set_option maxHeartbeats 400000
/-! PQ: ways, evaluated; how_many, share_of_length, lengths -/
namespace KN
open PySem PySem.Spec PyProof.Rows L2
noncomputable section
def wC : Ga → R Fl := fSeq (fBd (bdT [8, 9]) (b2 dIx (bVar 3) (bVar 6))) (fForE (bGet (bVar 0) (bVar 6) (bC (.dic []))) (bdN 7) wL)
theorem m_ways_e : m_ways = fSeq (fSet 3 (bDic1 (bC (.str [])) (bTup (bCons (bC (.int 1)) (bCons (bTup (bCons (bC (.int 1)) (bCons (bC (.int 1)) (bNil)))) (bNil)))))) (fSeq (fForI (iR1 (bVar 2)) (bdN 4) (fSeq (fOwn 5 (bC (.dic []))) (fSeq (fForE (bVar 3) (bdN 6) wC) (fFz 5 (fSet 3 (bVar 5)))))) (fRet (bVar 3))) := rfl
structure Bk (es : List Ev) : Prop where
  n : es.length ≤ 72
  c : ∀ e ∈ es, e.1.length ≤ 3 ∧ chs e.2 ∧ e.2.length ≤ 1
/-- any prefix of what a turn adds is small -/
theorem pre_sz {es : List Ev} (hb : Bk es) {o n : Nat} (hn : n + 1 ≤ 9) (hp : (paths es o (n + 1)).length ≤ lim) {dn rest : List It3} (h : stepW es o (waysL es o n) = dn ++ rest) (k : Tx) : sz 3200 (wv (dn.foldl wadd []) k).2 := by
  have all := items_fr hb.n (o := o) (ways_fr hb.n o n)
  rw [h] at all
  have a1 := fold_fr dn (W := []) (fun _ h => nomatch h) fun e he => all e (List.mem_append_left _ he)
  have tot : cI (stepW es o (waysL es o n)) = ((paths es o (n + 1)).length : Nat) := by
    have := cI_ways (fun e he => (hb.c e he).2.2) o (n + 1)
    show cI _ = _
    rw [← this]
    show _ = cI ((stepW es o (waysL es o n)).foldl wadd [])
    rw [cI_fold]
    show _ = ([] : List Int).sum + _
    simp
  rw [h, cI_app] at tot
  have r0 := cI_ge (its := rest) fun e he => (all e (List.mem_append_right _ he)).1
  rcases wv_or (dn.foldl wadd []) k with z | z
  · rw [z]; exact sz_mono sz0 (by decide)
  · have f := a1 _ z
    have le := cI_mem (fun e he => (a1 e he).1) z
    rw [cI_fold] at le
    have e0 : cI [] = 0 := rfl
    have hl := lim_val
    refine f.2.sz hn ?_
    have := f.1
    simp only at le this ⊢
    omega
theorem ways_sz {es : List Ev} (hb : Bk es) {o n : Nat} (hn : n ≤ 9) (hp : (paths es o n).length ≤ lim) {e : It3} (he : e ∈ waysL es o n) : sz 3200 e.2.2 := by
  have f := ways_fr hb.n o n e he
  have le := cI_mem (fun e he => (ways_fr hb.n o n e he).1) he
  rw [cI_ways (fun e he => (hb.c e he).2.2)] at le
  have hl := lim_val
  refine f.2.sz hn ?_
  have := f.1
  omega
theorem rowl_len (es : List Ev) (c : Tx) : (rowl es c).length ≤ es.length := by
  unfold rowl ks; rw [List.length_map]; exact (tabOk es).rlen c
theorem items_len (es : List Ev) (o : Nat) (c : Tx) (m : Int) (q : Rat) (ls : List Tx) : (items3 es o c m q ls).length ≤ ls.length := by
  unfold items3; rw [List.length_map]; exact List.length_filter_le _ _
theorem step_len (es : List Ev) (o : Nat) : ∀ W : Wt, (stepW es o W).length ≤ W.length * es.length
  | [] => by simp [stepW]
  | e :: W => by
    have h := step_len es o W
    have h1 := items_len es o e.1 e.2.1 e.2.2 (rowl es e.1)
    have h2 := rowl_len es e.1
    unfold stepW at h ⊢
    rw [List.flatMap_cons, List.length_append, List.length_cons, Nat.add_mul]
    omega
theorem fold_len : ∀ (its : List It3) (W : Wt), (its.foldl wadd W).length ≤ W.length + its.length
  | [], W => by simp
  | e :: its, W => by
    have h1 := fold_len its (wadd W e)
    have h2 : (wadd W e).length ≤ W.length + 1 := len_pt W e.1 _
    rw [List.foldl_cons, List.length_cons]; omega
theorem ways_ctx {es : List Ev} (hb : Bk es) {o n : Nat} (ho : o ≤ 3) {k : Tx} (h : k ∈ ks (waysL es o n)) : k.length ≤ 3 := by
  rcases ways_keys h with rfl | ⟨e, _, rfl⟩
  · simp
  · unfold endT; simp; omega
theorem look_wD {W : Wt} (nd : (ks W).Nodup) {e : It3} (he : e ∈ W) : lookK (wD W) e.1 = some (wE e.2) := by
  rw [lookK_lk, lk_wD, mem_lk nd (x := e.1) (v := e.2) he]; rfl
theorem wC_loop {es : List Ev} (hb : Bk es) {o n : Nat} (ho : o ≤ 3) (hn : n + 1 ≤ 9) (hp : (paths es o n).length ≤ lim) (hp' : (paths es o (n + 1)).length ≤ lim) {N : D} {γ : Ga} (F : Wk es o N γ) (h3 : At γ 3 (.dic (wD (waysL es o n)))) (h5 : Ao' γ 5 (.dic (wD []))) :
    ∃ γ', forGo (bdN 6) wC ((waysL es o n).map fun e => .str e.1) γ = .ok (.nx γ') ∧ Wk es o N γ' ∧ Ao' γ' 5 (.dic (wD (waysL es o (n + 1)))) := by
  have len := ways_len (es := es) o n
  have slen := step_len es o (waysL es o n)
  have sl2 : (stepW es o (waysL es o n)).length ≤ 73 * 72 := Nat.le_trans slen (Nat.mul_le_mul (by have := hb.n; omega) hb.n)
  obtain ⟨γ', l1, F', _, h5'⟩ := forGo_inv (bd := bdN 6) (inj := fun e : It3 => D.str e.1) (l0 := waysL es o n) (body := wC) (I := fun dn γ => Wk es o N γ ∧ At γ 3 (.dic (wD (waysL es o n))) ∧ Ao' γ 5 (.dic (wD ((stepW es o dn).foldl wadd [])))) (γ := γ) (fun dn e rest γ hr hI => by
    obtain ⟨F, h3, h5⟩ := hI
    have he : e ∈ waysL es o n := by rw [hr]; simp
    have hl := F.len
    have hk : e.1 ∈ ks (waysL es o n) := List.mem_map.mpr ⟨e, he, rfl⟩
    have ctx := ways_ctx hb ho hk
    have look := look_wD (ways_nd es o n) he
    have F1 : Wk es o N (γ.set 6 (.va (.str e.1))) := F.set (by omega)
    have a6 : At (γ.set 6 (.va (.str e.1))) 6 (.str e.1) := At.new (by omega)
    have a3 := At.set (s := .va (.str e.1)) h3 (j := 6) (by omega)
    have a5 := Ao'.set (s := .va (.str e.1)) h5 (j := 6) (by omega)
    have hs : stepW es o (waysL es o n) = stepW es o dn ++ (items3 es o e.1 e.2.1 e.2.2 (rowl es e.1) ++ stepW es o rest) := by
      rw [hr]; unfold stepW; rw [List.flatMap_append, List.flatMap_cons]
    have hs2 : stepW es o (dn ++ [e]) = stepW es o dn ++ items3 es o e.1 e.2.1 e.2.2 (rowl es e.1) := by
      unfold stepW; rw [List.flatMap_append]; simp
    have eb : fBd (bdT [8, 9]) (b2 dIx (bVar 3) (bVar 6)) (γ.set 6 (.va (.str e.1))) = .ok (.nx (((γ.set 6 (.va (.str e.1))).set 8 (.va (.int e.2.1))).set 9 (.va (frD e.2.2)))) := by
      unfold fBd
      rw [b2_e, a3.v, a6.v]
      have : dIx (.dic (wD (waysL es o n))) (.str e.1) = .ok (wE e.2) := by
        show o2r _ = _
        rw [look]; rfl
      simp only [R.bind, this]
      rfl
    generalize hγ : γ.set 6 (.va (.str e.1)) = γ1 at *
    have hl1 := F1.len
    have F2 : Wk es o N ((γ1.set 8 (.va (.int e.2.1))).set 9 (.va (frD e.2.2))) := (F1.set (by omega)).set (by omega)
    have b6 : At ((γ1.set 8 (.va (.int e.2.1))).set 9 (.va (frD e.2.2))) 6 (.str e.1) := (a6.set (by omega)).set (by omega)
    have b3 : At ((γ1.set 8 (.va (.int e.2.1))).set 9 (.va (frD e.2.2))) 3 (.dic (wD (waysL es o n))) := (a3.set (by omega)).set (by omega)
    have b5 : Ao' ((γ1.set 8 (.va (.int e.2.1))).set 9 (.va (frD e.2.2))) 5 (.dic (wD ((stepW es o dn).foldl wadd []))) := (a5.set (by omega)).set (by omega)
    have b8 : At ((γ1.set 8 (.va (.int e.2.1))).set 9 (.va (frD e.2.2))) 8 (.int e.2.1) := (At.new (by omega)).set (by omega)
    have b9 : At ((γ1.set 8 (.va (.int e.2.1))).set 9 (.va (frD e.2.2))) 9 (frD e.2.2) := At.new (by simp; omega)
    have rl := rowl_len es e.1
    have dlen : (stepW es o dn).length ≤ 73 * 72 := by
      have := congrArg List.length hs
      simp only [List.length_append] at this
      omega
    obtain ⟨γ3, r1, r2, r3, r4, r5, r6, r7⟩ := wL_loop hb.n F2 (c := e.1) (m := e.2.1) (q := e.2.2) (W := (stepW es o dn).foldl wadd []) (ls := rowl es e.1) b3 b6 b8 b9 b5 (by omega) (fun l hl => by
        have := hb.c _ (row_mem2.mp hl)
        exact ⟨by have := this.2.2; simp only at this; omega, this.2.1⟩) (wfold_nd _ (by show ([] : List Tx).Nodup; simp)) (by
        have h1 := fold_len (stepW es o dn) []
        have h2 := hb.n
        have h3 := lim_val
        simp only [List.length_nil] at h1
        omega) (a := 3200) (b := 3200) (ways_sz hb (by omega) hp he) (by decide) (fun ds k ⟨rs, hrs⟩ => by
        rw [← List.foldl_append]
        refine pre_sz hb hn hp' (rest := items3 es o e.1 e.2.1 e.2.2 rs ++ stepW es o rest) ?_ k
        rw [hs, hrs]
        unfold items3
        rw [List.filter_append, List.map_append]
        simp only [List.append_assoc])
    refine ⟨_, rfl, γ3, .inl ?_, r2, r3, by rw [hs2, List.foldl_append]; exact r7⟩
    show wC (γ.set 6 (.va (.str e.1))) = _
    rw [hγ]
    unfold wC
    rw [seq_nx eb]
    have t0 := F2.t
    have gt := get_tbl (tabOf es) e.1
    generalize (γ1.set 8 (.va (.int e.2.1))).set 9 (.va (frD e.2.2)) = γ2 at *
    refine forE_d (es := rowD (rowOf (tabOf es) e.1)) ?_ (by rw [keys_row]; exact r1)
    unfold bGet
    rw [t0.v, b6.v]
    simp only [R.bind, bC_e]
    unfold tblD
    simp only
    rw [gt]) ⟨F, h3, h5⟩
  exact ⟨γ', l1, F', h5'⟩
theorem keys_wD (W : Wt) : keysD (wD W) = W.map fun e => .str e.1 := by
  unfold keysD wD; rw [List.map_map]; rfl
theorem ways_ok {es : List Ev} (hb : Bk es) {o n : Nat} (ho : o ≤ 3) (hn : n ≤ 8) (hp : ∀ k, k ≤ n → (paths es o k).length ≤ lim) : g_ways [tblD (tabOf es), .int o, .int n] = .ok (.dic (wD (waysL es o n))) := by
  obtain ⟨γ', l1, F', h3'⟩ := forGo_inv (bd := bdN 4) (inj := fun i : Nat => D.int (0 + (i : Nat))) (l0 := List.range n) (body := fSeq (fOwn 5 (bC (.dic []))) (fSeq (fForE (bVar 3) (bdN 6) wC) (fFz 5 (fSet 3 (bVar 5)))))
    (I := fun dn γ => Wk es o (.int n) γ ∧ At γ 3 (.dic (wD (waysL es o dn.length)))) (γ := [.va (tblD (tabOf es)), .va (.int o), .va (.int n), .va (.dic (wD (waysL es o 0))), .un, .un, .un, .un, .un, .un, .un, .un, .un]) (fun dn i rest γ hr hI => by
      obtain ⟨F, h3⟩ := hI
      obtain ⟨hi1, hi2⟩ := range_split hr
      have hl := F.len
      have F1 : Wk es o (.int n) ((γ.set 4 (.va (.int (0 + (i : Nat))))).set 5 (.ow (.dic []))) := (F.set (by omega)).set (by omega)
      have a3 : At ((γ.set 4 (.va (.int (0 + (i : Nat))))).set 5 (.ow (.dic []))) 3 (.dic (wD (waysL es o dn.length))) := (h3.set (by omega)).set (by omega)
      have a5 : Ao' ((γ.set 4 (.va (.int (0 + (i : Nat))))).set 5 (.ow (.dic []))) 5 (.dic (wD [])) := List.getElem?_set_self (by simp; omega)
      obtain ⟨γ2, r1, F2, r5⟩ := wC_loop hb ho (n := dn.length) (by omega) (hp _ (by omega)) (hp _ (by omega)) F1 a3 a5
      refine ⟨_, rfl, (γ2.set 5 (.va (.dic (wD (waysL es o (dn.length + 1)))))).set 3 (.va (.dic (wD (waysL es o (dn.length + 1))))), .inl ?_, ?_⟩
      · rw [seq_nx (γ' := (γ.set 4 (.va (.int (0 + (i : Nat))))).set 5 (.ow (.dic []))) rfl]
        rw [seq_nx (γ' := γ2) (forE_d (es := wD (waysL es o dn.length)) a3.v (by rw [keys_wD]; exact r1))]
        rw [fFz_e, r5]
        simp only
        have l2 := F2.len
        refine set_e (At.v (At.new (by omega)))
      · have l2 := F2.len
        refine ⟨⟨by simp [l2], ?_, ?_, ?_⟩, ?_⟩
        · exact (F2.t.set (by omega)).set (by omega)
        · exact (F2.o.set (by omega)).set (by omega)
        · exact (F2.n.set (by omega)).set (by omega)
        · rw [List.length_append]; exact At.new (by simp; omega)) ⟨⟨rfl, rfl, rfl, rfl⟩, rfl⟩
  rw [List.length_range] at h3'
  unfold g_ways
  refine fn_rt ?_
  rw [m_ways_e]
  show fSeq _ _ [.va (tblD (tabOf es)), .va (.int o), .va (.int n), .un, .un, .un, .un, .un, .un, .un, .un, .un, .un] = _
  rw [seq_nx (γ' := [.va (tblD (tabOf es)), .va (.int o), .va (.int n), .va (.dic (wD (waysL es o 0))), .un, .un, .un, .un, .un, .un, .un, .un, .un]) (by
    generalize tblD (tabOf es) = T
    refine set_e ?_
    have l2 : 2 ≤ lim := by decide
    simp [bDic1, l2]
    first | rfl | trivial)]
  have ef : fForI (iR1 (bVar 2)) (bdN 4) (fSeq (fOwn 5 (bC (.dic []))) (fSeq (fForE (bVar 3) (bdN 6) wC) (fFz 5 (fSet 3 (bVar 5))))) [.va (tblD (tabOf es)), .va (.int o), .va (.int n), .va (.dic (wD (waysL es o 0))), .un, .un, .un, .un, .un, .un, .un, .un, .un] = .ok (.nx γ') := by
    unfold fForI
    rw [iR1_s (fa := bVar 2) (n := n) rfl (by omega)]
    exact l1
  rw [seq_nx ef]
  exact ret_e h3'.v
end
end KN
set_option maxHeartbeats 400000
/-! PR: how_many, share_of_length, lengths -/
namespace KN
open PySem PySem.Spec PyProof.Rows L2
noncomputable section
theorem bk_of {b : List Tx} (hb : bookOk b) {o : Nat} (ho : o ≤ 3) : Bk (evB o b) := ⟨evB_small hb.small o, fun e he => by
  refine ⟨?_, (ev_ctx hb.2.2 he).2.2, ?_⟩
  · obtain ⟨x, _, i, _, rfl⟩ := evB_mem he
    unfold endT; simp; omega
  · obtain ⟨x, _, i, _, rfl⟩ := evB_mem he
    simp; omega⟩
/-- no way is too broad -/
def Nar (es : List Ev) (o n : Nat) : Prop := ∀ k, k ≤ n → (paths es o k).length ≤ lim
theorem Nar.le {es : List Ev} {o n m : Nat} (h : Nar es o n) (k : m ≤ n) : Nar es o m := fun j hj => h j (by omega)
theorem path_pow {es : List Ev} {a : Nat} (h : ∀ c, (nxt es c).length ≤ a) (o : Nat) : ∀ n, (paths es o n).length ≤ a ^ n
  | 0 => by show ([[]] : List Tx).length ≤ _; simp
  | n + 1 => by
    have ih := path_pow h o n
    have g : ∀ ts : List Tx, (grow es o ts).length ≤ ts.length * a := by
      intro ts
      induction ts with
      | nil => simp [grow]
      | cons t ts ih =>
        have h1 := h (endT o t)
        unfold grow at ih ⊢
        rw [List.flatMap_cons, List.length_append, List.length_map, List.length_cons, Nat.add_mul]
        omega
    rw [Nat.pow_succ]
    exact Nat.le_trans (g _) (Nat.mul_le_mul_right _ ih)
theorem nar_of {es : List Ev} {L : List Tx} (h : ∀ e ∈ es, e.2 = [] ∨ e.2 ∈ L) {n : Nat} (hl : L.length ^ n ≤ lim) (h0 : 0 < L.length) (o : Nat) : Nar es o n := fun k hk => by
  refine Nat.le_trans (path_pow (a := L.length) (fun c => ?_) o k) (Nat.le_trans (Nat.pow_le_pow_right h0 hk) hl)
  refine List.Nodup.length_le_of_subset (nxt_nodup es c) fun l hl => ?_
  obtain ⟨h1, h2⟩ := nxt_mem.mp hl
  rcases h _ h1 with z | z
  · exact absurd z h2
  · exact z
theorem m_how_many_e : m_how_many = fSeq (fExpr (bCall g_need_all (bCons (bVar 0) (bCons (bVar 1) (bCons (bVar 2) (bNil)))))) (fSeq (fSet 3 (bCall g_counted (bCons (bVar 0) (bCons (bVar 1) (bNil))))) (fSeq (fSet 4 (bCall g_ways (bCons (bVar 3) (bCons (bVar 1) (bCons (bVar 2) (bNil)))))) (fRet (bN dSum (bCons (bLcE (bVar 4) [5] (bdN 5) (tVal (b2 dIn (bC (.str [])) (bGet (bVar 3) (bVar 5) (bC (.dic []))))) (b2 dIx (b2 dIx (bVar 4) (bVar 5)) (bC (.int 0)))) (bNil)))))) := rfl
theorem sum_ind (es : List Ev) (p : Tx → Bool) : ∀ W : List It3, gI (fun v => (v.1 : Rat)) (fun c => if p c = true then 1 else 0) W = ((((W.filter fun e => p e.1).map fun e => e.2.1).sum : Int) : Rat)
  | [] => rfl
  | e :: W => by
    have ih := sum_ind es p W
    unfold gI at ih ⊢
    rw [List.map_cons, rS_cons, ih, List.filter_cons]
    cases z : p e.1 with
    | true => simp only [z, if_true]; rw [List.map_cons, List.sum_cons, Rat.intCast_add, Rat.mul_one]
    | false => simp only [z, Bool.false_eq_true, if_false]; rw [Rat.mul_zero, Rat.zero_add]
theorem sum_ind2 (p : Tx → Bool) : ∀ l : List Tx, rS (l.map fun t => if p t = true then (1 : Rat) else 0) = (((l.filter p).length : Nat) : Rat)
  | [] => rfl
  | t :: l => by
    have ih := sum_ind2 p l
    rw [List.map_cons, rS_cons, ih, List.filter_cons]
    cases z : p t with
    | true => simp only [if_true]; rw [List.length_cons, Rat.natCast_add, Rat.add_comm]; rfl
    | false => simp only [Bool.false_eq_true, if_false]; rw [Rat.zero_add]
theorem many_made {es : List Ev} (hc : ∀ e ∈ es, e.2.length ≤ 1) (o n : Nat) : (((waysL es o n).filter fun e => decide ((e.1, ([] : Tx)) ∈ es)).map fun e => e.2.1).sum = ((made es o n).length : Nat) := by
  have h := ways_sum (lin_m es) hc o n fun c => if decide ((c, ([] : Tx)) ∈ es) = true then 1 else 0
  rw [sum_ind es fun c => decide ((c, ([] : Tx)) ∈ es)] at h
  have e : pS es (fun _ => 1) o (fun c => if decide ((c, ([] : Tx)) ∈ es) = true then (1 : Rat) else 0) n = (((made es o n).length : Nat) : Rat) := by
    unfold pS made
    rw [(sortT_perm _).length_eq, ← sum_ind2]
    congr 1
    refine List.map_congr_left fun t _ => ?_
    rw [wT_one, Rat.one_mul]
    rfl
  rw [e] at h
  exact_mod_cast h
theorem how_many_ok {b : List Tx} (hb : bookOk b) {o : Nat} (ho : 1 ≤ o ∧ o ≤ 3) {n : Nat} (hn : 1 ≤ n ∧ n ≤ 8) (hs : Nar (evB o b) o n) : g_how_many [bkD b, .int o, .int n] = .ok (.int ((made (evB o b) o n).length : Nat)) := by
  have h1 := needAll_ok hb ho hn
  have h2 := counted_ok hb.small o
  have bk := bk_of hb ho.2
  have h3 := ways_ok bk ho.2 hn.2 hs
  have mm := many_made (fun e he => (bk.c e he).2.2) o n
  have nd := ways_nd (evB o b) o n
  have wl := ways_len (es := evB o b) o n
  have hes := bk.n
  generalize evB o b = es at *
  have comp := lcGo_fil (bd := bdN 5) (ifs := tVal (b2 dIn (bC (.str [])) (bGet (bVar 3) (bVar 5) (bC (.dic []))))) (elt := b2 dIx (b2 dIx (bVar 4) (bVar 5)) (bC (.int 0))) (γ := wipeG [.va (bkD b), .va (.int o), .va (.int n), .va (tblD (tabOf es)), .va (.dic (wD (waysL es o n))), .un] [5]) (inj := fun e : It3 => D.str e.1) (p := fun e => decide ((e.1, ([] : Tx)) ∈ es)) (f := fun e => .int e.2.1) (l := waysL es o n) fun e he => ⟨_, rfl, by
      have gt := get_tbl (tabOf es) e.1
      have ir := in_row (es := es) e.1 []
      unfold tblD
      generalize (tabOf es).map (fun e => (e.1, D.dic (rowD e.2))) = TD at *
      generalize rowD (rowOf (tabOf es) e.1) = RD at *
      generalize bkD b = B at *
      generalize wD (waysL es o n) = WD at *
      simp [wipeG, bGet, gt, ir], fun _ => by
      have lw := look_wD nd he
      unfold wE at lw
      have : dIx (.dic (wD (waysL es o n))) (.str e.1) = .ok (.tup [.int e.2.1, frD e.2.2]) := by show o2r _ = _; rw [lw]; rfl
      generalize tblD (tabOf es) = TD at *
      generalize bkD b = B at *
      generalize wD (waysL es o n) = WD at *
      simp [wipeG, this, at0]⟩
  have c2 := lcE_e (γ := [.va (bkD b), .va (.int o), .va (.int n), .va (tblD (tabOf es)), .va (.dic (wD (waysL es o n))), .un]) (fe := bVar 4) (d := .dic (wD (waysL es o n))) (ds := (waysL es o n).map fun e => .str e.1) rfl (by rw [← keys_wD]; rfl) comp (by
    rw [List.length_map]
    refine Nat.le_trans (List.length_filter_le _ _) ?_
    rw [lim_val]; omega)
  have e6 : dSum [.lst (((waysL es o n).filter fun e => decide ((e.1, ([] : Tx)) ∈ es)).map fun e => D.int e.2.1)] = .ok (.int ((made es o n).length : Nat)) := by
    have e5 : (((waysL es o n).filter fun e => decide ((e.1, ([] : Tx)) ∈ es)).map fun e => D.int e.2.1) = (((waysL es o n).filter fun e => decide ((e.1, ([] : Tx)) ∈ es)).map fun e => e.2.1).map D.int := by rw [List.map_map]; rfl
    rw [e5]
    show (o2r (asInts _)).bind (fun ns => R.ok (D.int ns.sum)) = _
    rw [asInts_map, o2r_some]
    show R.ok (D.int _) = _
    rw [mm]
  unfold g_how_many
  refine fn_rt ?_
  rw [m_how_many_e]
  generalize bkD b = B at *
  generalize tblD (tabOf es) = T at *
  generalize wD (waysL es o n) = WD at *
  show fSeq _ _ [.va B, .va (.int o), .va (.int n), .un, .un, .un] = _
  rw [seq_nx (γ' := [.va B, .va (.int o), .va (.int n), .un, .un, .un]) (by rw [fExpr_e]; simp [h1])]
  rw [seq_nx (γ' := [.va B, .va (.int o), .va (.int n), .va T, .un, .un]) (by simp [h2])]
  rw [seq_nx (γ' := [.va B, .va (.int o), .va (.int n), .va T, .va (.dic WD), .un]) (by simp [h3])]
  refine ret_e ?_
  rw [bN_e, bCons_e, c2]
  exact e6
/-! ### the share of a length -/
def lenQ (es : List Ev) (o n : Nat) : Rat := rS ((made es o n).map (shareQ es o))
theorem share_wT (es : List Ev) (o : Nat) (t : Tx) : shareQ es o t = wT (pq es) o t * pq es (endT o t, []) := by
  unfold shareQ wT
  rw [evs_e, List.range_succ, List.map_append]
  show shq es (_ ++ [cStep t o t.length]) = _
  rw [shq_snoc]
  unfold shq cStep
  simp
theorem sum_len {es : List Ev} (hc : ∀ e ∈ es, e.2.length ≤ 1) (o n : Nat) : gI (fun v => v.2) (fun c => pq es (c, [])) (waysL es o n) = lenQ es o n := by
  rw [ways_sum (lin_q es) hc]
  unfold pS lenQ made
  refine Eq.trans ?_ (rS_perm ((sortT_perm _).map _)).symm
  rw [rS_filter0]
  · congr 1
    refine List.map_congr_left fun t _ => ?_
    exact (share_wT es o t).symm
  · intro t _ h
    rw [share_wT]
    have : (endT o t, ([] : Tx)) ∉ es := by
      unfold ends at h
      simpa using h
    rw [pq_zero (List.count_eq_zero.mpr this), Rat.mul_zero]
theorem m_share_of_length_e : m_share_of_length = fSeq (fExpr (bCall g_need_all (bCons (bVar 0) (bCons (bVar 1) (bCons (bVar 2) (bNil)))))) (fSeq (fSet 3 (bCall g_counted (bCons (bVar 0) (bCons (bVar 1) (bNil))))) (fSeq (fSet 4 (bTup (bCons (bC (.int 0)) (bCons (bC (.int 1)) (bNil))))) (fSeq (fSet 5 (bCall g_ways (bCons (bVar 3) (bCons (bVar 1) (bCons (bVar 2) (bNil)))))) (fSeq (fForE (bVar 5) (bdN 6) (fSet 4 (bCall g_added (bCons (bVar 4) (bCons (bCall g_times (bCons (b2 dIx (b2 dIx (bVar 5) (bVar 6)) (bC (.int 1))) (bCons (bCall g_part_of (bCons (bVar 3) (bCons (bVar 6) (bCons (bC (.str [])) (bNil))))) (bNil)))) (bNil)))))) (fRet (bVar 4)))))) := rfl
theorem gI_fr {es : List Ev} (hes : es.length ≤ 72) {n : Nat} (l : Tx) : ∀ {W : List It3}, (∀ e ∈ W, FrZ n e.2) → Fr (n + 1) (cI W).toNat (gI (fun v => v.2) (fun c => pq es (c, l)) W)
  | [], _ => Fr.zero _
  | e :: W, h => by
    have ih := gI_fr hes l (W := W) fun f hf => h f (List.mem_cons_of_mem _ hf)
    have he := h e List.mem_cons_self
    have c0 := cI_ge (its := W) fun f hf => (h f (List.mem_cons_of_mem _ hf)).1
    have e1 : (cI (e :: W)).toNat = e.2.1.toNat + (cI W).toNat := by
      have : cI (e :: W) = e.2.1 + cI W := by unfold cI; simp
      have := he.1
      omega
    have e2 : gI (fun v => v.2) (fun c => pq es (c, l)) (e :: W) = e.2.2 * pq es (e.1, l) + gI (fun v => v.2) (fun c => pq es (c, l)) W := by
      unfold gI; rw [List.map_cons, rS_cons]
    rw [e1, e2]
    exact (he.2.mul hes (e.1, l)).add ih
theorem share_of_length_ok {b : List Tx} (hb : bookOk b) {o : Nat} (ho : 1 ≤ o ∧ o ≤ 3) {n : Nat} (hn : 1 ≤ n ∧ n ≤ 8) (hs : Nar (evB o b) o n) : g_share_of_length [bkD b, .int o, .int n] = .ok (frD (lenQ (evB o b) o n)) := by
  have h1 := needAll_ok hb ho hn
  have h2 := counted_ok hb.small o
  have bk := bk_of hb ho.2
  have h3 := ways_ok bk ho.2 hn.2 hs
  have hc := fun e he => (bk.c e he).2.2
  have sl := sum_len hc o n
  have nd := ways_nd (evB o b) o n
  have hes := bk.n
  have cw := cI_ways hc o n
  have wf := ways_fr hes o n
  have ws := fun e he => ways_sz bk (o := o) (n := n) (by omega) (hs n (Nat.le_refl _)) (e := e) he
  have hpl := hs n (Nat.le_refl _)
  generalize evB o b = es at *
  have loop := forGo_inv (bd := bdN 6) (inj := fun e : It3 => D.str e.1) (l0 := waysL es o n) (body := fSet 4 (bCall g_added (bCons (bVar 4) (bCons (bCall g_times (bCons (b2 dIx (b2 dIx (bVar 5) (bVar 6)) (bC (.int 1))) (bCons (bCall g_part_of (bCons (bVar 3) (bCons (bVar 6) (bCons (bC (.str [])) (bNil))))) (bNil)))) (bNil)))))
    (I := fun dn γ => ∃ s6, γ = [.va (bkD b), .va (.int o), .va (.int n), .va (tblD (tabOf es)), .va (frD (gI (fun v => v.2) (fun c => pq es (c, [])) dn)), .va (.dic (wD (waysL es o n))), s6])
    (γ := [.va (bkD b), .va (.int o), .va (.int n), .va (tblD (tabOf es)), .va (frD 0), .va (.dic (wD (waysL es o n))), .un]) (fun dn e rest γ hr hI => by
      obtain ⟨s6, rfl⟩ := hI
      have he : e ∈ waysL es o n := by rw [hr]; simp
      have lw := look_wD nd he
      unfold wE at lw
      have lx : dIx (.dic (wD (waysL es o n))) (.str e.1) = .ok (.tup [.int e.2.1, frD e.2.2]) := by show o2r _ = _; rw [lw]; rfl
      have pt := part_ok (es := es) (by omega) e.1 []
      have tm := times_ok (ws e he) (pq_sz (es := es) (by omega) (e.1, [])) (by omega)
      have fr := gI_fr hes ([] : Tx) (W := dn) (n := n) fun f hf => wf f (by rw [hr]; exact List.mem_append_left _ hf)
      have s1 : sz 3200 (gI (fun v => v.2) (fun c => pq es (c, [])) dn) := by
        refine fr.sz (by omega) ?_
        have c1 := cI_ge (its := e :: rest) fun f hf => (wf f (by rw [hr]; exact List.mem_append_right _ hf)).1
        have hl := lim_val
        rw [hr, cI_app] at cw
        omega
      have ad := added_ok s1 (sz_mul (ws e he) (pq_sz (es := es) (by omega) (e.1, []))) (by omega)
      have e2 : gI (fun v => v.2) (fun c => pq es (c, [])) (dn ++ [e]) = gI (fun v => v.2) (fun c => pq es (c, [])) dn + e.2.2 * pq es (e.1, []) := by
        unfold gI; rw [List.map_append, rS_app]
        show _ + rS [_] = _
        rw [rS_cons, rS_nil, Rat.add_zero]
      refine ⟨_, rfl, [.va (bkD b), .va (.int o), .va (.int n), .va (tblD (tabOf es)), .va (frD (gI (fun v => v.2) (fun c => pq es (c, [])) (dn ++ [e]))), .va (.dic (wD (waysL es o n))), .va (.str e.1)], .inl ?_, _, rfl⟩
      rw [e2]
      generalize tblD (tabOf es) = T at *
      generalize bkD b = B at *
      generalize wD (waysL es o n) = WD at *
      simp [lx, at1, pt, tm, ad]) ⟨.un, rfl⟩
  obtain ⟨γ', l1, s6, rfl⟩ := loop
  rw [sl] at l1
  unfold g_share_of_length
  refine fn_rt ?_
  rw [m_share_of_length_e]
  have kw := keys_wD (waysL es o n)
  generalize bkD b = B at *
  generalize tblD (tabOf es) = T at *
  generalize wD (waysL es o n) = WD at *
  have l2 : 2 ≤ lim := by decide
  show fSeq _ _ [.va B, .va (.int o), .va (.int n), .un, .un, .un, .un] = _
  rw [seq_nx (γ' := [.va B, .va (.int o), .va (.int n), .un, .un, .un, .un]) (by rw [fExpr_e]; simp [h1])]
  rw [seq_nx (γ' := [.va B, .va (.int o), .va (.int n), .va T, .un, .un, .un]) (by simp [h2])]
  rw [seq_nx (γ' := [.va B, .va (.int o), .va (.int n), .va T, .va (frD 0), .un, .un]) (by simp [l2, fr_zero])]
  rw [seq_nx (γ' := [.va B, .va (.int o), .va (.int n), .va T, .va (frD 0), .va (.dic WD), .un]) (by simp [h3])]
  rw [seq_nx (forE_d (es := WD) rfl (by rw [kw]; exact l1))]
  rfl
/-! ### lengths -/
theorem lengths_ok {b : List Tx} (hb : bookOk b) {o : Nat} (ho : 1 ≤ o ∧ o ≤ 3) (hs : Nar (evB o b) o 8) : g_lengths [bkD b, .int o] = .ok (.lst (((List.range 8).filter fun i => decide (made (evB o b) o (i + 1) ≠ [])).map fun i => .int ((i : Nat) + 1))) := by
  have h1 := needBook_ok hb
  have h2 := needOrder_ok ho
  have comp := lcGo_fil (bd := bdN 2) (ifs := tVal (b2 dGt (bCall g_how_many (bCons (bVar 0) (bCons (bVar 1) (bCons (bVar 2) (bNil))))) (bC (.int 0)))) (elt := bVar 2) (γ := wipeG [.va (bkD b), .va (.int o), .un] [2]) (inj := fun i : Nat => D.int (1 + (i : Nat))) (p := fun i => decide (made (evB o b) o (i + 1) ≠ [])) (f := fun i => .int ((i : Nat) + 1)) (l := List.range 8) fun i hi => ⟨_, rfl, by
      have hi := List.mem_range.mp hi
      have hm := how_many_ok hb ho (n := i + 1) (by omega) (hs.le (by omega))
      have e : ((i + 1 : Nat) : Int) = 1 + (i : Nat) := by omega
      rw [e] at hm
      have e2 : decide ((0 : Int) < ((made (evB o b) o (i + 1)).length : Nat)) = decide (made (evB o b) o (i + 1) ≠ []) := by
        rw [decide_eq_decide, List.ne_nil_iff_length_pos]; omega
      rw [← e2]
      generalize bkD b = B at *
      generalize made (evB o b) o (i + 1) = M at *
      simp [wipeG, hm], fun _ => by
      have e : ((i : Nat) : Int) + 1 = 1 + (i : Nat) := by omega
      rw [e]
      generalize bkD b = B at *
      simp [wipeG]⟩
  have l8 : ((((List.range 8).filter fun i => decide (made (evB o b) o (i + 1) ≠ [])).map fun i : Nat => D.int ((i : Nat) + 1))).length ≤ lim := by
    rw [List.length_map]
    exact Nat.le_trans (List.length_filter_le _ _) (by rw [List.length_range]; decide)
  have c2 := lcOut_e comp l8
  unfold g_lengths
  refine fn_rt ?_
  unfold m_lengths
  generalize (((List.range 8).filter fun i => decide (made (evB o b) o (i + 1) ≠ [])).map fun i : Nat => D.int ((i : Nat) + 1)) = LL at *
  generalize bkD b = B at *
  show fSeq _ _ [.va B, .va (.int o), .un] = _
  rw [seq_nx (γ' := [.va B, .va (.int o), .un]) (by rw [fExpr_e]; simp [h1])]
  rw [seq_nx (γ' := [.va B, .va (.int o), .un]) (by rw [fExpr_e]; simp [h2])]
  refine ret_e ?_
  show (iR2 (bC (.int 1)) (b2 dAdd (bC (.int 8)) (bC (.int 1))) [.va B, .va (.int o), .un]).bind _ = _
  have : iR2 (bC (.int 1)) (b2 dAdd (bC (.int 8)) (bC (.int 1))) [.va B, .va (.int o), .un] = .ok ((List.range 8).map fun i : Nat => D.int (1 + (i : Nat))) := rfl
  rw [this]
  exact c2
end
end KN
set_option maxHeartbeats 400000
/-! PS: guards; lists of texts; what is made is a name -/
namespace KN
open PySem PySem.Spec PyProof.Rows L2
noncomputable section
section
variable {fe fa fb elt : Ga → R D} {vs : List Nat} {bd : D → Ga → R Ga} {ifs : Ga → R Bool} {f : Ga → R Fl} {γ : Ga} {d : D}
theorem nilE : bLst bNil γ = .ok (.lst []) := by rw [bLst_e, bNil_e]; simp [R.bind]
end
/-! ### lists of texts -/
theorem ints_pl {α : Type} (f : α → Int) (l : List α) : pl 20 (.lst (l.map fun a => .int (f a))) = true := by
  rw [pl_lst, List.all_eq_true]
  intro d hd
  obtain ⟨a, ha, rfl⟩ := List.mem_map.mp hd
  simp
theorem in_intsF {α : Type} (f : α → Int) (l : List α) (i : Int) : dIn (.int i) (.lst (l.map fun a => .int (f a))) = .ok (.bl ((l.map f).contains i)) := by
  have e : ((l.map fun a => D.int (f a)).any fun z => eqv 20 z (.int i)) = (l.map f).contains i := by
    rw [List.any_map, Bool.eq_iff_iff, List.any_eq_true]
    simp only [Function.comp, eqv_int, beq_iff_eq, List.contains_iff_mem, List.mem_map]
  show ((if pl 20 (.int i) = true ∧ pl 20 (.lst (l.map fun a => .int (f a))) = true then R.ok ((l.map fun a => D.int (f a)).any fun z => eqv 20 z (.int i)) else R.no).bind fun b => R.ok (D.bl b)) = _
  rw [if_pos ⟨pl_int _ _, ints_pl f l⟩, e]; rfl
/-! ### what is made is a name -/
theorem made_letter {o : Nat} {b : List Tx} {t : Tx} (h : 0 < shareQ (evB o b) o t) {c : Nat} (hc : c ∈ t) : ∃ x ∈ b, c ∈ x := by
  rw [share_iff] at h
  obtain ⟨i, hi, rfl⟩ := List.mem_iff_getElem.mp hc
  have := h (cStep t o i) (by rw [evs_e]; exact List.mem_map.mpr ⟨i, List.mem_range.mpr (by omega), rfl⟩)
  obtain ⟨x, hx, j, _, e⟩ := evB_mem this
  have e2 : (t.drop i).take 1 = (x.drop j).take 1 := congrArg Prod.snd e
  have e3 : [t[i]] = (x.drop j).take 1 := by rw [← e2, List.drop_eq_getElem_cons hi]; rfl
  have e4 : t[i] ∈ (x.drop j).take 1 := by rw [← e3]; exact List.mem_singleton.mpr rfl
  exact ⟨x, hx, List.mem_of_mem_drop (List.mem_of_mem_take e4)⟩
theorem made_name {o : Nat} {b : List Tx} (hb : bookOk b) (ho : o ≤ 3) {n : Nat} (hn : 1 ≤ n ∧ n ≤ 8) {t : Tx} (h : t ∈ made (evB o b) o n) : nameOk t := by
  obtain ⟨h1, h2⟩ := (made_mem (fun e he => ((bk_of hb ho).c e he).2.2)).mp h
  refine ⟨by omega, by omega, fun c hc => ?_⟩
  obtain ⟨x, hx, hcx⟩ := made_letter h2 hc
  exact (hb.2.2 x hx).2.2 c hcx
theorem abz_nar {o : Nat} {b : List Tx} (hb : ∀ x ∈ b, ∀ c ∈ x, ltr c) {n : Nat} (hn : n ≤ 12) : Nar (evB o b) o n := by
  refine nar_of (L := [[97], [98], [122]]) (fun e he => ?_) ?_ (by decide) o
  · obtain ⟨x, hx, i, hi, rfl⟩ := evB_mem he
    by_cases z : i < x.length
    · right
      have e : (x.drop i).take 1 = [x[i]] := by rw [List.drop_eq_getElem_cons z]; rfl
      simp only [e]
      rcases hb x hx x[i] (List.getElem_mem z) with z | z | z <;> rw [z] <;> decide
    · left
      show (x.drop i).take 1 = []
      rw [List.drop_eq_nil_of_le (by omega)]; rfl
  · have : ([[97], [98], [122]] : List Tx).length ^ n ≤ 3 ^ 12 := Nat.pow_le_pow_right (by decide) hn
    have h2 : 3 ^ 12 ≤ lim := by decide
    omega
theorem shq_fr {es : List Ev} (hes : es.length ≤ 72) : ∀ l : List Ev, Fr l.length 1 (shq es l) := by
  intro l
  have aux : ∀ (l : List Ev) (n : Nat) (q : Rat), Fr n 1 q → Fr (n + l.length) 1 (l.foldl (fun q e => q * pq es e) q) := by
    intro l
    induction l with
    | nil => intro n q h; exact h
    | cons e l ih =>
      intro n q h
      have := ih (n + 1) _ (h.mul hes e)
      rw [List.length_cons, List.foldl_cons]
      have e2 : n + (l.length + 1) = n + 1 + l.length := by omega
      rw [e2]; exact this
  have := aux l 0 1 Fr.one
  rw [Nat.zero_add] at this
  exact this
theorem share_fr {es : List Ev} (hes : es.length ≤ 72) (o : Nat) (t : Tx) : Fr (t.length + 1) 1 (shareQ es o t) := by
  have := shq_fr hes (evs o t)
  rw [evs_len] at this
  exact this
theorem shares_fr {es : List Ev} (hes : es.length ≤ 72) (o n : Nat) : ∀ ts : List Tx, (∀ t ∈ ts, t.length = n) → Fr (n + 1) ts.length (rS (ts.map (shareQ es o)))
  | [], _ => Fr.zero _
  | t :: ts, h => by
    have ih := shares_fr hes o n ts fun u hu => h u (List.mem_cons_of_mem _ hu)
    have h1 := share_fr hes o t
    rw [h t List.mem_cons_self] at h1
    rw [List.map_cons, rS_cons, List.length_cons, Nat.add_comm ts.length 1]
    exact h1.add ih
theorem rS_snoc (l : List Rat) (q : Rat) : rS (l ++ [q]) = rS l + q := by rw [rS_app, rS_cons, rS_nil, Rat.add_zero]
theorem made_len {es : List Ev} {o n : Nat} (h : Nar es o n) : (made es o n).length ≤ lim := by
  unfold made
  rw [(sortT_perm _).length_eq]
  exact Nat.le_trans (List.length_filter_le _ _) (h n (Nat.le_refl _))
end
end KN
set_option maxHeartbeats 400000
/-! PT: shares of all lengths come to one, but for what goes on; short names by a great order -/
namespace KN
open PySem PySem.Spec PyProof.Rows L2
noncomputable section
/-! ### what goes on -/
theorem len_pS {es : List Ev} (hc : ∀ e ∈ es, e.2.length ≤ 1) (o n : Nat) : lenQ es o n = pS es (pq es) o (fun c => pq es (c, [])) n := by
  rw [← sum_len hc, ways_sum (lin_q es) hc]
theorem no_void {b : List Tx} (hb : bookOk b) {o : Nat} (ho : 1 ≤ o) : (([] : Tx), ([] : Tx)) ∉ evB o b := fun h => by
  obtain ⟨x, hx, i, hi, e⟩ := evB_mem h
  have e1 : ([] : Tx) = endT o (x.take i) := congrArg Prod.fst e
  have e2 : ([] : Tx) = (x.drop i).take 1 := congrArg Prod.snd e
  have hl := (hb.2.2 x hx).1
  have l1 := congrArg List.length e1
  have l2 := congrArg List.length e2
  unfold endT at l1
  simp at l1 l2
  omega
theorem len_zero {b : List Tx} (hb : bookOk b) {o : Nat} (ho : 1 ≤ o ∧ o ≤ 3) : lenQ (evB o b) o 0 = 0 := by
  rw [len_pS fun e he => ((bk_of hb ho.2).c e he).2.2]
  unfold pS
  show rS ([([] : Tx)].map _) = 0
  rw [List.map_cons, List.map_nil, rS_cons, rS_nil, Rat.add_zero]
  have : endT o [] = [] := by simp [endT]
  rw [this]
  show wT _ _ _ * pq (evB o b) ([], []) = 0
  rw [pq_zero (List.count_eq_zero.mpr (no_void hb ho.1)), Rat.mul_zero]
def upQ (es : List Ev) (o n : Nat) : Rat := rS ((List.range n).map fun i => lenQ es o (i + 1))
theorem up_succ (es : List Ev) (o n : Nat) : upQ es o (n + 1) = upQ es o n + lenQ es o (n + 1) := by
  unfold upQ
  rw [List.range_succ, List.map_append, List.map_cons, List.map_nil, rS_snoc]
/-! ### share_up_to -/
theorem Fr.up {n m : Nat} {q : Rat} (h : Fr n m q) : Fr (n + 1) m q := by
  obtain ⟨a, rfl, h1⟩ := h
  refine ⟨a * fct 72, ?_, ?_⟩
  · rw [Nat.pow_succ, Int.natCast_mul, Rat.mkRat_mul_right (Nat.ne_of_gt (fct_pos 72))]
  · rw [Nat.pow_succ, ← Nat.mul_assoc]
    exact Nat.mul_le_mul_right _ h1
theorem Fr.le {n k m : Nat} {q : Rat} (h : Fr n m q) (hk : n ≤ k) : Fr k m q := by
  obtain ⟨j, rfl⟩ : ∃ j, k = n + j := ⟨k - n, by omega⟩
  clear hk
  induction j with
  | zero => exact h
  | succ j ih => exact ih.up
theorem len_fr {es : List Ev} (hes : es.length ≤ 72) (hc : ∀ e ∈ es, e.2.length ≤ 1) (o n : Nat) : Fr (n + 1) (made es o n).length (lenQ es o n) :=
  shares_fr hes o n (made es o n) fun t ht => ((made_mem hc).mp ht).1
def cntU (es : List Ev) (o n : Nat) : Nat := ((List.range n).map fun i => (made es o (i + 1)).length).sum
theorem up_fr {es : List Ev} (hes : es.length ≤ 72) (hc : ∀ e ∈ es, e.2.length ≤ 1) (o : Nat) : ∀ n, n ≤ 8 → Fr 9 (cntU es o n) (upQ es o n)
  | 0, _ => Fr.zero _
  | n + 1, h => by
    have e : cntU es o (n + 1) = cntU es o n + (made es o (n + 1)).length := by
      unfold cntU
      rw [List.range_succ, List.map_append, List.sum_append]
      simp
    rw [up_succ, e]
    exact (up_fr hes hc o n (by omega)).add ((len_fr hes hc o (n + 1)).le (by omega))
theorem made_pow {es : List Ev} {a : Nat} (h : ∀ c, (nxt es c).length ≤ a) (o n : Nat) : (made es o n).length ≤ a ^ n := by
  unfold made
  rw [(sortT_perm _).length_eq]
  exact Nat.le_trans (List.length_filter_le _ _) (path_pow h o n)
/-- few names of all lengths -/
def Few (es : List Ev) (o n : Nat) : Prop := Nar es o n ∧ cntU es o n < 2 ^ 20
theorem cnt_mono (es : List Ev) (o : Nat) {n m : Nat} (h : n ≤ m) : cntU es o n ≤ cntU es o m := by
  obtain ⟨j, rfl⟩ : ∃ j, m = n + j := ⟨m - n, by omega⟩
  unfold cntU
  rw [List.range_add, List.map_append, List.sum_append]
  omega
theorem Few.le {es : List Ev} {o n m : Nat} (h : Few es o n) (k : m ≤ n) : Few es o m := ⟨h.1.le k, Nat.lt_of_le_of_lt (cnt_mono es o k) h.2⟩
theorem abz_nxt {o : Nat} {b : List Tx} (hb : ∀ x ∈ b, ∀ c ∈ x, ltr c) (c : Tx) : (nxt (evB o b) c).length ≤ 3 := by
  refine List.Nodup.length_le_of_subset (l₂ := [[97], [98], [122]]) (nxt_nodup _ c) fun l hl => ?_
  obtain ⟨h1, h2⟩ := nxt_mem.mp hl
  obtain ⟨x, hx, i, hi, e⟩ := evB_mem h1
  have e2 : l = (x.drop i).take 1 := congrArg Prod.snd e
  have z : i < x.length := Decidable.byContradiction fun z => h2 (by rw [e2, List.drop_eq_nil_of_le (by omega)]; rfl)
  have e3 : (x.drop i).take 1 = [x[i]] := by rw [List.drop_eq_getElem_cons z]; rfl
  rw [e2, e3]
  rcases hb x hx x[i] (List.getElem_mem z) with z | z | z <;> rw [z] <;> decide
theorem abz_few {o : Nat} {b : List Tx} (hb : ∀ x ∈ b, ∀ c ∈ x, ltr c) {n : Nat} (hn : n ≤ 8) : Few (evB o b) o n := by
  refine Few.le (n := 8) ⟨abz_nar hb (by omega), ?_⟩ hn
  have h := fun i => made_pow (es := evB o b) (a := 3) (abz_nxt hb) o (i + 1)
  unfold cntU
  have : ∀ n, ((List.range n).map fun i => (made (evB o b) o (i + 1)).length).sum ≤ ((List.range n).map fun i => 3 ^ (i + 1)).sum := by
    intro n
    induction n with
    | zero => simp
    | succ n ih =>
      rw [List.range_succ, List.map_append, List.map_append, List.sum_append, List.sum_append]
      have := h n
      simp at this ⊢
      omega
  exact Nat.lt_of_le_of_lt (this 8) (by decide)
theorem m_share_up_to_e : m_share_up_to = fSeq (fExpr (bCall g_need_all (bCons (bVar 0) (bCons (bVar 1) (bCons (bVar 2) (bNil)))))) (fSeq (fSet 3 (bTup (bCons (bC (.int 0)) (bCons (bC (.int 1)) (bNil))))) (fSeq (fForI (iR2 (bC (.int 1)) (b2 dAdd (bVar 2) (bC (.int 1)))) (bdN 4) (fSet 3 (bCall g_added (bCons (bVar 3) (bCons (bCall g_share_of_length (bCons (bVar 0) (bCons (bVar 1) (bCons (bVar 4) (bNil))))) (bNil)))))) (fRet (bVar 3)))) := rfl
theorem iR2_one {fa fb : Ga → R D} {γ : Ga} {n : Nat} (h1 : fa γ = .ok (.int 1)) (h2 : fb γ = .ok (.int ((n : Nat) + 1))) (hn : n < 2 ^ 50) : iR2 fa fb γ = .ok ((List.range n).map fun i => .int (1 + (i : Nat))) := by
  unfold iR2
  rw [h1, h2]
  simp only [R.bind]
  rw [i2n_i (by omega), i2n_i (by omega)]
  have : ((n : Int) + 1 - 1).toNat = n := by omega
  simp only [R.bind, this]
  rfl
theorem share_up_to_ok {b : List Tx} (hb : bookOk b) {o : Nat} (ho : 1 ≤ o ∧ o ≤ 3) {n : Nat} (hn : 1 ≤ n ∧ n ≤ 8) (hs : Few (evB o b) o n) : g_share_up_to [bkD b, .int o, .int n] = .ok (frD (upQ (evB o b) o n)) := by
  have h1 := needAll_ok hb ho hn
  have bk := bk_of hb ho.2
  have hc := fun e he => (bk.c e he).2.2
  obtain ⟨γ', l1, s4, rfl⟩ := forGo_inv (bd := bdN 4) (inj := fun i : Nat => D.int (1 + (i : Nat))) (l0 := List.range n) (body := fSet 3 (bCall g_added (bCons (bVar 3) (bCons (bCall g_share_of_length (bCons (bVar 0) (bCons (bVar 1) (bCons (bVar 4) (bNil))))) (bNil)))))
    (I := fun dn γ => ∃ s4, γ = [.va (bkD b), .va (.int o), .va (.int n), .va (frD (upQ (evB o b) o dn.length)), s4]) (γ := [.va (bkD b), .va (.int o), .va (.int n), .va (frD 0), .un]) (fun dn i rest γ hr hI => by
      obtain ⟨s4, rfl⟩ := hI
      obtain ⟨e1, e2⟩ := range_split hr
      have sl := share_of_length_ok hb ho (n := i + 1) (by omega) (hs.1.le (by omega))
      have ee : ((i + 1 : Nat) : Int) = 1 + (i : Nat) := by omega
      rw [ee] at sl
      have s1 := ((up_fr bk.n hc o dn.length (by omega)).sz (by omega) (Nat.lt_of_le_of_lt (cnt_mono _ _ (by omega)) hs.2))
      have c2 : (made (evB o b) o (i + 1)).length < 2 ^ 20 := by
        have := made_len (hs.1.le (show i + 1 ≤ n by omega))
        rw [lim_val] at this; omega
      have s2 := ((len_fr bk.n hc o (i + 1)).sz (by omega) c2)
      have ad := added_ok s1 s2 (by omega)
      refine ⟨_, rfl, [.va (bkD b), .va (.int o), .va (.int n), .va (frD (upQ (evB o b) o (dn ++ [i]).length)), .va (.int (1 + (i : Nat)))], .inl ?_, _, rfl⟩
      rw [List.length_append, List.length_singleton, up_succ, ← e1]
      rw [← e1] at ad
      generalize bkD b = B at *
      simp [sl, ad]) ⟨.un, rfl⟩
  rw [List.length_range] at l1
  unfold g_share_up_to
  refine fn_rt ?_
  rw [m_share_up_to_e]
  have l2 : 2 ≤ lim := by decide
  generalize bkD b = B at *
  show fSeq _ _ [.va B, .va (.int o), .va (.int n), .un, .un] = _
  rw [seq_nx (γ' := [.va B, .va (.int o), .va (.int n), .un, .un]) (by rw [fExpr_e]; simp [h1])]
  rw [seq_nx (γ' := [.va B, .va (.int o), .va (.int n), .va (frD 0), .un]) (by simp [l2, fr_zero])]
  have ef : fForI (iR2 (bC (.int 1)) (b2 dAdd (bVar 2) (bC (.int 1)))) (bdN 4) (fSet 3 (bCall g_added (bCons (bVar 3) (bCons (bCall g_share_of_length (bCons (bVar 0) (bCons (bVar 1) (bCons (bVar 4) (bNil))))) (bNil))))) [.va B, .va (.int o), .va (.int n), .va (frD 0), .un] = .ok (.nx [.va B, .va (.int o), .va (.int n), .va (frD (upQ (evB o b) o n)), s4]) := by
    unfold fForI
    rw [iR2_one (n := n) rfl (by simp) (by omega)]
    exact l1
  rw [seq_nx ef]
  rfl
/-! ### short names by a great order -/
end
end KN
set_option maxHeartbeats 400000
/-! PW: what the laws count themselves -/
namespace KN
open PySem PySem.Spec PyProof.Rows L2
noncomputable section
theorem pt_pt {α : Type} (r : List (Tx × α)) (x : Tx) (v w : α) : pt (pt r x v) x w = pt r x w := by
  induction r with
  | nil => simp [pt]
  | cons e r ih =>
    obtain ⟨k, r0⟩ := e
    by_cases h : k = x
    · simp [pt, h]
    · simp [pt, h, ih]
theorem fill_bump {i c l : Nat} {γ : Ga} {t : Tt} {es : List Ev} (h : TabOk t es) (hl : es.length < 1000) {ck lt : Tx} (h1 : γ[i]? = some (.nd (tabD t))) (h2 : γ[c]? = some (.va (.str ck))) (h3 : γ[l]? = some (.va (.str lt))) (ic : i ≠ c) (il : i ≠ l) :
    fSeq (fNFill i c) (fNBump i c l) γ = .ok (.nx (γ.set i (.nd (tabD (bump t (ck, lt)))))) := by
  have hi : i < γ.length := (List.getElem?_eq_some_iff.mp h1).1
  have l1 := h.len
  have l2 := h.rlen ck
  have e1 : (lookK (rowD (rowOf t ck)) lt).getD (.int 0) = .int ((lk (rowOf t ck) lt).getD 0) := by
    rw [lookK_lk, lk_rowD]
    cases lk (rowOf t ck) lt <;> rfl
  have e2 : putD (rowD (rowOf t ck)) lt (.int ((lk (rowOf t ck) lt).getD 0 + 1)) = rowD (pt (rowOf t ck) lt ((lk (rowOf t ck) lt).getD 0 + 1)) := by
    rw [putD_pt (by rw [ks_rowD]; exact h.rnd ck), pt_rowD]
  have bp : ∀ (T : Tb), lookN T ck = some (rowD (rowOf t ck)) → ∀ γ' : Ga, γ'[i]? = some (.nd T) → γ'[c]? = some (.va (.str ck)) → γ'[l]? = some (.va (.str lt)) →
      fNBump i c l γ' = .ok (.nx (γ'.set i (.nd (pt T ck (rowD (pt (rowOf t ck) lt ((lk (rowOf t ck) lt).getD 0 + 1))))))) := fun T hT γ' g1 g2 g3 => by
    unfold fNBump
    rw [g1, g2, g3]
    simp only [hT, e1, e2]
    rw [if_pos (by rw [len_rowD, lim_val]; omega), putN_pt]
  unfold fSeq
  unfold fNFill
  rw [h1, h2]
  simp only
  cases e : lookN (tabD t) ck with
  | some row =>
    have er : row = rowD (rowOf t ck) := by have := look_tabD t ck; rw [e] at this; exact this
    subst er
    simp only
    have := bp _ e γ h1 h2 h3
    rw [this, pt_tabD]
    rfl
  | none =>
    have er : rowOf t ck = [] := by
      have := look_tabD t ck; rw [e] at this
      cases z : rowOf t ck with
      | nil => rfl
      | cons a b => rw [z] at this; cases this
    simp only
    rw [if_pos (show (tabD t).length < lim by rw [len_tabD, lim_val]; omega)]
    simp only
    have := bp (putN (tabD t) ck []) (by rw [putN_pt, lookN_lk, lk_pt, if_pos rfl, er]; rfl) (γ.set i (.nd (putN (tabD t) ck []))) (List.getElem?_set_self hi) (by rw [List.getElem?_set_ne ic]; exact h2) (by rw [List.getElem?_set_ne il]; exact h3)
    rw [this, putN_pt, pt_pt, pt_tabD, List.set_set]
    rfl
theorem cut_neg {α : Type} (xs : List α) {k : Nat} (h1 : 1 ≤ k) (h2 : k ≤ xs.length) : cutL xs (some (-(k : Int))) none = xs.drop (xs.length - k) := by
  unfold cutL
  rw [HT.sIx_none]
  have : HT.sIx xs.length 0 (some (-(k : Int))) = xs.length - k := by
    show (if -(k : Int) < 0 then (-(k : Int) + (xs.length : Int)).toNat else min (-(k : Int)).toNat xs.length) = _
    rw [if_pos (by omega)]
    omega
  rw [this]
  exact List.take_of_length_le (by simp)
def lEnd : Ga → R D := bIf (tVal (b2 dGt (bVar 4) (bC (.int 0)))) (bSl (bSl (bVar 3) (pNo) (pSo (bVar 4))) (pSo (b2 dSub (bC (.int 0)) (bN dMinT (bCons (bVar 1) (bCons (bVar 4) (bNil)))))) (pNo)) (bC (.str []))
def lIn : Ga → R Fl := fSeq (fSet 5 lEnd) (fSeq (fSet 6 (bSl (bVar 3) (pSo (bVar 4)) (pSo (b2 dAdd (bVar 4) (bC (.int 1)))))) (fSeq (fNFill 2 5) (fNBump 2 5 6)))
def lOut : Ga → R Fl := fForI (iR1 (b2 dAdd (bN dLen (bCons (bVar 3) (bNil))) (bC (.int 1)))) (bdN 4) lIn
theorem m__law_counts_e : m__law_counts = fSeq (fNd0 2) (fSeq (fForE (bVar 0) (bdN 3) lOut) (fFz 2 (fRet (bVar 2)))) := rfl
theorem lEnd_ok {B : D} {o : Nat} (ho : 1 ≤ o) {x : Tx} {i : Nat} (hi : i ≤ x.length) (hx : x.length ≤ 8) {s2 s5 s6 : Sl} :
    lEnd [.va B, .va (.int o), s2, .va (.str x), .va (.int (i : Nat)), s5, s6] = .ok (.str (endT o (x.take i))) := by
  have lx : x.length ≤ lim := by rw [lim_val]; omega
  have c1 := cut1 lx i
  by_cases h : i = 0
  · subst h
    simp [lEnd, endT]
  · have hm : dMinT [.int o, .int (i : Nat)] = .ok (.int ((min o i : Nat) : Int)) := by
      rw [dMinT_i]; congr 2; omega
    have hs : dSub (.int 0) (.int ((min o i : Nat) : Int)) = .ok (.int (-((min o i : Nat) : Int))) := by
      show R.ok (D.int (0 - _)) = _
      congr 2; omega
    have c2 : dSl (.str (x.take i)) (some (-((min o i : Nat) : Int))) none = .ok (.str (endT o (x.take i))) := by
      show (if (x.take i).length ≤ lim then R.ok (D.str (cutL (x.take i) (some (-((min o i : Nat) : Int))) none)) else .no) = _
      have hl : (x.take i).length = i := by simp; omega
      rw [if_pos (by rw [hl]; omega), cut_neg _ (by omega) (by rw [hl]; omega)]
      unfold endT
      rw [hl]
      congr 3
      omega
    have hg : (0 : Int) < (i : Nat) := by omega
    generalize min o i = k at *
    have hg2 : dGt (.int (i : Nat)) (.int 0) = .ok (.bl true) := by
      show R.ok (D.bl (decide ((0:Int) < (i : Nat)))) = _
      rw [decide_eq_true hg]
    generalize hz : endT o (x.take i) = z at *
    unfold lEnd
    simp [bSl, pNo, pSo, toI, c1, hm, hs, c2, hg2, bIf]
theorem lIn_ok {B : D} {o : Nat} (ho : 1 ≤ o) {x : Tx} {es : List Ev} {i : Nat} (hi : i ≤ x.length) {s5 s6 : Sl} (hes : es.length < 1000) (hx : x.length ≤ 8) :
    lIn [.va B, .va (.int o), .nd (tabD (tabOf es)), .va (.str x), .va (.int (i : Nat)), s5, s6] = .ok (.nx [.va B, .va (.int o), .nd (tabD (tabOf (es ++ [cStep x o i]))), .va (.str x), .va (.int (i : Nat)), .va (.str (endT o (x.take i))), .va (.str ((x.drop i).take 1))]) := by
  have lx : x.length ≤ lim := by rw [lim_val]; omega
  have c1 := lEnd_ok (B := B) ho hi hx (s2 := .nd (tabD (tabOf es))) (s5 := s5) (s6 := s6)
  have c2 := cut2 lx i
  have fb := fill_bump (i := 2) (c := 5) (l := 6) (tabOk es) hes (ck := endT o (x.take i)) (lt := (x.drop i).take 1) (γ := [.va B, .va (.int o), .nd (tabD (tabOf es)), .va (.str x), .va (.int (i : Nat)), .va (.str (endT o (x.take i))), .va (.str ((x.drop i).take 1))]) rfl rfl rfl (by decide) (by decide)
  rw [tab_snoc]
  unfold cStep
  generalize endT o (x.take i) = ck at *
  generalize (x.drop i).take 1 = lt at *
  unfold lIn
  generalize lEnd = le at *
  generalize hq : fSeq (fNFill 2 5) (fNBump 2 5 6) = q at *
  simp at fb
  simp [bSl, pNo, pSo, toI, c1, c2, fb]
theorem lOut_ok {B : D} {o : Nat} (ho : 1 ≤ o) {x : Tx} {es : List Ev} {s4 s5 s6 : Sl} (hes : es.length < 900) (hx : x.length ≤ 8) :
    ∃ s4' s5' s6', lOut [.va B, .va (.int o), .nd (tabD (tabOf es)), .va (.str x), s4, s5, s6] = .ok (.nx [.va B, .va (.int o), .nd (tabD (tabOf (es ++ evs o x))), .va (.str x), s4', s5', s6']) := by
  have inner := forGo_inv (bd := bdN 4) (inj := fun i : Nat => D.int (0 + (i : Nat))) (l0 := List.range (x.length + 1)) (body := lIn)
    (I := fun dn γ => ∃ s4 s5 s6, γ = [.va B, .va (.int o), .nd (tabD (tabOf (es ++ dn.map (cStep x o)))), .va (.str x), s4, s5, s6])
    (γ := [.va B, .va (.int o), .nd (tabD (tabOf es)), .va (.str x), s4, s5, s6]) (fun dn i rest γ hr hI => by
      obtain ⟨s4, s5, s6, rfl⟩ := hI
      obtain ⟨hi1, hi2⟩ := range_split hr
      have st := lIn_ok (B := B) (o := o) ho (x := x) (es := es ++ dn.map (cStep x o)) (i := i) (s5 := s5) (s6 := s6) (by omega) (by simp; omega) hx
      refine ⟨_, rfl, [.va B, .va (.int o), .nd (tabD (tabOf (es ++ dn.map (cStep x o) ++ [cStep x o i]))), .va (.str x), .va (.int (i : Nat)), .va (.str (endT o (x.take i))), .va (.str ((x.drop i).take 1))], .inl ?_, ?_⟩
      · rw [← st]; simp
      · exact ⟨_, _, _, by rw [List.map_append, List.append_assoc, List.map_cons, List.map_nil]⟩) ⟨s4, s5, s6, by simp⟩
  obtain ⟨γ', i1, s4', s5', s6', rfl⟩ := inner
  refine ⟨s4', s5', s6', ?_⟩
  have lx : x.length ≤ lim := by rw [lim_val]; omega
  have e5 : i2n (.int ((x.length : Int) + 1)) = .ok ((x.length : Int) + 1) := i2n_i (by omega)
  have e6 : ((x.length : Int) + 1).toNat = x.length + 1 := by omega
  rw [← evs_e] at i1
  simp at i1
  simp [lOut, fForI, iR1, dLen, lx, e5, e6, rng_e, i1]
theorem law_counts_ok {b : List Tx} (hb : smallB b) {o : Nat} (ho : 1 ≤ o) : g__law_counts [bkD b, .int o] = .ok (tblD (tabOf (evB o b))) := by
  have outer := forGo_inv (bd := bdN 3) (inj := D.str) (l0 := b) (body := lOut)
    (I := fun done γ => ∃ s3 s4 s5 s6, γ = [.va (bkD b), .va (.int o), .nd (tabD (tabOf (evB o done))), s3, s4, s5, s6])
    (γ := [.va (bkD b), .va (.int o), .nd [], .un, .un, .un, .un]) (fun done x rest γ hx hI => by
      obtain ⟨s3, s4, s5, s6, rfl⟩ := hI
      have hxl : x.length ≤ 8 := hb.2 x (by rw [hx]; simp)
      have hdl : (evB o done).length ≤ 72 := by
        have := evB_len (o := o) (b := done) fun y hy => hb.2 y (by rw [hx]; simp [hy])
        have h8 := hb.1
        rw [hx] at h8
        simp at h8
        omega
      obtain ⟨s4', s5', s6', st⟩ := lOut_ok (B := bkD b) (o := o) ho (x := x) (es := evB o done) (s4 := s4) (s5 := s5) (s6 := s6) (by omega) hxl
      refine ⟨_, rfl, _, .inl st, .va (.str x), s4', s5', s6', ?_⟩
      rw [show evB o (done ++ [x]) = evB o done ++ evs o x by unfold evB; rw [List.flatMap_append]; simp]) ⟨.un, .un, .un, .un, rfl⟩
  obtain ⟨γ', o1, s3, s4, s5, s6, rfl⟩ := outer
  unfold g__law_counts
  rw [fnD_e, m__law_counts_e]
  unfold bkD at o1 ⊢
  simp [fForE, items]
  simp [o1, tblD, tabD]
end
end KN
set_option maxHeartbeats 400000
/-! PX: the laws' own shares -/
namespace KN
open PySem PySem.Spec PyProof.Rows L2
noncomputable section
def lwP : Ga → R Bool := tVal (b2 dGt (bVar 3) (bC (.int 0)))
def lwB : Ga → R Fl := fPar 2 3 (bVar 3) (b2 dMod (bVar 2) (bVar 3))
theorem lw_loop (a0 a1 : Sl) : ∀ (n d u : Nat), d ≤ n → ∃ N, whN lwP lwB N [a0, a1, .va (.int u), .va (.int d)] = some (.ok (.nx [a0, a1, .va (.int (Nat.gcd d u : Nat)), .va (.int 0)]))
  | n, 0, u, _ => by
    refine ⟨1, ?_⟩
    simp [whN, lwP]
  | 0, d + 1, u, h => by omega
  | n + 1, d + 1, u, h => by
    have hlt : u % (d + 1) ≤ n := by have := Nat.mod_lt u (show 0 < d + 1 by omega); omega
    obtain ⟨N, hN⟩ := lw_loop a0 a1 n (u % (d + 1)) (d + 1) hlt
    refine ⟨N + 1, ?_⟩
    have e1 : dMod (.int (u : Nat)) (.int ((d + 1 : Nat) : Int)) = .ok (.int ((u % (d + 1) : Nat) : Int)) := by
      rw [dMod_s (by omega), Int.natCast_emod]
    have e2 : lwP [a0, a1, .va (.int u), .va (.int ((d + 1 : Nat) : Int))] = .ok true := by
      have : (0 : Int) < ((d + 1 : Nat) : Int) := by omega
      simp only [lwP, tVal_e, b2_e, bVar_e, bC_e, List.getElem?_cons_succ, List.getElem?_cons_zero, R.bind, dGt_i, tB_e, this, decide_true]
    have e3 : lwB [a0, a1, .va (.int u), .va (.int ((d + 1 : Nat) : Int))] = .ok (.nx [a0, a1, .va (.int ((d + 1 : Nat) : Int)), .va (.int ((u % (d + 1) : Nat) : Int))]) := by
      simp only [lwB, fPar, b2_e, bVar_e, List.getElem?_cons_succ, List.getElem?_cons_zero, R.bind, e1]
      rfl
    rw [Nat.gcd_succ]
    simp only [whN, e2, e3, if_true]
    exact hN
theorem m__law_lowest_e : m__law_lowest = fSeq (fSet 2 (bVar 0)) (fSeq (fSet 3 (bVar 1)) (fSeq (fWh lwP lwB) (fRet (bTup (bCons (b2 dDiv (bVar 0) (bVar 2)) (bCons (b2 dDiv (bVar 1) (bVar 2)) (bNil))))))) := rfl
theorem law_lowest_ok (u d : Nat) (hd : 0 < d) {m : Nat} (hm : d < 2 ^ m) (hm2 : m ≤ 8000) : g__law_lowest [.int u, .int d] = .ok (frD (mkRat u d)) := by
  obtain ⟨N, hN⟩ := lw_loop (.va (.int u)) (.va (.int d)) d d u (Nat.le_refl _)
  have hw := fWh_eq hN
  have g0 : 0 < Nat.gcd d u := Nat.gcd_pos_of_pos_left _ hd
  have g1 : Nat.gcd d u ≤ d := Nat.gcd_le_left _ hd
  have hd0 : d ≠ 0 := by omega
  have e1 : dDiv (.int u) (.int (Nat.gcd d u : Nat)) = .ok (.int ((mkRat u d).num)) := by
    rw [dDiv_l (b := m) (by omega) (by omega) hm2, Rat.num_mkRat, if_neg hd0]; rfl
  have e2 : dDiv (.int d) (.int (Nat.gcd d u : Nat)) = .ok (.int ((mkRat u d).den : Int)) := by
    rw [dDiv_l (b := m) (by omega) (by omega) hm2, Rat.den_mkRat, if_neg hd0]; rfl
  generalize Nat.gcd d u = g at *
  unfold g__law_lowest
  rw [fnD_e, m__law_lowest_e]
  simp only [fSeq_e, fSet_e, bVar_e, R.bind, List.map_cons, List.map_nil, List.length_cons, List.length_nil, List.replicate, List.cons_append, List.nil_append, List.getElem?_cons_succ, List.getElem?_cons_zero, List.set_cons_succ, List.set_cons_zero, hw]
  simp [e1, e2, lim_val, frD]
/-! ### the share by counted rows -/
def shSum : Ga → R D := bN dSum (bCons (bLcE (bVar 6) [7] (bdN 7) yes (b2 dIx (bVar 6) (bVar 7))) (bNil))
theorem shSum_ok {es : List Ev} (hes : es.length < 2 ^ 8) (c : Tx) {s0 s1 s2 s3 s4 s5 s7 : Sl} : shSum [s0, s1, s2, s3, s4, s5, .va (.dic (rowD (rowOf (tabOf es) c))), s7] = .ok (.int (tot es c : Nat)) := by
  have T := tabOk es
  have hv := fun l => T.val c l
  have hnd := T.rnd c
  have hlen := T.rlen c
  have hrs := rsum_row es c
  have hk : keysD (rowD (rowOf (tabOf es) c)) = (ks (rowOf (tabOf es) c)).map D.str := by
    unfold keysD rowD ks; rw [List.map_map, List.map_map]; rfl
  have comp := lcGo_map (bd := bdN 7) (elt := b2 dIx (bVar 6) (bVar 7)) (γ := wipeG [s0, s1, s2, s3, s4, s5, .va (.dic (rowD (rowOf (tabOf es) c))), s7] [7]) (inj := D.str) (f := fun l => .int ((lk (rowOf (tabOf es) c) l).getD 0)) (l := ks (rowOf (tabOf es) c)) fun k hk => ⟨_, rfl, by
    have : ∃ n, lk (rowOf (tabOf es) c) k = some n := by
      cases z : lk (rowOf (tabOf es) c) k with
      | none => exact absurd hk (lk_none.mp z)
      | some n => exact ⟨n, rfl⟩
    obtain ⟨n, hn⟩ := this
    have lk1 : lookK (rowD (rowOf (tabOf es) c)) k = some (.int n) := by rw [lookK_lk, lk_rowD, hn]; rfl
    simp [wipeG, lk1, hn]⟩
  have hl2 : (ks (rowOf (tabOf es) c)).length = (rowOf (tabOf es) c).length := by simp [ks]
  have c2 := lcOut_e comp (by rw [List.length_map, lim_val]; omega)
  have e5 : ((ks (rowOf (tabOf es) c)).map fun l => D.int ((lk (rowOf (tabOf es) c) l).getD 0)) = ((ks (rowOf (tabOf es) c)).map fun l => (lk (rowOf (tabOf es) c) l).getD 0).map D.int := by rw [List.map_map]; rfl
  have e6 : dSum [.lst ((ks (rowOf (tabOf es) c)).map fun l => D.int ((lk (rowOf (tabOf es) c) l).getD 0))] = .ok (.int (tot es c : Nat)) := by
    rw [e5]
    show (o2r (asInts _)).bind (fun ns => R.ok (D.int ns.sum)) = _
    rw [asInts_map, o2r_some]
    show R.ok (D.int _) = _
    rw [sum_vals hnd, hrs]
  generalize rowD (rowOf (tabOf es) c) = RD at *
  generalize ks (rowOf (tabOf es) c) = KS at *
  simp [shSum, bLcE, items, hk, c2, e6]
/-- what is shown of the two products -/
structure ShI (es : List Ev) (l : List Ev) (u d : Nat) : Prop where
  d0 : 0 < d
  us : u < 2 ^ (8 * l.length + 1)
  ds : d < 2 ^ (8 * l.length + 1)
  q : mkRat u d = shq es l
theorem shI_nil (es : List Ev) : ShI es [] 1 1 := ⟨by decide, by decide, by decide, by unfold shq; simp only [List.foldl_nil]; rfl⟩
theorem shI_snoc {es l : List Ev} {u d : Nat} (hes : es.length < 2 ^ 8) (h : ShI es l u d) (e : Ev) : ShI es (l ++ [e]) (u * es.count e) (d * max 1 (tot es e.1)) := by
  have hc := count_le_tot es e
  have ht := tot_le es e.1
  have p8 : (2 : Nat) ^ (8 * (l ++ [e]).length + 1) = 2 ^ (8 * l.length + 1) * 2 ^ 8 := by rw [← Nat.pow_add]; congr 1; simp; omega
  have mul_lt : ∀ {a b : Nat}, a < 2 ^ (8 * l.length + 1) → b < 2 ^ 8 → a * b < 2 ^ (8 * (l ++ [e]).length + 1) := fun {a b} h1 h2 => by
    rw [p8]
    exact Nat.lt_of_le_of_lt (Nat.mul_le_mul_left _ (Nat.le_of_lt h2)) (Nat.mul_lt_mul_of_pos_right h1 (by decide))
  refine ⟨Nat.mul_pos h.d0 (by omega), mul_lt h.us (by omega), mul_lt h.ds (by omega), ?_⟩
  have : shq es (l ++ [e]) = shq es l * pq es e := by unfold shq; rw [List.foldl_append]; rfl
  rw [this, ← h.q]
  have e2 : pq es e = mkRat (es.count e) (max 1 (tot es e.1)) := by
    unfold pq
    by_cases z : tot es e.1 = 0
    · have : es.count e = 0 := by omega
      rw [z, this]; rw [Int.natCast_zero, Rat.zero_mkRat, Rat.zero_mkRat]
    · rw [Nat.max_eq_right (by omega)]
  rw [e2, Rat.mkRat_mul_mkRat]
  congr 1
end
end KN
set_option maxHeartbeats 400000
/-! PY: what is a name, a book, of whatever thing; refusals; the laws' own rows -/
namespace KN
open PySem PySem.Spec PyProof.Rows L2
noncomputable section
def ltrB (c : Nat) : Bool := decide (97 ≤ c ∧ c ≤ 122)
def isNameD : D → Bool
  | .str s => decide (1 ≤ s.length) && (decide (s.length ≤ 8) && s.all ltrB)
  | _ => false
def isBookD : D → Bool
  | .tup xs => decide (1 ≤ xs.length) && (decide (xs.length ≤ 8) && xs.all isNameD)
  | _ => false
abbrev LET : Tx := [97, 98, 99, 100, 101, 102, 103, 104, 105, 106, 107, 108, 109, 110, 111, 112, 113, 114, 115, 116, 117, 118, 119, 120, 121, 122]
theorem sub_mem {c : Nat} {t : Tx} (h : subT [c] t = true) : c ∈ t := by
  unfold subT at h
  obtain ⟨i, hi, h⟩ := List.any_eq_true.mp h
  rw [Bool.and_eq_true] at h
  have h2 : (t.drop i).take 1 = [c] := by simpa using h.2
  have : c ∈ (t.drop i).take 1 := by rw [h2]; simp
  exact List.mem_of_mem_drop (List.mem_of_mem_take this)
theorem letterIn (c : Nat) : dInB (.str [c]) (.str LET) = .ok (ltrB c) := by
  by_cases h : 97 ≤ c ∧ c ≤ 122
  · have := letter_in h
    have e : ltrB c = true := decide_eq_true h
    rw [e]
    have : (dInB (.str [c]) (.str LET)).bind (fun b => R.ok (D.bl b)) = .ok (.bl true) := this
    show R.ok (subT [c] LET) = _
    have z : R.ok (D.bl (subT [c] LET)) = .ok (.bl true) := this
    injection z with z
    injection z with z
    rw [z]
  · have e : ltrB c = false := decide_eq_false h
    rw [e]
    show R.ok (subT [c] LET) = _
    cases z : subT [c] LET with
    | false => rfl
    | true =>
      have m := sub_mem z
      have e2 : LET = List.range' 97 26 := by decide
      rw [e2, List.mem_range'_1] at m
      omega
theorem all_bl {α : Type} (f : α → Bool) (l : List α) : dAll [.lst (l.map fun a => D.bl (f a))] = .ok (.bl (l.all f)) := by
  have e : (l.map fun a => D.bl (f a)) = (l.map f).map D.bl := by rw [List.map_map]; rfl
  rw [e]
  show ((o2r (asBls ((l.map f).map D.bl))).bind fun ns => R.ok (D.bl (ns.all id))) = _
  rw [asBls_map, o2r_some]
  show R.ok (D.bl ((l.map f).all id)) = _
  rw [List.all_map]
  rfl
theorem isNameG {d : D} (h : ∀ s, d = .str s → s.length ≤ lim) : g_is_name [d] = .ok (.bl (isNameD d)) := by
  unfold g_is_name
  rw [fnD_e]
  cases d with
  | str s =>
    have hl := h s rfl
    have comp := lcGo_map (bd := bdN 1) (elt := b2 dIn (bVar 1) (bC (.str [97, 98, 99, 100, 101, 102, 103, 104, 105, 106, 107, 108, 109, 110, 111, 112, 113, 114, 115, 116, 117, 118, 119, 120, 121, 122]))) (γ := wipeG [.va (.str s), .un] [1]) (inj := fun c : Nat => D.str [c]) (f := fun c => .bl (ltrB c)) (l := s) fun c hc => ⟨_, rfl, by
      have : dIn (.str [c]) (.str LET) = .ok (.bl (ltrB c)) := by unfold dIn; rw [letterIn]; rfl
      simp [wipeG, this]⟩
    have c2 := lcOut_e comp (by rw [List.length_map]; exact hl)
    have a1 := all_bl ltrB s
    by_cases h1 : (1 : Int) ≤ s.length
    · have h1' : 1 ≤ s.length := by omega
      by_cases h2 : (s.length : Int) ≤ 8
      · have h2' : s.length ≤ 8 := by omega
        simp [m_is_name, bAnd, dIsi, isT, bCh, dLen, hl, h1, h2, h1', h2', bLcE, items, sgn, c2, a1, isNameD]
      · have h2' : ¬ s.length ≤ 8 := by omega
        simp [m_is_name, bAnd, dIsi, isT, bCh, dLen, hl, h1, h2, h1', h2', isNameD]
    · have h1' : ¬ 1 ≤ s.length := by omega
      simp [m_is_name, bAnd, dIsi, isT, bCh, dLen, hl, h1, h1', isNameD]
  | _ => simp [m_is_name, bAnd, dIsi, isT, isNameD]
theorem isBookG {d : D} (h : ∀ xs, d = .tup xs → xs.length ≤ lim ∧ ∀ e ∈ xs, ∀ s, e = .str s → s.length ≤ lim) : g_is_book [d] = .ok (.bl (isBookD d)) := by
  unfold g_is_book
  rw [fnD_e]
  cases d with
  | tup xs =>
    obtain ⟨hl, hc⟩ := h xs rfl
    have comp := lcGo_map (bd := bdN 1) (elt := bCall g_is_name (bCons (bVar 1) (bNil))) (γ := wipeG [.va (.tup xs), .un] [1]) (inj := fun e : D => e) (f := fun e => .bl (isNameD e)) (l := xs) fun e he => ⟨_, rfl, by
      have := isNameG (d := e) fun s hs => hc e he s hs
      simp [wipeG, this]⟩
    rw [List.map_id'] at comp
    have c2 := lcOut_e comp (by rw [List.length_map]; exact hl)
    have a1 := all_bl isNameD xs
    by_cases h1 : (1 : Int) ≤ xs.length
    · have h1' : 1 ≤ xs.length := by omega
      by_cases h2 : (xs.length : Int) ≤ 8
      · have h2' : xs.length ≤ 8 := by omega
        simp [m_is_book, bAnd, dIsi, isT, bCh, h1, h2, h1', h2', bLcE, items, c2, a1, isBookD]
      · have h2' : ¬ xs.length ≤ 8 := by omega
        simp [m_is_book, bAnd, dIsi, isT, bCh, h1, h2, h1', h2', isBookD]
    · have h1' : ¬ 1 ≤ xs.length := by omega
      simp [m_is_book, bAnd, dIsi, isT, bCh, h1, h1', isBookD]
  | _ => simp [m_is_book, bAnd, dIsi, isT, isBookD]
theorem needBook_bad {d : D} (h : g_is_book [d] = .ok (.bl false)) : g_need_book [d] = .ex 0 := by
  unfold g_need_book
  rw [fnD_e]
  simp [m_need_book, h, fRaise]
/-! ### the laws' own rows -/
def lrEnd : Ga → R D := bIf (tVal (b2 dNe (bVar 2) (bC (.str [])))) (bSl (bVar 2) (pSo (b2 dSub (bC (.int 0)) (bN dMinT (bCons (bVar 1) (bCons (bN dLen (bCons (bVar 2) (bNil))) (bNil)))))) (pNo)) (bC (.str []))
theorem m__law_row_e : m__law_row = fSeq (fSet 3 lrEnd) (fRet (bGet (bCall g__law_counts (bCons (bVar 0) (bCons (bVar 1) (bNil)))) (bVar 3) (bC (.dic [])))) := rfl
theorem law_row_ok {b : List Tx} (hb : smallB b) {o : Nat} (ho : 1 ≤ o) {t : Tx} (ht : t.length ≤ 1000) (hc : chs t) : g__law_row [bkD b, .int o, .str t] = .ok (.dic (rowD (rowOf (tabOf (evB o b)) (endT o t)))) := by
  have lc := law_counts_ok hb ho
  have hg := get_tbl (tabOf (evB o b)) (endT o t)
  have lx : t.length ≤ lim := by rw [lim_val]; omega
  have ne : dNe (.str t) (.str []) = .ok (.bl (!(t == []))) := by
    rw [dNe_p (by rw [pl_str, List.all_eq_true]; intro c h; have := hc c h; simp; omega) (by simp), eqv_str]
  unfold g__law_row
  rw [fnD_e, m__law_row_e]
  have st : lrEnd [.va (bkD b), .va (.int o), .va (.str t), .un] = .ok (.str (endT o t)) := by
    unfold lrEnd
    generalize bkD b = B at *
    cases t with
    | nil =>
      have ne : dNe (.str []) (.str []) = .ok (.bl false) := ne
      simp [bIf, ne, endT]
    | cons c r =>
      have ne : dNe (.str (c :: r)) (.str []) = .ok (.bl true) := ne
      generalize hT : c :: r = T at *
      have hpos : 1 ≤ T.length := by rw [← hT]; simp
      have hm : dMinT [.int o, .int (T.length : Nat)] = .ok (.int ((min o T.length : Nat) : Int)) := by
        rw [dMinT_i]; congr 2; omega
      have hs : dSub (.int 0) (.int ((min o T.length : Nat) : Int)) = .ok (.int (-((min o T.length : Nat) : Int))) := by
        show R.ok (D.int (0 - _)) = _
        congr 2; omega
      have c2 : dSl (.str T) (some (-((min o T.length : Nat) : Int))) none = .ok (.str (endT o T)) := by
        show (if T.length ≤ lim then R.ok (D.str (cutL T (some (-((min o T.length : Nat) : Int))) none)) else .no) = _
        rw [if_pos lx, cut_neg _ (by omega) (by omega)]
        unfold endT
        congr 3
        omega
      generalize min o T.length = k at *
      generalize endT o T = z at *
      simp [bSl, pNo, pSo, toI, hm, hs, c2, ne, bIf, lx, dLen]
  unfold tblD at lc
  generalize bkD b = B at *
  generalize rowD (rowOf (tabOf (evB o b)) (endT o t)) = RD at *
  generalize (tabOf (evB o b)).map (fun e => (e.1, D.dic (rowD e.2))) = TD at *
  generalize endT o t = z at *
  simp [st, bGet, lc, hg]
/-! ### what sorted(row.items()) tells -/
end
end KN
set_option maxHeartbeats 400000
/-! PZ: the laws' own shares, name by name; sums -/
namespace KN
open PySem PySem.Spec PyProof.Rows L2
noncomputable section
def lhRow : Ga → R D := bCall g__law_row (bCons (bVar 0) (bCons (bVar 1) (bCons (bSl (bVar 2) (pNo) (pSo (bVar 5))) (bNil))))
def lhIn : Ga → R Fl := fSeq (fSet 6 lhRow) (fSeq (fSet 3 (b2 dMul (bVar 3) (bGet (bVar 6) (bSl (bVar 2) (pSo (bVar 5)) (pSo (b2 dAdd (bVar 5) (bC (.int 1))))) (bC (.int 0))))) (fSet 4 (b2 dMul (bVar 4) (bN dMax (bCons (bC (.int 1)) (bCons shSum (bNil)))))))
theorem m__law_share_e : m__law_share = fSeq (fSet 3 (bC (.int 1))) (fSeq (fSet 4 (bC (.int 1))) (fSeq (fForI (iR1 (b2 dAdd (bN dLen (bCons (bVar 2) (bNil))) (bC (.int 1)))) (bdN 5) lhIn) (fRet (bCall g__law_lowest (bCons (bVar 3) (bCons (bVar 4) (bNil))))))) := rfl
theorem lhIn_ok {b : List Tx} (hb : smallB b) {l : List Ev} {o : Nat} (ho : 1 ≤ o) {x : Tx} (hx : x.length ≤ 8) (hc : chs x) {i : Nat} (hi : i ≤ x.length) {u d : Nat} (h : ShI (evB o b) l u d) (hl : l.length ≤ 9) {s6 s7 : Sl} :
    ∃ s6', lhIn [.va (bkD b), .va (.int o), .va (.str x), .va (.int u), .va (.int d), .va (.int (i : Nat)), s6, s7] =
      .ok (.nx [.va (bkD b), .va (.int o), .va (.str x), .va (.int ((u * (evB o b).count (cStep x o i) : Nat) : Int)), .va (.int ((d * max 1 (tot (evB o b) (cStep x o i).1) : Nat) : Int)), .va (.int (i : Nat)), s6', s7]) := by
  have hes : (evB o b).length < 2 ^ 8 := by have := evB_small hb o; omega
  have lx : x.length ≤ lim := by rw [lim_val]; omega
  have c1 := cut1 lx i
  have c2 := cut2 lx i
  have lr := law_row_ok hb ho (t := x.take i) (by simp; omega) (fun c h => hc c (List.mem_of_mem_take h))
  unfold cStep
  generalize evB o b = es at *
  generalize hck : endT o (x.take i) = ck at *
  generalize hlt : (x.drop i).take 1 = lt at *
  have hv := (tabOk es).val ck lt
  have hget : (lookK (rowD (rowOf (tabOf es) ck)) lt).getD (.int 0) = .int (es.count (ck, lt) : Nat) := by
    rw [lookK_lk, lk_rowD, hv]
    by_cases z : es.count (ck, lt) = 0
    · rw [if_pos z, z]; rfl
    · rw [if_neg z]; rfl
  have hc := count_le_tot es (ck, lt)
  have ht := tot_le es ck
  have hc : es.count (ck, lt) ≤ tot es ck := hc
  have m1 : dMul (.int u) (.int (es.count (ck, lt) : Nat)) = .ok (.int ((u * es.count (ck, lt) : Nat) : Int)) := by
    rw [dMul_l (a := 8 * l.length + 1) (b := 8) (by have := h.us; omega) (by omega) (by omega), Int.natCast_mul]
  have m2 : dMul (.int d) (.int ((max 1 (tot es ck) : Nat) : Int)) = .ok (.int ((d * max 1 (tot es ck) : Nat) : Int)) := by
    rw [dMul_l (a := 8 * l.length + 1) (b := 8) (by have := h.ds; omega) (by omega) (by omega), Int.natCast_mul]
  have mx : dMax [.int 1, .int (tot es ck : Nat)] = .ok (.int ((max 1 (tot es ck) : Nat) : Int)) := by
    show R.ok (D.int (max 1 _)) = _
    congr 2; omega
  have ss := fun s0 s1 s2 s3 s4 s5 s7 => shSum_ok hes ck (s0 := s0) (s1 := s1) (s2 := s2) (s3 := s3) (s4 := s4) (s5 := s5) (s7 := s7)
  refine ⟨.va (.dic (rowD (rowOf (tabOf es) ck))), ?_⟩
  unfold lhIn
  generalize hS : shSum = S at *
  generalize rowD (rowOf (tabOf es) ck) = RD at *
  generalize bkD b = B at *
  generalize es.count (ck, lt) = cn at *
  generalize max 1 (tot es ck) = tn at *
  generalize tot es ck = tt at *
  generalize x.take i = xi at *
  simp [lhRow, bGet, bSl, pNo, pSo, toI, c1, c2, lr, hget, m1, m2, mx, ss]
theorem law_share_ok {b : List Tx} (hb : smallB b) {o : Nat} (ho : 1 ≤ o) {x : Tx} (hx : x.length ≤ 8) (hc : chs x) : g__law_share [bkD b, .int o, .str x] = .ok (frD (shareQ (evB o b) o x)) := by
  have hes : (evB o b).length < 2 ^ 8 := by have := evB_small hb o; omega
  have inner := forGo_inv (bd := bdN 5) (inj := fun i : Nat => D.int (0 + (i : Nat))) (l0 := List.range (x.length + 1)) (body := lhIn)
    (I := fun dn γ => ∃ (u d : Nat) (s5 s6 s7 : Sl), ShI (evB o b) (dn.map (cStep x o)) u d ∧ γ = [.va (bkD b), .va (.int o), .va (.str x), .va (.int u), .va (.int d), s5, s6, s7])
    (γ := [.va (bkD b), .va (.int o), .va (.str x), .va (.int 1), .va (.int 1), .un, .un, .un]) (fun dn i rest γ hr hI => by
      obtain ⟨u, d, s5, s6, s7, hI, rfl⟩ := hI
      obtain ⟨hi1, hi2⟩ := range_split hr
      obtain ⟨s6', st⟩ := lhIn_ok hb ho hx hc (i := i) (by omega) hI (by simp; omega) (s6 := s6) (s7 := s7)
      have nx := shI_snoc hes hI (cStep x o i)
      refine ⟨_, rfl, _, .inl ?_, _, _, .va (.int (i : Nat)), s6', s7, by rw [List.map_append]; exact nx, rfl⟩
      rw [← st]; simp) ⟨1, 1, .un, .un, .un, shI_nil _, rfl⟩
  obtain ⟨γ', i1, u, d, s5, s6, s7, hI, rfl⟩ := inner
  have hll : ((List.range (x.length + 1)).map (cStep x o)).length ≤ 9 := by simp; omega
  have lo := law_lowest_ok u d hI.d0 (m := 8 * 9 + 1) (Nat.lt_of_lt_of_le hI.ds (Nat.pow_le_pow_right (by decide) (by omega))) (by omega)
  have hq := hI.q
  rw [← evs_e] at hq
  rw [show shareQ (evB o b) o x = mkRat u d from hq.symm]
  have lx : x.length ≤ lim := by rw [lim_val]; omega
  have e5 : i2n (.int ((x.length : Int) + 1)) = .ok ((x.length : Int) + 1) := i2n_i (by omega)
  have e6 : ((x.length : Int) + 1).toNat = x.length + 1 := by omega
  unfold g__law_share
  rw [fnD_e, m__law_share_e]
  simp at i1
  generalize bkD b = B at *
  generalize frD (mkRat u d) = FF at *
  simp [fForI, iR1, dLen, lx, e5, e6, rng_e, i1, lo]
/-! ### sums -/
theorem low_add {p q : Rat} {a b : Nat} (hp : sz a p) (hq : sz b q) (hab : a + b ≤ 8000) : g__law_lowest [.int (p.num * q.den + q.num * p.den), .int ((p.den * q.den : Nat) : Int)] = .ok (frD (p + q)) := by
  obtain ⟨u, hu⟩ := nat_of (Int.add_nonneg (Int.mul_nonneg hp.1 (Int.natCast_nonneg q.den)) (Int.mul_nonneg hq.1 (Int.natCast_nonneg p.den)))
  have hd : p.den * q.den < 2 ^ (a + b) := by rw [Nat.pow_add]; exact Nat.mul_lt_mul'' hp.2.2 hq.2.2
  have l := law_lowest_ok u (p.den * q.den) (Nat.mul_pos p.den_pos q.den_pos) hd (by omega)
  rw [Rat.add_def', hu]
  exact l
def lsIn : Ga → R Fl := fBd (bdT [1, 2]) (bCall g__law_lowest (bCons (b2 dAdd (b2 dMul (bVar 1) (b2 dIx (bVar 3) (bC (.int 1)))) (b2 dMul (b2 dIx (bVar 3) (bC (.int 0))) (bVar 2))) (bCons (b2 dMul (bVar 2) (b2 dIx (bVar 3) (bC (.int 1)))) (bNil))))
theorem m__law_sum_e : m__law_sum = fSeq (fSet 1 (bC (.int 0))) (fSeq (fSet 2 (bC (.int 1))) (fSeq (fForE (bVar 0) (bdN 3) lsIn) (fRet (bTup (bCons (bVar 1) (bCons (bVar 2) (bNil))))))) := rfl
theorem lsIn_ok {s0 : Sl} {p q : Rat} {a b : Nat} (hp : sz a p) (hq : sz b q) (hab : a + b ≤ 8000) :
    lsIn [s0, .va (.int p.num), .va (.int (p.den : Int)), .va (frD q)] = .ok (.nx [s0, .va (.int (p + q).num), .va (.int ((p + q).den : Int)), .va (frD q)]) := by
  have e1 : dMul (.int p.num) (.int (q.den : Int)) = .ok (.int (p.num * q.den)) := dMul_l hp.abs (b := b) (by have := hq.2.2; omega) (by omega)
  have e3 : dMul (.int q.num) (.int (p.den : Int)) = .ok (.int (q.num * p.den)) := dMul_l hq.abs (b := a) (by have := hp.2.2; omega) (by omega)
  have e2 : dMul (.int (p.den : Int)) (.int (q.den : Int)) = .ok (.int ((p.den * q.den : Nat) : Int)) := by
    rw [dMul_l (a := a) (b := b) (by have := hp.2.2; omega) (by have := hq.2.2; omega) (by omega), Int.natCast_mul]
  have l := low_add hp hq hab
  unfold frD at *
  generalize p.num * (q.den : Int) = x1 at *
  generalize q.num * (p.den : Int) = x2 at *
  generalize p.den * q.den = x3 at *
  generalize hr : p + q = r at *
  simp [lsIn, fBd, at0, at1, e1, e2, e3, l, bdT]
  rfl
def sumQ (qs : List Rat) : Rat := qs.foldl (· + ·) 0
theorem sumQ_sz {n : Nat} {qs : List Rat} (h : ∀ q ∈ qs, sz n q) : sz ((n + 1) * qs.length + 1) (sumQ qs) := by
  have aux : ∀ (qs : List Rat) (a : Rat) (m : Nat), (∀ q ∈ qs, sz n q) → sz m a → sz ((n + 1) * qs.length + m) (qs.foldl (· + ·) a) := by
    intro qs
    induction qs with
    | nil => intro a m _ h; simpa using h
    | cons q qs ih =>
      intro a m hq h
      have := ih (a + q) (m + n + 1) (fun y hy => hq y (List.mem_cons_of_mem _ hy)) (sz_add h (hq q List.mem_cons_self))
      rw [List.foldl_cons, List.length_cons]
      refine sz_mono this ?_
      rw [Nat.mul_succ]; omega
  exact aux qs 0 1 h ⟨by decide, by decide, by decide⟩
theorem law_sum_ok {n : Nat} {qs : List Rat} (h : ∀ q ∈ qs, sz n q) (hn : (n + 1) * qs.length + 1 + n ≤ 8000) : g__law_sum [.lst (qs.map frD)] = .ok (frD (sumQ qs)) := by
  have loop := forGo_inv (bd := bdN 3) (inj := frD) (l0 := qs) (body := lsIn)
    (I := fun dn γ => ∃ s3, γ = [.va (.lst (qs.map frD)), .va (.int (sumQ dn).num), .va (.int ((sumQ dn).den : Int)), s3])
    (γ := [.va (.lst (qs.map frD)), .va (.int (0 : Rat).num), .va (.int ((0 : Rat).den : Int)), .un]) (fun dn q rest γ hr hI => by
      obtain ⟨s3, rfl⟩ := hI
      have hdl : dn.length + 1 ≤ qs.length := by have := congrArg List.length hr; simp at this; omega
      have s1 := sumQ_sz (n := n) (qs := dn) fun y hy => h y (by rw [hr]; simp [hy])
      have s2 := h q (by rw [hr]; simp)
      have hm : (n + 1) * dn.length ≤ (n + 1) * qs.length := Nat.mul_le_mul_left _ (by omega)
      have st := lsIn_ok (s0 := .va (.lst (qs.map frD))) s1 s2 (by omega)
      have e : sumQ (dn ++ [q]) = sumQ dn + q := by unfold sumQ; rw [List.foldl_append]; rfl
      rw [e]
      exact ⟨_, rfl, _, .inl st, _, rfl⟩) ⟨.un, rfl⟩
  obtain ⟨γ', l1, s3, rfl⟩ := loop
  unfold g__law_sum
  rw [fnD_e, m__law_sum_e]
  have l1 : forGo (bdN 3) lsIn (qs.map frD) [.va (.lst (qs.map frD)), .va (.int 0), .va (.int 1), .un] = _ := l1
  have l2 : 2 ≤ lim := by decide
  unfold frD at l1 ⊢
  generalize (qs.map fun q => D.tup [.int q.num, .int (q.den : Int)]) = QL at *
  simp [fForE, items, l1, l2]
end
end KN
set_option maxHeartbeats 400000
/-! QA: all names up to a length, as the laws go on themselves -/
namespace KN
open PySem PySem.Spec PyProof.Rows L2
noncomputable section
/-- all names with fewer than n letters, in the order in which the law finds them -/
def foundL (es : List Ev) (o n : Nat) : List Tx := (List.range n).flatMap fun k => (paths es o k).filter (ends es o)
theorem foundL_succ (es : List Ev) (o n : Nat) : foundL es o (n + 1) = foundL es o n ++ (paths es o n).filter (ends es o) := by
  unfold foundL; rw [List.range_succ, List.flatMap_append]; simp
def lmRow : Ga → R Fl := fSet 8 (bCall g__law_row (bCons (bVar 0) (bCons (bVar 1) (bCons (bVar 7) (bNil)))))
def lmEnd : Ga → R Fl := fIf (tVal (b2 dIn (bC (.str [])) (bVar 8))) (fApp 3 (bVar 7)) (fNil)
def lmMore : Ga → R D := bLcE (bN dSort (bCons (bVar 8) (bNil))) [9] (bdN 9) (tVal (b2 dNe (bVar 9) (bC (.str [])))) (b2 dAdd (bVar 7) (bVar 9))
def lmB : Ga → R Fl := fSeq lmRow (fSeq lmEnd (fSet 6 (b2 dAdd (bVar 6) lmMore)))
def lmOut : Ga → R Fl := fSeq (fSet 6 (bLst (bNil))) (fSeq (fForE (bVar 4) (bdN 7) lmB) (fSet 4 (bVar 6)))
theorem m__law_made_e : m__law_made = fSeq (fOwn 3 (bLst (bNil))) (fSeq (fSet 4 (bLst (bCons (bC (.str [])) (bNil)))) (fSeq (fForI (iR1 (b2 dAdd (bVar 2) (bC (.int 1)))) (bdN 5) lmOut) (fFz 3 (fRet (bVar 3))))) := rfl
theorem lmB_ok {b : List Tx} (hb : bookOk b) {o : Nat} (ho : 1 ≤ o) (hes : (evB o b).length < 64) {t : Tx} (ht : t.length ≤ 500) (htc : chs t) {F M : List Tx} (hF : F.length < lim) (hM : M.length + (nxt (evB o b) (endT o t)).length ≤ lim) {s2 s4 s5 s8 s9 : Sl} :
    ∃ t8, lmB [.va (bkD b), .va (.int o), s2, .ow (.lst (F.map .str)), s4, s5, .va (.lst (M.map .str)), .va (.str t), s8, s9] =
      .ok (.nx [.va (bkD b), .va (.int o), s2, .ow (.lst ((F ++ [t].filter (ends (evB o b) o)).map .str)), s4, s5, .va (.lst ((M ++ (nxt (evB o b) (endT o t)).map (t ++ ·)).map .str)), .va (.str t), t8, s9]) := by
  have lr := law_row_ok hb.small ho (t := t) (by omega) htc
  have hc : ∀ e ∈ evB o b, chs e.2 ∧ e.2.length ≤ 8 := fun e he => by
    refine ⟨(ev_ctx hb.2.2 he).2.2, ?_⟩
    obtain ⟨x, _, i, _, rfl⟩ := evB_mem he
    simp; omega
  have ir := in_row (es := evB o b) (endT o t) []
  have e0 : decide ((endT o t, []) ∈ evB o b) = ends (evB o b) o t := rfl
  rw [e0] at ir
  have lk := (tabOk (evB o b)).rlen (endT o t)
  have so := dSort_row (r := rowOf (tabOf (evB o b)) (endT o t)) (by omega)
  have hcr := fun l hl => row_chs (fun e he => (hc e he).1) (c := endT o t) (l := l) hl
  have hll : ∀ l ∈ ks (rowOf (tabOf (evB o b)) (endT o t)), l.length ≤ 8 := fun l hl => (hc _ (row_mem2.mp hl)).2
  have hk8 : (ks (rowOf (tabOf (evB o b)) (endT o t))).length ≤ 64 := by
    have : (ks (rowOf (tabOf (evB o b)) (endT o t))).length = (rowOf (tabOf (evB o b)) (endT o t)).length := by simp [ks]
    omega
  unfold nxt at *
  refine ⟨.va (.dic (rowD (rowOf (tabOf (evB o b)) (endT o t)))), ?_⟩
  have k1 : ∀ (s3 s6 : Sl), lmRow [.va (bkD b), .va (.int o), s2, s3, s4, s5, s6, .va (.str t), s8, s9] = .ok (.nx [.va (bkD b), .va (.int o), s2, s3, s4, s5, s6, .va (.str t), .va (.dic (rowD (rowOf (tabOf (evB o b)) (endT o t)))), s9]) := fun s3 s6 => set_e (by
    generalize bkD b = B at *
    simp [lr])
  generalize rowOf (tabOf (evB o b)) (endT o t) = rr at *
  generalize ends (evB o b) o = en at *
  have k2 : ∀ (s6 : Sl), lmEnd [.va (bkD b), .va (.int o), s2, .ow (.lst (F.map .str)), s4, s5, s6, .va (.str t), .va (.dic (rowD rr)), s9] = .ok (.nx [.va (bkD b), .va (.int o), s2, .ow (.lst ((F ++ [t].filter en).map .str)), s4, s5, s6, .va (.str t), .va (.dic (rowD rr)), s9]) := fun s6 => by
    have test : tVal (b2 dIn (bC (.str [])) (bVar 8)) [.va (bkD b), .va (.int o), s2, .ow (.lst (F.map .str)), s4, s5, s6, .va (.str t), .va (.dic (rowD rr)), s9] = .ok (en t) := by
      generalize rowD rr = RD at *
      generalize bkD b = B at *
      simp [ir]
    unfold lmEnd
    rw [fIf_e, test]
    cases z : en t with
    | false =>
      have : [t].filter en = [] := by simp [z]
      rw [this, List.append_nil]; rfl
    | true =>
      have : [t].filter en = [t] := by simp [z]
      rw [this, List.map_append]
      generalize bkD b = B at *
      simp only [R.bind, if_true]
      simp [fApp, owL, hF]
  have k3 : ∀ (s3 : Sl), fSet 6 (b2 dAdd (bVar 6) lmMore) [.va (bkD b), .va (.int o), s2, s3, s4, s5, .va (.lst (M.map .str)), .va (.str t), .va (.dic (rowD rr)), s9] = .ok (.nx [.va (bkD b), .va (.int o), s2, s3, s4, s5, .va (.lst ((M ++ ((sortT (ks rr)).filter fun l => !(l == [])).map (t ++ ·)).map .str)), .va (.str t), .va (.dic (rowD rr)), s9]) := fun s3 => by
    have comp := lcGo_fil (bd := bdN 9) (ifs := tVal (b2 dNe (bVar 9) (bC (.str [])))) (elt := b2 dAdd (bVar 7) (bVar 9)) (γ := wipeG [.va (bkD b), .va (.int o), s2, s3, s4, s5, .va (.lst (M.map .str)), .va (.str t), .va (.dic (rowD rr)), s9] [9]) (inj := D.str) (p := fun l => !(l == [])) (f := fun l => .str (t ++ l)) (l := sortT (ks rr)) fun l hl => ⟨_, rfl, by
      have hm : l ∈ ks rr := (sortT_perm _).mem_iff.mp hl
      have ne : dNe (.str l) (.str []) = .ok (.bl (!(l == []))) := by
        rw [dNe_p (by rw [pl_str]; exact (hcr l hm).all) (by simp), eqv_str]
      simp [wipeG, ne], fun _ => by
      have hm : l ∈ ks rr := (sortT_perm _).mem_iff.mp hl
      have hl8 := hll l hm
      have hlt : t.length + l.length ≤ lim := by rw [lim_val]; omega
      have ad : dAdd (.str t) (.str l) = .ok (.str (t ++ l)) := by
        show (if t.length + l.length ≤ lim then R.ok (D.str (t ++ l)) else .no) = _
        rw [if_pos hlt]
      generalize M.map D.str = MS at *
      generalize rowD rr = RD at *
      generalize bkD b = B at *
      simp [wipeG]
      exact ad⟩
    have c2 := lcE_e (γ := [.va (bkD b), .va (.int o), s2, s3, s4, s5, .va (.lst (M.map .str)), .va (.str t), .va (.dic (rowD rr)), s9]) (fe := bN dSort (bCons (bVar 8) (bNil))) (d := .lst ((sortT (ks rr)).map D.str)) (by
      generalize rowD rr = RD at *
      generalize bkD b = B at *
      generalize M.map D.str = MS at *
      simp [so]) rfl comp (by
      rw [List.length_map]
      have h1 := List.length_filter_le (fun l : Tx => !(l == [])) (sortT (ks rr))
      have h2 : (sortT (ks rr)).length = (ks rr).length := (sortT_perm _).length_eq
      rw [lim_val]; omega)
    refine set_e ?_
    rw [b2_e]
    unfold lmMore
    rw [c2]
    show dAdd (.lst (M.map .str)) (.lst _) = _
    show (if (M.map D.str).length + _ ≤ lim then R.ok (D.lst (M.map D.str ++ _)) else .no) = _
    rw [if_pos (by rw [List.length_map, List.length_map]; exact hM), List.map_append, List.map_map]
    rfl
  unfold lmB
  rw [seq_nx (k1 _ _), seq_nx (k2 _), k3]
theorem law_made_ok {b : List Tx} (hb : bookOk b) {o : Nat} (ho : 1 ≤ o) (hes : (evB o b).length < 64) {m : Nat} (hm : m ≤ 100) (hN : Nar (evB o b) o (m + 1)) (hF : (foundL (evB o b) o (m + 1)).length < lim) (hch : ∀ k, k ≤ m → ∀ t ∈ paths (evB o b) o k, chs t) :
    g__law_made [bkD b, .int o, .int m] = .ok (.lst ((foundL (evB o b) o (m + 1)).map .str)) := by
  have hlen : ∀ e ∈ evB o b, e.2.length ≤ 1 := fun e he => by
    obtain ⟨x, _, i, _, rfl⟩ := evB_mem he
    simp; omega
  have pl := path_len hlen o
  have step : ∀ k, k ≤ m → ∀ (s5 s6 s7 s8 : Sl), ∃ t7 t8, lmOut [.va (bkD b), .va (.int o), .va (.int m), .ow (.lst ((foundL (evB o b) o k).map .str)), .va (.lst ((paths (evB o b) o k).map .str)), s5, s6, s7, s8, .un] =
      .ok (.nx [.va (bkD b), .va (.int o), .va (.int m), .ow (.lst ((foundL (evB o b) o (k + 1)).map .str)), .va (.lst ((paths (evB o b) o (k + 1)).map .str)), s5, .va (.lst ((paths (evB o b) o (k + 1)).map .str)), t7, t8, .un]) := by
    intro k hk s5 s6 s7 s8
    have hk1 := hN (k + 1) (by omega)
    have hFk : (foundL (evB o b) o (k + 1)).length < lim := by
      refine Nat.lt_of_le_of_lt ?_ hF
      unfold foundL
      have : List.range (m + 1) = List.range (k + 1) ++ (List.range (m - k)).map fun i => k + 1 + i := by
        have e : m + 1 = (k + 1) + (m - k) := by omega
        rw [e, List.range_add]
      rw [this, List.flatMap_append, List.length_append]
      omega
    obtain ⟨γ', l1, t7, t8, rfl⟩ := forGo_inv (bd := bdN 7) (inj := D.str) (l0 := paths (evB o b) o k) (body := lmB)
      (I := fun dn γ => ∃ t7 t8, γ = [.va (bkD b), .va (.int o), .va (.int m), .ow (.lst ((foundL (evB o b) o k ++ dn.filter (ends (evB o b) o)).map .str)), .va (.lst ((paths (evB o b) o k).map .str)), s5, .va (.lst ((grow (evB o b) o dn).map .str)), t7, t8, .un])
      (γ := [.va (bkD b), .va (.int o), .va (.int m), .ow (.lst ((foundL (evB o b) o k).map .str)), .va (.lst ((paths (evB o b) o k).map .str)), s5, .va (.lst []), s7, s8, .un]) (fun dn t rest γ hr hI => by
        obtain ⟨t7, t8, rfl⟩ := hI
        have htm : t ∈ paths (evB o b) o k := by rw [hr]; simp
        have eg : grow (evB o b) o (dn ++ [t]) = grow (evB o b) o dn ++ (nxt (evB o b) (endT o t)).map (t ++ ·) := by
          rw [grow_app]; congr 1; unfold grow; simp
        have hsz : (grow (evB o b) o dn).length + (nxt (evB o b) (endT o t)).length ≤ lim := by
          have : grow (evB o b) o (paths (evB o b) o k) = grow (evB o b) o dn ++ ((nxt (evB o b) (endT o t)).map (t ++ ·) ++ grow (evB o b) o rest) := by
            rw [hr, grow_app]; congr 1
          have h2 : (grow (evB o b) o (paths (evB o b) o k)).length ≤ lim := hk1
          rw [this] at h2
          simp at h2
          omega
        have hF2 : (foundL (evB o b) o k ++ dn.filter (ends (evB o b) o)).length < lim := by
          rw [foundL_succ, hr, List.filter_append] at hFk
          simp only [List.length_append] at hFk ⊢
          omega
        obtain ⟨u8, st⟩ := lmB_ok hb ho hes (t := t) (by rw [pl k t htm]; omega) (hch k hk t htm) hF2 hsz (s2 := .va (.int m)) (s4 := .va (.lst ((paths (evB o b) o k).map .str))) (s5 := s5) (s8 := t8) (s9 := .un)
        refine ⟨_, rfl, _, .inl st, .va (.str t), u8, ?_⟩
        rw [eg, List.filter_append, List.append_assoc]) ⟨s7, s8, by simp [grow]⟩
    refine ⟨t7, t8, ?_⟩
    unfold lmOut
    rw [seq_nx (γ' := [.va (bkD b), .va (.int o), .va (.int m), .ow (.lst ((foundL (evB o b) o k).map .str)), .va (.lst ((paths (evB o b) o k).map .str)), s5, .va (.lst []), s7, s8, .un]) (set_e nilE)]
    have ef := forE_e (γ := [.va (bkD b), .va (.int o), .va (.int m), .ow (.lst ((foundL (evB o b) o k).map .str)), .va (.lst ((paths (evB o b) o k).map .str)), s5, .va (.lst []), s7, s8, .un]) (fe := bVar 4) (d := .lst ((paths (evB o b) o k).map .str)) rfl rfl (fun es h => nomatch h) l1
    rw [seq_nx ef, ← foundL_succ]
    rfl
  obtain ⟨γ', l1, s5, s6, s7, s8, rfl⟩ := forGo_inv (bd := bdN 5) (inj := fun i : Nat => D.int (0 + (i : Nat))) (l0 := List.range (m + 1)) (body := lmOut)
    (I := fun dn γ => ∃ s5 s6 s7 s8, γ = [.va (bkD b), .va (.int o), .va (.int m), .ow (.lst ((foundL (evB o b) o dn.length).map .str)), .va (.lst ((paths (evB o b) o dn.length).map .str)), s5, s6, s7, s8, .un])
    (γ := [.va (bkD b), .va (.int o), .va (.int m), .ow (.lst []), .va (.lst [.str []]), .un, .un, .un, .un, .un]) (fun dn i rest γ hr hI => by
      obtain ⟨s5, s6, s7, s8, rfl⟩ := hI
      obtain ⟨hi1, hi2⟩ := range_split hr
      obtain ⟨t7, t8, st⟩ := step dn.length (by omega) (.va (.int (0 + (i : Nat)))) s6 s7 s8
      refine ⟨_, rfl, _, .inl st, .va (.int (0 + (i : Nat))), .va (.lst ((paths (evB o b) o (dn.length + 1)).map .str)), t7, t8, ?_⟩
      rw [List.length_append]; rfl) ⟨.un, .un, .un, .un, rfl⟩
  rw [List.length_range] at l1
  have l1' : 1 ≤ lim := by decide
  unfold g__law_made
  refine fn_rt ?_
  rw [m__law_made_e]
  show fSeq _ _ [.va (bkD b), .va (.int o), .va (.int m), .un, .un, .un, .un, .un, .un, .un] = _
  rw [seq_nx (γ' := [.va (bkD b), .va (.int o), .va (.int m), .ow (.lst []), .un, .un, .un, .un, .un, .un]) (by rw [fOwn_e, nilE]; rfl)]
  rw [seq_nx (γ' := [.va (bkD b), .va (.int o), .va (.int m), .ow (.lst []), .va (.lst [.str []]), .un, .un, .un, .un, .un]) (set_e (by simp [l1']))]
  have ef : fForI (iR1 (b2 dAdd (bVar 2) (bC (.int 1)))) (bdN 5) lmOut [.va (bkD b), .va (.int o), .va (.int m), .ow (.lst []), .va (.lst [.str []]), .un, .un, .un, .un, .un] = .ok (.nx [.va (bkD b), .va (.int o), .va (.int m), .ow (.lst ((foundL (evB o b) o (m + 1)).map .str)), .va (.lst ((paths (evB o b) o (m + 1)).map .str)), s5, s6, s7, s8, .un]) := by
    unfold fForI
    rw [iR1_s (fa := b2 dAdd (bVar 2) (bC (.int 1))) (n := m + 1) (by
      generalize bkD b = B at *
      simp) (by omega)]
    exact l1
  rw [seq_nx ef, fFz_e]
  rfl
end
end KN
set_option maxHeartbeats 400000
/-! QB: what is found, by lengths; its shares; its sizes -/
namespace KN
open PySem PySem.Spec PyProof.Rows L2
noncomputable section
def PE (es : List Ev) (o k : Nat) : List Tx := (paths es o k).filter (ends es o)
theorem made_eq (es : List Ev) (o k : Nat) : made es o k = sortT (PE es o k) := rfl
theorem PE_len {es : List Ev} (hc : ∀ e ∈ es, e.2.length ≤ 1) {o k : Nat} {t : Tx} (h : t ∈ PE es o k) : t.length = k := path_len hc o k t (List.mem_filter.mp h).1
theorem PE_made {es : List Ev} {o k : Nat} {t : Tx} : t ∈ PE es o k ↔ t ∈ made es o k := by rw [made_eq, (sortT_perm _).mem_iff]
theorem foundL_mem {es : List Ev} {o n : Nat} {t : Tx} : t ∈ foundL es o n ↔ ∃ k, k < n ∧ t ∈ PE es o k := by
  unfold foundL
  rw [List.mem_flatMap]
  constructor
  · rintro ⟨k, hk, h⟩; exact ⟨k, List.mem_range.mp hk, h⟩
  · rintro ⟨k, hk, h⟩; exact ⟨k, List.mem_range.mpr hk, h⟩
theorem foundL_len {es : List Ev} (hc : ∀ e ∈ es, e.2.length ≤ 1) {o : Nat} {k : Nat} : ∀ n, k < n → (foundL es o n).filter (fun t => decide (t.length = k)) = PE es o k
  | 0, h => by omega
  | n + 1, h => by
    rw [foundL_succ, List.filter_append]
    by_cases hk : k < n
    · rw [foundL_len hc n hk]
      have : (PE es o n).filter (fun t => decide (t.length = k)) = [] := List.filter_eq_nil_iff.mpr fun t ht => by
        have := PE_len hc ht
        simp; omega
      show PE es o k ++ (PE es o n).filter _ = _
      rw [this, List.append_nil]
    · have e : k = n := by omega
      subst e
      have h1 : (foundL es o k).filter (fun t => decide (t.length = k)) = [] := List.filter_eq_nil_iff.mpr fun t ht => by
        obtain ⟨j, hj, h⟩ := foundL_mem.mp ht
        have := PE_len hc h
        simp; omega
      have h2 : (PE es o k).filter (fun t => decide (t.length = k)) = PE es o k := List.filter_eq_self.mpr fun t ht => by
        have := PE_len hc ht
        simp [this]
      show (foundL es o k).filter _ ++ (PE es o k).filter _ = _
      rw [h1, h2, List.nil_append]
theorem foundL_le {es : List Ev} (hc : ∀ e ∈ es, e.2.length ≤ 1) {o : Nat} {k : Nat} : ∀ n, k < n → (foundL es o n).filter (fun t => decide (t.length ≤ k)) = foundL es o (k + 1)
  | 0, h => by omega
  | n + 1, h => by
    rw [foundL_succ, List.filter_append]
    by_cases hk : k < n
    · rw [foundL_le hc n hk]
      have : (PE es o n).filter (fun t => decide (t.length ≤ k)) = [] := List.filter_eq_nil_iff.mpr fun t ht => by
        have := PE_len hc ht
        simp; omega
      show foundL es o (k + 1) ++ (PE es o n).filter _ = _
      rw [this, List.append_nil]
    · have e : k = n := by omega
      subst e
      have h1 : (foundL es o k).filter (fun t => decide (t.length ≤ k)) = foundL es o k := List.filter_eq_self.mpr fun t ht => by
        obtain ⟨j, hj, h⟩ := foundL_mem.mp ht
        have := PE_len hc h
        simp; omega
      have h2 : (PE es o k).filter (fun t => decide (t.length ≤ k)) = PE es o k := List.filter_eq_self.mpr fun t ht => by
        have := PE_len hc ht
        simp [this]
      show (foundL es o k).filter _ ++ (PE es o k).filter _ = _
      rw [h1, h2, foundL_succ]; rfl
theorem PE_sum (es : List Ev) (o k : Nat) : rS ((PE es o k).map (shareQ es o)) = lenQ es o k := by
  unfold lenQ
  rw [made_eq]
  exact (rS_perm ((sortT_perm _).map _)).symm
theorem found_sum {b : List Tx} (hb : bookOk b) {o : Nat} (ho : 1 ≤ o ∧ o ≤ 3) : ∀ n, rS ((foundL (evB o b) o (n + 1)).map (shareQ (evB o b) o)) = upQ (evB o b) o n
  | 0 => by
    rw [foundL_succ, List.map_append, rS_app]
    show rS [] + rS ((PE (evB o b) o 0).map _) = rS []
    rw [PE_sum, len_zero hb ho, rS_nil, Rat.add_zero]
  | n + 1 => by
    rw [foundL_succ, List.map_append, rS_app, found_sum hb ho n, up_succ]
    congr 1
    exact PE_sum _ _ _
theorem ev1 {o : Nat} {b : List Tx} : ∀ e ∈ evB o b, e.2.length ≤ 1 := fun e he => by
  obtain ⟨x, _, i, _, rfl⟩ := evB_mem he
  simp; omega
theorem found_name {b : List Tx} (hb : bookOk b) {o : Nat} (ho : 1 ≤ o ∧ o ≤ 3) {n : Nat} (hn : n ≤ 9) {t : Tx} (h : t ∈ foundL (evB o b) o n) : nameOk t := by
  obtain ⟨k, hk, hm⟩ := foundL_mem.mp h
  have hl := PE_len ev1 hm
  by_cases z : k = 0
  · subst z
    have : t = [] := List.length_eq_zero_iff.mp hl
    subst this
    have := (List.mem_filter.mp hm).2
    unfold ends at this
    have e : endT o ([] : Tx) = [] := endT_nil o
    rw [e] at this
    exact absurd (of_decide_eq_true this) (no_void hb ho.1)
  · exact made_name hb ho.2 (n := k) (by omega) (PE_made.mp hm)
theorem PE_pow {es : List Ev} {a : Nat} (h : ∀ c, (nxt es c).length ≤ a) (o n : Nat) : (PE es o n).length ≤ a ^ n := Nat.le_trans (List.length_filter_le _ _) (path_pow h o n)
theorem found4 {es : List Ev} (h : ∀ c, (nxt es c).length ≤ 3) (o : Nat) : (foundL es o 4).length ≤ 40 := by
  have h0 := PE_pow h o 0
  have h1 := PE_pow h o 1
  have h2 := PE_pow h o 2
  have h3 := PE_pow h o 3
  have e : foundL es o 4 = PE es o 0 ++ PE es o 1 ++ PE es o 2 ++ PE es o 3 := by
    rw [foundL_succ, foundL_succ, foundL_succ, foundL_succ]; rfl
  rw [e]
  simp only [List.length_append]
  omega
theorem path_chs {b : List Tx} (hb : bookOk b) {o : Nat} : ∀ (k : Nat) (t : Tx), t ∈ paths (evB o b) o k → chs t
  | 0, t, h => by
    rw [List.mem_singleton.mp h]; exact fun _ h => nomatch h
  | k + 1, t, h => by
    obtain ⟨u, hu, h⟩ := List.mem_flatMap.mp h
    obtain ⟨l, hl, rfl⟩ := List.mem_map.mp h
    have ih := path_chs hb k u hu
    have hl2 := (ev_ctx hb.2.2 (nxt_mem.mp hl).1).2.2
    intro c hc
    rcases List.mem_append.mp hc with h | h
    · exact ih c h
    · exact hl2 c h
/-! ### lengths told -/
def lensL (es : List Ev) (o : Nat) : List Int := ((List.range 8).filter fun i => decide (made es o (i + 1) ≠ [])).map fun i : Nat => ((i : Nat) : Int) + 1
theorem lens_mem {es : List Ev} {o : Nat} {i : Int} : i ∈ lensL es o ↔ ∃ n : Nat, 1 ≤ n ∧ n ≤ 8 ∧ i = n ∧ made es o n ≠ [] := by
  unfold lensL
  rw [List.mem_map]
  constructor
  · rintro ⟨j, hj, e⟩
    obtain ⟨h1, h2⟩ := List.mem_filter.mp hj
    exact ⟨j + 1, by omega, by have := List.mem_range.mp h1; omega, by omega, by simpa using h2⟩
  · rintro ⟨n, h1, h2, e, h3⟩
    refine ⟨n - 1, List.mem_filter.mpr ⟨List.mem_range.mpr (by omega), ?_⟩, by omega⟩
    rw [show n - 1 + 1 = n by omega]
    simpa using h3
theorem lens_pw (es : List Ev) (o : Nat) : (lensL es o).Pairwise (· < ·) := by
  unfold lensL
  refine List.pairwise_map.mpr (List.Pairwise.filter _ ?_)
  exact List.pairwise_lt_range.imp fun h => by omega
theorem dSS_ints {l : List Int} (hl : l.length < 4000) : dSortSet (.lst (l.map .int)) = .ok (.lst ((sortI l.eraseDups).map .int)) := by
  cases l with
  | nil =>
    unfold dSortSet setOr
    simp [asSeq, asTxs, sortT, sortI]
  | cons a l =>
    have e : asTxs ((a :: l).map D.int) = none := rfl
    unfold dSortSet setOr
    simp only [asSeq, List.length_map, hl, if_true, e, asInts_map]
theorem found_lens {b : List Tx} (hb : bookOk b) {o : Nat} (ho : 1 ≤ o ∧ o ≤ 3) {n : Nat} (hn : n ≤ 9) : (lensL (evB o b) o).filter (fun i => decide (i < (n : Int))) = sortI (((foundL (evB o b) o n).map fun t => ((t.length : Nat) : Int)).eraseDups) := by
  refine sorted_uniq (r := fun a b : Int => a ≤ b) (fun a b h k => by omega) ?_ ((List.Pairwise.filter _ (lens_pw _ o)).imp fun h => by omega) (sortI_pw _)
  refine (List.perm_ext_iff_of_nodup ((List.Pairwise.filter _ (lens_pw _ o)).imp fun h => by omega) ((sortI_perm _).nodup_iff.mpr (erase_nd _ _ (Nat.le_refl _)))).mpr fun i => ?_
  rw [List.mem_filter, lens_mem, (sortI_perm _).mem_iff, List.mem_eraseDups, List.mem_map]
  constructor
  · rintro ⟨⟨k, h1, h2, rfl, h3⟩, h4⟩
    have h4 : (k : Int) < n := by simpa using h4
    obtain ⟨t, ht⟩ := List.exists_mem_of_ne_nil _ h3
    have hm := PE_made.mpr ht
    exact ⟨t, foundL_mem.mpr ⟨k, by omega, hm⟩, by rw [PE_len ev1 hm]⟩
  · rintro ⟨t, ht, rfl⟩
    have hnm := found_name hb ho hn ht
    obtain ⟨k, hk, hm⟩ := foundL_mem.mp ht
    have hl := PE_len ev1 hm
    refine ⟨⟨k, by have := hnm.1; omega, by omega, by omega, List.ne_nil_of_mem (PE_made.mp hm)⟩, by simp; omega⟩
end
end KN
namespace KN
open PySem PySem.Spec PyProof.Rows L2
noncomputable section
abbrev erH : List Nat := [0, 1, 2, 3, 4, 5, 6, 7]
structure ErrSub (K : PySem.W.Frag) (e0 e1 e2 e3 e4 e5 e6 e7 : Addr) : Prop where
  s00 : PySem.W.subIn K (.ref e0) (.ref e0) = some true
  s01 : PySem.W.subIn K (.ref e0) (.ref e1) = some false
  s02 : PySem.W.subIn K (.ref e0) (.ref e2) = some false
  s03 : PySem.W.subIn K (.ref e0) (.ref e3) = some false
  s04 : PySem.W.subIn K (.ref e0) (.ref e4) = some false
  s05 : PySem.W.subIn K (.ref e0) (.ref e5) = some false
  s06 : PySem.W.subIn K (.ref e0) (.ref e6) = some false
  s07 : PySem.W.subIn K (.ref e0) (.ref e7) = some false
  s10 : PySem.W.subIn K (.ref e1) (.ref e0) = some false
  s11 : PySem.W.subIn K (.ref e1) (.ref e1) = some true
  s12 : PySem.W.subIn K (.ref e1) (.ref e2) = some false
  s13 : PySem.W.subIn K (.ref e1) (.ref e3) = some false
  s14 : PySem.W.subIn K (.ref e1) (.ref e4) = some false
  s15 : PySem.W.subIn K (.ref e1) (.ref e5) = some false
  s16 : PySem.W.subIn K (.ref e1) (.ref e6) = some false
  s17 : PySem.W.subIn K (.ref e1) (.ref e7) = some false
  s20 : PySem.W.subIn K (.ref e2) (.ref e0) = some false
  s21 : PySem.W.subIn K (.ref e2) (.ref e1) = some false
  s22 : PySem.W.subIn K (.ref e2) (.ref e2) = some true
  s23 : PySem.W.subIn K (.ref e2) (.ref e3) = some false
  s24 : PySem.W.subIn K (.ref e2) (.ref e4) = some false
  s25 : PySem.W.subIn K (.ref e2) (.ref e5) = some false
  s26 : PySem.W.subIn K (.ref e2) (.ref e6) = some false
  s27 : PySem.W.subIn K (.ref e2) (.ref e7) = some false
  s30 : PySem.W.subIn K (.ref e3) (.ref e0) = some false
  s31 : PySem.W.subIn K (.ref e3) (.ref e1) = some false
  s32 : PySem.W.subIn K (.ref e3) (.ref e2) = some false
  s33 : PySem.W.subIn K (.ref e3) (.ref e3) = some true
  s34 : PySem.W.subIn K (.ref e3) (.ref e4) = some false
  s35 : PySem.W.subIn K (.ref e3) (.ref e5) = some false
  s36 : PySem.W.subIn K (.ref e3) (.ref e6) = some false
  s37 : PySem.W.subIn K (.ref e3) (.ref e7) = some false
  s40 : PySem.W.subIn K (.ref e4) (.ref e0) = some false
  s41 : PySem.W.subIn K (.ref e4) (.ref e1) = some false
  s42 : PySem.W.subIn K (.ref e4) (.ref e2) = some false
  s43 : PySem.W.subIn K (.ref e4) (.ref e3) = some false
  s44 : PySem.W.subIn K (.ref e4) (.ref e4) = some true
  s45 : PySem.W.subIn K (.ref e4) (.ref e5) = some false
  s46 : PySem.W.subIn K (.ref e4) (.ref e6) = some false
  s47 : PySem.W.subIn K (.ref e4) (.ref e7) = some false
  s50 : PySem.W.subIn K (.ref e5) (.ref e0) = some false
  s51 : PySem.W.subIn K (.ref e5) (.ref e1) = some false
  s52 : PySem.W.subIn K (.ref e5) (.ref e2) = some false
  s53 : PySem.W.subIn K (.ref e5) (.ref e3) = some false
  s54 : PySem.W.subIn K (.ref e5) (.ref e4) = some false
  s55 : PySem.W.subIn K (.ref e5) (.ref e5) = some true
  s56 : PySem.W.subIn K (.ref e5) (.ref e6) = some false
  s57 : PySem.W.subIn K (.ref e5) (.ref e7) = some false
  s60 : PySem.W.subIn K (.ref e6) (.ref e0) = some false
  s61 : PySem.W.subIn K (.ref e6) (.ref e1) = some false
  s62 : PySem.W.subIn K (.ref e6) (.ref e2) = some false
  s63 : PySem.W.subIn K (.ref e6) (.ref e3) = some false
  s64 : PySem.W.subIn K (.ref e6) (.ref e4) = some false
  s65 : PySem.W.subIn K (.ref e6) (.ref e5) = some false
  s66 : PySem.W.subIn K (.ref e6) (.ref e6) = some true
  s67 : PySem.W.subIn K (.ref e6) (.ref e7) = some false
  s70 : PySem.W.subIn K (.ref e7) (.ref e0) = some false
  s71 : PySem.W.subIn K (.ref e7) (.ref e1) = some false
  s72 : PySem.W.subIn K (.ref e7) (.ref e2) = some false
  s73 : PySem.W.subIn K (.ref e7) (.ref e3) = some false
  s74 : PySem.W.subIn K (.ref e7) (.ref e4) = some false
  s75 : PySem.W.subIn K (.ref e7) (.ref e5) = some false
  s76 : PySem.W.subIn K (.ref e7) (.ref e6) = some false
  s77 : PySem.W.subIn K (.ref e7) (.ref e7) = some true
def errs_mk {K : PySem.W.Frag} {h : Heap} {mg : Str → Option Value} {e0 e1 e2 e3 e4 e5 e6 e7 L : Addr} (X : K.In h) (G : h.Ns mainGlobals mg) (EL : ErrL K L) (E0 : ErrOne K "NoBook" e0 L) (E1 : ErrOne K "NoOrder" e1 L) (E2 : ErrOne K "NoName" e2 L) (E3 : ErrOne K "NoWish" e3 L) (E4 : ErrOne K "NoNumber" e4 L) (E5 : ErrOne K "NotMade" e5 L) (E6 : ErrOne K "TooShort" e6 L) (E7 : ErrOne K "Nothing" e7 L) (S : ErrSub K e0 e1 e2 e3 e4 e5 e6 e7) : Errs erH K mg where
  e := fun c => match c with
    | 0 => e0
    | 1 => e1
    | 2 => e2
    | 3 => e3
    | 4 => e4
    | 5 => e5
    | 6 => e6
    | 7 => e7
    | _ => e0
  L := L
  g := PySem.W.mg_of X G EL.n
  x := fun c h => by
    simp only [erH, List.mem_cons, List.not_mem_nil, or_false] at h
    rcases h with rfl | rfl | rfl | rfl | rfl | rfl | rfl | rfl
    · exact E0.x X G
    · exact E1.x X G
    · exact E2.x X G
    · exact E3.x X G
    · exact E4.x X G
    · exact E5.x X G
    · exact E6.x X G
    · exact E7.x X G
  c := fun c h => by
    simp only [erH, List.mem_cons, List.not_mem_nil, or_false] at h
    rcases h with rfl | rfl | rfl | rfl | rfl | rfl | rfl | rfl
    · exact E0.c
    · exact E1.c
    · exact E2.c
    · exact E3.c
    · exact E4.c
    · exact E5.c
    · exact E6.c
    · exact E7.c
  val := fun c h => by
    simp only [erH, List.mem_cons, List.not_mem_nil, or_false] at h
    rcases h with rfl | rfl | rfl | rfl | rfl | rfl | rfl | rfl
    · exact kit_val E0.v
    · exact kit_val E1.v
    · exact kit_val E2.v
    · exact kit_val E3.v
    · exact kit_val E4.v
    · exact kit_val E5.v
    · exact kit_val E6.v
    · exact kit_val E7.v
  exm := fun c h => by
    simp only [erH, List.mem_cons, List.not_mem_nil, or_false] at h
    rcases h with rfl | rfl | rfl | rfl | rfl | rfl | rfl | rfl
    · exact PySem.W.exm_ref EL.b EL.hd EL.t E0.l
    · exact PySem.W.exm_ref EL.b EL.hd EL.t E1.l
    · exact PySem.W.exm_ref EL.b EL.hd EL.t E2.l
    · exact PySem.W.exm_ref EL.b EL.hd EL.t E3.l
    · exact PySem.W.exm_ref EL.b EL.hd EL.t E4.l
    · exact PySem.W.exm_ref EL.b EL.hd EL.t E5.l
    · exact PySem.W.exm_ref EL.b EL.hd EL.t E6.l
    · exact PySem.W.exm_ref EL.b EL.hd EL.t E7.l
  kit := fun c i h1 h2 => by
    simp only [erH, List.mem_cons, List.not_mem_nil, or_false] at h1 h2
    rcases h1 with rfl | rfl | rfl | rfl | rfl | rfl | rfl | rfl <;> rcases h2 with rfl | rfl | rfl | rfl | rfl | rfl | rfl | rfl
    · exact kit_cls E0.hd E0.t S.s00 S.s00
    · exact kit_cls E1.hd E1.t S.s01 S.s11
    · exact kit_cls E2.hd E2.t S.s02 S.s22
    · exact kit_cls E3.hd E3.t S.s03 S.s33
    · exact kit_cls E4.hd E4.t S.s04 S.s44
    · exact kit_cls E5.hd E5.t S.s05 S.s55
    · exact kit_cls E6.hd E6.t S.s06 S.s66
    · exact kit_cls E7.hd E7.t S.s07 S.s77
    · exact kit_cls E0.hd E0.t S.s10 S.s00
    · exact kit_cls E1.hd E1.t S.s11 S.s11
    · exact kit_cls E2.hd E2.t S.s12 S.s22
    · exact kit_cls E3.hd E3.t S.s13 S.s33
    · exact kit_cls E4.hd E4.t S.s14 S.s44
    · exact kit_cls E5.hd E5.t S.s15 S.s55
    · exact kit_cls E6.hd E6.t S.s16 S.s66
    · exact kit_cls E7.hd E7.t S.s17 S.s77
    · exact kit_cls E0.hd E0.t S.s20 S.s00
    · exact kit_cls E1.hd E1.t S.s21 S.s11
    · exact kit_cls E2.hd E2.t S.s22 S.s22
    · exact kit_cls E3.hd E3.t S.s23 S.s33
    · exact kit_cls E4.hd E4.t S.s24 S.s44
    · exact kit_cls E5.hd E5.t S.s25 S.s55
    · exact kit_cls E6.hd E6.t S.s26 S.s66
    · exact kit_cls E7.hd E7.t S.s27 S.s77
    · exact kit_cls E0.hd E0.t S.s30 S.s00
    · exact kit_cls E1.hd E1.t S.s31 S.s11
    · exact kit_cls E2.hd E2.t S.s32 S.s22
    · exact kit_cls E3.hd E3.t S.s33 S.s33
    · exact kit_cls E4.hd E4.t S.s34 S.s44
    · exact kit_cls E5.hd E5.t S.s35 S.s55
    · exact kit_cls E6.hd E6.t S.s36 S.s66
    · exact kit_cls E7.hd E7.t S.s37 S.s77
    · exact kit_cls E0.hd E0.t S.s40 S.s00
    · exact kit_cls E1.hd E1.t S.s41 S.s11
    · exact kit_cls E2.hd E2.t S.s42 S.s22
    · exact kit_cls E3.hd E3.t S.s43 S.s33
    · exact kit_cls E4.hd E4.t S.s44 S.s44
    · exact kit_cls E5.hd E5.t S.s45 S.s55
    · exact kit_cls E6.hd E6.t S.s46 S.s66
    · exact kit_cls E7.hd E7.t S.s47 S.s77
    · exact kit_cls E0.hd E0.t S.s50 S.s00
    · exact kit_cls E1.hd E1.t S.s51 S.s11
    · exact kit_cls E2.hd E2.t S.s52 S.s22
    · exact kit_cls E3.hd E3.t S.s53 S.s33
    · exact kit_cls E4.hd E4.t S.s54 S.s44
    · exact kit_cls E5.hd E5.t S.s55 S.s55
    · exact kit_cls E6.hd E6.t S.s56 S.s66
    · exact kit_cls E7.hd E7.t S.s57 S.s77
    · exact kit_cls E0.hd E0.t S.s60 S.s00
    · exact kit_cls E1.hd E1.t S.s61 S.s11
    · exact kit_cls E2.hd E2.t S.s62 S.s22
    · exact kit_cls E3.hd E3.t S.s63 S.s33
    · exact kit_cls E4.hd E4.t S.s64 S.s44
    · exact kit_cls E5.hd E5.t S.s65 S.s55
    · exact kit_cls E6.hd E6.t S.s66 S.s66
    · exact kit_cls E7.hd E7.t S.s67 S.s77
    · exact kit_cls E0.hd E0.t S.s70 S.s00
    · exact kit_cls E1.hd E1.t S.s71 S.s11
    · exact kit_cls E2.hd E2.t S.s72 S.s22
    · exact kit_cls E3.hd E3.t S.s73 S.s33
    · exact kit_cls E4.hd E4.t S.s74 S.s44
    · exact kit_cls E5.hd E5.t S.s75 S.s55
    · exact kit_cls E6.hd E6.t S.s76 S.s66
    · exact kit_cls E7.hd E7.t S.s77 S.s77
  exo := fun c i h1 h2 => by
    simp only [erH, List.mem_cons, List.not_mem_nil, or_false] at h1 h2
    rcases h1 with rfl | rfl | rfl | rfl | rfl | rfl | rfl | rfl <;> rcases h2 with rfl | rfl | rfl | rfl | rfl | rfl | rfl | rfl
    · exact PySem.W.exm_ref E0.b E0.hd E0.t S.s00
    · exact PySem.W.exm_ref E1.b E1.hd E1.t S.s01
    · exact PySem.W.exm_ref E2.b E2.hd E2.t S.s02
    · exact PySem.W.exm_ref E3.b E3.hd E3.t S.s03
    · exact PySem.W.exm_ref E4.b E4.hd E4.t S.s04
    · exact PySem.W.exm_ref E5.b E5.hd E5.t S.s05
    · exact PySem.W.exm_ref E6.b E6.hd E6.t S.s06
    · exact PySem.W.exm_ref E7.b E7.hd E7.t S.s07
    · exact PySem.W.exm_ref E0.b E0.hd E0.t S.s10
    · exact PySem.W.exm_ref E1.b E1.hd E1.t S.s11
    · exact PySem.W.exm_ref E2.b E2.hd E2.t S.s12
    · exact PySem.W.exm_ref E3.b E3.hd E3.t S.s13
    · exact PySem.W.exm_ref E4.b E4.hd E4.t S.s14
    · exact PySem.W.exm_ref E5.b E5.hd E5.t S.s15
    · exact PySem.W.exm_ref E6.b E6.hd E6.t S.s16
    · exact PySem.W.exm_ref E7.b E7.hd E7.t S.s17
    · exact PySem.W.exm_ref E0.b E0.hd E0.t S.s20
    · exact PySem.W.exm_ref E1.b E1.hd E1.t S.s21
    · exact PySem.W.exm_ref E2.b E2.hd E2.t S.s22
    · exact PySem.W.exm_ref E3.b E3.hd E3.t S.s23
    · exact PySem.W.exm_ref E4.b E4.hd E4.t S.s24
    · exact PySem.W.exm_ref E5.b E5.hd E5.t S.s25
    · exact PySem.W.exm_ref E6.b E6.hd E6.t S.s26
    · exact PySem.W.exm_ref E7.b E7.hd E7.t S.s27
    · exact PySem.W.exm_ref E0.b E0.hd E0.t S.s30
    · exact PySem.W.exm_ref E1.b E1.hd E1.t S.s31
    · exact PySem.W.exm_ref E2.b E2.hd E2.t S.s32
    · exact PySem.W.exm_ref E3.b E3.hd E3.t S.s33
    · exact PySem.W.exm_ref E4.b E4.hd E4.t S.s34
    · exact PySem.W.exm_ref E5.b E5.hd E5.t S.s35
    · exact PySem.W.exm_ref E6.b E6.hd E6.t S.s36
    · exact PySem.W.exm_ref E7.b E7.hd E7.t S.s37
    · exact PySem.W.exm_ref E0.b E0.hd E0.t S.s40
    · exact PySem.W.exm_ref E1.b E1.hd E1.t S.s41
    · exact PySem.W.exm_ref E2.b E2.hd E2.t S.s42
    · exact PySem.W.exm_ref E3.b E3.hd E3.t S.s43
    · exact PySem.W.exm_ref E4.b E4.hd E4.t S.s44
    · exact PySem.W.exm_ref E5.b E5.hd E5.t S.s45
    · exact PySem.W.exm_ref E6.b E6.hd E6.t S.s46
    · exact PySem.W.exm_ref E7.b E7.hd E7.t S.s47
    · exact PySem.W.exm_ref E0.b E0.hd E0.t S.s50
    · exact PySem.W.exm_ref E1.b E1.hd E1.t S.s51
    · exact PySem.W.exm_ref E2.b E2.hd E2.t S.s52
    · exact PySem.W.exm_ref E3.b E3.hd E3.t S.s53
    · exact PySem.W.exm_ref E4.b E4.hd E4.t S.s54
    · exact PySem.W.exm_ref E5.b E5.hd E5.t S.s55
    · exact PySem.W.exm_ref E6.b E6.hd E6.t S.s56
    · exact PySem.W.exm_ref E7.b E7.hd E7.t S.s57
    · exact PySem.W.exm_ref E0.b E0.hd E0.t S.s60
    · exact PySem.W.exm_ref E1.b E1.hd E1.t S.s61
    · exact PySem.W.exm_ref E2.b E2.hd E2.t S.s62
    · exact PySem.W.exm_ref E3.b E3.hd E3.t S.s63
    · exact PySem.W.exm_ref E4.b E4.hd E4.t S.s64
    · exact PySem.W.exm_ref E5.b E5.hd E5.t S.s65
    · exact PySem.W.exm_ref E6.b E6.hd E6.t S.s66
    · exact PySem.W.exm_ref E7.b E7.hd E7.t S.s67
    · exact PySem.W.exm_ref E0.b E0.hd E0.t S.s70
    · exact PySem.W.exm_ref E1.b E1.hd E1.t S.s71
    · exact PySem.W.exm_ref E2.b E2.hd E2.t S.s72
    · exact PySem.W.exm_ref E3.b E3.hd E3.t S.s73
    · exact PySem.W.exm_ref E4.b E4.hd E4.t S.s74
    · exact PySem.W.exm_ref E5.b E5.hd E5.t S.s75
    · exact PySem.W.exm_ref E6.b E6.hd E6.t S.s76
    · exact PySem.W.exm_ref E7.b E7.hd E7.t S.s77
def topS (i : Nat) : Stmt := PySem.Challenge.pw_kinnames_k20_lengths.main.body.getD i (.Pass ⟨0, 0, 0, 0⟩)
structure Top (K : PySem.W.Frag) (mg : Str → Option Value) where
  er : Errs erH K mg
  f__law_cell : Addr
  fd__law_cell : FuncData
  F__law_cell : Fun K "_law_cell" "_law_cell" (topS 39) f__law_cell fd__law_cell
  b__law_cell : Binds K fd__law_cell ["_law_script", "_law_k"] []
  m__law_cell : mg "_law_cell" = some (.ref f__law_cell)
  f__law_drawn : Addr
  fd__law_drawn : FuncData
  F__law_drawn : Fun K "_law_drawn" "_law_drawn" (topS 40) f__law_drawn fd__law_drawn
  b__law_drawn : Binds K fd__law_drawn ["_law_script", "_law_k", "_law_many"] []
  m__law_drawn : mg "_law_drawn" = some (.ref f__law_drawn)
  f__law_name : Addr
  fd__law_name : FuncData
  F__law_name : Fun K "_law_name" "_law_name" (topS 41) f__law_name fd__law_name
  b__law_name : Binds K fd__law_name ["_law_script", "_law_at", "_law_most"] []
  m__law_name : mg "_law_name" = some (.ref f__law_name)
  f__law_book : Addr
  fd__law_book : FuncData
  F__law_book : Fun K "_law_book" "_law_book" (topS 42) f__law_book fd__law_book
  b__law_book : Binds K fd__law_book ["_law_script", "_law_at", "_law_many", "_law_most"] []
  m__law_book : mg "_law_book" = some (.ref f__law_book)
  f__law_counts : Addr
  fd__law_counts : FuncData
  F__law_counts : Fun K "_law_counts" "_law_counts" (topS 43) f__law_counts fd__law_counts
  b__law_counts : Binds K fd__law_counts ["_law_book_here", "_law_order"] []
  m__law_counts : mg "_law_counts" = some (.ref f__law_counts)
  f__law_row : Addr
  fd__law_row : FuncData
  F__law_row : Fun K "_law_row" "_law_row" (topS 44) f__law_row fd__law_row
  b__law_row : Binds K fd__law_row ["_law_book_here", "_law_order", "_law_text"] []
  m__law_row : mg "_law_row" = some (.ref f__law_row)
  f__law_made : Addr
  fd__law_made : FuncData
  F__law_made : Fun K "_law_made" "_law_made" (topS 48) f__law_made fd__law_made
  b__law_made : Binds K fd__law_made ["_law_book_here", "_law_order", "_law_most"] []
  m__law_made : mg "_law_made" = some (.ref f__law_made)
  f__law_lowest : Addr
  fd__law_lowest : FuncData
  F__law_lowest : Fun K "_law_lowest" "_law_lowest" (topS 45) f__law_lowest fd__law_lowest
  b__law_lowest : Binds K fd__law_lowest ["_law_up", "_law_down"] []
  m__law_lowest : mg "_law_lowest" = some (.ref f__law_lowest)
  f__law_share : Addr
  fd__law_share : FuncData
  F__law_share : Fun K "_law_share" "_law_share" (topS 46) f__law_share fd__law_share
  b__law_share : Binds K fd__law_share ["_law_book_here", "_law_order", "_law_name_here"] []
  m__law_share : mg "_law_share" = some (.ref f__law_share)
  f__law_sum : Addr
  fd__law_sum : FuncData
  F__law_sum : Fun K "_law_sum" "_law_sum" (topS 47) f__law_sum fd__law_sum
  b__law_sum : Binds K fd__law_sum ["_law_rows"] []
  m__law_sum : mg "_law_sum" = some (.ref f__law_sum)
  f__law_refused : Addr
  fd__law_refused : FuncData
  F__law_refused : Fun K "_law_refused" "_law_refused" (topS 49) f__law_refused fd__law_refused
  b__law_refused : Binds K fd__law_refused ["_law_e"] []
  m__law_refused : mg "_law_refused" = some (.ref f__law_refused)
  f_end_of : Addr
  fd_end_of : FuncData
  F_end_of : Fun K "end_of" "end_of" (topS 21) f_end_of fd_end_of
  b_end_of : Binds K fd_end_of ["order", "text"] []
  m_end_of : mg "end_of" = some (.ref f_end_of)
  f_counted : Addr
  fd_counted : FuncData
  F_counted : Fun K "counted" "counted" (topS 22) f_counted fd_counted
  b_counted : Binds K fd_counted ["book", "order"] []
  m_counted : mg "counted" = some (.ref f_counted)
  f_lengthened : Addr
  fd_lengthened : FuncData
  F_lengthened : Fun K "lengthened" "lengthened" (topS 35) f_lengthened fd_lengthened
  b_lengthened : Binds K fd_lengthened ["rows", "order", "texts"] []
  m_lengthened : mg "lengthened" = some (.ref f_lengthened)
  f_is_name : Addr
  fd_is_name : FuncData
  F_is_name : Fun K "is_name" "is_name" (topS 16) f_is_name fd_is_name
  b_is_name : Binds K fd_is_name ["thing"] []
  m_is_name : mg "is_name" = some (.ref f_is_name)
  f_is_book : Addr
  fd_is_book : FuncData
  F_is_book : Fun K "is_book" "is_book" (topS 17) f_is_book fd_is_book
  b_is_book : Binds K fd_is_book ["thing"] []
  m_is_book : mg "is_book" = some (.ref f_is_book)
  f_need_book : Addr
  fd_need_book : FuncData
  F_need_book : Fun K "need_book" "need_book" (topS 18) f_need_book fd_need_book
  b_need_book : Binds K fd_need_book ["book"] []
  m_need_book : mg "need_book" = some (.ref f_need_book)
  f_is_number : Addr
  fd_is_number : FuncData
  F_is_number : Fun K "is_number" "is_number" (topS 15) f_is_number fd_is_number
  b_is_number : Binds K fd_is_number ["thing", "low", "high"] []
  m_is_number : mg "is_number" = some (.ref f_is_number)
  f_need_number : Addr
  fd_need_number : FuncData
  F_need_number : Fun K "need_number" "need_number" (topS 20) f_need_number fd_need_number
  b_need_number : Binds K fd_need_number ["number", "low", "high"] []
  m_need_number : mg "need_number" = some (.ref f_need_number)
  f_need_order : Addr
  fd_need_order : FuncData
  F_need_order : Fun K "need_order" "need_order" (topS 19) f_need_order fd_need_order
  b_need_order : Binds K fd_need_order ["order"] []
  m_need_order : mg "need_order" = some (.ref f_need_order)
  f_need_all : Addr
  fd_need_all : FuncData
  F_need_all : Fun K "need_all" "need_all" (topS 30) f_need_all fd_need_all
  b_need_all : Binds K fd_need_all ["book", "order", "length"] []
  m_need_all : mg "need_all" = some (.ref f_need_all)
  f_all_made : Addr
  fd_all_made : FuncData
  F_all_made : Fun K "all_made" "all_made" (topS 36) f_all_made fd_all_made
  b_all_made : Binds K fd_all_made ["book", "order", "length"] []
  m_all_made : mg "all_made" = some (.ref f_all_made)
  f_lowest : Addr
  fd_lowest : FuncData
  F_lowest : Fun K "lowest" "lowest" (topS 24) f_lowest fd_lowest
  b_lowest : Binds K fd_lowest ["up", "down"] []
  m_lowest : mg "lowest" = some (.ref f_lowest)
  f_added : Addr
  fd_added : FuncData
  F_added : Fun K "added" "added" (topS 25) f_added fd_added
  b_added : Binds K fd_added ["one", "other"] []
  m_added : mg "added" = some (.ref f_added)
  f_part_of : Addr
  fd_part_of : FuncData
  F_part_of : Fun K "part_of" "part_of" (topS 27) f_part_of fd_part_of
  b_part_of : Binds K fd_part_of ["rows", "context", "letter"] []
  m_part_of : mg "part_of" = some (.ref f_part_of)
  f_times : Addr
  fd_times : FuncData
  F_times : Fun K "times" "times" (topS 26) f_times fd_times
  b_times : Binds K fd_times ["one", "other"] []
  m_times : mg "times" = some (.ref f_times)
  f_ways : Addr
  fd_ways : FuncData
  F_ways : Fun K "ways" "ways" (topS 31) f_ways fd_ways
  b_ways : Binds K fd_ways ["rows", "order", "length"] []
  m_ways : mg "ways" = some (.ref f_ways)
  f_how_many : Addr
  fd_how_many : FuncData
  F_how_many : Fun K "how_many" "how_many" (topS 32) f_how_many fd_how_many
  b_how_many : Binds K fd_how_many ["book", "order", "length"] []
  m_how_many : mg "how_many" = some (.ref f_how_many)
  f_lengths : Addr
  fd_lengths : FuncData
  F_lengths : Fun K "lengths" "lengths" (topS 37) f_lengths fd_lengths
  b_lengths : Binds K fd_lengths ["book", "order"] []
  m_lengths : mg "lengths" = some (.ref f_lengths)
  f_share_of_length : Addr
  fd_share_of_length : FuncData
  F_share_of_length : Fun K "share_of_length" "share_of_length" (topS 33) f_share_of_length fd_share_of_length
  b_share_of_length : Binds K fd_share_of_length ["book", "order", "length"] []
  m_share_of_length : mg "share_of_length" = some (.ref f_share_of_length)
  f_share_up_to : Addr
  fd_share_up_to : FuncData
  F_share_up_to : Fun K "share_up_to" "share_up_to" (topS 34) f_share_up_to fd_share_up_to
  b_share_up_to : Binds K fd_share_up_to ["book", "order", "length"] []
  m_share_up_to : mg "share_up_to" = some (.ref f_share_up_to)
  f__law_told : Addr
  fd__law_told : FuncData
  F__law_told : Fun K "_law_told" "_law_told" (topS 50) f__law_told fd__law_told
  b__law_told : Binds K fd__law_told ["_law_way", "_law_book_here", "_law_order", "_law_length"] []
  m__law_told : mg "_law_told" = some (.ref f__law_told)
  f_law : Addr
  fd_law : FuncData
  F_law : Fun K "law" "law" (topS 51) f_law fd_law
  b_law : Binds K fd_law ["_law_script"] []
  m_law : mg "law" = some (.ref f_law)
  z_ValueError : mg "ValueError" = none
  z_all : mg "all" = none
  z_bool : mg "bool" = none
  z_int : mg "int" = none
  z_isinstance : mg "isinstance" = none
  z_len : mg "len" = none
  z_list : mg "list" = none
  z_max : mg "max" = none
  z_min : mg "min" = none
  z_range : mg "range" = none
  z_set : mg "set" = none
  z_sorted : mg "sorted" = none
  z_str : mg "str" = none
  z_sum : mg "sum" = none
  z_tuple : mg "tuple" = none
  g_LETTERS : ∃ t, mg "LETTERS" = some (.str (toS [97, 98, 99, 100, 101, 102, 103, 104, 105, 106, 107, 108, 109, 110, 111, 112, 113, 114, 115, 116, 117, 118, 119, 120, 121, 122]) t)
  g_MOST_LETTERS : ∃ t, mg "MOST_LETTERS" = some (.int 8 t)
  g_MOST_NAMES : ∃ t, mg "MOST_NAMES" = some (.int 8 t)
  g_MOST_ORDER : ∃ t, mg "MOST_ORDER" = some (.int 3 t)
  g_MOST : ∃ t, mg "MOST" = some (.int 8 t)
def m__law_refused (a : Addr) (c : Nat) : Ga → R Fl := fSeq (fSet 1 (bLst (bCons (bE 0 a (decide (c = 0))) (bCons (bE 0 a (decide (c = 1))) (bCons (bE 0 a (decide (c = 2))) (bNil)))))) (fSeq (fSet 1 (b2 dAdd (bVar 1) (bLst (bCons (bE 0 a (decide (c = 3))) (bCons (bE 0 a (decide (c = 4))) (bCons (bE 0 a (decide (c = 5))) (bNil))))))) (fSeq (fSet 1 (b2 dAdd (bVar 1) (bLst (bCons (bE 0 a (decide (c = 6))) (bCons (bE 0 a (decide (c = 7))) (bNil)))))) (fSeq (fIf (tOr (tVal (b2 dNe (bM1 dCount (bVar 1) (bC (.bl true))) (bC (.int 1)))) (tNot (tVal (bE 0 a true)))) (fRet (bTup (bCons (bC (.str [114, 101, 102, 117, 115, 101, 100])) (bCons (b1 dNeg (bC (.int 1))) (bNil))))) (fNil)) (fRet (bTup (bCons (bC (.str [114, 101, 102, 117, 115, 101, 100])) (bCons (bM1 dIndex (bVar 1) (bC (.bl true))) (bNil))))))))
def h__law_refused : Nat → R D := hRef erH [0, 1, 2, 3, 4, 5, 6, 7]
theorem hv__law_refused : ∀ a c d, h__law_refused c = .ok d → m__law_refused a c (startE 2 a) = .ok (.rt d) := hvR fun a c h => by
  unfold m__law_refused
  simp only [erH, List.mem_cons, List.not_mem_nil, or_false] at h
  rcases h with rfl | rfl | rfl | rfl | rfl | rfl | rfl | rfl <;> (simp [startE, bE_here, fSeq, fSet, fIf, fRet, fNil, tOr, tNot, tVal, KN.tB, b1, b2, bM1, bTup, bLst, bN, bCons, bNil, bC, bVar, R.bind, dNe, dEq, dNeg, dCount, dIndex, dAdd, asBls, o2r, List.idxOf, List.findIdx, List.findIdx.go, lim]; try rfl)
def m__law_told : Ga → R Fl := fTryR (fSeq (fIf (tVal (b2 dEq (bVar 0) (bC (.int 4)))) (fRet (bCall g_lengths (bCons (bVar 1) (bCons (bVar 2) (bNil))))) (fNil)) (fRet (bSel [g_how_many, g_share_of_length, g_share_up_to, g_all_made] (bVar 0) (bCons (bVar 1) (bCons (bVar 2) (bCons (bVar 3) (bNil))))))) h__law_refused
def g__law_told : List D → R D := fnD 5 m__law_told
def m_law_k20 : Ga → R Fl := fSeq (fSet 1 (bCall g__law_book (bCons (bVar 0) (bCons (bC (.int 0)) (bCons (bC (.int 3)) (bCons (bC (.int 4)) (bNil))))))) (fSeq (fSet 2 (b2 dAdd (bC (.int 1)) (bCall g__law_drawn (bCons (bVar 0) (bCons (bC (.int 50)) (bCons (bC (.int 3)) (bNil))))))) (fSeq (fSet 3 (bCall g__law_made (bCons (bVar 1) (bCons (bVar 2) (bCons (bC (.int 3)) (bNil)))))) (fSeq (fForE (bTup (bCons (bC (.int 1)) (bCons (bC (.int 2)) (bCons (bC (.int 3)) (bNil))))) (bdN 4) (fSeq (fSet 7 (bN dSort (bCons (bLcE (bVar 3) [11] (bdN 11) (tVal (b2 dEq (bN dLen (bCons (bVar 11) (bNil))) (bVar 4))) (bVar 11)) (bNil)))) (fSeq (fSet 8 (bCall g__law_sum (bCons (bLcE (bVar 7) [11] (bdN 11) yes (bCall g__law_share (bCons (bVar 1) (bCons (bVar 2) (bCons (bVar 11) (bNil)))))) (bNil)))) (fSeq (fSet 9 (bCall g__law_sum (bCons (bLcE (bVar 3) [11] (bdN 11) (tVal (b2 dLe (bN dLen (bCons (bVar 11) (bNil))) (bVar 4))) (bCall g__law_share (bCons (bVar 1) (bCons (bVar 2) (bCons (bVar 11) (bNil)))))) (bNil)))) (fIf (tVal (b2 dNe (bLcI (iR1 (bC (.int 4))) [10] (bdN 10) yes (bCall g__law_told (bCons (bVar 10) (bCons (bVar 1) (bCons (bVar 2) (bCons (bVar 4) (bNil))))))) (bLst (bCons (bN dLen (bCons (bVar 7) (bNil))) (bCons (bVar 8) (bCons (bVar 9) (bCons (bVar 7) (bNil)))))))) (fRet (bC (.bl false))) (fNil)))))) (fSeq (fSet 5 (bCall g__law_told (bCons (bC (.int 4)) (bCons (bVar 1) (bCons (bVar 2) (bCons (bC (.int 1)) (bNil))))))) (fSeq (fIf (tVal (b2 dNe (bLcE (bVar 5) [4] (bdN 4) (tVal (b2 dLt (bVar 4) (bC (.int 4)))) (bVar 4)) (b1 dSortSet (bLcE (bVar 3) [11] (bdN 11) yes (bN dLen (bCons (bVar 11) (bNil))))))) (fRet (bC (.bl false))) (fNil)) (fSeq (fIf (tVal (b2 dNe (bLcI (iR2 (bC (.int 1)) (bC (.int 9))) [4] (bdN 4) (tVal (b2 dNe (b2 dGt (bCall g_how_many (bCons (bVar 1) (bCons (bVar 2) (bCons (bVar 4) (bNil))))) (bC (.int 0))) (b2 dIn (bVar 4) (bVar 5)))) (bVar 4)) (bLst (bNil)))) (fRet (bC (.bl false))) (fNil)) (fSeq (fSet 6 (b2 dIx (bLst (bCons (bC (.int 0)) (bCons (bC (.int 9)) (bCons (bC .non) (bCons (bC (.bl true)) (bCons (bC (.str [49])) (bNil))))))) (bCall g__law_drawn (bCons (bVar 0) (bCons (bC (.int 51)) (bCons (bC (.int 5)) (bNil))))))) (fSeq (fIf (tVal (b2 dNe (bLcI (iR1 (bC (.int 4))) [10] (bdN 10) yes (bCall g__law_told (bCons (bVar 10) (bCons (bVar 1) (bCons (bVar 2) (bCons (bVar 6) (bNil))))))) (b2 dRep (bLst (bCons (bTup (bCons (bC (.str [114, 101, 102, 117, 115, 101, 100])) (bCons (bC (.int 4)) (bNil)))) (bNil))) (bC (.int 4))))) (fRet (bC (.bl false))) (fNil)) (fSeq (fIf (tVal (b2 dNe (bLcI (iR1 (bC (.int 5))) [10] (bdN 10) yes (bCall g__law_told (bCons (bVar 10) (bCons (bVar 1) (bCons (b2 dIx (bLst (bCons (bC (.int 0)) (bCons (bC (.int 4)) (bCons (bC .non) (bNil))))) (bCall g__law_drawn (bCons (bVar 0) (bCons (bC (.int 52)) (bCons (bC (.int 3)) (bNil)))))) (bCons (bVar 6) (bNil))))))) (b2 dRep (bLst (bCons (bTup (bCons (bC (.str [114, 101, 102, 117, 115, 101, 100])) (bCons (bC (.int 1)) (bNil)))) (bNil))) (bC (.int 5))))) (fRet (bC (.bl false))) (fNil)) (fRet (b2 dEq (bLcI (iR1 (bC (.int 5))) [10] (bdN 10) yes (bCall g__law_told (bCons (bVar 10) (bCons (bN dList (bCons (bVar 1) (bNil))) (bCons (bC (.int 0)) (bCons (bVar 6) (bNil))))))) (b2 dRep (bLst (bCons (bTup (bCons (bC (.str [114, 101, 102, 117, 115, 101, 100])) (bCons (bC (.int 0)) (bNil)))) (bNil))) (bC (.int 5))))))))))))))
def g_law_k20 : List D → R D := fnD 12 m_law_k20
variable {P : Program} {w : World} {K : PySem.W.Frag} {mg : Str → Option Value} {base : Heap}
theorem sc__law_cell : FnScope ["_law_script", "_law_k"] ["_law_script", "_law_k"] (defScope (topS 39)) := ⟨rfl, rfl, rfl, by decide +kernel, rfl, by decide +kernel, by decide +kernel⟩
theorem ok__law_cell (T : Top K mg) : FnOk P w K mg base (L2.CX P w) 1 T.f__law_cell T.fd__law_cell ["_law_script", "_law_k"] (spD K (clE T.er) 2 g__law_cell) := by
  refine fok T.F__law_cell sc__law_cell rfl rfl fun cdv A outer s H E hr => ?_
  have nd := sc__law_cell.nd
  have hu64 := hr.units
  have hu65 := hu65_of hr
  have hu1 := hu_of hr
  exact js_cons (js_if (jt_cmp (o_eq hu64) (J.r (j_var 0)) (JF.r (jf_lst (ja_nil)))) (js_one (js_ret (j_op o_mul (J.r (j_int)) (J.r (j_var 1))))) (js_nil)) (js_one (js_ret (j_op o_add (J.r (j_ix hu1 (J.r (j_var 0)) (J.r (j_op o_mod (J.r (j_var 1)) (J.r (j_b c_len T.z_len PySem.boot_len (ja1_cons (J.r (j_var 0)) (ja1_nil)))))))) (J.r (j_op o_mul (J.r (j_int)) (J.r (j_op o_div (J.r (j_var 1)) (J.r (j_b c_len T.z_len PySem.boot_len (ja1_cons (J.r (j_var 0)) (ja1_nil)))))))))))
theorem sc__law_drawn : FnScope ["_law_script", "_law_k", "_law_many", "_law_cell_here"] ["_law_script", "_law_k", "_law_many"] (defScope (topS 40)) := ⟨rfl, rfl, rfl, by decide +kernel, rfl, by decide +kernel, by decide +kernel⟩
theorem ok__law_drawn (T : Top K mg) : FnOk P w K mg base (L2.CX P w) 2 T.f__law_drawn T.fd__law_drawn ["_law_script", "_law_k", "_law_many"] (spD K (clE T.er) 3 g__law_drawn) := by
  refine fok T.F__law_drawn sc__law_drawn rfl rfl fun cdv A outer s H E hr => ?_
  have nd := sc__law_drawn.nd
  have hu64 := hr.units
  have hu65 := hu65_of hr
  have hu1 := hu_of hr
  exact js_cons (js_set nd (j_op o_mod (J.r (j_op o_add (J.r (j_op o_mul (J.r (j_op o_mod (J.r (j_call (ok__law_cell T) (hr.mono (by decide)) T.m__law_cell T.F__law_cell.kp T.b__law_cell takes_D (ja_cons (j_var 0) (ja_cons (j_var 1) (ja_nil))) (bCons_len (bCons_len bNil_len)))) (J.r (j_int)))) (J.r (j_int)))) (J.r (j_op o_mul (J.r (j_int)) (J.r (j_op o_add (J.r (j_var 1)) (J.r (j_int)))))))) (J.r (j_int)))) (js_cons (js_set nd (j_op o_mod (J.r (j_op o_add (J.r (j_op o_mul (J.r (j_var 3)) (J.r (j_var 3)))) (J.r (j_op o_div (J.r (j_var 3)) (J.r (j_int)))))) (J.r (j_int)))) (js_one (js_ret (j_op o_mod (J.r (j_op o_div (J.r (j_op o_mod (J.r (j_op o_add (J.r (j_op o_mul (J.r (j_var 3)) (J.r (j_var 3)))) (J.r (j_op o_div (J.r (j_var 3)) (J.r (j_int)))))) (J.r (j_int)))) (J.r (j_int)))) (J.r (j_var 2))))))
theorem sc__law_name : FnScope ["_law_script", "_law_at", "_law_most", "_law_size", "_law_letters", "_law_k"] ["_law_script", "_law_at", "_law_most"] (defScope (topS 41)) := ⟨rfl, rfl, rfl, by decide +kernel, rfl, by decide +kernel, by decide +kernel⟩
theorem ok__law_name (T : Top K mg) : FnOk P w K mg base (L2.CX P w) 3 T.f__law_name T.fd__law_name ["_law_script", "_law_at", "_law_most"] (spD K (clE T.er) 3 g__law_name) := by
  refine fok T.F__law_name sc__law_name rfl rfl fun cdv A outer s H E hr => ?_
  have nd := sc__law_name.nd
  have hu64 := hr.units
  have hu65 := hu65_of hr
  have hu1 := hu_of hr
  exact js_cons (js_set nd (j_op o_add (J.r (j_int)) (J.r (j_call (ok__law_drawn T) (hr.mono (by decide)) T.m__law_drawn T.F__law_drawn.kp T.b__law_drawn takes_D (ja_cons (j_var 0) (ja_cons (j_var 1) (ja_cons (j_var 2) (ja_nil)))) (bCons_len (bCons_len (bCons_len bNil_len))))))) (js_cons (js_set nd (j_ix hu1 (JF.r (jf_lst (ja_cons (j_str) (ja_cons (j_str) (ja_cons (j_str) (ja_nil)))))) (J.r (j_call (ok__law_drawn T) (hr.mono (by decide)) T.m__law_drawn T.F__law_drawn.kp T.b__law_drawn takes_D (ja_cons (j_var 0) (ja_cons (j_op o_add (J.r (j_var 1)) (J.r (j_int))) (ja_cons (j_int) (ja_nil)))) (bCons_len (bCons_len (bCons_len bNil_len))))))) (js_one (js_ret (j_join (J.r (j_str)) (JF.r (jf_lcI (own := [("_law_k", 5)]) rfl nd (ji_r1 T.z_range (j_var 3)) ⟨blkOk_by (own := [("_law_k", 5)]) (by first | (show blkC ["_law_script", "_law_at", "_law_most", "_law_size", "_law_letters", "_law_k"] (defScope (topS 41)) _ _ = true; decide +kernel) | rfl), fun _ _ _ _ _ => jg_n nd, fun _ _ _ _ _ => jifs_nil, fun _ _ _ _ _ => j_ix hu1 (J.r (j_var 4)) (J.r (j_call (ok__law_drawn T) (hr.mono (by decide)) T.m__law_drawn T.F__law_drawn.kp T.b__law_drawn takes_W0 (ja_cons (j_var 0) (ja_cons (j_op o_add (J.r (j_op o_add (J.r (j_var 1)) (J.r (j_int)))) (J.r (j_var 5))) (ja_cons (j_b c_len T.z_len PySem.boot_len (ja1_cons (J.r (j_var 4)) (ja1_nil))) (ja_nil)))) (bCons_len (bCons_len (bCons_len bNil_len)))))⟩))))))
theorem sc__law_book : FnScope ["_law_script", "_law_at", "_law_many", "_law_most", "_law_found", "_law_k"] ["_law_script", "_law_at", "_law_many", "_law_most"] (defScope (topS 42)) := ⟨rfl, rfl, rfl, by decide +kernel, rfl, by decide +kernel, by decide +kernel⟩
theorem ok__law_book (T : Top K mg) : FnOk P w K mg base (L2.CX P w) 4 T.f__law_book T.fd__law_book ["_law_script", "_law_at", "_law_many", "_law_most"] (spD K (clE T.er) 4 g__law_book) := by
  refine fok T.F__law_book sc__law_book rfl rfl fun cdv A outer s H E hr => ?_
  have nd := sc__law_book.nd
  have hu64 := hr.units
  have hu65 := hu65_of hr
  have hu1 := hu_of hr
  exact js_cons (js_set nd (j_tup (ja_nil))) (js_cons (js_forI passes_D rfl bdN_ok (ji_r1 T.z_range (j_op o_add (J.r (j_int)) (J.r (j_call (ok__law_drawn T) (hr.mono (by decide)) T.m__law_drawn T.F__law_drawn.kp T.b__law_drawn takes_D (ja_cons (j_var 0) (ja_cons (j_var 1) (ja_cons (j_var 2) (ja_nil)))) (bCons_len (bCons_len (bCons_len bNil_len))))))) (jg_n nd) (js_one (js_set nd (j_op o_add (J.r (j_var 4)) (J.r (j_tup (ja_cons (j_call (ok__law_name T) (hr.mono (by decide)) T.m__law_name T.F__law_name.kp T.b__law_name takes_D (ja_cons (j_var 0) (ja_cons (j_op o_add (J.r (j_op o_add (J.r (j_var 1)) (J.r (j_int)))) (J.r (j_op o_mul (J.r (j_int)) (J.r (j_var 5))))) (ja_cons (j_var 3) (ja_nil)))) (bCons_len (bCons_len (bCons_len bNil_len)))) (ja_nil)))))))) (js_one (js_ret (j_var 4))))
theorem sc__law_counts : FnScope ["_law_book_here", "_law_order", "_law_found", "_law_name_here", "_law_size", "_law_end", "_law_letter"] ["_law_book_here", "_law_order"] (defScope (topS 43)) := ⟨rfl, rfl, rfl, by decide +kernel, rfl, by decide +kernel, by decide +kernel⟩
theorem ok__law_counts (T : Top K mg) : FnOk P w K mg base (L2.CX P w) 1 T.f__law_counts T.fd__law_counts ["_law_book_here", "_law_order"] (spD K (clE T.er) 2 g__law_counts) := by
  refine fok T.F__law_counts sc__law_counts rfl rfl fun cdv A outer s H E hr => ?_
  have nd := sc__law_counts.nd
  have hu64 := hr.units
  have hu65 := hu65_of hr
  have hu1 := hu_of hr
  exact js_cons (js_nd0 2 nd) (js_cons (js_forE passes_D rfl bdN_ok (j_var 0) (jg_n nd) (js_one (js_forI passes_D rfl bdN_ok (ji_r1 T.z_range (j_op o_add (J.r (j_b c_len T.z_len PySem.boot_len (ja1_cons (J.r (j_var 3)) (ja1_nil)))) (J.r (j_int)))) (jg_n nd) (js_cons (js_set nd (j_if (jt_cmp o_gt (J.r (j_var 4)) (J.r (j_int))) (j_slice (J.r (j_slice (J.r (j_var 3)) (jo_none) (jo_some (J.r (j_var 4))))) (jo_some (J.r (j_op o_sub (J.r (j_int)) (J.r (j_b (c_minT rfl) T.z_min PyProof.Rows.boot_min (ja1_cons (J.r (j_var 1)) (ja1_cons (J.r (j_var 4)) (ja1_nil)))))))) (jo_none)) (j_str))) (js_cons (js_set nd (j_slice (J.r (j_var 3)) (jo_some (J.r (j_var 4))) (jo_some (J.r (j_op o_add (J.r (j_var 4)) (J.r (j_int))))))) (js_cons (js_nfill 2 5 nd hu1) (js_one (js_nbump 2 5 6 nd hu1)))))))) (jss_fz 2 (js_one (js_ret (j_var 2)))))
theorem sc__law_row : FnScope ["_law_book_here", "_law_order", "_law_text", "_law_end"] ["_law_book_here", "_law_order", "_law_text"] (defScope (topS 44)) := ⟨rfl, rfl, rfl, by decide +kernel, rfl, by decide +kernel, by decide +kernel⟩
theorem ok__law_row (T : Top K mg) : FnOk P w K mg base (L2.CX P w) 2 T.f__law_row T.fd__law_row ["_law_book_here", "_law_order", "_law_text"] (spD K (clE T.er) 3 g__law_row) := by
  refine fok T.F__law_row sc__law_row rfl rfl fun cdv A outer s H E hr => ?_
  have nd := sc__law_row.nd
  have hu64 := hr.units
  have hu65 := hu65_of hr
  have hu1 := hu_of hr
  exact js_cons (js_set nd (j_if (jt_cmp (o_ne hu64) (J.r (j_var 2)) (J.r (j_str))) (j_slice (J.r (j_var 2)) (jo_some (J.r (j_op o_sub (J.r (j_int)) (J.r (j_b (c_minT rfl) T.z_min PyProof.Rows.boot_min (ja1_cons (J.r (j_var 1)) (ja1_cons (J.r (j_b c_len T.z_len PySem.boot_len (ja1_cons (J.r (j_var 2)) (ja1_nil)))) (ja1_nil)))))))) (jo_none)) (j_str))) (js_one (js_ret (j_get hu1 (J.r (j_call (ok__law_counts T) (hr.mono (by decide)) T.m__law_counts T.F__law_counts.kp T.b__law_counts takes_D (ja_cons (j_var 0) (ja_cons (j_var 1) (ja_nil))) (bCons_len (bCons_len bNil_len)))) (j_var 3) (JF.v (jf_dic0)))))
theorem sc__law_made : FnScope ["_law_book_here", "_law_order", "_law_most", "_law_found", "_law_texts", "_law_size", "_law_longer", "_law_text", "_law_row_here", "_law_letter"] ["_law_book_here", "_law_order", "_law_most"] (defScope (topS 48)) := ⟨rfl, rfl, rfl, by decide +kernel, rfl, by decide +kernel, by decide +kernel⟩
theorem ok__law_made (T : Top K mg) : FnOk P w K mg base (L2.CX P w) 3 T.f__law_made T.fd__law_made ["_law_book_here", "_law_order", "_law_most"] (spD K (clE T.er) 3 g__law_made) := by
  refine fok T.F__law_made sc__law_made rfl rfl fun cdv A outer s H E hr => ?_
  have nd := sc__law_made.nd
  have hu64 := hr.units
  have hu65 := hu65_of hr
  have hu1 := hu_of hr
  exact js_cons (js_own nd (jf_lst (ja_nil))) (js_cons (js_set nd (JF.v (jf_lst (ja_cons (j_str) (ja_nil))))) (js_cons (js_forI passes_D rfl bdN_ok (ji_r1 T.z_range (j_op o_add (J.r (j_var 2)) (J.r (j_int)))) (jg_n nd) (js_cons (js_set nd (JF.v (jf_lst (ja_nil)))) (js_cons (js_forE passes_D rfl bdN_ok (j_var 4) (jg_n nd) (js_cons (js_set nd (j_call (ok__law_row T) (hr.mono (by decide)) T.m__law_row T.F__law_row.kp T.b__law_row takes_D (ja_cons (j_var 0) (ja_cons (j_var 1) (ja_cons (j_var 7) (ja_nil)))) (bCons_len (bCons_len (bCons_len bNil_len))))) (js_cons (js_if (jt_cmp (o_in hu65) (J.r (j_str)) (J.r (j_var 8))) (js_one (js_app 3 (j_var 7))) (js_nil)) (js_one (js_set nd (j_op o_add (J.r (j_var 6)) (JF.r (jf_lcE (own := [("_law_letter", 9)]) rfl nd (JF.v (jf_b (c_sort rfl) T.z_sorted PyProof.Rows.boot_sorted (ja1_cons (J.r (j_var 8)) (ja1_nil)))) ⟨blkOk_by (own := [("_law_letter", 9)]) (by first | (show blkC ["_law_book_here", "_law_order", "_law_most", "_law_found", "_law_texts", "_law_size", "_law_longer", "_law_text", "_law_row_here", "_law_letter"] (defScope (topS 48)) _ _ = true; decide +kernel) | rfl), fun _ _ _ _ _ => jg_n nd, fun _ _ _ _ _ => jifs_oneK (K := K) rfl (jt_cmp (o_ne hu64) (J.r (j_var 9)) (J.r (j_str))), fun _ _ _ _ _ => j_op o_add (J.r (j_var 7)) (J.r (j_var 9))⟩)))))))) (js_one (js_set nd (j_var 6)))))) (jss_fz 3 (js_one (js_ret (j_var 3))))))
theorem sc__law_lowest : FnScope ["_law_up", "_law_down", "_law_one", "_law_other"] ["_law_up", "_law_down"] (defScope (topS 45)) := ⟨rfl, rfl, rfl, by decide +kernel, rfl, by decide +kernel, by decide +kernel⟩
theorem ok__law_lowest (T : Top K mg) : FnOk P w K mg base (L2.CX P w) 1 T.f__law_lowest T.fd__law_lowest ["_law_up", "_law_down"] (spD K (clE T.er) 2 g__law_lowest) := by
  refine fok T.F__law_lowest sc__law_lowest rfl rfl fun cdv A outer s H E hr => ?_
  have nd := sc__law_lowest.nd
  have hu64 := hr.units
  have hu65 := hu65_of hr
  have hu1 := hu_of hr
  exact js_cons (js_set nd (j_var 0)) (js_cons (js_set nd (j_var 1)) (js_cons (js_while passes_D (jt_cmp o_gt (J.r (j_var 3)) (J.r (j_int))) (js_one (js_par rfl nd (by decide) (j_var 3) (j_op o_mod (J.r (j_var 2)) (J.r (j_var 3)))))) (js_one (js_ret (j_tup (ja_cons (j_op o_div (J.r (j_var 0)) (J.r (j_var 2))) (ja_cons (j_op o_div (J.r (j_var 1)) (J.r (j_var 2))) (ja_nil))))))))
theorem sc__law_share : FnScope ["_law_book_here", "_law_order", "_law_name_here", "_law_up", "_law_down", "_law_size", "_law_row_here", "_law_letter"] ["_law_book_here", "_law_order", "_law_name_here"] (defScope (topS 46)) := ⟨rfl, rfl, rfl, by decide +kernel, rfl, by decide +kernel, by decide +kernel⟩
theorem ok__law_share (T : Top K mg) : FnOk P w K mg base (L2.CX P w) 3 T.f__law_share T.fd__law_share ["_law_book_here", "_law_order", "_law_name_here"] (spD K (clE T.er) 3 g__law_share) := by
  refine fok T.F__law_share sc__law_share rfl rfl fun cdv A outer s H E hr => ?_
  have nd := sc__law_share.nd
  have hu64 := hr.units
  have hu65 := hu65_of hr
  have hu1 := hu_of hr
  exact js_cons (js_set nd (j_int)) (js_cons (js_set nd (j_int)) (js_cons (js_forI passes_D rfl bdN_ok (ji_r1 T.z_range (j_op o_add (J.r (j_b c_len T.z_len PySem.boot_len (ja1_cons (J.r (j_var 2)) (ja1_nil)))) (J.r (j_int)))) (jg_n nd) (js_cons (js_set nd (j_call (ok__law_row T) (hr.mono (by decide)) T.m__law_row T.F__law_row.kp T.b__law_row takes_D (ja_cons (j_var 0) (ja_cons (j_var 1) (ja_cons (j_slice (J.r (j_var 2)) (jo_none) (jo_some (J.r (j_var 5)))) (ja_nil)))) (bCons_len (bCons_len (bCons_len bNil_len))))) (js_cons (js_set nd (j_op o_mul (J.r (j_var 3)) (J.r (j_get hu1 (J.r (j_var 6)) (j_slice (J.r (j_var 2)) (jo_some (J.r (j_var 5))) (jo_some (J.r (j_op o_add (J.r (j_var 5)) (J.r (j_int)))))) (j_int))))) (js_one (js_set nd (j_op o_mul (J.r (j_var 4)) (J.r (j_b (c_max rfl) T.z_max PyProof.Rows.boot_max (ja1_cons (J.r (j_int)) (ja1_cons (J.r (j_b (c_sum rfl) T.z_sum PyProof.Rows.boot_sum (ja1_cons (JF.r (jf_lcE (own := [("_law_letter", 7)]) rfl nd (j_var 6) ⟨blkOk_by (own := [("_law_letter", 7)]) (by first | (show blkC ["_law_book_here", "_law_order", "_law_name_here", "_law_up", "_law_down", "_law_size", "_law_row_here", "_law_letter"] (defScope (topS 46)) _ _ = true; decide +kernel) | rfl), fun _ _ _ _ _ => jg_n nd, fun _ _ _ _ _ => jifs_nil, fun _ _ _ _ _ => j_ix hu1 (J.r (j_var 6)) (J.r (j_var 7))⟩)) (ja1_nil)))) (ja1_nil))))))))))) (js_one (js_ret (j_call (ok__law_lowest T) (hr.mono (by decide)) T.m__law_lowest T.F__law_lowest.kp T.b__law_lowest takes_D (ja_cons (j_var 3) (ja_cons (j_var 4) (ja_nil))) (bCons_len (bCons_len bNil_len)))))))
theorem sc__law_sum : FnScope ["_law_rows", "_law_up", "_law_down", "_law_one"] ["_law_rows"] (defScope (topS 47)) := ⟨rfl, rfl, rfl, by decide +kernel, rfl, by decide +kernel, by decide +kernel⟩
theorem ok__law_sum (T : Top K mg) : FnOk P w K mg base (L2.CX P w) 2 T.f__law_sum T.fd__law_sum ["_law_rows"] (spD K (clE T.er) 1 g__law_sum) := by
  refine fok T.F__law_sum sc__law_sum rfl rfl fun cdv A outer s H E hr => ?_
  have nd := sc__law_sum.nd
  have hu64 := hr.units
  have hu65 := hu65_of hr
  have hu1 := hu_of hr
  exact js_cons (js_set nd (j_int)) (js_cons (js_set nd (j_int)) (js_cons (js_forE passes_D rfl bdN_ok (j_var 0) (jg_n nd) (js_one (js_unp (j_call (ok__law_lowest T) (hr.mono (by decide)) T.m__law_lowest T.F__law_lowest.kp T.b__law_lowest takes_D (ja_cons (j_op o_add (J.r (j_op o_mul (J.r (j_var 1)) (J.r (j_ix hu1 (J.r (j_var 3)) (J.r (j_int)))))) (J.r (j_op o_mul (J.r (j_ix hu1 (J.r (j_var 3)) (J.r (j_int)))) (J.r (j_var 2))))) (ja_cons (j_op o_mul (J.r (j_var 2)) (J.r (j_ix hu1 (J.r (j_var 3)) (J.r (j_int))))) (ja_nil))) (bCons_len (bCons_len bNil_len))) (jg_tK (K := K) rfl rfl (jgs_cons nd (jgs_cons nd (jgs_nil))))))) (js_one (js_ret (j_tup (ja_cons (j_var 1) (ja_cons (j_var 2) (ja_nil))))))))
theorem sc__law_refused : FnScope ["_law_e", "_law_flags"] ["_law_e"] (defScope (topS 49)) := ⟨rfl, rfl, rfl, by decide +kernel, rfl, by decide +kernel, by decide +kernel⟩
theorem ok__law_refused (T : Top K mg) : FnE P w K mg base (L2.CX P w) 1 T.f__law_refused T.fd__law_refused ["_law_e"] (spE (clE T.er) K h__law_refused) := by
  refine fokE T.F__law_refused sc__law_refused hv__law_refused fun cdv A outer s H E p c d hd hz hf hr => ?_
  have nd := sc__law_refused.nd
  obtain ⟨hu64, hu65, hu1⟩ := hu_of_H hr
  have hc := hRef_lt hd
  have hp : p ∈ (L2H.cxH (L2.CX P w) P w K mg base ["_law_e", "_law_flags"] "_law_refused" (defScope (topS 49)) T.f__law_refused cdv A outer s H E p).pn := List.mem_cons_self
  exact js_cons (js_set nd (JF.v (jf_lst (ja_cons (j_isE (T.er.c c hc) hp hz hf (pe_cls (T.er.x 0 (by decide)).g) rel_ref (T.er.kit c 0 hc (by decide)) T.z_isinstance) (ja_cons (j_isE (T.er.c c hc) hp hz hf (pe_cls (T.er.x 1 (by decide)).g) rel_ref (T.er.kit c 1 hc (by decide)) T.z_isinstance) (ja_cons (j_isE (T.er.c c hc) hp hz hf (pe_cls (T.er.x 2 (by decide)).g) rel_ref (T.er.kit c 2 hc (by decide)) T.z_isinstance) (ja_nil))))))) (js_cons (js_set nd (j_op o_add (J.r (j_var 1)) (JF.r (jf_lst (ja_cons (j_isE (T.er.c c hc) hp hz hf (pe_cls (T.er.x 3 (by decide)).g) rel_ref (T.er.kit c 3 hc (by decide)) T.z_isinstance) (ja_cons (j_isE (T.er.c c hc) hp hz hf (pe_cls (T.er.x 4 (by decide)).g) rel_ref (T.er.kit c 4 hc (by decide)) T.z_isinstance) (ja_cons (j_isE (T.er.c c hc) hp hz hf (pe_cls (T.er.x 5 (by decide)).g) rel_ref (T.er.kit c 5 hc (by decide)) T.z_isinstance) (ja_nil)))))))) (js_cons (js_set nd (j_op o_add (J.r (j_var 1)) (JF.r (jf_lst (ja_cons (j_isE (T.er.c c hc) hp hz hf (pe_cls (T.er.x 6 (by decide)).g) rel_ref (T.er.kit c 6 hc (by decide)) T.z_isinstance) (ja_cons (j_isE (T.er.c c hc) hp hz hf (pe_cls (T.er.x 7 (by decide)).g) rel_ref (T.er.kit c 7 hc (by decide)) T.z_isinstance) (ja_nil))))))) (js_cons (js_if (JW.t (jw_or (jt_cmp (o_ne hu64) (J.r (j_countB (J.r (j_var 1)) (J.r (j_bl)))) (J.r (j_int))) (jw_or1 (jt_not (jt_val (j_isE (T.er.c c hc) hp hz hf (pe_bltn (v := .ty "ValueError") (u := .type "ValueError") rfl T.z_ValueError (by decide +kernel) rfl (by decide) (by decide)) rel_ty (T.er.val c hc) T.z_isinstance)))))) (js_one (js_ret (j_tup (ja_cons (j_str) (ja_cons (j_neg (J.r (j_int))) (ja_nil)))))) (js_nil)) (js_one (js_ret (j_tup (ja_cons (j_str) (ja_cons (j_indexB (J.r (j_var 1)) (J.r (j_bl))) (ja_nil)))))))))
theorem sc_end_of : FnScope ["order", "text"] ["order", "text"] (defScope (topS 21)) := ⟨rfl, rfl, rfl, by decide +kernel, rfl, by decide +kernel, by decide +kernel⟩
theorem ok_end_of (T : Top K mg) : FnOk P w K mg base (L2.CX P w) 1 T.f_end_of T.fd_end_of ["order", "text"] (spD K (clE T.er) 2 g_end_of) := by
  refine fok T.F_end_of sc_end_of rfl rfl fun cdv A outer s H E hr => ?_
  have nd := sc_end_of.nd
  have hu64 := hr.units
  have hu65 := hu65_of hr
  have hu1 := hu_of hr
  exact js_one (js_ret (j_slice (J.r (j_var 1)) (jo_some (J.r (j_b (c_max rfl) T.z_max PyProof.Rows.boot_max (ja1_cons (J.r (j_int)) (ja1_cons (J.r (j_op o_sub (J.r (j_b c_len T.z_len PySem.boot_len (ja1_cons (J.r (j_var 1)) (ja1_nil)))) (J.r (j_var 0)))) (ja1_nil)))))) (jo_none)))
theorem sc_counted : FnScope ["book", "order", "found", "name", "size", "context", "letter", "row"] ["book", "order"] (defScope (topS 22)) := ⟨rfl, rfl, rfl, by decide +kernel, rfl, by decide +kernel, by decide +kernel⟩
theorem ok_counted (T : Top K mg) : FnOk P w K mg base (L2.CX P w) 2 T.f_counted T.fd_counted ["book", "order"] (spD K (clE T.er) 2 g_counted) := by
  refine fok T.F_counted sc_counted rfl rfl fun cdv A outer s H E hr => ?_
  have nd := sc_counted.nd
  have hu64 := hr.units
  have hu65 := hu65_of hr
  have hu1 := hu_of hr
  exact js_cons (js_nd0 2 nd) (js_cons (js_forE passes_D rfl bdN_ok (j_var 0) (jg_n nd) (js_one (js_forI passes_D rfl bdN_ok (ji_r1 T.z_range (j_op o_add (J.r (j_b c_len T.z_len PySem.boot_len (ja1_cons (J.r (j_var 3)) (ja1_nil)))) (J.r (j_int)))) (jg_n nd) (js_cons (js_set nd (j_call (ok_end_of T) (hr.mono (by decide)) T.m_end_of T.F_end_of.kp T.b_end_of takes_D (ja_cons (j_var 1) (ja_cons (j_slice (J.r (j_var 3)) (jo_none) (jo_some (J.r (j_var 4)))) (ja_nil))) (bCons_len (bCons_len bNil_len)))) (js_cons (js_set nd (j_slice (J.r (j_var 3)) (jo_some (J.r (j_var 4))) (jo_some (J.r (j_op o_add (J.r (j_var 4)) (J.r (j_int))))))) (jss_bump 2 7 5 6 nd hu1)))))) (jss_fz 2 (js_one (js_ret (j_var 2)))))
theorem sc_lengthened : FnScope ["rows", "order", "texts", "found", "text", "letter"] ["rows", "order", "texts"] (defScope (topS 35)) := ⟨rfl, rfl, rfl, by decide +kernel, rfl, by decide +kernel, by decide +kernel⟩
theorem ok_lengthened (T : Top K mg) : FnOk P w K mg base (L2.CX P w) 2 T.f_lengthened T.fd_lengthened ["rows", "order", "texts"] (spD K (clE T.er) 3 g_lengthened) := by
  refine fok T.F_lengthened sc_lengthened rfl rfl fun cdv A outer s H E hr => ?_
  have nd := sc_lengthened.nd
  have hu64 := hr.units
  have hu65 := hu65_of hr
  have hu1 := hu_of hr
  exact js_cons (js_own nd (jf_lst (ja_nil))) (js_cons (js_forE passes_D rfl bdN_ok (j_var 2) (jg_n nd) (js_one (js_ext 3 (jf_lcE (own := [("letter", 5)]) rfl nd (JF.v (jf_b (c_sort rfl) T.z_sorted PyProof.Rows.boot_sorted (ja1_cons (J.r (j_get hu1 (J.r (j_var 0)) (j_call (ok_end_of T) (hr.mono (by decide)) T.m_end_of T.F_end_of.kp T.b_end_of takes_D (ja_cons (j_var 1) (ja_cons (j_var 4) (ja_nil))) (bCons_len (bCons_len bNil_len))) (JF.v (jf_dic0)))) (ja1_nil)))) ⟨blkOk_by (own := [("letter", 5)]) (by first | (show blkC ["rows", "order", "texts", "found", "text", "letter"] (defScope (topS 35)) _ _ = true; decide +kernel) | rfl), fun _ _ _ _ _ => jg_n nd, fun _ _ _ _ _ => jifs_oneK (K := K) rfl (jt_cmp (o_ne hu64) (J.r (j_var 5)) (J.r (j_str))), fun _ _ _ _ _ => j_op o_add (J.r (j_var 4)) (J.r (j_var 5))⟩)))) (jss_fz 3 (js_one (js_ret (j_var 3)))))
theorem sc_is_name : FnScope ["thing", "sign"] ["thing"] (defScope (topS 16)) := ⟨rfl, rfl, rfl, by decide +kernel, rfl, by decide +kernel, by decide +kernel⟩
theorem ok_is_name (T : Top K mg) : FnOk P w K mg base (L2.CX P w) 1 T.f_is_name T.fd_is_name ["thing"] (spD K (clE T.er) 1 g_is_name) := by
  refine fok T.F_is_name sc_is_name rfl rfl fun cdv A outer s H E hr => ?_
  have nd := sc_is_name.nd
  have hu64 := hr.units
  have hu65 := hu65_of hr
  have hu1 := hu_of hr
  exact js_one (js_ret (j_and (j_isi .str (J.r (j_var 0)) PyProof.Rows.boot_str T.z_isinstance T.z_str) (j_and (j_chain o_le o_le (J.r (j_int)) (J.r (j_b c_len T.z_len PySem.boot_len (ja1_cons (J.r (j_var 0)) (ja1_nil)))) (J.r (j_globI T.g_MOST_LETTERS))) (j_one (j_b (c_all rfl) T.z_all PyProof.Rows.boot_all (ja1_cons (JF.r (jf_lcE (own := [("sign", 1)]) rfl nd (j_var 0) ⟨blkOk_by (own := [("sign", 1)]) (by first | (show blkC ["thing", "sign"] (defScope (topS 16)) _ _ = true; decide +kernel) | rfl), fun _ _ _ _ _ => jg_n nd, fun _ _ _ _ _ => jifs_nil, fun _ _ _ _ _ => j_cmp (o_in hu65) (J.r (j_var 1)) (J.r (j_globS T.g_LETTERS))⟩)) (ja1_nil)))))))
theorem sc_is_book : FnScope ["thing", "one"] ["thing"] (defScope (topS 17)) := ⟨rfl, rfl, rfl, by decide +kernel, rfl, by decide +kernel, by decide +kernel⟩
theorem ok_is_book (T : Top K mg) : FnOk P w K mg base (L2.CX P w) 2 T.f_is_book T.fd_is_book ["thing"] (spD K (clE T.er) 1 g_is_book) := by
  refine fok T.F_is_book sc_is_book rfl rfl fun cdv A outer s H E hr => ?_
  have nd := sc_is_book.nd
  have hu64 := hr.units
  have hu65 := hu65_of hr
  have hu1 := hu_of hr
  exact js_one (js_ret (j_and (j_isi .tup (J.r (j_var 0)) PyProof.Rows.boot_tuple T.z_isinstance T.z_tuple) (j_and (j_chain o_le o_le (J.r (j_int)) (J.r (j_b c_len T.z_len PySem.boot_len (ja1_cons (J.r (j_var 0)) (ja1_nil)))) (J.r (j_globI T.g_MOST_NAMES))) (j_one (j_b (c_all rfl) T.z_all PyProof.Rows.boot_all (ja1_cons (JF.r (jf_lcE (own := [("one", 1)]) rfl nd (j_var 0) ⟨blkOk_by (own := [("one", 1)]) (by first | (show blkC ["thing", "one"] (defScope (topS 17)) _ _ = true; decide +kernel) | rfl), fun _ _ _ _ _ => jg_n nd, fun _ _ _ _ _ => jifs_nil, fun _ _ _ _ _ => j_call (ok_is_name T) (hr.mono (by decide)) T.m_is_name T.F_is_name.kp T.b_is_name takes_W0 (ja_cons (j_var 1) (ja_nil)) (bCons_len bNil_len)⟩)) (ja1_nil)))))))
theorem sc_need_book : FnScope ["book"] ["book"] (defScope (topS 18)) := ⟨rfl, rfl, rfl, by decide +kernel, rfl, by decide +kernel, by decide +kernel⟩
theorem ok_need_book (T : Top K mg) : FnOk P w K mg base (L2.CX P w) 3 T.f_need_book T.fd_need_book ["book"] (spD K (clE T.er) 1 g_need_book) := by
  refine fok T.F_need_book sc_need_book rfl rfl fun cdv A outer s H E hr => ?_
  have nd := sc_need_book.nd
  have hu64 := hr.units
  have hu65 := hu65_of hr
  have hu1 := hu_of hr
  exact js_one (js_if (jt_not (jt_val (j_call (ok_is_book T) (hr.mono (by decide)) T.m_is_book T.F_is_book.kp T.b_is_book takes_D (ja_cons (j_var 0) (ja_nil)) (bCons_len bNil_len)))) (js_one (js_raise (cl := clE T.er) (c := 0) (C := T.er.e 0) rfl (T.er.x 0 (by decide)) rfl takes_D)) (js_nil))
theorem sc_is_number : FnScope ["thing", "low", "high"] ["thing", "low", "high"] (defScope (topS 15)) := ⟨rfl, rfl, rfl, by decide +kernel, rfl, by decide +kernel, by decide +kernel⟩
theorem ok_is_number (T : Top K mg) : FnOk P w K mg base (L2.CX P w) 1 T.f_is_number T.fd_is_number ["thing", "low", "high"] (spD K (clE T.er) 3 g_is_number) := by
  refine fok T.F_is_number sc_is_number rfl rfl fun cdv A outer s H E hr => ?_
  have nd := sc_is_number.nd
  have hu64 := hr.units
  have hu65 := hu65_of hr
  have hu1 := hu_of hr
  exact js_one (js_ret (j_and (j_isi .int (J.r (j_var 0)) PyProof.Rows.boot_int T.z_isinstance T.z_int) (j_and (j_not (J.r (j_isi .bool (J.r (j_var 0)) PyProof.Rows.boot_bool T.z_isinstance T.z_bool))) (j_one (j_chain o_le o_le (J.r (j_var 1)) (J.r (j_var 0)) (J.r (j_var 2)))))))
theorem sc_need_number : FnScope ["number", "low", "high"] ["number", "low", "high"] (defScope (topS 20)) := ⟨rfl, rfl, rfl, by decide +kernel, rfl, by decide +kernel, by decide +kernel⟩
theorem ok_need_number (T : Top K mg) : FnOk P w K mg base (L2.CX P w) 2 T.f_need_number T.fd_need_number ["number", "low", "high"] (spD K (clE T.er) 3 g_need_number) := by
  refine fok T.F_need_number sc_need_number rfl rfl fun cdv A outer s H E hr => ?_
  have nd := sc_need_number.nd
  have hu64 := hr.units
  have hu65 := hu65_of hr
  have hu1 := hu_of hr
  exact js_one (js_if (jt_not (jt_val (j_call (ok_is_number T) (hr.mono (by decide)) T.m_is_number T.F_is_number.kp T.b_is_number takes_D (ja_cons (j_var 0) (ja_cons (j_var 1) (ja_cons (j_var 2) (ja_nil)))) (bCons_len (bCons_len (bCons_len bNil_len)))))) (js_one (js_raise (cl := clE T.er) (c := 4) (C := T.er.e 4) rfl (T.er.x 4 (by decide)) rfl takes_D)) (js_nil))
theorem sc_need_order : FnScope ["order"] ["order"] (defScope (topS 19)) := ⟨rfl, rfl, rfl, by decide +kernel, rfl, by decide +kernel, by decide +kernel⟩
theorem ok_need_order (T : Top K mg) : FnOk P w K mg base (L2.CX P w) 2 T.f_need_order T.fd_need_order ["order"] (spD K (clE T.er) 1 g_need_order) := by
  refine fok T.F_need_order sc_need_order rfl rfl fun cdv A outer s H E hr => ?_
  have nd := sc_need_order.nd
  have hu64 := hr.units
  have hu65 := hu65_of hr
  have hu1 := hu_of hr
  exact js_one (js_if (jt_not (jt_val (j_call (ok_is_number T) (hr.mono (by decide)) T.m_is_number T.F_is_number.kp T.b_is_number takes_D (ja_cons (j_var 0) (ja_cons (j_int) (ja_cons (j_globI T.g_MOST_ORDER) (ja_nil)))) (bCons_len (bCons_len (bCons_len bNil_len)))))) (js_one (js_raise (cl := clE T.er) (c := 1) (C := T.er.e 1) rfl (T.er.x 1 (by decide)) rfl takes_D)) (js_nil))
theorem sc_need_all : FnScope ["book", "order", "length"] ["book", "order", "length"] (defScope (topS 30)) := ⟨rfl, rfl, rfl, by decide +kernel, rfl, by decide +kernel, by decide +kernel⟩
theorem ok_need_all (T : Top K mg) : FnOk P w K mg base (L2.CX P w) 4 T.f_need_all T.fd_need_all ["book", "order", "length"] (spD K (clE T.er) 3 g_need_all) := by
  refine fok T.F_need_all sc_need_all rfl rfl fun cdv A outer s H E hr => ?_
  have nd := sc_need_all.nd
  have hu64 := hr.units
  have hu65 := hu65_of hr
  have hu1 := hu_of hr
  exact js_cons (js_expr (j_call (ok_need_book T) (hr.mono (by decide)) T.m_need_book T.F_need_book.kp T.b_need_book takes_D (ja_cons (j_var 0) (ja_nil)) (bCons_len bNil_len))) (js_cons (js_expr (j_call (ok_need_order T) (hr.mono (by decide)) T.m_need_order T.F_need_order.kp T.b_need_order takes_D (ja_cons (j_var 1) (ja_nil)) (bCons_len bNil_len))) (js_one (js_expr (j_call (ok_need_number T) (hr.mono (by decide)) T.m_need_number T.F_need_number.kp T.b_need_number takes_D (ja_cons (j_var 2) (ja_cons (j_int) (ja_cons (j_globI T.g_MOST) (ja_nil)))) (bCons_len (bCons_len (bCons_len bNil_len)))))))
theorem sc_all_made : FnScope ["book", "order", "length", "rows", "texts", "turn", "text"] ["book", "order", "length"] (defScope (topS 36)) := ⟨rfl, rfl, rfl, by decide +kernel, rfl, by decide +kernel, by decide +kernel⟩
theorem ok_all_made (T : Top K mg) : FnOk P w K mg base (L2.CX P w) 5 T.f_all_made T.fd_all_made ["book", "order", "length"] (spD K (clE T.er) 3 g_all_made) := by
  refine fok T.F_all_made sc_all_made rfl rfl fun cdv A outer s H E hr => ?_
  have nd := sc_all_made.nd
  have hu64 := hr.units
  have hu65 := hu65_of hr
  have hu1 := hu_of hr
  exact js_cons (js_expr (j_call (ok_need_all T) (hr.mono (by decide)) T.m_need_all T.F_need_all.kp T.b_need_all takes_D (ja_cons (j_var 0) (ja_cons (j_var 1) (ja_cons (j_var 2) (ja_nil)))) (bCons_len (bCons_len (bCons_len bNil_len))))) (js_cons (js_set nd (j_call (ok_counted T) (hr.mono (by decide)) T.m_counted T.F_counted.kp T.b_counted takes_D (ja_cons (j_var 0) (ja_cons (j_var 1) (ja_nil))) (bCons_len (bCons_len bNil_len)))) (js_cons (js_set nd (JF.v (jf_lst (ja_cons (j_str) (ja_nil))))) (js_cons (js_forI passes_D rfl bdN_ok (ji_r1 T.z_range (j_var 2)) (jg_n nd) (js_one (js_set nd (j_call (ok_lengthened T) (hr.mono (by decide)) T.m_lengthened T.F_lengthened.kp T.b_lengthened takes_D (ja_cons (j_var 3) (ja_cons (j_var 1) (ja_cons (j_var 4) (ja_nil)))) (bCons_len (bCons_len (bCons_len bNil_len))))))) (js_one (js_ret (JF.v (jf_b (c_sort rfl) T.z_sorted PyProof.Rows.boot_sorted (ja1_cons (JF.r (jf_lcE (own := [("text", 6)]) rfl nd (j_var 4) ⟨blkOk_by (own := [("text", 6)]) (by first | (show blkC ["book", "order", "length", "rows", "texts", "turn", "text"] (defScope (topS 36)) _ _ = true; decide +kernel) | rfl), fun _ _ _ _ _ => jg_n nd, fun _ _ _ _ _ => jifs_oneK (K := K) rfl (jt_cmp (o_in hu65) (J.r (j_str)) (J.r (j_get hu1 (J.r (j_var 3)) (j_call (ok_end_of T) (hr.mono (by decide)) T.m_end_of T.F_end_of.kp T.b_end_of takes_W0 (ja_cons (j_var 1) (ja_cons (j_var 6) (ja_nil))) (bCons_len (bCons_len bNil_len))) (JF.v (jf_dic0))))), fun _ _ _ _ _ => j_var 6⟩)) (ja1_nil)))))))))
theorem sc_lowest : FnScope ["up", "down", "one", "other"] ["up", "down"] (defScope (topS 24)) := ⟨rfl, rfl, rfl, by decide +kernel, rfl, by decide +kernel, by decide +kernel⟩
theorem ok_lowest (T : Top K mg) : FnOk P w K mg base (L2.CX P w) 1 T.f_lowest T.fd_lowest ["up", "down"] (spD K (clE T.er) 2 g_lowest) := by
  refine fok T.F_lowest sc_lowest rfl rfl fun cdv A outer s H E hr => ?_
  have nd := sc_lowest.nd
  have hu64 := hr.units
  have hu65 := hu65_of hr
  have hu1 := hu_of hr
  exact js_cons (js_set nd (j_var 0)) (js_cons (js_set nd (j_var 1)) (js_cons (js_while passes_D (jt_cmp o_gt (J.r (j_var 2)) (J.r (j_int))) (js_one (js_par rfl nd (by decide) (j_op o_mod (J.r (j_var 3)) (J.r (j_var 2))) (j_var 2)))) (js_one (js_ret (j_tup (ja_cons (j_op o_div (J.r (j_var 0)) (J.r (j_var 3))) (ja_cons (j_op o_div (J.r (j_var 1)) (J.r (j_var 3))) (ja_nil))))))))
theorem sc_added : FnScope ["one", "other"] ["one", "other"] (defScope (topS 25)) := ⟨rfl, rfl, rfl, by decide +kernel, rfl, by decide +kernel, by decide +kernel⟩
theorem ok_added (T : Top K mg) : FnOk P w K mg base (L2.CX P w) 2 T.f_added T.fd_added ["one", "other"] (spD K (clE T.er) 2 g_added) := by
  refine fok T.F_added sc_added rfl rfl fun cdv A outer s H E hr => ?_
  have nd := sc_added.nd
  have hu64 := hr.units
  have hu65 := hu65_of hr
  have hu1 := hu_of hr
  exact js_one (js_ret (j_call (ok_lowest T) (hr.mono (by decide)) T.m_lowest T.F_lowest.kp T.b_lowest takes_D (ja_cons (j_op o_add (J.r (j_op o_mul (J.r (j_ix hu1 (J.r (j_var 0)) (J.r (j_int)))) (J.r (j_ix hu1 (J.r (j_var 1)) (J.r (j_int)))))) (J.r (j_op o_mul (J.r (j_ix hu1 (J.r (j_var 1)) (J.r (j_int)))) (J.r (j_ix hu1 (J.r (j_var 0)) (J.r (j_int))))))) (ja_cons (j_op o_mul (J.r (j_ix hu1 (J.r (j_var 0)) (J.r (j_int)))) (J.r (j_ix hu1 (J.r (j_var 1)) (J.r (j_int))))) (ja_nil))) (bCons_len (bCons_len bNil_len))))
theorem sc_part_of : FnScope ["rows", "context", "letter", "row", "one"] ["rows", "context", "letter"] (defScope (topS 27)) := ⟨rfl, rfl, rfl, by decide +kernel, rfl, by decide +kernel, by decide +kernel⟩
theorem ok_part_of (T : Top K mg) : FnOk P w K mg base (L2.CX P w) 2 T.f_part_of T.fd_part_of ["rows", "context", "letter"] (spD K (clE T.er) 3 g_part_of) := by
  refine fok T.F_part_of sc_part_of rfl rfl fun cdv A outer s H E hr => ?_
  have nd := sc_part_of.nd
  have hu64 := hr.units
  have hu65 := hu65_of hr
  have hu1 := hu_of hr
  exact js_cons (js_set nd (j_get hu1 (J.r (j_var 0)) (j_var 1) (JF.v (jf_dic0)))) (js_cons (js_if (jt_cmp (o_notin hu65) (J.r (j_var 2)) (J.r (j_var 3))) (js_one (js_ret (j_tup (ja_cons (j_int) (ja_cons (j_int) (ja_nil)))))) (js_nil)) (js_one (js_ret (j_call (ok_lowest T) (hr.mono (by decide)) T.m_lowest T.F_lowest.kp T.b_lowest takes_D (ja_cons (j_ix hu1 (J.r (j_var 3)) (J.r (j_var 2))) (ja_cons (j_b (c_sum rfl) T.z_sum PyProof.Rows.boot_sum (ja1_cons (JF.r (jf_lcE (own := [("one", 4)]) rfl nd (j_var 3) ⟨blkOk_by (own := [("one", 4)]) (by first | (show blkC ["rows", "context", "letter", "row", "one"] (defScope (topS 27)) _ _ = true; decide +kernel) | rfl), fun _ _ _ _ _ => jg_n nd, fun _ _ _ _ _ => jifs_nil, fun _ _ _ _ _ => j_ix hu1 (J.r (j_var 3)) (J.r (j_var 4))⟩)) (ja1_nil))) (ja_nil))) (bCons_len (bCons_len bNil_len))))))
theorem sc_times : FnScope ["one", "other"] ["one", "other"] (defScope (topS 26)) := ⟨rfl, rfl, rfl, by decide +kernel, rfl, by decide +kernel, by decide +kernel⟩
theorem ok_times (T : Top K mg) : FnOk P w K mg base (L2.CX P w) 2 T.f_times T.fd_times ["one", "other"] (spD K (clE T.er) 2 g_times) := by
  refine fok T.F_times sc_times rfl rfl fun cdv A outer s H E hr => ?_
  have nd := sc_times.nd
  have hu64 := hr.units
  have hu65 := hu65_of hr
  have hu1 := hu_of hr
  exact js_one (js_ret (j_call (ok_lowest T) (hr.mono (by decide)) T.m_lowest T.F_lowest.kp T.b_lowest takes_D (ja_cons (j_op o_mul (J.r (j_ix hu1 (J.r (j_var 0)) (J.r (j_int)))) (J.r (j_ix hu1 (J.r (j_var 1)) (J.r (j_int))))) (ja_cons (j_op o_mul (J.r (j_ix hu1 (J.r (j_var 0)) (J.r (j_int)))) (J.r (j_ix hu1 (J.r (j_var 1)) (J.r (j_int))))) (ja_nil))) (bCons_len (bCons_len bNil_len))))
theorem sc_ways : FnScope ["rows", "order", "length", "found", "turn", "more", "context", "letter", "many", "whole", "there", "old", "part"] ["rows", "order", "length"] (defScope (topS 31)) := ⟨rfl, rfl, rfl, by decide +kernel, rfl, by decide +kernel, by decide +kernel⟩
theorem ok_ways (T : Top K mg) : FnOk P w K mg base (L2.CX P w) 3 T.f_ways T.fd_ways ["rows", "order", "length"] (spD K (clE T.er) 3 g_ways) := by
  refine fok T.F_ways sc_ways rfl rfl fun cdv A outer s H E hr => ?_
  have nd := sc_ways.nd
  have hu64 := hr.units
  have hu65 := hu65_of hr
  have hu1 := hu_of hr
  exact js_cons (js_set nd (JF.v (jf_dic1 (j_str) (j_tup (ja_cons (j_int) (ja_cons (j_tup (ja_cons (j_int) (ja_cons (j_int) (ja_nil)))) (ja_nil))))))) (js_cons (js_forI passes_D rfl bdN_ok (ji_r1 T.z_range (j_var 2)) (jg_n nd) (js_cons (js_own nd (jf_dic0)) (js_cons (js_forE passes_D rfl bdN_ok (j_var 3) (jg_n nd) (js_cons (js_unp (j_ix hu1 (J.r (j_var 3)) (J.r (j_var 6))) (jg_tK (K := K) rfl rfl (jgs_cons nd (jgs_cons nd (jgs_nil))))) (js_one (js_forE passes_D rfl bdN_ok (j_get hu1 (J.r (j_var 0)) (j_var 6) (JF.v (jf_dic0))) (jg_n nd) (js_one (js_if (jt_cmp (o_ne hu64) (J.r (j_var 7)) (J.r (j_str))) (js_cons (js_set nd (j_call (ok_end_of T) (hr.mono (by decide)) T.m_end_of T.F_end_of.kp T.b_end_of takes_D (ja_cons (j_var 1) (ja_cons (j_op o_add (J.r (j_var 6)) (J.r (j_var 7))) (ja_nil))) (bCons_len (bCons_len bNil_len)))) (js_cons (js_set nd (j_get hu1 (jr_rd 5) (j_var 10) (j_tup (ja_cons (j_int) (ja_cons (j_tup (ja_cons (j_int) (ja_cons (j_int) (ja_nil)))) (ja_nil)))))) (js_cons (js_set nd (j_call (ok_times T) (hr.mono (by decide)) T.m_times T.F_times.kp T.b_times takes_D (ja_cons (j_var 9) (ja_cons (j_call (ok_part_of T) (hr.mono (by decide)) T.m_part_of T.F_part_of.kp T.b_part_of takes_D (ja_cons (j_var 0) (ja_cons (j_var 6) (ja_cons (j_var 7) (ja_nil)))) (bCons_len (bCons_len (bCons_len bNil_len)))) (ja_nil))) (bCons_len (bCons_len bNil_len)))) (js_one (js_put 5 hu1 (j_var 10) (j_tup (ja_cons (j_op o_add (J.r (j_ix hu1 (J.r (j_var 11)) (J.r (j_int)))) (J.r (j_var 8))) (ja_cons (j_call (ok_added T) (hr.mono (by decide)) T.m_added T.F_added.kp T.b_added takes_D (ja_cons (j_ix hu1 (J.r (j_var 11)) (J.r (j_int))) (ja_cons (j_var 12) (ja_nil))) (bCons_len (bCons_len bNil_len))) (ja_nil))))))))) (js_nil))))))) (jss_fz 5 (js_one (js_set nd (j_var 5))))))) (js_one (js_ret (j_var 3))))
theorem sc_how_many : FnScope ["book", "order", "length", "rows", "found", "context"] ["book", "order", "length"] (defScope (topS 32)) := ⟨rfl, rfl, rfl, by decide +kernel, rfl, by decide +kernel, by decide +kernel⟩
theorem ok_how_many (T : Top K mg) : FnOk P w K mg base (L2.CX P w) 5 T.f_how_many T.fd_how_many ["book", "order", "length"] (spD K (clE T.er) 3 g_how_many) := by
  refine fok T.F_how_many sc_how_many rfl rfl fun cdv A outer s H E hr => ?_
  have nd := sc_how_many.nd
  have hu64 := hr.units
  have hu65 := hu65_of hr
  have hu1 := hu_of hr
  exact js_cons (js_expr (j_call (ok_need_all T) (hr.mono (by decide)) T.m_need_all T.F_need_all.kp T.b_need_all takes_D (ja_cons (j_var 0) (ja_cons (j_var 1) (ja_cons (j_var 2) (ja_nil)))) (bCons_len (bCons_len (bCons_len bNil_len))))) (js_cons (js_set nd (j_call (ok_counted T) (hr.mono (by decide)) T.m_counted T.F_counted.kp T.b_counted takes_D (ja_cons (j_var 0) (ja_cons (j_var 1) (ja_nil))) (bCons_len (bCons_len bNil_len)))) (js_cons (js_set nd (j_call (ok_ways T) (hr.mono (by decide)) T.m_ways T.F_ways.kp T.b_ways takes_D (ja_cons (j_var 3) (ja_cons (j_var 1) (ja_cons (j_var 2) (ja_nil)))) (bCons_len (bCons_len (bCons_len bNil_len))))) (js_one (js_ret (j_b (c_sum rfl) T.z_sum PyProof.Rows.boot_sum (ja1_cons (JF.r (jf_lcE (own := [("context", 5)]) rfl nd (j_var 4) ⟨blkOk_by (own := [("context", 5)]) (by first | (show blkC ["book", "order", "length", "rows", "found", "context"] (defScope (topS 32)) _ _ = true; decide +kernel) | rfl), fun _ _ _ _ _ => jg_n nd, fun _ _ _ _ _ => jifs_oneK (K := K) rfl (jt_cmp (o_in hu65) (J.r (j_str)) (J.r (j_get hu1 (J.r (j_var 3)) (j_var 5) (JF.v (jf_dic0))))), fun _ _ _ _ _ => j_ix hu1 (J.r (j_ix hu1 (J.r (j_var 4)) (J.r (j_var 5)))) (J.r (j_int))⟩)) (ja1_nil)))))))
theorem sc_lengths : FnScope ["book", "order", "length"] ["book", "order"] (defScope (topS 37)) := ⟨rfl, rfl, rfl, by decide +kernel, rfl, by decide +kernel, by decide +kernel⟩
theorem ok_lengths (T : Top K mg) : FnOk P w K mg base (L2.CX P w) 6 T.f_lengths T.fd_lengths ["book", "order"] (spD K (clE T.er) 2 g_lengths) := by
  refine fok T.F_lengths sc_lengths rfl rfl fun cdv A outer s H E hr => ?_
  have nd := sc_lengths.nd
  have hu64 := hr.units
  have hu65 := hu65_of hr
  have hu1 := hu_of hr
  exact js_cons (js_expr (j_call (ok_need_book T) (hr.mono (by decide)) T.m_need_book T.F_need_book.kp T.b_need_book takes_D (ja_cons (j_var 0) (ja_nil)) (bCons_len bNil_len))) (js_cons (js_expr (j_call (ok_need_order T) (hr.mono (by decide)) T.m_need_order T.F_need_order.kp T.b_need_order takes_D (ja_cons (j_var 1) (ja_nil)) (bCons_len bNil_len))) (js_one (js_ret (JF.v (jf_lcI (own := [("length", 2)]) rfl nd (ji_r2 T.z_range (j_int) (j_op o_add (J.r (j_globI T.g_MOST)) (J.r (j_int)))) ⟨blkOk_by (own := [("length", 2)]) (by first | (show blkC ["book", "order", "length"] (defScope (topS 37)) _ _ = true; decide +kernel) | rfl), fun _ _ _ _ _ => jg_n nd, fun _ _ _ _ _ => jifs_oneK (K := K) rfl (jt_cmp o_gt (J.r (j_call (ok_how_many T) (hr.mono (by decide)) T.m_how_many T.F_how_many.kp T.b_how_many takes_W0 (ja_cons (j_var 0) (ja_cons (j_var 1) (ja_cons (j_var 2) (ja_nil)))) (bCons_len (bCons_len (bCons_len bNil_len))))) (J.r (j_int))), fun _ _ _ _ _ => j_var 2⟩)))))
theorem sc_share_of_length : FnScope ["book", "order", "length", "rows", "found", "some", "context"] ["book", "order", "length"] (defScope (topS 33)) := ⟨rfl, rfl, rfl, by decide +kernel, rfl, by decide +kernel, by decide +kernel⟩
theorem ok_share_of_length (T : Top K mg) : FnOk P w K mg base (L2.CX P w) 5 T.f_share_of_length T.fd_share_of_length ["book", "order", "length"] (spD K (clE T.er) 3 g_share_of_length) := by
  refine fok T.F_share_of_length sc_share_of_length rfl rfl fun cdv A outer s H E hr => ?_
  have nd := sc_share_of_length.nd
  have hu64 := hr.units
  have hu65 := hu65_of hr
  have hu1 := hu_of hr
  exact js_cons (js_expr (j_call (ok_need_all T) (hr.mono (by decide)) T.m_need_all T.F_need_all.kp T.b_need_all takes_D (ja_cons (j_var 0) (ja_cons (j_var 1) (ja_cons (j_var 2) (ja_nil)))) (bCons_len (bCons_len (bCons_len bNil_len))))) (js_cons (js_set nd (j_call (ok_counted T) (hr.mono (by decide)) T.m_counted T.F_counted.kp T.b_counted takes_D (ja_cons (j_var 0) (ja_cons (j_var 1) (ja_nil))) (bCons_len (bCons_len bNil_len)))) (js_cons (js_set nd (j_tup (ja_cons (j_int) (ja_cons (j_int) (ja_nil))))) (js_cons (js_set nd (j_call (ok_ways T) (hr.mono (by decide)) T.m_ways T.F_ways.kp T.b_ways takes_D (ja_cons (j_var 3) (ja_cons (j_var 1) (ja_cons (j_var 2) (ja_nil)))) (bCons_len (bCons_len (bCons_len bNil_len))))) (js_cons (js_forE passes_D rfl bdN_ok (j_var 5) (jg_n nd) (js_one (js_set nd (j_call (ok_added T) (hr.mono (by decide)) T.m_added T.F_added.kp T.b_added takes_D (ja_cons (j_var 4) (ja_cons (j_call (ok_times T) (hr.mono (by decide)) T.m_times T.F_times.kp T.b_times takes_D (ja_cons (j_ix hu1 (J.r (j_ix hu1 (J.r (j_var 5)) (J.r (j_var 6)))) (J.r (j_int))) (ja_cons (j_call (ok_part_of T) (hr.mono (by decide)) T.m_part_of T.F_part_of.kp T.b_part_of takes_D (ja_cons (j_var 3) (ja_cons (j_var 6) (ja_cons (j_str) (ja_nil)))) (bCons_len (bCons_len (bCons_len bNil_len)))) (ja_nil))) (bCons_len (bCons_len bNil_len))) (ja_nil))) (bCons_len (bCons_len bNil_len)))))) (js_one (js_ret (j_var 4)))))))
theorem sc_share_up_to : FnScope ["book", "order", "length", "found", "size"] ["book", "order", "length"] (defScope (topS 34)) := ⟨rfl, rfl, rfl, by decide +kernel, rfl, by decide +kernel, by decide +kernel⟩
theorem ok_share_up_to (T : Top K mg) : FnOk P w K mg base (L2.CX P w) 6 T.f_share_up_to T.fd_share_up_to ["book", "order", "length"] (spD K (clE T.er) 3 g_share_up_to) := by
  refine fok T.F_share_up_to sc_share_up_to rfl rfl fun cdv A outer s H E hr => ?_
  have nd := sc_share_up_to.nd
  have hu64 := hr.units
  have hu65 := hu65_of hr
  have hu1 := hu_of hr
  exact js_cons (js_expr (j_call (ok_need_all T) (hr.mono (by decide)) T.m_need_all T.F_need_all.kp T.b_need_all takes_D (ja_cons (j_var 0) (ja_cons (j_var 1) (ja_cons (j_var 2) (ja_nil)))) (bCons_len (bCons_len (bCons_len bNil_len))))) (js_cons (js_set nd (j_tup (ja_cons (j_int) (ja_cons (j_int) (ja_nil))))) (js_cons (js_forI passes_D rfl bdN_ok (ji_r2 T.z_range (j_int) (j_op o_add (J.r (j_var 2)) (J.r (j_int)))) (jg_n nd) (js_one (js_set nd (j_call (ok_added T) (hr.mono (by decide)) T.m_added T.F_added.kp T.b_added takes_D (ja_cons (j_var 3) (ja_cons (j_call (ok_share_of_length T) (hr.mono (by decide)) T.m_share_of_length T.F_share_of_length.kp T.b_share_of_length takes_D (ja_cons (j_var 0) (ja_cons (j_var 1) (ja_cons (j_var 4) (ja_nil)))) (bCons_len (bCons_len (bCons_len bNil_len)))) (ja_nil))) (bCons_len (bCons_len bNil_len)))))) (js_one (js_ret (j_var 3)))))
theorem sc__law_told : FnScope ["_law_way", "_law_book_here", "_law_order", "_law_length", "_law_e"] ["_law_way", "_law_book_here", "_law_order", "_law_length"] (defScope (topS 50)) := ⟨rfl, rfl, rfl, by decide +kernel, rfl, by decide +kernel, by decide +kernel⟩
theorem ok__law_told (T : Top K mg) : FnOk P w K mg base (L2.CX P w) 7 T.f__law_told T.fd__law_told ["_law_way", "_law_book_here", "_law_order", "_law_length"] (spD K (clE T.er) 4 g__law_told) := by
  refine fok T.F__law_told sc__law_told rfl rfl fun cdv A outer s H E hr => ?_
  have nd := sc__law_told.nd
  have hu64 := hr.units
  have hu65 := hu65_of hr
  have hu1 := hu_of hr
  exact js_one (js_tryR (i := 4) (hN := nd) (ok__law_refused T) (L2H.roomH_of (hr.mono (by decide))) T.m__law_refused T.F__law_refused.kp T.b__law_refused (fun c d h => T.er.exm c (hRef_lt h)) T.er.g (fun pn xe Wn tk hp => js_cons (js_if (jt_cmp (o_eq hu64) (J.r (j_var 0)) (J.r (j_int))) (js_one (js_ret (j_call (ok_lengths T) (hr.mono (by decide)) T.m_lengths T.F_lengths.kp T.b_lengths tk (ja_cons (j_var 1) (ja_cons (j_var 2) (ja_nil))) (bCons_len (bCons_len bNil_len))))) (js_nil)) (js_one (js_ret (j_sel (fs := [T.f_how_many, T.f_share_of_length, T.f_share_up_to, T.f_all_made]) rfl (Nat.le_of_ble_eq_true rfl) (fun i f g h h2 => match i, f, g, h, h2 with | 0, _, _, h, h2 => by cases h; cases h2; exact ⟨_, _, _, ok_how_many T, hr.mono (by decide), T.F_how_many.kp, T.b_how_many⟩ | 1, _, _, h, h2 => by cases h; cases h2; exact ⟨_, _, _, ok_share_of_length T, hr.mono (by decide), T.F_share_of_length.kp, T.b_share_of_length⟩ | 2, _, _, h, h2 => by cases h; cases h2; exact ⟨_, _, _, ok_share_up_to T, hr.mono (by decide), T.F_share_up_to.kp, T.b_share_up_to⟩ | 3, _, _, h, h2 => by cases h; cases h2; exact ⟨_, _, _, ok_all_made T, hr.mono (by decide), T.F_all_made.kp, T.b_all_made⟩ | i + 4, _, _, h, _ => by simp at h) (pa_cons (pe_glob (v := .ref T.f_how_many) rfl T.m_how_many rfl) (pa_cons (pe_glob (v := .ref T.f_share_of_length) rfl T.m_share_of_length rfl) (pa_cons (pe_glob (v := .ref T.f_share_up_to) rfl T.m_share_up_to rfl) (pa_cons (pe_glob (v := .ref T.f_all_made) rfl T.m_all_made rfl) (pa_nil))))) (fun _ _ _ h => h) (J.r (j_var 0)) (ja_cons (j_var 1) (ja_cons (j_var 2) (ja_cons (j_var 3) (ja_nil)))) tk (bCons_len (bCons_len (bCons_len bNil_len))))))))
theorem sc_law : FnScope ["_law_script", "_law_book_here", "_law_order", "_law_names", "_law_length", "_law_told_here", "_law_odd", "_law_due", "_law_own", "_law_upto", "_law_way", "_law_name_here"] ["_law_script"] (defScope (topS 51)) := ⟨rfl, rfl, rfl, by decide +kernel, rfl, by decide +kernel, by decide +kernel⟩
theorem ok_law (T : Top K mg) : FnOk P w K mg base (L2.CX P w) 8 T.f_law T.fd_law ["_law_script"] (spD K (clE T.er) 1 g_law_k20) := by
  refine fok T.F_law sc_law rfl rfl fun cdv A outer s H E hr => ?_
  have nd := sc_law.nd
  have hu64 := hr.units
  have hu65 := hu65_of hr
  have hu1 := hu_of hr
  exact js_cons (js_set nd (j_call (ok__law_book T) (hr.mono (by decide)) T.m__law_book T.F__law_book.kp T.b__law_book takes_D (ja_cons (j_var 0) (ja_cons (j_int) (ja_cons (j_int) (ja_cons (j_int) (ja_nil))))) (bCons_len (bCons_len (bCons_len (bCons_len bNil_len)))))) (js_cons (js_set nd (j_op o_add (J.r (j_int)) (J.r (j_call (ok__law_drawn T) (hr.mono (by decide)) T.m__law_drawn T.F__law_drawn.kp T.b__law_drawn takes_D (ja_cons (j_var 0) (ja_cons (j_int) (ja_cons (j_int) (ja_nil)))) (bCons_len (bCons_len (bCons_len bNil_len))))))) (js_cons (js_set nd (j_call (ok__law_made T) (hr.mono (by decide)) T.m__law_made T.F__law_made.kp T.b__law_made takes_D (ja_cons (j_var 1) (ja_cons (j_var 2) (ja_cons (j_int) (ja_nil)))) (bCons_len (bCons_len (bCons_len bNil_len))))) (js_cons (js_forE passes_D rfl bdN_ok (j_tup (ja_cons (j_int) (ja_cons (j_int) (ja_cons (j_int) (ja_nil))))) (jg_n nd) (js_cons (js_set nd (JF.v (jf_b (c_sort rfl) T.z_sorted PyProof.Rows.boot_sorted (ja1_cons (JF.r (jf_lcE (own := [("_law_name_here", 11)]) rfl nd (j_var 3) ⟨blkOk_by (own := [("_law_name_here", 11)]) (by first | (show blkC ["_law_script", "_law_book_here", "_law_order", "_law_names", "_law_length", "_law_told_here", "_law_odd", "_law_due", "_law_own", "_law_upto", "_law_way", "_law_name_here"] (defScope (topS 51)) _ _ = true; decide +kernel) | rfl), fun _ _ _ _ _ => jg_n nd, fun _ _ _ _ _ => jifs_oneK (K := K) rfl (jt_cmp (o_eq hu64) (J.r (j_b c_len T.z_len PySem.boot_len (ja1_cons (J.r (j_var 11)) (ja1_nil)))) (J.r (j_var 4))), fun _ _ _ _ _ => j_var 11⟩)) (ja1_nil))))) (js_cons (js_set nd (j_call (ok__law_sum T) (hr.mono (by decide)) T.m__law_sum T.F__law_sum.kp T.b__law_sum takes_D (ja_cons (JF.v (jf_lcE (own := [("_law_name_here", 11)]) rfl nd (j_var 7) ⟨blkOk_by (own := [("_law_name_here", 11)]) (by first | (show blkC ["_law_script", "_law_book_here", "_law_order", "_law_names", "_law_length", "_law_told_here", "_law_odd", "_law_due", "_law_own", "_law_upto", "_law_way", "_law_name_here"] (defScope (topS 51)) _ _ = true; decide +kernel) | rfl), fun _ _ _ _ _ => jg_n nd, fun _ _ _ _ _ => jifs_nil, fun _ _ _ _ _ => j_call (ok__law_share T) (hr.mono (by decide)) T.m__law_share T.F__law_share.kp T.b__law_share takes_W0 (ja_cons (j_var 1) (ja_cons (j_var 2) (ja_cons (j_var 11) (ja_nil)))) (bCons_len (bCons_len (bCons_len bNil_len)))⟩)) (ja_nil)) (bCons_len bNil_len))) (js_cons (js_set nd (j_call (ok__law_sum T) (hr.mono (by decide)) T.m__law_sum T.F__law_sum.kp T.b__law_sum takes_D (ja_cons (JF.v (jf_lcE (own := [("_law_name_here", 11)]) rfl nd (j_var 3) ⟨blkOk_by (own := [("_law_name_here", 11)]) (by first | (show blkC ["_law_script", "_law_book_here", "_law_order", "_law_names", "_law_length", "_law_told_here", "_law_odd", "_law_due", "_law_own", "_law_upto", "_law_way", "_law_name_here"] (defScope (topS 51)) _ _ = true; decide +kernel) | rfl), fun _ _ _ _ _ => jg_n nd, fun _ _ _ _ _ => jifs_oneK (K := K) rfl (jt_cmp o_le (J.r (j_b c_len T.z_len PySem.boot_len (ja1_cons (J.r (j_var 11)) (ja1_nil)))) (J.r (j_var 4))), fun _ _ _ _ _ => j_call (ok__law_share T) (hr.mono (by decide)) T.m__law_share T.F__law_share.kp T.b__law_share takes_W0 (ja_cons (j_var 1) (ja_cons (j_var 2) (ja_cons (j_var 11) (ja_nil)))) (bCons_len (bCons_len (bCons_len bNil_len)))⟩)) (ja_nil)) (bCons_len bNil_len))) (js_one (js_if (jt_cmp (o_ne hu64) (JF.r (jf_lcI (own := [("_law_way", 10)]) rfl nd (ji_r1 T.z_range (j_int)) ⟨blkOk_by (own := [("_law_way", 10)]) (by first | (show blkC ["_law_script", "_law_book_here", "_law_order", "_law_names", "_law_length", "_law_told_here", "_law_odd", "_law_due", "_law_own", "_law_upto", "_law_way", "_law_name_here"] (defScope (topS 51)) _ _ = true; decide +kernel) | rfl), fun _ _ _ _ _ => jg_n nd, fun _ _ _ _ _ => jifs_nil, fun _ _ _ _ _ => j_call (ok__law_told T) (hr.mono (by decide)) T.m__law_told T.F__law_told.kp T.b__law_told takes_W0 (ja_cons (j_var 10) (ja_cons (j_var 1) (ja_cons (j_var 2) (ja_cons (j_var 4) (ja_nil))))) (bCons_len (bCons_len (bCons_len (bCons_len bNil_len))))⟩)) (JF.r (jf_lst (ja_cons (j_b c_len T.z_len PySem.boot_len (ja1_cons (J.r (j_var 7)) (ja1_nil))) (ja_cons (j_var 8) (ja_cons (j_var 9) (ja_cons (j_var 7) (ja_nil)))))))) (js_one (js_ret (j_bl))) (js_nil))))))) (js_cons (js_set nd (j_call (ok__law_told T) (hr.mono (by decide)) T.m__law_told T.F__law_told.kp T.b__law_told takes_D (ja_cons (j_int) (ja_cons (j_var 1) (ja_cons (j_var 2) (ja_cons (j_int) (ja_nil))))) (bCons_len (bCons_len (bCons_len (bCons_len bNil_len)))))) (js_cons (js_if (jt_cmp (o_ne hu64) (JF.r (jf_lcE (own := [("_law_length", 4)]) rfl nd (j_var 5) ⟨blkOk_by (own := [("_law_length", 4)]) (by first | (show blkC ["_law_script", "_law_book_here", "_law_order", "_law_names", "_law_length", "_law_told_here", "_law_odd", "_law_due", "_law_own", "_law_upto", "_law_way", "_law_name_here"] (defScope (topS 51)) _ _ = true; decide +kernel) | rfl), fun _ _ _ _ _ => jg_n nd, fun _ _ _ _ _ => jifs_oneK (K := K) rfl (jt_cmp o_lt (J.r (j_var 4)) (J.r (j_int))), fun _ _ _ _ _ => j_var 4⟩)) (JF.r (jf_sortset rfl T.z_sorted T.z_set (JF.r (jf_lcE (own := [("_law_name_here", 11)]) rfl nd (j_var 3) ⟨blkOk_by (own := [("_law_name_here", 11)]) (by first | (show blkC ["_law_script", "_law_book_here", "_law_order", "_law_names", "_law_length", "_law_told_here", "_law_odd", "_law_due", "_law_own", "_law_upto", "_law_way", "_law_name_here"] (defScope (topS 51)) _ _ = true; decide +kernel) | rfl), fun _ _ _ _ _ => jg_n nd, fun _ _ _ _ _ => jifs_nil, fun _ _ _ _ _ => j_b c_len T.z_len PySem.boot_len (ja1_cons (J.r (j_var 11)) (ja1_nil))⟩))))) (js_one (js_ret (j_bl))) (js_nil)) (js_cons (js_if (jt_cmp (o_ne hu64) (JF.r (jf_lcI (own := [("_law_length", 4)]) rfl nd (ji_r2 T.z_range (j_int) (j_int)) ⟨blkOk_by (own := [("_law_length", 4)]) (by first | (show blkC ["_law_script", "_law_book_here", "_law_order", "_law_names", "_law_length", "_law_told_here", "_law_odd", "_law_due", "_law_own", "_law_upto", "_law_way", "_law_name_here"] (defScope (topS 51)) _ _ = true; decide +kernel) | rfl), fun _ _ _ _ _ => jg_n nd, fun _ _ _ _ _ => jifs_oneK (K := K) rfl (jt_cmp (o_ne hu64) (J.r (j_cmp o_gt (J.r (j_call (ok_how_many T) (hr.mono (by decide)) T.m_how_many T.F_how_many.kp T.b_how_many takes_W0 (ja_cons (j_var 1) (ja_cons (j_var 2) (ja_cons (j_var 4) (ja_nil)))) (bCons_len (bCons_len (bCons_len bNil_len))))) (J.r (j_int)))) (J.r (j_cmp (o_in hu65) (J.r (j_var 4)) (J.r (j_var 5))))), fun _ _ _ _ _ => j_var 4⟩)) (JF.r (jf_lst (ja_nil)))) (js_one (js_ret (j_bl))) (js_nil)) (js_cons (js_set nd (j_ix hu1 (JF.r (jf_lst (ja_cons (j_int) (ja_cons (j_int) (ja_cons (j_non) (ja_cons (j_bl) (ja_cons (j_str) (ja_nil)))))))) (J.r (j_call (ok__law_drawn T) (hr.mono (by decide)) T.m__law_drawn T.F__law_drawn.kp T.b__law_drawn takes_D (ja_cons (j_var 0) (ja_cons (j_int) (ja_cons (j_int) (ja_nil)))) (bCons_len (bCons_len (bCons_len bNil_len))))))) (js_cons (js_if (jt_cmp (o_ne hu64) (JF.r (jf_lcI (own := [("_law_way", 10)]) rfl nd (ji_r1 T.z_range (j_int)) ⟨blkOk_by (own := [("_law_way", 10)]) (by first | (show blkC ["_law_script", "_law_book_here", "_law_order", "_law_names", "_law_length", "_law_told_here", "_law_odd", "_law_due", "_law_own", "_law_upto", "_law_way", "_law_name_here"] (defScope (topS 51)) _ _ = true; decide +kernel) | rfl), fun _ _ _ _ _ => jg_n nd, fun _ _ _ _ _ => jifs_nil, fun _ _ _ _ _ => j_call (ok__law_told T) (hr.mono (by decide)) T.m__law_told T.F__law_told.kp T.b__law_told takes_W0 (ja_cons (j_var 10) (ja_cons (j_var 1) (ja_cons (j_var 2) (ja_cons (j_var 6) (ja_nil))))) (bCons_len (bCons_len (bCons_len (bCons_len bNil_len))))⟩)) (J.r (j_rep (jf_lst (ja_cons (j_tup (ja_cons (j_str) (ja_cons (j_int) (ja_nil)))) (ja_nil))) (J.r (j_int))))) (js_one (js_ret (j_bl))) (js_nil)) (js_cons (js_if (jt_cmp (o_ne hu64) (JF.r (jf_lcI (own := [("_law_way", 10)]) rfl nd (ji_r1 T.z_range (j_int)) ⟨blkOk_by (own := [("_law_way", 10)]) (by first | (show blkC ["_law_script", "_law_book_here", "_law_order", "_law_names", "_law_length", "_law_told_here", "_law_odd", "_law_due", "_law_own", "_law_upto", "_law_way", "_law_name_here"] (defScope (topS 51)) _ _ = true; decide +kernel) | rfl), fun _ _ _ _ _ => jg_n nd, fun _ _ _ _ _ => jifs_nil, fun _ _ _ _ _ => j_call (ok__law_told T) (hr.mono (by decide)) T.m__law_told T.F__law_told.kp T.b__law_told takes_W0 (ja_cons (j_var 10) (ja_cons (j_var 1) (ja_cons (j_ix hu1 (JF.r (jf_lst (ja_cons (j_int) (ja_cons (j_int) (ja_cons (j_non) (ja_nil)))))) (J.r (j_call (ok__law_drawn T) (hr.mono (by decide)) T.m__law_drawn T.F__law_drawn.kp T.b__law_drawn takes_W0 (ja_cons (j_var 0) (ja_cons (j_int) (ja_cons (j_int) (ja_nil)))) (bCons_len (bCons_len (bCons_len bNil_len)))))) (ja_cons (j_var 6) (ja_nil))))) (bCons_len (bCons_len (bCons_len (bCons_len bNil_len))))⟩)) (J.r (j_rep (jf_lst (ja_cons (j_tup (ja_cons (j_str) (ja_cons (j_int) (ja_nil)))) (ja_nil))) (J.r (j_int))))) (js_one (js_ret (j_bl))) (js_nil)) (js_one (js_ret (j_cmp (o_eq hu64) (JF.r (jf_lcI (own := [("_law_way", 10)]) rfl nd (ji_r1 T.z_range (j_int)) ⟨blkOk_by (own := [("_law_way", 10)]) (by first | (show blkC ["_law_script", "_law_book_here", "_law_order", "_law_names", "_law_length", "_law_told_here", "_law_odd", "_law_due", "_law_own", "_law_upto", "_law_way", "_law_name_here"] (defScope (topS 51)) _ _ = true; decide +kernel) | rfl), fun _ _ _ _ _ => jg_n nd, fun _ _ _ _ _ => jifs_nil, fun _ _ _ _ _ => j_call (ok__law_told T) (hr.mono (by decide)) T.m__law_told T.F__law_told.kp T.b__law_told takes_W0 (ja_cons (j_var 10) (ja_cons (JF.v (jf_ty c_list T.z_list PyProof.Rows.boot_list (ja1_cons (J.r (j_var 1)) (ja1_nil)))) (ja_cons (j_int) (ja_cons (j_var 6) (ja_nil))))) (bCons_len (bCons_len (bCons_len (bCons_len bNil_len))))⟩)) (J.r (j_rep (jf_lst (ja_cons (j_tup (ja_cons (j_str) (ja_cons (j_int) (ja_nil)))) (ja_nil))) (J.r (j_int))))))))))))))))
end
theorem all_mk {l : PySem.W.OpenLaw} {w : World} {K : PySem.W.Frag} {h : Heap} {mg : Str → Option Value} {fa : Addr} (X : K.In h) (G : h.Ns mainGlobals mg) (hfa : mg "law" = some (.ref fa))
    {f0 : Addr} {od0 an0 : Option Addr} {sl0 : Array (Option Value)} {oc0 kV0 dc0 pm0 cd0 ct0 : Value}
    (a0 : PySem.W.nsIn K mainGlobals "_law_cell" = some (some (.ref f0))) (l0 : K.lookup f0 = some ⟨oc0, od0, .func (PySem.W.fnOf "_law_cell" "_law_cell" (defArgs (topS 39)) (defBody (topS 39)) (defScope (topS 39)) .none kV0 dc0 pm0 an0 cd0 ct0), sl0⟩) (c0 : PySem.W.codeIn K cd0 "_law_cell" = true) (k0 : PySem.W.keepIn K (.ref f0) = true)
    {f1 : Addr} {od1 an1 : Option Addr} {sl1 : Array (Option Value)} {oc1 kV1 dc1 pm1 cd1 ct1 : Value}
    (a1 : PySem.W.nsIn K mainGlobals "_law_drawn" = some (some (.ref f1))) (l1 : K.lookup f1 = some ⟨oc1, od1, .func (PySem.W.fnOf "_law_drawn" "_law_drawn" (defArgs (topS 40)) (defBody (topS 40)) (defScope (topS 40)) .none kV1 dc1 pm1 an1 cd1 ct1), sl1⟩) (c1 : PySem.W.codeIn K cd1 "_law_drawn" = true) (k1 : PySem.W.keepIn K (.ref f1) = true)
    {f2 : Addr} {od2 an2 : Option Addr} {sl2 : Array (Option Value)} {oc2 kV2 dc2 pm2 cd2 ct2 : Value}
    (a2 : PySem.W.nsIn K mainGlobals "_law_name" = some (some (.ref f2))) (l2 : K.lookup f2 = some ⟨oc2, od2, .func (PySem.W.fnOf "_law_name" "_law_name" (defArgs (topS 41)) (defBody (topS 41)) (defScope (topS 41)) .none kV2 dc2 pm2 an2 cd2 ct2), sl2⟩) (c2 : PySem.W.codeIn K cd2 "_law_name" = true) (k2 : PySem.W.keepIn K (.ref f2) = true)
    {f3 : Addr} {od3 an3 : Option Addr} {sl3 : Array (Option Value)} {oc3 kV3 dc3 pm3 cd3 ct3 : Value}
    (a3 : PySem.W.nsIn K mainGlobals "_law_book" = some (some (.ref f3))) (l3 : K.lookup f3 = some ⟨oc3, od3, .func (PySem.W.fnOf "_law_book" "_law_book" (defArgs (topS 42)) (defBody (topS 42)) (defScope (topS 42)) .none kV3 dc3 pm3 an3 cd3 ct3), sl3⟩) (c3 : PySem.W.codeIn K cd3 "_law_book" = true) (k3 : PySem.W.keepIn K (.ref f3) = true)
    {f4 : Addr} {od4 an4 : Option Addr} {sl4 : Array (Option Value)} {oc4 kV4 dc4 pm4 cd4 ct4 : Value}
    (a4 : PySem.W.nsIn K mainGlobals "_law_counts" = some (some (.ref f4))) (l4 : K.lookup f4 = some ⟨oc4, od4, .func (PySem.W.fnOf "_law_counts" "_law_counts" (defArgs (topS 43)) (defBody (topS 43)) (defScope (topS 43)) .none kV4 dc4 pm4 an4 cd4 ct4), sl4⟩) (c4 : PySem.W.codeIn K cd4 "_law_counts" = true) (k4 : PySem.W.keepIn K (.ref f4) = true)
    {f5 : Addr} {od5 an5 : Option Addr} {sl5 : Array (Option Value)} {oc5 kV5 dc5 pm5 cd5 ct5 : Value}
    (a5 : PySem.W.nsIn K mainGlobals "_law_row" = some (some (.ref f5))) (l5 : K.lookup f5 = some ⟨oc5, od5, .func (PySem.W.fnOf "_law_row" "_law_row" (defArgs (topS 44)) (defBody (topS 44)) (defScope (topS 44)) .none kV5 dc5 pm5 an5 cd5 ct5), sl5⟩) (c5 : PySem.W.codeIn K cd5 "_law_row" = true) (k5 : PySem.W.keepIn K (.ref f5) = true)
    {f6 : Addr} {od6 an6 : Option Addr} {sl6 : Array (Option Value)} {oc6 kV6 dc6 pm6 cd6 ct6 : Value}
    (a6 : PySem.W.nsIn K mainGlobals "_law_made" = some (some (.ref f6))) (l6 : K.lookup f6 = some ⟨oc6, od6, .func (PySem.W.fnOf "_law_made" "_law_made" (defArgs (topS 48)) (defBody (topS 48)) (defScope (topS 48)) .none kV6 dc6 pm6 an6 cd6 ct6), sl6⟩) (c6 : PySem.W.codeIn K cd6 "_law_made" = true) (k6 : PySem.W.keepIn K (.ref f6) = true)
    {f7 : Addr} {od7 an7 : Option Addr} {sl7 : Array (Option Value)} {oc7 kV7 dc7 pm7 cd7 ct7 : Value}
    (a7 : PySem.W.nsIn K mainGlobals "_law_lowest" = some (some (.ref f7))) (l7 : K.lookup f7 = some ⟨oc7, od7, .func (PySem.W.fnOf "_law_lowest" "_law_lowest" (defArgs (topS 45)) (defBody (topS 45)) (defScope (topS 45)) .none kV7 dc7 pm7 an7 cd7 ct7), sl7⟩) (c7 : PySem.W.codeIn K cd7 "_law_lowest" = true) (k7 : PySem.W.keepIn K (.ref f7) = true)
    {f8 : Addr} {od8 an8 : Option Addr} {sl8 : Array (Option Value)} {oc8 kV8 dc8 pm8 cd8 ct8 : Value}
    (a8 : PySem.W.nsIn K mainGlobals "_law_share" = some (some (.ref f8))) (l8 : K.lookup f8 = some ⟨oc8, od8, .func (PySem.W.fnOf "_law_share" "_law_share" (defArgs (topS 46)) (defBody (topS 46)) (defScope (topS 46)) .none kV8 dc8 pm8 an8 cd8 ct8), sl8⟩) (c8 : PySem.W.codeIn K cd8 "_law_share" = true) (k8 : PySem.W.keepIn K (.ref f8) = true)
    {f9 : Addr} {od9 an9 : Option Addr} {sl9 : Array (Option Value)} {oc9 kV9 dc9 pm9 cd9 ct9 : Value}
    (a9 : PySem.W.nsIn K mainGlobals "_law_sum" = some (some (.ref f9))) (l9 : K.lookup f9 = some ⟨oc9, od9, .func (PySem.W.fnOf "_law_sum" "_law_sum" (defArgs (topS 47)) (defBody (topS 47)) (defScope (topS 47)) .none kV9 dc9 pm9 an9 cd9 ct9), sl9⟩) (c9 : PySem.W.codeIn K cd9 "_law_sum" = true) (k9 : PySem.W.keepIn K (.ref f9) = true)
    {f10 : Addr} {od10 an10 : Option Addr} {sl10 : Array (Option Value)} {oc10 kV10 dc10 pm10 cd10 ct10 : Value}
    (a10 : PySem.W.nsIn K mainGlobals "_law_refused" = some (some (.ref f10))) (l10 : K.lookup f10 = some ⟨oc10, od10, .func (PySem.W.fnOf "_law_refused" "_law_refused" (defArgs (topS 49)) (defBody (topS 49)) (defScope (topS 49)) .none kV10 dc10 pm10 an10 cd10 ct10), sl10⟩) (c10 : PySem.W.codeIn K cd10 "_law_refused" = true) (k10 : PySem.W.keepIn K (.ref f10) = true)
    {f11 : Addr} {od11 an11 : Option Addr} {sl11 : Array (Option Value)} {oc11 kV11 dc11 pm11 cd11 ct11 : Value}
    (a11 : PySem.W.nsIn K mainGlobals "end_of" = some (some (.ref f11))) (l11 : K.lookup f11 = some ⟨oc11, od11, .func (PySem.W.fnOf "end_of" "end_of" (defArgs (topS 21)) (defBody (topS 21)) (defScope (topS 21)) .none kV11 dc11 pm11 an11 cd11 ct11), sl11⟩) (c11 : PySem.W.codeIn K cd11 "end_of" = true) (k11 : PySem.W.keepIn K (.ref f11) = true)
    {f12 : Addr} {od12 an12 : Option Addr} {sl12 : Array (Option Value)} {oc12 kV12 dc12 pm12 cd12 ct12 : Value}
    (a12 : PySem.W.nsIn K mainGlobals "counted" = some (some (.ref f12))) (l12 : K.lookup f12 = some ⟨oc12, od12, .func (PySem.W.fnOf "counted" "counted" (defArgs (topS 22)) (defBody (topS 22)) (defScope (topS 22)) .none kV12 dc12 pm12 an12 cd12 ct12), sl12⟩) (c12 : PySem.W.codeIn K cd12 "counted" = true) (k12 : PySem.W.keepIn K (.ref f12) = true)
    {f13 : Addr} {od13 an13 : Option Addr} {sl13 : Array (Option Value)} {oc13 kV13 dc13 pm13 cd13 ct13 : Value}
    (a13 : PySem.W.nsIn K mainGlobals "lengthened" = some (some (.ref f13))) (l13 : K.lookup f13 = some ⟨oc13, od13, .func (PySem.W.fnOf "lengthened" "lengthened" (defArgs (topS 35)) (defBody (topS 35)) (defScope (topS 35)) .none kV13 dc13 pm13 an13 cd13 ct13), sl13⟩) (c13 : PySem.W.codeIn K cd13 "lengthened" = true) (k13 : PySem.W.keepIn K (.ref f13) = true)
    {f14 : Addr} {od14 an14 : Option Addr} {sl14 : Array (Option Value)} {oc14 kV14 dc14 pm14 cd14 ct14 : Value}
    (a14 : PySem.W.nsIn K mainGlobals "is_name" = some (some (.ref f14))) (l14 : K.lookup f14 = some ⟨oc14, od14, .func (PySem.W.fnOf "is_name" "is_name" (defArgs (topS 16)) (defBody (topS 16)) (defScope (topS 16)) .none kV14 dc14 pm14 an14 cd14 ct14), sl14⟩) (c14 : PySem.W.codeIn K cd14 "is_name" = true) (k14 : PySem.W.keepIn K (.ref f14) = true)
    {f15 : Addr} {od15 an15 : Option Addr} {sl15 : Array (Option Value)} {oc15 kV15 dc15 pm15 cd15 ct15 : Value}
    (a15 : PySem.W.nsIn K mainGlobals "is_book" = some (some (.ref f15))) (l15 : K.lookup f15 = some ⟨oc15, od15, .func (PySem.W.fnOf "is_book" "is_book" (defArgs (topS 17)) (defBody (topS 17)) (defScope (topS 17)) .none kV15 dc15 pm15 an15 cd15 ct15), sl15⟩) (c15 : PySem.W.codeIn K cd15 "is_book" = true) (k15 : PySem.W.keepIn K (.ref f15) = true)
    {f16 : Addr} {od16 an16 : Option Addr} {sl16 : Array (Option Value)} {oc16 kV16 dc16 pm16 cd16 ct16 : Value}
    (a16 : PySem.W.nsIn K mainGlobals "need_book" = some (some (.ref f16))) (l16 : K.lookup f16 = some ⟨oc16, od16, .func (PySem.W.fnOf "need_book" "need_book" (defArgs (topS 18)) (defBody (topS 18)) (defScope (topS 18)) .none kV16 dc16 pm16 an16 cd16 ct16), sl16⟩) (c16 : PySem.W.codeIn K cd16 "need_book" = true) (k16 : PySem.W.keepIn K (.ref f16) = true)
    {f17 : Addr} {od17 an17 : Option Addr} {sl17 : Array (Option Value)} {oc17 kV17 dc17 pm17 cd17 ct17 : Value}
    (a17 : PySem.W.nsIn K mainGlobals "is_number" = some (some (.ref f17))) (l17 : K.lookup f17 = some ⟨oc17, od17, .func (PySem.W.fnOf "is_number" "is_number" (defArgs (topS 15)) (defBody (topS 15)) (defScope (topS 15)) .none kV17 dc17 pm17 an17 cd17 ct17), sl17⟩) (c17 : PySem.W.codeIn K cd17 "is_number" = true) (k17 : PySem.W.keepIn K (.ref f17) = true)
    {f18 : Addr} {od18 an18 : Option Addr} {sl18 : Array (Option Value)} {oc18 kV18 dc18 pm18 cd18 ct18 : Value}
    (a18 : PySem.W.nsIn K mainGlobals "need_number" = some (some (.ref f18))) (l18 : K.lookup f18 = some ⟨oc18, od18, .func (PySem.W.fnOf "need_number" "need_number" (defArgs (topS 20)) (defBody (topS 20)) (defScope (topS 20)) .none kV18 dc18 pm18 an18 cd18 ct18), sl18⟩) (c18 : PySem.W.codeIn K cd18 "need_number" = true) (k18 : PySem.W.keepIn K (.ref f18) = true)
    {f19 : Addr} {od19 an19 : Option Addr} {sl19 : Array (Option Value)} {oc19 kV19 dc19 pm19 cd19 ct19 : Value}
    (a19 : PySem.W.nsIn K mainGlobals "need_order" = some (some (.ref f19))) (l19 : K.lookup f19 = some ⟨oc19, od19, .func (PySem.W.fnOf "need_order" "need_order" (defArgs (topS 19)) (defBody (topS 19)) (defScope (topS 19)) .none kV19 dc19 pm19 an19 cd19 ct19), sl19⟩) (c19 : PySem.W.codeIn K cd19 "need_order" = true) (k19 : PySem.W.keepIn K (.ref f19) = true)
    {f20 : Addr} {od20 an20 : Option Addr} {sl20 : Array (Option Value)} {oc20 kV20 dc20 pm20 cd20 ct20 : Value}
    (a20 : PySem.W.nsIn K mainGlobals "need_all" = some (some (.ref f20))) (l20 : K.lookup f20 = some ⟨oc20, od20, .func (PySem.W.fnOf "need_all" "need_all" (defArgs (topS 30)) (defBody (topS 30)) (defScope (topS 30)) .none kV20 dc20 pm20 an20 cd20 ct20), sl20⟩) (c20 : PySem.W.codeIn K cd20 "need_all" = true) (k20 : PySem.W.keepIn K (.ref f20) = true)
    {f21 : Addr} {od21 an21 : Option Addr} {sl21 : Array (Option Value)} {oc21 kV21 dc21 pm21 cd21 ct21 : Value}
    (a21 : PySem.W.nsIn K mainGlobals "all_made" = some (some (.ref f21))) (l21 : K.lookup f21 = some ⟨oc21, od21, .func (PySem.W.fnOf "all_made" "all_made" (defArgs (topS 36)) (defBody (topS 36)) (defScope (topS 36)) .none kV21 dc21 pm21 an21 cd21 ct21), sl21⟩) (c21 : PySem.W.codeIn K cd21 "all_made" = true) (k21 : PySem.W.keepIn K (.ref f21) = true)
    {f22 : Addr} {od22 an22 : Option Addr} {sl22 : Array (Option Value)} {oc22 kV22 dc22 pm22 cd22 ct22 : Value}
    (a22 : PySem.W.nsIn K mainGlobals "lowest" = some (some (.ref f22))) (l22 : K.lookup f22 = some ⟨oc22, od22, .func (PySem.W.fnOf "lowest" "lowest" (defArgs (topS 24)) (defBody (topS 24)) (defScope (topS 24)) .none kV22 dc22 pm22 an22 cd22 ct22), sl22⟩) (c22 : PySem.W.codeIn K cd22 "lowest" = true) (k22 : PySem.W.keepIn K (.ref f22) = true)
    {f23 : Addr} {od23 an23 : Option Addr} {sl23 : Array (Option Value)} {oc23 kV23 dc23 pm23 cd23 ct23 : Value}
    (a23 : PySem.W.nsIn K mainGlobals "added" = some (some (.ref f23))) (l23 : K.lookup f23 = some ⟨oc23, od23, .func (PySem.W.fnOf "added" "added" (defArgs (topS 25)) (defBody (topS 25)) (defScope (topS 25)) .none kV23 dc23 pm23 an23 cd23 ct23), sl23⟩) (c23 : PySem.W.codeIn K cd23 "added" = true) (k23 : PySem.W.keepIn K (.ref f23) = true)
    {f24 : Addr} {od24 an24 : Option Addr} {sl24 : Array (Option Value)} {oc24 kV24 dc24 pm24 cd24 ct24 : Value}
    (a24 : PySem.W.nsIn K mainGlobals "part_of" = some (some (.ref f24))) (l24 : K.lookup f24 = some ⟨oc24, od24, .func (PySem.W.fnOf "part_of" "part_of" (defArgs (topS 27)) (defBody (topS 27)) (defScope (topS 27)) .none kV24 dc24 pm24 an24 cd24 ct24), sl24⟩) (c24 : PySem.W.codeIn K cd24 "part_of" = true) (k24 : PySem.W.keepIn K (.ref f24) = true)
    {f25 : Addr} {od25 an25 : Option Addr} {sl25 : Array (Option Value)} {oc25 kV25 dc25 pm25 cd25 ct25 : Value}
    (a25 : PySem.W.nsIn K mainGlobals "times" = some (some (.ref f25))) (l25 : K.lookup f25 = some ⟨oc25, od25, .func (PySem.W.fnOf "times" "times" (defArgs (topS 26)) (defBody (topS 26)) (defScope (topS 26)) .none kV25 dc25 pm25 an25 cd25 ct25), sl25⟩) (c25 : PySem.W.codeIn K cd25 "times" = true) (k25 : PySem.W.keepIn K (.ref f25) = true)
    {f26 : Addr} {od26 an26 : Option Addr} {sl26 : Array (Option Value)} {oc26 kV26 dc26 pm26 cd26 ct26 : Value}
    (a26 : PySem.W.nsIn K mainGlobals "ways" = some (some (.ref f26))) (l26 : K.lookup f26 = some ⟨oc26, od26, .func (PySem.W.fnOf "ways" "ways" (defArgs (topS 31)) (defBody (topS 31)) (defScope (topS 31)) .none kV26 dc26 pm26 an26 cd26 ct26), sl26⟩) (c26 : PySem.W.codeIn K cd26 "ways" = true) (k26 : PySem.W.keepIn K (.ref f26) = true)
    {f27 : Addr} {od27 an27 : Option Addr} {sl27 : Array (Option Value)} {oc27 kV27 dc27 pm27 cd27 ct27 : Value}
    (a27 : PySem.W.nsIn K mainGlobals "how_many" = some (some (.ref f27))) (l27 : K.lookup f27 = some ⟨oc27, od27, .func (PySem.W.fnOf "how_many" "how_many" (defArgs (topS 32)) (defBody (topS 32)) (defScope (topS 32)) .none kV27 dc27 pm27 an27 cd27 ct27), sl27⟩) (c27 : PySem.W.codeIn K cd27 "how_many" = true) (k27 : PySem.W.keepIn K (.ref f27) = true)
    {f28 : Addr} {od28 an28 : Option Addr} {sl28 : Array (Option Value)} {oc28 kV28 dc28 pm28 cd28 ct28 : Value}
    (a28 : PySem.W.nsIn K mainGlobals "lengths" = some (some (.ref f28))) (l28 : K.lookup f28 = some ⟨oc28, od28, .func (PySem.W.fnOf "lengths" "lengths" (defArgs (topS 37)) (defBody (topS 37)) (defScope (topS 37)) .none kV28 dc28 pm28 an28 cd28 ct28), sl28⟩) (c28 : PySem.W.codeIn K cd28 "lengths" = true) (k28 : PySem.W.keepIn K (.ref f28) = true)
    {f29 : Addr} {od29 an29 : Option Addr} {sl29 : Array (Option Value)} {oc29 kV29 dc29 pm29 cd29 ct29 : Value}
    (a29 : PySem.W.nsIn K mainGlobals "share_of_length" = some (some (.ref f29))) (l29 : K.lookup f29 = some ⟨oc29, od29, .func (PySem.W.fnOf "share_of_length" "share_of_length" (defArgs (topS 33)) (defBody (topS 33)) (defScope (topS 33)) .none kV29 dc29 pm29 an29 cd29 ct29), sl29⟩) (c29 : PySem.W.codeIn K cd29 "share_of_length" = true) (k29 : PySem.W.keepIn K (.ref f29) = true)
    {f30 : Addr} {od30 an30 : Option Addr} {sl30 : Array (Option Value)} {oc30 kV30 dc30 pm30 cd30 ct30 : Value}
    (a30 : PySem.W.nsIn K mainGlobals "share_up_to" = some (some (.ref f30))) (l30 : K.lookup f30 = some ⟨oc30, od30, .func (PySem.W.fnOf "share_up_to" "share_up_to" (defArgs (topS 34)) (defBody (topS 34)) (defScope (topS 34)) .none kV30 dc30 pm30 an30 cd30 ct30), sl30⟩) (c30 : PySem.W.codeIn K cd30 "share_up_to" = true) (k30 : PySem.W.keepIn K (.ref f30) = true)
    {f31 : Addr} {od31 an31 : Option Addr} {sl31 : Array (Option Value)} {oc31 kV31 dc31 pm31 cd31 ct31 : Value}
    (a31 : PySem.W.nsIn K mainGlobals "_law_told" = some (some (.ref f31))) (l31 : K.lookup f31 = some ⟨oc31, od31, .func (PySem.W.fnOf "_law_told" "_law_told" (defArgs (topS 50)) (defBody (topS 50)) (defScope (topS 50)) .none kV31 dc31 pm31 an31 cd31 ct31), sl31⟩) (c31 : PySem.W.codeIn K cd31 "_law_told" = true) (k31 : PySem.W.keepIn K (.ref f31) = true)
    {f32 : Addr} {od32 an32 : Option Addr} {sl32 : Array (Option Value)} {oc32 kV32 dc32 pm32 cd32 ct32 : Value}
    (a32 : PySem.W.nsIn K mainGlobals "law" = some (some (.ref f32))) (l32 : K.lookup f32 = some ⟨oc32, od32, .func (PySem.W.fnOf "law" "law" (defArgs (topS 51)) (defBody (topS 51)) (defScope (topS 51)) .none kV32 dc32 pm32 an32 cd32 ct32), sl32⟩) (c32 : PySem.W.codeIn K cd32 "law" = true) (k32 : PySem.W.keepIn K (.ref f32) = true)
    (z_ValueError : PySem.W.nsIn K mainGlobals "ValueError" = some none)
    (z_all : PySem.W.nsIn K mainGlobals "all" = some none)
    (z_bool : PySem.W.nsIn K mainGlobals "bool" = some none)
    (z_int : PySem.W.nsIn K mainGlobals "int" = some none)
    (z_isinstance : PySem.W.nsIn K mainGlobals "isinstance" = some none)
    (z_len : PySem.W.nsIn K mainGlobals "len" = some none)
    (z_list : PySem.W.nsIn K mainGlobals "list" = some none)
    (z_max : PySem.W.nsIn K mainGlobals "max" = some none)
    (z_min : PySem.W.nsIn K mainGlobals "min" = some none)
    (z_range : PySem.W.nsIn K mainGlobals "range" = some none)
    (z_set : PySem.W.nsIn K mainGlobals "set" = some none)
    (z_sorted : PySem.W.nsIn K mainGlobals "sorted" = some none)
    (z_str : PySem.W.nsIn K mainGlobals "str" = some none)
    (z_sum : PySem.W.nsIn K mainGlobals "sum" = some none)
    (z_tuple : PySem.W.nsIn K mainGlobals "tuple" = some none)
    {t_LETTERS : Tok} (g_LETTERS : PySem.W.nsIn K mainGlobals "LETTERS" = some (some (.str (toS [97, 98, 99, 100, 101, 102, 103, 104, 105, 106, 107, 108, 109, 110, 111, 112, 113, 114, 115, 116, 117, 118, 119, 120, 121, 122]) t_LETTERS)))
    {t_MOST_LETTERS : Tok} (g_MOST_LETTERS : PySem.W.nsIn K mainGlobals "MOST_LETTERS" = some (some (.int 8 t_MOST_LETTERS)))
    {t_MOST_NAMES : Tok} (g_MOST_NAMES : PySem.W.nsIn K mainGlobals "MOST_NAMES" = some (some (.int 8 t_MOST_NAMES)))
    {t_MOST_ORDER : Tok} (g_MOST_ORDER : PySem.W.nsIn K mainGlobals "MOST_ORDER" = some (some (.int 3 t_MOST_ORDER)))
    {t_MOST : Tok} (g_MOST : PySem.W.nsIn K mainGlobals "MOST" = some (some (.int 8 t_MOST)))
    {e0 e1 e2 e3 e4 e5 e6 e7 eL : Addr} (EL : ErrL K eL) (E0 : ErrOne K "NoBook" e0 eL) (E1 : ErrOne K "NoOrder" e1 eL) (E2 : ErrOne K "NoName" e2 eL) (E3 : ErrOne K "NoWish" e3 eL) (E4 : ErrOne K "NoNumber" e4 eL) (E5 : ErrOne K "NotMade" e5 eL) (E6 : ErrOne K "TooShort" e6 eL) (E7 : ErrOne K "Nothing" e7 eL) (ES : ErrSub K e0 e1 e2 e3 e4 e5 e6 e7)
    : ∃ fd : FuncData, (∀ (s : Shared) (v : Value), BindsTo s fd ⟨[v], []⟩ [("_law_script", v)]) ∧ ∀ base : Heap, K.In base → base.Ns mainGlobals mg → FnOk l.prog w K mg base (L2.CX l.prog w) 8 fa fd ["_law_script"] (spOk K 1 g_law_k20) := by
  have e := hfa.symm.trans (PySem.W.mg_of X G a32)
  cases e
  have F0 := fun_mk (st := topS 39) l0 c0 k0
  have F1 := fun_mk (st := topS 40) l1 c1 k1
  have F2 := fun_mk (st := topS 41) l2 c2 k2
  have F3 := fun_mk (st := topS 42) l3 c3 k3
  have F4 := fun_mk (st := topS 43) l4 c4 k4
  have F5 := fun_mk (st := topS 44) l5 c5 k5
  have F6 := fun_mk (st := topS 48) l6 c6 k6
  have F7 := fun_mk (st := topS 45) l7 c7 k7
  have F8 := fun_mk (st := topS 46) l8 c8 k8
  have F9 := fun_mk (st := topS 47) l9 c9 k9
  have F10 := fun_mk (st := topS 49) l10 c10 k10
  have F11 := fun_mk (st := topS 21) l11 c11 k11
  have F12 := fun_mk (st := topS 22) l12 c12 k12
  have F13 := fun_mk (st := topS 35) l13 c13 k13
  have F14 := fun_mk (st := topS 16) l14 c14 k14
  have F15 := fun_mk (st := topS 17) l15 c15 k15
  have F16 := fun_mk (st := topS 18) l16 c16 k16
  have F17 := fun_mk (st := topS 15) l17 c17 k17
  have F18 := fun_mk (st := topS 20) l18 c18 k18
  have F19 := fun_mk (st := topS 19) l19 c19 k19
  have F20 := fun_mk (st := topS 30) l20 c20 k20
  have F21 := fun_mk (st := topS 36) l21 c21 k21
  have F22 := fun_mk (st := topS 24) l22 c22 k22
  have F23 := fun_mk (st := topS 25) l23 c23 k23
  have F24 := fun_mk (st := topS 27) l24 c24 k24
  have F25 := fun_mk (st := topS 26) l25 c25 k25
  have F26 := fun_mk (st := topS 31) l26 c26 k26
  have F27 := fun_mk (st := topS 32) l27 c27 k27
  have F28 := fun_mk (st := topS 37) l28 c28 k28
  have F29 := fun_mk (st := topS 33) l29 c29 k29
  have F30 := fun_mk (st := topS 34) l30 c30 k30
  have F31 := fun_mk (st := topS 50) l31 c31 k31
  have F32 := fun_mk (st := topS 51) l32 c32 k32
  refine ⟨_, fun s v => .of_eq rfl, fun base _ _ => (ok_law {
    er := errs_mk X G EL E0 E1 E2 E3 E4 E5 E6 E7 ES,
    f__law_cell := f0,
    fd__law_cell := _,
    F__law_cell := F0,
    b__law_cell := (F0.binds (ps := ["_law_script", "_law_k"]) fun _ _ _ _ _ _ us hl => match us, hl with | [_, _], _ => rfl),
    m__law_cell := PySem.W.mg_of X G a0,
    f__law_drawn := f1,
    fd__law_drawn := _,
    F__law_drawn := F1,
    b__law_drawn := (F1.binds (ps := ["_law_script", "_law_k", "_law_many"]) fun _ _ _ _ _ _ us hl => match us, hl with | [_, _, _], _ => rfl),
    m__law_drawn := PySem.W.mg_of X G a1,
    f__law_name := f2,
    fd__law_name := _,
    F__law_name := F2,
    b__law_name := (F2.binds (ps := ["_law_script", "_law_at", "_law_most"]) fun _ _ _ _ _ _ us hl => match us, hl with | [_, _, _], _ => rfl),
    m__law_name := PySem.W.mg_of X G a2,
    f__law_book := f3,
    fd__law_book := _,
    F__law_book := F3,
    b__law_book := (F3.binds (ps := ["_law_script", "_law_at", "_law_many", "_law_most"]) fun _ _ _ _ _ _ us hl => match us, hl with | [_, _, _, _], _ => rfl),
    m__law_book := PySem.W.mg_of X G a3,
    f__law_counts := f4,
    fd__law_counts := _,
    F__law_counts := F4,
    b__law_counts := (F4.binds (ps := ["_law_book_here", "_law_order"]) fun _ _ _ _ _ _ us hl => match us, hl with | [_, _], _ => rfl),
    m__law_counts := PySem.W.mg_of X G a4,
    f__law_row := f5,
    fd__law_row := _,
    F__law_row := F5,
    b__law_row := (F5.binds (ps := ["_law_book_here", "_law_order", "_law_text"]) fun _ _ _ _ _ _ us hl => match us, hl with | [_, _, _], _ => rfl),
    m__law_row := PySem.W.mg_of X G a5,
    f__law_made := f6,
    fd__law_made := _,
    F__law_made := F6,
    b__law_made := (F6.binds (ps := ["_law_book_here", "_law_order", "_law_most"]) fun _ _ _ _ _ _ us hl => match us, hl with | [_, _, _], _ => rfl),
    m__law_made := PySem.W.mg_of X G a6,
    f__law_lowest := f7,
    fd__law_lowest := _,
    F__law_lowest := F7,
    b__law_lowest := (F7.binds (ps := ["_law_up", "_law_down"]) fun _ _ _ _ _ _ us hl => match us, hl with | [_, _], _ => rfl),
    m__law_lowest := PySem.W.mg_of X G a7,
    f__law_share := f8,
    fd__law_share := _,
    F__law_share := F8,
    b__law_share := (F8.binds (ps := ["_law_book_here", "_law_order", "_law_name_here"]) fun _ _ _ _ _ _ us hl => match us, hl with | [_, _, _], _ => rfl),
    m__law_share := PySem.W.mg_of X G a8,
    f__law_sum := f9,
    fd__law_sum := _,
    F__law_sum := F9,
    b__law_sum := (F9.binds (ps := ["_law_rows"]) fun _ _ _ _ _ _ us hl => match us, hl with | [_], _ => rfl),
    m__law_sum := PySem.W.mg_of X G a9,
    f__law_refused := f10,
    fd__law_refused := _,
    F__law_refused := F10,
    b__law_refused := (F10.binds (ps := ["_law_e"]) fun _ _ _ _ _ _ us hl => match us, hl with | [_], _ => rfl),
    m__law_refused := PySem.W.mg_of X G a10,
    f_end_of := f11,
    fd_end_of := _,
    F_end_of := F11,
    b_end_of := (F11.binds (ps := ["order", "text"]) fun _ _ _ _ _ _ us hl => match us, hl with | [_, _], _ => rfl),
    m_end_of := PySem.W.mg_of X G a11,
    f_counted := f12,
    fd_counted := _,
    F_counted := F12,
    b_counted := (F12.binds (ps := ["book", "order"]) fun _ _ _ _ _ _ us hl => match us, hl with | [_, _], _ => rfl),
    m_counted := PySem.W.mg_of X G a12,
    f_lengthened := f13,
    fd_lengthened := _,
    F_lengthened := F13,
    b_lengthened := (F13.binds (ps := ["rows", "order", "texts"]) fun _ _ _ _ _ _ us hl => match us, hl with | [_, _, _], _ => rfl),
    m_lengthened := PySem.W.mg_of X G a13,
    f_is_name := f14,
    fd_is_name := _,
    F_is_name := F14,
    b_is_name := (F14.binds (ps := ["thing"]) fun _ _ _ _ _ _ us hl => match us, hl with | [_], _ => rfl),
    m_is_name := PySem.W.mg_of X G a14,
    f_is_book := f15,
    fd_is_book := _,
    F_is_book := F15,
    b_is_book := (F15.binds (ps := ["thing"]) fun _ _ _ _ _ _ us hl => match us, hl with | [_], _ => rfl),
    m_is_book := PySem.W.mg_of X G a15,
    f_need_book := f16,
    fd_need_book := _,
    F_need_book := F16,
    b_need_book := (F16.binds (ps := ["book"]) fun _ _ _ _ _ _ us hl => match us, hl with | [_], _ => rfl),
    m_need_book := PySem.W.mg_of X G a16,
    f_is_number := f17,
    fd_is_number := _,
    F_is_number := F17,
    b_is_number := (F17.binds (ps := ["thing", "low", "high"]) fun _ _ _ _ _ _ us hl => match us, hl with | [_, _, _], _ => rfl),
    m_is_number := PySem.W.mg_of X G a17,
    f_need_number := f18,
    fd_need_number := _,
    F_need_number := F18,
    b_need_number := (F18.binds (ps := ["number", "low", "high"]) fun _ _ _ _ _ _ us hl => match us, hl with | [_, _, _], _ => rfl),
    m_need_number := PySem.W.mg_of X G a18,
    f_need_order := f19,
    fd_need_order := _,
    F_need_order := F19,
    b_need_order := (F19.binds (ps := ["order"]) fun _ _ _ _ _ _ us hl => match us, hl with | [_], _ => rfl),
    m_need_order := PySem.W.mg_of X G a19,
    f_need_all := f20,
    fd_need_all := _,
    F_need_all := F20,
    b_need_all := (F20.binds (ps := ["book", "order", "length"]) fun _ _ _ _ _ _ us hl => match us, hl with | [_, _, _], _ => rfl),
    m_need_all := PySem.W.mg_of X G a20,
    f_all_made := f21,
    fd_all_made := _,
    F_all_made := F21,
    b_all_made := (F21.binds (ps := ["book", "order", "length"]) fun _ _ _ _ _ _ us hl => match us, hl with | [_, _, _], _ => rfl),
    m_all_made := PySem.W.mg_of X G a21,
    f_lowest := f22,
    fd_lowest := _,
    F_lowest := F22,
    b_lowest := (F22.binds (ps := ["up", "down"]) fun _ _ _ _ _ _ us hl => match us, hl with | [_, _], _ => rfl),
    m_lowest := PySem.W.mg_of X G a22,
    f_added := f23,
    fd_added := _,
    F_added := F23,
    b_added := (F23.binds (ps := ["one", "other"]) fun _ _ _ _ _ _ us hl => match us, hl with | [_, _], _ => rfl),
    m_added := PySem.W.mg_of X G a23,
    f_part_of := f24,
    fd_part_of := _,
    F_part_of := F24,
    b_part_of := (F24.binds (ps := ["rows", "context", "letter"]) fun _ _ _ _ _ _ us hl => match us, hl with | [_, _, _], _ => rfl),
    m_part_of := PySem.W.mg_of X G a24,
    f_times := f25,
    fd_times := _,
    F_times := F25,
    b_times := (F25.binds (ps := ["one", "other"]) fun _ _ _ _ _ _ us hl => match us, hl with | [_, _], _ => rfl),
    m_times := PySem.W.mg_of X G a25,
    f_ways := f26,
    fd_ways := _,
    F_ways := F26,
    b_ways := (F26.binds (ps := ["rows", "order", "length"]) fun _ _ _ _ _ _ us hl => match us, hl with | [_, _, _], _ => rfl),
    m_ways := PySem.W.mg_of X G a26,
    f_how_many := f27,
    fd_how_many := _,
    F_how_many := F27,
    b_how_many := (F27.binds (ps := ["book", "order", "length"]) fun _ _ _ _ _ _ us hl => match us, hl with | [_, _, _], _ => rfl),
    m_how_many := PySem.W.mg_of X G a27,
    f_lengths := f28,
    fd_lengths := _,
    F_lengths := F28,
    b_lengths := (F28.binds (ps := ["book", "order"]) fun _ _ _ _ _ _ us hl => match us, hl with | [_, _], _ => rfl),
    m_lengths := PySem.W.mg_of X G a28,
    f_share_of_length := f29,
    fd_share_of_length := _,
    F_share_of_length := F29,
    b_share_of_length := (F29.binds (ps := ["book", "order", "length"]) fun _ _ _ _ _ _ us hl => match us, hl with | [_, _, _], _ => rfl),
    m_share_of_length := PySem.W.mg_of X G a29,
    f_share_up_to := f30,
    fd_share_up_to := _,
    F_share_up_to := F30,
    b_share_up_to := (F30.binds (ps := ["book", "order", "length"]) fun _ _ _ _ _ _ us hl => match us, hl with | [_, _, _], _ => rfl),
    m_share_up_to := PySem.W.mg_of X G a30,
    f__law_told := f31,
    fd__law_told := _,
    F__law_told := F31,
    b__law_told := (F31.binds (ps := ["_law_way", "_law_book_here", "_law_order", "_law_length"]) fun _ _ _ _ _ _ us hl => match us, hl with | [_, _, _, _], _ => rfl),
    m__law_told := PySem.W.mg_of X G a31,
    f_law := fa,
    fd_law := _,
    F_law := F32,
    b_law := (F32.binds (ps := ["_law_script"]) fun _ _ _ _ _ _ us hl => match us, hl with | [_], _ => rfl),
    m_law := PySem.W.mg_of X G a32,
    z_ValueError := PySem.W.mg_none_of X G z_ValueError,
    z_all := PySem.W.mg_none_of X G z_all,
    z_bool := PySem.W.mg_none_of X G z_bool,
    z_int := PySem.W.mg_none_of X G z_int,
    z_isinstance := PySem.W.mg_none_of X G z_isinstance,
    z_len := PySem.W.mg_none_of X G z_len,
    z_list := PySem.W.mg_none_of X G z_list,
    z_max := PySem.W.mg_none_of X G z_max,
    z_min := PySem.W.mg_none_of X G z_min,
    z_range := PySem.W.mg_none_of X G z_range,
    z_set := PySem.W.mg_none_of X G z_set,
    z_sorted := PySem.W.mg_none_of X G z_sorted,
    z_str := PySem.W.mg_none_of X G z_str,
    z_sum := PySem.W.mg_none_of X G z_sum,
    z_tuple := PySem.W.mg_none_of X G z_tuple,
    g_LETTERS := ⟨_, PySem.W.mg_of X G g_LETTERS⟩,
    g_MOST_LETTERS := ⟨_, PySem.W.mg_of X G g_MOST_LETTERS⟩,
    g_MOST_NAMES := ⟨_, PySem.W.mg_of X G g_MOST_NAMES⟩,
    g_MOST_ORDER := ⟨_, PySem.W.mg_of X G g_MOST_ORDER⟩,
    g_MOST := ⟨_, PySem.W.mg_of X G g_MOST⟩ }).imp spOk_D⟩
end KN
set_option maxHeartbeats 400000
namespace KN
open PySem PySem.Spec PyProof.Rows L2
noncomputable section
def q1 : Ga → R Fl := fSet 1 (bCall g__law_book (bCons (bVar 0) (bCons (bC (.int 0)) (bCons (bC (.int 3)) (bCons (bC (.int 4)) bNil)))))
def q2 : Ga → R Fl := fSet 2 (b2 dAdd (bC (.int 1)) (bCall g__law_drawn (bCons (bVar 0) (bCons (bC (.int 50)) (bCons (bC (.int 3)) bNil)))))
def q3 : Ga → R Fl := fSet 3 (bCall g__law_made (bCons (bVar 1) (bCons (bVar 2) (bCons (bC (.int 3)) bNil))))
def q4b1 : Ga → R Fl := fSet 7 (bN dSort (bCons (bLcE (bVar 3) [11] (bdN 11) (tVal (b2 dEq (bN dLen (bCons (bVar 11) bNil)) (bVar 4))) (bVar 11)) bNil))
def q4b2 : Ga → R Fl := fSet 8 (bCall g__law_sum (bCons (bLcE (bVar 7) [11] (bdN 11) yes (bCall g__law_share (bCons (bVar 1) (bCons (bVar 2) (bCons (bVar 11) bNil))))) bNil))
def q4b3 : Ga → R Fl := fSet 9 (bCall g__law_sum (bCons (bLcE (bVar 3) [11] (bdN 11) (tVal (b2 dLe (bN dLen (bCons (bVar 11) bNil)) (bVar 4))) (bCall g__law_share (bCons (bVar 1) (bCons (bVar 2) (bCons (bVar 11) bNil))))) bNil))
def q4b4 : Ga → R Fl := fIf (tVal (b2 dNe (bLcI (iR1 (bC (.int 4))) [10] (bdN 10) yes (bCall g__law_told (bCons (bVar 10) (bCons (bVar 1) (bCons (bVar 2) (bCons (bVar 4) bNil)))))) (bLst (bCons (bN dLen (bCons (bVar 7) bNil)) (bCons (bVar 8) (bCons (bVar 9) (bCons (bVar 7) bNil))))))) (fRet (bC (.bl false))) fNil
def q4b : Ga → R Fl := fSeq q4b1 (fSeq q4b2 (fSeq q4b3 (q4b4)))
def q4 : Ga → R Fl := fForE (bTup (bCons (bC (.int 1)) (bCons (bC (.int 2)) (bCons (bC (.int 3)) bNil)))) (bdN 4) q4b
def q5 : Ga → R Fl := fSet 5 (bCall g__law_told (bCons (bC (.int 4)) (bCons (bVar 1) (bCons (bVar 2) (bCons (bC (.int 1)) bNil)))))
def q6 : Ga → R Fl := fIf (tVal (b2 dNe (bLcE (bVar 5) [4] (bdN 4) (tVal (b2 dLt (bVar 4) (bC (.int 4)))) (bVar 4)) (b1 dSortSet (bLcE (bVar 3) [11] (bdN 11) yes (bN dLen (bCons (bVar 11) bNil)))))) (fRet (bC (.bl false))) fNil
def q7 : Ga → R Fl := fIf (tVal (b2 dNe (bLcI (iR2 (bC (.int 1)) (bC (.int 9))) [4] (bdN 4) (tVal (b2 dNe (b2 dGt (bCall g_how_many (bCons (bVar 1) (bCons (bVar 2) (bCons (bVar 4) bNil)))) (bC (.int 0))) (b2 dIn (bVar 4) (bVar 5)))) (bVar 4)) (bLst bNil))) (fRet (bC (.bl false))) fNil
def q8 : Ga → R Fl := fSet 6 (b2 dIx (bLst (bCons (bC (.int 0)) (bCons (bC (.int 9)) (bCons (bC .non) (bCons (bC (.bl true)) (bCons (bC (.str [49])) bNil)))))) (bCall g__law_drawn (bCons (bVar 0) (bCons (bC (.int 51)) (bCons (bC (.int 5)) bNil)))))
def q9 : Ga → R Fl := fIf (tVal (b2 dNe (bLcI (iR1 (bC (.int 4))) [10] (bdN 10) yes (bCall g__law_told (bCons (bVar 10) (bCons (bVar 1) (bCons (bVar 2) (bCons (bVar 6) bNil)))))) (b2 dRep (bLst (bCons (bTup (bCons (bC (.str [114, 101, 102, 117, 115, 101, 100])) (bCons (bC (.int 4)) bNil))) bNil)) (bC (.int 4))))) (fRet (bC (.bl false))) fNil
def q10 : Ga → R Fl := fIf (tVal (b2 dNe (bLcI (iR1 (bC (.int 5))) [10] (bdN 10) yes (bCall g__law_told (bCons (bVar 10) (bCons (bVar 1) (bCons (b2 dIx (bLst (bCons (bC (.int 0)) (bCons (bC (.int 4)) (bCons (bC .non) bNil)))) (bCall g__law_drawn (bCons (bVar 0) (bCons (bC (.int 52)) (bCons (bC (.int 3)) bNil))))) (bCons (bVar 6) bNil)))))) (b2 dRep (bLst (bCons (bTup (bCons (bC (.str [114, 101, 102, 117, 115, 101, 100])) (bCons (bC (.int 1)) bNil))) bNil)) (bC (.int 5))))) (fRet (bC (.bl false))) fNil
def q11 : Ga → R Fl := fRet (b2 dEq (bLcI (iR1 (bC (.int 5))) [10] (bdN 10) yes (bCall g__law_told (bCons (bVar 10) (bCons (bN dList (bCons (bVar 1) bNil)) (bCons (bC (.int 0)) (bCons (bVar 6) bNil)))))) (b2 dRep (bLst (bCons (bTup (bCons (bC (.str [114, 101, 102, 117, 115, 101, 100])) (bCons (bC (.int 0)) bNil))) bNil)) (bC (.int 5))))
def q : Ga → R Fl := fSeq q1 (fSeq q2 (fSeq q3 (fSeq q4 (fSeq q5 (fSeq q6 (fSeq q7 (fSeq q8 (fSeq q9 (fSeq q10 (q11))))))))))
theorem m_law_k20_e : m_law_k20 = q := rfl
/-! ### what is told -/
def tw (b o n : D) : Nat → R D
  | 0 => g_how_many [b, o, n]
  | 1 => g_share_of_length [b, o, n]
  | 2 => g_share_up_to [b, o, n]
  | 3 => g_all_made [b, o, n]
  | _ => g_lengths [b, o]
theorem bSel_e {gs : List (List D → R D)} {fi : Ga → R D} {fas : Ga → R (List D)} {γ : Ga} {i : Int} {g : List D → R D} (h : fi γ = .ok (.int i)) (h2 : L2.atI gs i = some g) : bSel gs fi fas γ = (fas γ).bind g := by
  unfold bSel
  rw [h]
  simp only [R.bind, h2]
theorem told_w {b o n : D} {w : Nat} (hw : w < 5) : g__law_told [.int w, b, o, n] = match tw b o n w with
    | .ok d => .ok d
    | .ex c => (match h__law_refused c with | .ok d => .ok d | _ => .no)
    | .no => .no := by
  have : w = 0 ∨ w = 1 ∨ w = 2 ∨ w = 3 ∨ w = 4 := by omega
  unfold g__law_told
  rw [fnD_e]
  have key : ∀ (f : Ga → R Fl) (γ : Ga) (r : R D), f γ = (r.bind fun d => .ok (.rt d)) → fTryR f h__law_refused γ = match r with
    | .ok d => .ok (.rt d)
    | .ex c => (match h__law_refused c with | .ok d => .ok (.rt d) | _ => .no)
    | .no => .no := by
    intro f γ r h
    unfold fTryR
    rw [h]
    cases r <;> rfl
  have fin : m__law_told [.va (.int w), .va b, .va o, .va n, .un] = match tw b o n w with
    | .ok d => .ok (.rt d)
    | .ex c => (match h__law_refused c with | .ok d => .ok (.rt d) | _ => .no)
    | .no => .no := by
    refine key _ _ _ ?_
    rcases this with rfl | rfl | rfl | rfl | rfl
    · have e := bSel_e (gs := [g_how_many, g_share_of_length, g_share_up_to, g_all_made]) (fi := bVar 0) (fas := bCons (bVar 1) (bCons (bVar 2) (bCons (bVar 3) bNil))) (γ := [.va (.int 0), .va b, .va o, .va n, .un]) (i := 0) rfl rfl
      have q : dEq (.int 0) (.int 4) = .ok (.bl false) := rfl
      generalize bSel [g_how_many, g_share_of_length, g_share_up_to, g_all_made] (bVar 0) (bCons (bVar 1) (bCons (bVar 2) (bCons (bVar 3) bNil))) = S at *
      cases h : g_how_many [b, o, n] <;> simp [tw, h, e, q]
    · have e := bSel_e (gs := [g_how_many, g_share_of_length, g_share_up_to, g_all_made]) (fi := bVar 0) (fas := bCons (bVar 1) (bCons (bVar 2) (bCons (bVar 3) bNil))) (γ := [.va (.int 1), .va b, .va o, .va n, .un]) (i := 1) rfl rfl
      have q : dEq (.int 1) (.int 4) = .ok (.bl false) := rfl
      generalize bSel [g_how_many, g_share_of_length, g_share_up_to, g_all_made] (bVar 0) (bCons (bVar 1) (bCons (bVar 2) (bCons (bVar 3) bNil))) = S at *
      cases h : g_share_of_length [b, o, n] <;> simp [tw, h, e, q]
    · have e := bSel_e (gs := [g_how_many, g_share_of_length, g_share_up_to, g_all_made]) (fi := bVar 0) (fas := bCons (bVar 1) (bCons (bVar 2) (bCons (bVar 3) bNil))) (γ := [.va (.int 2), .va b, .va o, .va n, .un]) (i := 2) rfl rfl
      have q : dEq (.int 2) (.int 4) = .ok (.bl false) := rfl
      generalize bSel [g_how_many, g_share_of_length, g_share_up_to, g_all_made] (bVar 0) (bCons (bVar 1) (bCons (bVar 2) (bCons (bVar 3) bNil))) = S at *
      cases h : g_share_up_to [b, o, n] <;> simp [tw, h, e, q]
    · have e := bSel_e (gs := [g_how_many, g_share_of_length, g_share_up_to, g_all_made]) (fi := bVar 0) (fas := bCons (bVar 1) (bCons (bVar 2) (bCons (bVar 3) bNil))) (γ := [.va (.int 3), .va b, .va o, .va n, .un]) (i := 3) rfl rfl
      have q : dEq (.int 3) (.int 4) = .ok (.bl false) := rfl
      generalize bSel [g_how_many, g_share_of_length, g_share_up_to, g_all_made] (bVar 0) (bCons (bVar 1) (bCons (bVar 2) (bCons (bVar 3) bNil))) = S at *
      cases h : g_all_made [b, o, n] <;> simp [tw, h, e, q]
    · have q : dEq (.int 4) (.int 4) = .ok (.bl true) := rfl
      generalize bSel [g_how_many, g_share_of_length, g_share_up_to, g_all_made] (bVar 0) (bCons (bVar 1) (bCons (bVar 2) (bCons (bVar 3) bNil))) = S at *
      cases h : g_lengths [b, o] <;> simp [tw, h, q]
  show (match m__law_told [.va (.int w), .va b, .va o, .va n, .un] with
    | R.ok (Fl.rt d) => R.ok d
    | R.ok (Fl.nx γ) => R.ok D.non
    | R.ex c => R.ex c
    | x => R.no) = _
  rw [fin]
  cases tw b o n w with
  | ok d => rfl
  | ex c =>
    simp only
    cases h__law_refused c <;> rfl
  | no => rfl
theorem told_wok {b o n d : D} {w : Nat} (hw : w < 5) (h : tw b o n w = .ok d) : g__law_told [.int w, b, o, n] = .ok d := by rw [told_w hw, h]
theorem told_wex {b o n d : D} {c : Nat} {w : Nat} (hw : w < 5) (h : tw b o n w = .ex c) (h2 : h__law_refused c = .ok d) : g__law_told [.int w, b, o, n] = .ok d := by rw [told_w hw, h]; simp only [h2]
theorem all_ex {b o n : D} {c : Nat} (h : g_need_all [b, o, n] = .ex c) : ∀ w, w < 4 → tw b o n w = .ex c := by
  intro w hw
  have : w = 0 ∨ w = 1 ∨ w = 2 ∨ w = 3 := by omega
  rcases this with rfl | rfl | rfl | rfl
  · show g_how_many [b, o, n] = _
    unfold g_how_many; rw [fnD_e]; simp [m_how_many, h]
  · show g_share_of_length [b, o, n] = _
    unfold g_share_of_length; rw [fnD_e]; simp [m_share_of_length, h]
  · show g_share_up_to [b, o, n] = _
    unfold g_share_up_to; rw [fnD_e]; simp [m_share_up_to, h]
  · show g_all_made [b, o, n] = _
    unfold g_all_made; rw [fnD_e]; simp [m_all_made, h]
theorem all_ex5 {b o n : D} {c : Nat} (h : g_need_all [b, o, n] = .ex c) (h2 : g_lengths [b, o] = .ex c) : ∀ w, w < 5 → tw b o n w = .ex c := by
  intro w hw
  by_cases z : w < 4
  · exact all_ex h w z
  · have : w = 4 := by omega
    subst this
    exact h2
section
variable {b o n : D}
theorem nall0 (h : g_need_book [b] = .ex 0) : g_need_all [b, o, n] = .ex 0 := by unfold g_need_all; rw [fnD_e]; simp [m_need_all, h]
theorem nall1 (h : g_need_book [b] = .ok .non) (h1 : g_need_order [o] = .ex 1) : g_need_all [b, o, n] = .ex 1 := by unfold g_need_all; rw [fnD_e]; simp [m_need_all, h, h1]
theorem nall4 (h : g_need_book [b] = .ok .non) (h1 : g_need_order [o] = .ok .non) (h2 : g_need_number [n, .int 1, .int 8] = .ex 4) : g_need_all [b, o, n] = .ex 4 := by unfold g_need_all; rw [fnD_e]; simp [m_need_all, h, h1, h2]
theorem len0 (h : g_need_book [b] = .ex 0) : g_lengths [b, o] = .ex 0 := by unfold g_lengths; rw [fnD_e]; simp [m_lengths, h]
theorem len1 (h : g_need_book [b] = .ok .non) (h1 : g_need_order [o] = .ex 1) : g_lengths [b, o] = .ex 1 := by unfold g_lengths; rw [fnD_e]; simp [m_lengths, h, h1]
end
abbrev refD (i : Int) : D := .tup [.str [114, 101, 102, 117, 115, 101, 100], .int i]
theorem r0 : h__law_refused 0 = .ok (refD 0) := rfl
theorem r1 : h__law_refused 1 = .ok (refD 1) := rfl
theorem r4 : h__law_refused 4 = .ok (refD 4) := rfl
theorem refRep (i : Int) : dRep (.lst [refD i]) (.int 5) = .ok (.lst (List.replicate 5 (refD i))) := rfl
theorem refRep4 (i : Int) : dRep (.lst [refD i]) (.int 4) = .ok (.lst (List.replicate 4 (refD i))) := rfl
theorem refNe (i : Int) : dNe (.lst (List.replicate 5 (refD i))) (.lst (List.replicate 5 (refD i))) = .ok (.bl false) := dNe_self (by simp [pl, List.replicate])
theorem refNe4 (i : Int) : dNe (.lst (List.replicate 4 (refD i))) (.lst (List.replicate 4 (refD i))) = .ok (.bl false) := dNe_self (by simp [pl, List.replicate])
theorem refEq (i : Int) : dEq (.lst (List.replicate 5 (refD i))) (.lst (List.replicate 5 (refD i))) = .ok (.bl true) := dEq_self (by simp [pl, List.replicate])
theorem tolds_ex {γ : Ga} {fb fo fn : Ga → R D} {b o n d : D} {c k : Nat} (hk : k ≤ 5) (h10 : 10 < γ.length) (hb : ∀ s, fb ((wipeG γ [10]).set 10 s) = .ok b) (ho : ∀ s, fo ((wipeG γ [10]).set 10 s) = .ok o) (hn : ∀ s, fn ((wipeG γ [10]).set 10 s) = .ok n) (ht : ∀ w, w < k → tw b o n w = .ex c) (h2 : h__law_refused c = .ok d) :
    bLcI (iR1 (bC (.int k))) [10] (bdN 10) yes (bCall g__law_told (bCons (bVar 10) (bCons fb (bCons fo (bCons fn bNil))))) γ = .ok (.lst (List.replicate k d)) := by
  have comp := lcGo_map (bd := bdN 10) (elt := bCall g__law_told (bCons (bVar 10) (bCons fb (bCons fo (bCons fn bNil))))) (γ := wipeG γ [10]) (inj := fun i : Nat => D.int (0 + (i : Nat))) (f := fun _ => d) (l := List.range k) fun i hi => ⟨_, rfl, by
    have hi := List.mem_range.mp hi
    have t := told_wex (by omega) (ht i hi) h2
    have v := (At.new (γ := wipeG γ [10]) (i := 10) (d := .int (0 + (i : Nat))) (by simpa [wipeG] using h10)).v
    rw [show (0 : Int) + (i : Nat) = (i : Nat) from by omega] at v ⊢
    rw [bCall_e, bCons_e, v, bCons_e, hb, bCons_e, ho, bCons_e, hn, bNil_e]
    exact t⟩
  unfold bLcI
  rw [iR1_s (fa := bC (.int k)) (n := k) rfl (by omega)]
  have := lcOut_e comp (by rw [List.length_map, List.length_range, lim_val]; omega)
  rw [List.map_const', List.length_range] at this
  exact this
def bad1 : List D := [.int 0, .int 4, .non]
def bad2 : List D := [.int 0, .int 9, .non, .bl true, .str [49]]
theorem bad1_order : ∀ d ∈ bad1, g_need_order [d] = .ex 1 := by
  intro d hd
  simp only [bad1, List.mem_cons, List.not_mem_nil, or_false] at hd
  rcases hd with rfl | rfl | rfl <;> rfl
theorem bad2_num : ∀ d ∈ bad2, g_need_number [d, .int 1, .int 8] = .ex 4 := by
  intro d hd
  simp only [bad2, List.mem_cons, List.not_mem_nil, or_false] at hd
  rcases hd with rfl | rfl | rfl | rfl | rfl <;> rfl
theorem ix_in {l : List D} {k : Int} (h0 : 0 ≤ k) (h1 : k < l.length) : ∃ d ∈ l, dIx (.lst l) (.int k) = .ok d := by
  obtain ⟨n, rfl⟩ : ∃ n : Nat, k = n := ⟨k.toNat, by omega⟩
  have hn : n < l.length := by omega
  refine ⟨l[n], List.getElem_mem hn, ?_⟩
  show o2r (L2.atI l (n : Int)) = _
  rw [L2.atI_nat (List.getElem?_eq_getElem hn)]; rfl
/-! ### the law -/
abbrev E20 (s0 : Sl) (b : List Tx) (o : Nat) (s3 s4 s5 s6 s7 s8 s9 s10 s11 : Sl) : Ga := [s0, .va (bkD b), .va (.int o), s3, s4, s5, s6, s7, s8, s9, s10, s11]
structure Gd (b : List Tx) : Prop where
  ok : bookOk b
  ltr : ∀ x ∈ b, ∀ c ∈ x, ltr c
  few : b.length ≤ 3
  four : ∀ x ∈ b, x.length ≤ 4
theorem Gd.ev {b : List Tx} (h : Gd b) (o : Nat) : (evB o b).length < 64 := by
  have := evLe (o := o) (m := 4) h.four
  have h5 : (4 + 1) * b.length ≤ 5 * 3 := Nat.mul_le_mul_left 5 h.few
  omega
section
variable {s0 s5 s6 s7 s8 s9 s10 s11 : Sl} {b : List Tx} {o n : Nat}
theorem q4b_ok (g : Gd b) (ho : 1 ≤ o ∧ o ≤ 3) (hn : 1 ≤ n ∧ n ≤ 3) :
    ∃ t7 t8 t9, q4b (E20 s0 b o (.va (.lst ((foundL (evB o b) o 4).map .str))) (.va (.int (n : Nat))) s5 s6 s7 s8 s9 s10 s11) = .ok (.nx (E20 s0 b o (.va (.lst ((foundL (evB o b) o 4).map .str))) (.va (.int (n : Nat))) s5 s6 t7 t8 t9 s10 s11)) := by
  have hb := g.ok
  have few := abz_few (o := o) g.ltr (n := 8) (Nat.le_refl _)
  have fn := abz_few (o := o) g.ltr (n := n) (by omega)
  have f4 := found4 (abz_nxt (o := o) g.ltr) o
  have nmF : ∀ t ∈ foundL (evB o b) o 4, nameOk t := fun t ht => found_name hb ho (by omega) ht
  have nmM : ∀ t ∈ made (evB o b) o n, nameOk t := fun t ht => made_name hb ho.2 (by omega) ht
  have mm : (made (evB o b) o n).length ≤ 40 := by
    have h1 : (PE (evB o b) o n).length ≤ (foundL (evB o b) o 4).length := by
      rw [← foundL_len ev1 4 (k := n) (by omega)]
      exact List.length_filter_le _ _
    rw [made_eq, (sortT_perm _).length_eq]; omega
  have t0 := told_wok (w := 0) (by decide) (how_many_ok hb ho (n := n) (by omega) fn.1)
  have t1 := told_wok (w := 1) (by decide) (share_of_length_ok hb ho (n := n) (by omega) fn.1)
  have t2 := told_wok (w := 2) (by decide) (share_up_to_ok hb ho (n := n) (by omega) fn)
  have t3 := told_wok (w := 3) (by decide) (allMade_ok hb ho (n := n) (by omega) (g.ev o) fn.1)
  have fl := foundL_len (o := o) (k := n) (ev1 (o := o) (b := b)) 4 (by omega)
  have fe := foundL_le (o := o) (k := n) (ev1 (o := o) (b := b)) 4 (by omega)
  have fs := found_sum hb ho n
  have sh : ∀ x, nameOk x → g__law_share [bkD b, .int o, .str x] = .ok (frD (shareQ (evB o b) o x)) := fun x hx => law_share_ok hb.small ho.1 hx.2.1 hx.chs
  have hsz : ∀ x, nameOk x → sz 80 (shareQ (evB o b) o x) := fun x hx => shareQ_sz hb o hx
  have sM := law_sum_ok (n := 80) (qs := (made (evB o b) o n).map (shareQ (evB o b) o)) (fun q hq => by
    obtain ⟨x, hx, rfl⟩ := List.mem_map.mp hq
    exact hsz x (nmM x hx)) (by rw [List.length_map]; have := Nat.mul_le_mul_left 81 mm; omega)
  have sF := law_sum_ok (n := 80) (qs := (foundL (evB o b) o (n + 1)).map (shareQ (evB o b) o)) (fun q hq => by
    obtain ⟨x, hx, rfl⟩ := List.mem_map.mp hq
    rw [← fe] at hx
    exact hsz x (nmF x (List.mem_filter.mp hx).1)) (by
      rw [List.length_map, ← fe]
      have h1 := List.length_filter_le (fun t => decide (t.length ≤ n)) (foundL (evB o b) o 4)
      have := Nat.mul_le_mul_left 81 (Nat.le_trans h1 f4)
      omega)
  have eM : sumQ ((made (evB o b) o n).map (shareQ (evB o b) o)) = lenQ (evB o b) o n := rfl
  have eF : sumQ ((foundL (evB o b) o (n + 1)).map (shareQ (evB o b) o)) = upQ (evB o b) o n := fs
  rw [eM] at sM
  rw [eF] at sF
  have hP : made (evB o b) o n = sortT (PE (evB o b) o n) := rfl
  have plM : pl 19 (.lst ((made (evB o b) o n).map D.str)) = true := by
    rw [pl_lst, List.all_eq_true]
    intro d hd
    obtain ⟨x, hx, rfl⟩ := List.mem_map.mp hd
    rw [pl_str]
    exact (nmM x hx).pl
  -- the names of the length
  have comp1 : ∀ γ : Ga, At γ 3 (.lst ((foundL (evB o b) o 4).map .str)) → At γ 4 (.int (n : Nat)) → 11 < γ.length → bLcE (bVar 3) [11] (bdN 11) (tVal (b2 dEq (bN dLen (bCons (bVar 11) bNil)) (bVar 4))) (bVar 11) γ = .ok (.lst ((PE (evB o b) o n).map .str)) := by
    intro γ h3 h4 hl
    have comp := lcGo_fil (bd := bdN 11) (ifs := tVal (b2 dEq (bN dLen (bCons (bVar 11) bNil)) (bVar 4))) (elt := bVar 11) (γ := wipeG γ [11]) (inj := D.str) (p := fun t => decide (t.length = n)) (f := fun t => .str t) (l := foundL (evB o b) o 4) fun t ht => ⟨_, rfl, by
      have v11 := (At.new (γ := wipeG γ [11]) (i := 11) (d := .str t) (by simpa [wipeG] using hl)).v
      have v4 := ((h4.wipe (vs := [11]) (by decide)).set (s := .va (.str t)) (j := 11) (by decide)).v
      have ll : t.length ≤ lim := (nmF t ht).lim
      have dl : dLen [.str t] = .ok (.int (t.length : Nat)) := dLen_s ll
      have de : dEq (.int (t.length : Nat)) (.int (n : Nat)) = .ok (.bl (decide (t.length = n))) := by
        rw [dEq_p (by simp) (by simp), eqv_int]
        congr 2
        rw [Bool.eq_iff_iff]
        simp
        omega
      rw [tVal_e, b2_e, bN_e, bCons_e, v11, bNil_e, v4]
      simp only [R.bind, dl, de, tB_e], fun _ => (At.new (γ := wipeG γ [11]) (i := 11) (d := .str t) (by simpa [wipeG] using hl)).v⟩
    rw [fl] at comp
    exact lcE_e h3.v rfl comp (by rw [List.length_map, lim_val]; have : (PE (evB o b) o n).length = (made (evB o b) o n).length := by rw [hP, (sortT_perm _).length_eq]
                                  omega)
  have k1 : q4b1 (E20 s0 b o (.va (.lst ((foundL (evB o b) o 4).map .str))) (.va (.int (n : Nat))) s5 s6 s7 s8 s9 s10 s11) = .ok (.nx (E20 s0 b o (.va (.lst ((foundL (evB o b) o 4).map .str))) (.va (.int (n : Nat))) s5 s6 (.va (.lst ((made (evB o b) o n).map .str))) s8 s9 s10 s11)) := set_e (by
    rw [bN_e, bCons_e, comp1 _ rfl rfl (by simp), bNil_e]
    exact dSort_strs _)
  -- shares
  have comp2 : ∀ (γ : Ga) (i : Nat) (l : List Tx), i ≠ 11 → At γ i (.lst (l.map .str)) → At γ 1 (bkD b) → At γ 2 (.int o) → 11 < γ.length → (∀ x ∈ l, nameOk x) → l.length ≤ 40 → bLcE (bVar i) [11] (bdN 11) yes (bCall g__law_share (bCons (bVar 1) (bCons (bVar 2) (bCons (bVar 11) bNil)))) γ = .ok (.lst ((l.map (shareQ (evB o b) o)).map frD)) := by
    intro γ i l hi h3 h1 h2 hl hnm hlen
    have comp := lcGo_map (bd := bdN 11) (elt := bCall g__law_share (bCons (bVar 1) (bCons (bVar 2) (bCons (bVar 11) bNil)))) (γ := wipeG γ [11]) (inj := D.str) (f := fun t => frD (shareQ (evB o b) o t)) (l := l) fun t ht => ⟨_, rfl, by
      have v11 := (At.new (γ := wipeG γ [11]) (i := 11) (d := .str t) (by simpa [wipeG] using hl)).v
      have v1 := ((h1.wipe (vs := [11]) (by decide)).set (s := .va (.str t)) (j := 11) (by decide)).v
      have v2 := ((h2.wipe (vs := [11]) (by decide)).set (s := .va (.str t)) (j := 11) (by decide)).v
      rw [bCall_e, bCons_e, v1, bCons_e, v2, bCons_e, v11, bNil_e]
      exact sh t (hnm t ht)⟩
    rw [List.map_map]
    exact lcE_e h3.v rfl comp (by rw [List.length_map, lim_val]; omega)
  have k2 : q4b2 (E20 s0 b o (.va (.lst ((foundL (evB o b) o 4).map .str))) (.va (.int (n : Nat))) s5 s6 (.va (.lst ((made (evB o b) o n).map .str))) s8 s9 s10 s11) = .ok (.nx (E20 s0 b o (.va (.lst ((foundL (evB o b) o 4).map .str))) (.va (.int (n : Nat))) s5 s6 (.va (.lst ((made (evB o b) o n).map .str))) (.va (frD (lenQ (evB o b) o n))) s9 s10 s11)) := set_e (by
    rw [bCall_e, bCons_e, comp2 _ 7 (made (evB o b) o n) (by decide) rfl rfl rfl (by simp) nmM mm, bNil_e]
    exact sM)
  have comp3 : ∀ (γ : Ga), At γ 3 (.lst ((foundL (evB o b) o 4).map .str)) → At γ 4 (.int (n : Nat)) → At γ 1 (bkD b) → At γ 2 (.int o) → 11 < γ.length → bLcE (bVar 3) [11] (bdN 11) (tVal (b2 dLe (bN dLen (bCons (bVar 11) bNil)) (bVar 4))) (bCall g__law_share (bCons (bVar 1) (bCons (bVar 2) (bCons (bVar 11) bNil)))) γ = .ok (.lst (((foundL (evB o b) o (n + 1)).map (shareQ (evB o b) o)).map frD)) := by
    intro γ h3 h4 h1 h2 hl
    have comp := lcGo_fil (bd := bdN 11) (ifs := tVal (b2 dLe (bN dLen (bCons (bVar 11) bNil)) (bVar 4))) (elt := bCall g__law_share (bCons (bVar 1) (bCons (bVar 2) (bCons (bVar 11) bNil)))) (γ := wipeG γ [11]) (inj := D.str) (p := fun t => decide (t.length ≤ n)) (f := fun t => frD (shareQ (evB o b) o t)) (l := foundL (evB o b) o 4) fun t ht => ⟨_, rfl, by
      have v11 := (At.new (γ := wipeG γ [11]) (i := 11) (d := .str t) (by simpa [wipeG] using hl)).v
      have v4 := ((h4.wipe (vs := [11]) (by decide)).set (s := .va (.str t)) (j := 11) (by decide)).v
      have ll : t.length ≤ lim := (nmF t ht).lim
      have dl : dLen [.str t] = .ok (.int (t.length : Nat)) := dLen_s ll
      have de : dLe (.int (t.length : Nat)) (.int (n : Nat)) = .ok (.bl (decide (t.length ≤ n))) := by
        show R.ok (D.bl (decide _)) = _
        congr 2
        rw [decide_eq_decide]
        omega
      rw [tVal_e, b2_e, bN_e, bCons_e, v11, bNil_e, v4]
      simp only [R.bind, dl, de, tB_e], fun _ => by
      have v11 := (At.new (γ := wipeG γ [11]) (i := 11) (d := .str t) (by simpa [wipeG] using hl)).v
      have v1 := ((h1.wipe (vs := [11]) (by decide)).set (s := .va (.str t)) (j := 11) (by decide)).v
      have v2 := ((h2.wipe (vs := [11]) (by decide)).set (s := .va (.str t)) (j := 11) (by decide)).v
      rw [bCall_e, bCons_e, v1, bCons_e, v2, bCons_e, v11, bNil_e]
      exact sh t (nmF t ht)⟩
    rw [fe] at comp
    rw [List.map_map]
    exact lcE_e h3.v rfl comp (by
      rw [List.length_map, ← fe, lim_val]
      have h1 := List.length_filter_le (fun t => decide (t.length ≤ n)) (foundL (evB o b) o 4)
      omega)
  have k3 : q4b3 (E20 s0 b o (.va (.lst ((foundL (evB o b) o 4).map .str))) (.va (.int (n : Nat))) s5 s6 (.va (.lst ((made (evB o b) o n).map .str))) (.va (frD (lenQ (evB o b) o n))) s9 s10 s11) = .ok (.nx (E20 s0 b o (.va (.lst ((foundL (evB o b) o 4).map .str))) (.va (.int (n : Nat))) s5 s6 (.va (.lst ((made (evB o b) o n).map .str))) (.va (frD (lenQ (evB o b) o n))) (.va (frD (upQ (evB o b) o n))) s10 s11)) := set_e (by
    rw [bCall_e, bCons_e, comp3 _ rfl rfl rfl rfl (by simp), bNil_e]
    exact sF)
  refine ⟨.va (.lst ((made (evB o b) o n).map .str)), .va (frD (lenQ (evB o b) o n)), .va (frD (upQ (evB o b) o n)), ?_⟩
  unfold q4b
  rw [seq_nx k1, seq_nx k2, seq_nx k3]
  have p1 := pl_fr 18 (lenQ (evB o b) o n)
  have p2 := pl_fr 18 (upQ (evB o b) o n)
  generalize frD (lenQ (evB o b) o n) = F1 at *
  generalize frD (upQ (evB o b) o n) = F2 at *
  have t0 : g__law_told [.int ((0 : Nat) : Int), bkD b, .int o, .int n] = .ok (.int ((made (evB o b) o n).length : Nat)) := t0
  have t3 : g__law_told [.int ((3 : Nat) : Int), bkD b, .int o, .int n] = .ok (.lst ((made (evB o b) o n).map .str)) := t3
  have hml : ((made (evB o b) o n).map D.str).length = (made (evB o b) o n).length := List.length_map _
  have dl : dLen [.lst ((made (evB o b) o n).map D.str)] = .ok (.int ((made (evB o b) o n).length : Nat)) := by
    show R.ok (D.int _) = _
    rw [hml]
  generalize (made (evB o b) o n).map D.str = M at *
  generalize (made (evB o b) o n).length = ml at *
  generalize (foundL (evB o b) o 4).map D.str = FL at *
  have nn : dNe (.lst [.int (ml : Nat), F1, F2, .lst M]) (.lst [.int (ml : Nat), F1, F2, .lst M]) = .ok (.bl false) := dNe_self (by
    rw [pl_lst]
    simp only [List.all_cons, List.all_nil, p1, p2, pl_int, plM]; rfl)
  have l4 : 4 ≤ lim := by decide
  refine if_f ?_
  unfold E20
  generalize bkD b = B at *
  have lc : bLcI (iR1 (bC (.int 4))) [10] (bdN 10) yes (bCall g__law_told (bCons (bVar 10) (bCons (bVar 1) (bCons (bVar 2) (bCons (bVar 4) bNil))))) [s0, .va B, .va (.int o), .va (.lst FL), .va (.int (n : Nat)), s5, s6, .va (.lst M), .va F1, .va F2, s10, s11] = .ok (.lst [.int (ml : Nat), F1, F2, .lst M]) := by
    have comp := lcGo_map (bd := bdN 10) (elt := bCall g__law_told (bCons (bVar 10) (bCons (bVar 1) (bCons (bVar 2) (bCons (bVar 4) bNil))))) (γ := wipeG [s0, .va B, .va (.int o), .va (.lst FL), .va (.int (n : Nat)), s5, s6, .va (.lst M), .va F1, .va F2, s10, s11] [10]) (inj := fun i : Nat => D.int (0 + (i : Nat))) (f := fun i => ([.int (ml : Nat), F1, F2, .lst M] : List D).getD i .non) (l := List.range 4) fun i hi => ⟨_, rfl, by
      have hi := List.mem_range.mp hi
      have : i = 0 ∨ i = 1 ∨ i = 2 ∨ i = 3 := by omega
      rcases this with rfl | rfl | rfl | rfl
      · simp [wipeG]; exact t0
      · simp [wipeG]; exact t1
      · simp [wipeG]; exact t2
      · simp [wipeG]; exact t3⟩
    unfold bLcI
    rw [iR1_s (fa := bC (.int 4)) (n := 4) rfl (by decide)]
    exact lcOut_e comp (by simp [lim_val])
  generalize bLcI (iR1 (bC (.int 4))) [10] (bdN 10) yes (bCall g__law_told (bCons (bVar 10) (bCons (bVar 1) (bCons (bVar 2) (bCons (bVar 4) bNil))))) = LC at *
  simp [lc, dl, nn, l4]
end
section
variable {s0 s3 s4 s6 s7 s8 s9 s10 s11 : Sl} {b : List Tx} {o : Nat}
theorem lensD (b : List Tx) (o : Nat) : (((List.range 8).filter fun i => decide (made (evB o b) o (i + 1) ≠ [])).map fun i : Nat => D.int ((i : Nat) + 1)) = (lensL (evB o b) o).map .int := by
  unfold lensL; rw [List.map_map]; rfl
theorem q5_ok (g : Gd b) (ho : 1 ≤ o ∧ o ≤ 3) {s5 : Sl} : q5 (E20 s0 b o s3 s4 s5 s6 s7 s8 s9 s10 s11) = .ok (.nx (E20 s0 b o s3 s4 (.va (.lst ((lensL (evB o b) o).map .int))) s6 s7 s8 s9 s10 s11)) := by
  have few := abz_few (o := o) g.ltr (n := 8) (Nat.le_refl _)
  have t4 := told_wok (w := 4) (n := .int 1) (by decide) (lengths_ok g.ok ho few.1)
  rw [lensD] at t4
  have t4 : g__law_told [.int 4, bkD b, .int o, .int 1] = .ok (.lst ((lensL (evB o b) o).map .int)) := t4
  refine set_e ?_
  unfold E20
  generalize (lensL (evB o b) o).map D.int = LL at *
  generalize bkD b = B at *
  simp [t4]
theorem lens_len (es : List Ev) (o : Nat) : (lensL es o).length ≤ 8 := by
  unfold lensL
  rw [List.length_map]
  have := List.length_filter_le (fun i => decide (made es o (i + 1) ≠ [])) (List.range 8)
  simpa using this
theorem q6_ok (g : Gd b) (ho : 1 ≤ o ∧ o ≤ 3) : q6 (E20 s0 b o (.va (.lst ((foundL (evB o b) o 4).map .str))) s4 (.va (.lst ((lensL (evB o b) o).map .int))) s6 s7 s8 s9 s10 s11) = .ok (.nx (E20 s0 b o (.va (.lst ((foundL (evB o b) o 4).map .str))) s4 (.va (.lst ((lensL (evB o b) o).map .int))) s6 s7 s8 s9 s10 s11)) := by
  have hb := g.ok
  have f4 := found4 (abz_nxt (o := o) g.ltr) o
  have nmF : ∀ t ∈ foundL (evB o b) o 4, nameOk t := fun t ht => found_name hb ho (by omega) ht
  have ll8 := lens_len (evB o b) o
  have comp1 := lcGo_fil (bd := bdN 4) (ifs := tVal (b2 dLt (bVar 4) (bC (.int 4)))) (elt := bVar 4) (γ := wipeG (E20 s0 b o (.va (.lst ((foundL (evB o b) o 4).map .str))) s4 (.va (.lst ((lensL (evB o b) o).map .int))) s6 s7 s8 s9 s10 s11) [4]) (inj := D.int) (p := fun i => decide (i < ((4 : Nat) : Int))) (f := fun i => .int i) (l := lensL (evB o b) o) fun i hi => ⟨_, rfl, by
    generalize (foundL (evB o b) o 4).map D.str = FL at *
    generalize (lensL (evB o b) o).map D.int = LL at *
    unfold E20
    generalize bkD b = B at *
    simp [wipeG], fun _ => by simp [wipeG]⟩
  rw [found_lens hb ho (n := 4) (by omega)] at comp1
  have c1 := lcE_e (fe := bVar 5) (γ := E20 s0 b o (.va (.lst ((foundL (evB o b) o 4).map .str))) s4 (.va (.lst ((lensL (evB o b) o).map .int))) s6 s7 s8 s9 s10 s11) rfl rfl comp1 (by
    rw [List.length_map, ← found_lens hb ho (n := 4) (by omega), lim_val]
    have := List.length_filter_le (fun i => decide (i < ((4 : Nat) : Int))) (lensL (evB o b) o)
    omega)
  have comp2 := lcGo_map (bd := bdN 11) (elt := bN dLen (bCons (bVar 11) bNil)) (γ := wipeG (E20 s0 b o (.va (.lst ((foundL (evB o b) o 4).map .str))) s4 (.va (.lst ((lensL (evB o b) o).map .int))) s6 s7 s8 s9 s10 s11) [11]) (inj := D.str) (f := fun t => .int ((t.length : Nat) : Int)) (l := foundL (evB o b) o 4) fun t ht => ⟨_, rfl, by
    have ll : t.length ≤ lim := (nmF t ht).lim
    have dl : dLen [.str t] = .ok (.int (t.length : Nat)) := dLen_s ll
    generalize (foundL (evB o b) o 4).map D.str = FL at *
    generalize (lensL (evB o b) o).map D.int = LL at *
    unfold E20
    generalize bkD b = B at *
    simp [wipeG, ll, dLen]⟩
  have c2 := lcE_e (fe := bVar 3) (γ := E20 s0 b o (.va (.lst ((foundL (evB o b) o 4).map .str))) s4 (.va (.lst ((lensL (evB o b) o).map .int))) s6 s7 s8 s9 s10 s11) rfl rfl comp2 (by rw [List.length_map, lim_val]; omega)
  have e2 : ((foundL (evB o b) o 4).map fun t => D.int ((t.length : Nat) : Int)) = ((foundL (evB o b) o 4).map fun t => ((t.length : Nat) : Int)).map .int := by rw [List.map_map]; rfl
  rw [e2] at c2
  have ss := dSS_ints (l := (foundL (evB o b) o 4).map fun t => ((t.length : Nat) : Int)) (by rw [List.length_map]; omega)
  have nn : dNe (.lst ((sortI (((foundL (evB o b) o 4).map fun t => ((t.length : Nat) : Int)).eraseDups)).map .int)) (.lst ((sortI (((foundL (evB o b) o 4).map fun t => ((t.length : Nat) : Int)).eraseDups)).map .int)) = .ok (.bl false) := dNe_self (ints_pl (fun i : Int => i) _)
  refine if_f ?_
  rw [tVal_e, b2_e, c1, b1_e, c2]
  simp only [R.bind]
  rw [ss]
  simp only [R.bind, nn, tB_e]
theorem q7_ok (g : Gd b) (ho : 1 ≤ o ∧ o ≤ 3) : q7 (E20 s0 b o s3 s4 (.va (.lst ((lensL (evB o b) o).map .int))) s6 s7 s8 s9 s10 s11) = .ok (.nx (E20 s0 b o s3 s4 (.va (.lst ((lensL (evB o b) o).map .int))) s6 s7 s8 s9 s10 s11)) := by
  have few := abz_few (o := o) g.ltr (n := 8) (Nat.le_refl _)
  have comp := lcGo_fil (bd := bdN 4) (ifs := tVal (b2 dNe (b2 dGt (bCall g_how_many (bCons (bVar 1) (bCons (bVar 2) (bCons (bVar 4) bNil)))) (bC (.int 0))) (b2 dIn (bVar 4) (bVar 5)))) (elt := bVar 4) (γ := wipeG (E20 s0 b o s3 s4 (.va (.lst ((lensL (evB o b) o).map .int))) s6 s7 s8 s9 s10 s11) [4]) (inj := fun i : Nat => D.int (1 + (i : Nat))) (p := fun _ => false) (f := fun _ => .non) (l := List.range 8) fun i hi => ⟨_, rfl, by
    have hi := List.mem_range.mp hi
    have hm := how_many_ok g.ok ho (n := i + 1) (by omega) (few.1.le (by omega))
    have e0 : ((i + 1 : Nat) : Int) = 1 + (i : Nat) := by omega
    rw [e0] at hm
    have gt : dGt (.int ((made (evB o b) o (i + 1)).length : Nat)) (.int 0) = .ok (.bl (decide (made (evB o b) o (i + 1) ≠ []))) := by
      show R.ok (D.bl (decide _)) = _
      congr 2
      rw [decide_eq_decide]
      constructor
      · intro h z; rw [z] at h; simp at h
      · intro h
        have := List.length_pos_iff.mpr h
        omega
    have di := in_intsF (fun i : Int => i) (lensL (evB o b) o) (1 + (i : Nat))
    have e2 : ((lensL (evB o b) o).map fun i : Int => i).contains (1 + ((i : Nat) : Int)) = decide (made (evB o b) o (i + 1) ≠ []) := by
      rw [Bool.eq_iff_iff, List.map_id', List.contains_iff_mem, lens_mem]
      constructor
      · rintro ⟨n, h1, h2, h3, h4⟩
        have : n = i + 1 := by omega
        subst this
        simpa using h4
      · intro h
        exact ⟨i + 1, by omega, by omega, by omega, by simpa using h⟩
    rw [e2] at di
    have nn : ∀ c : Bool, dNe (.bl c) (.bl c) = .ok (.bl false) := fun c => dNe_self (by simp)
    have di : dIn (.int (1 + (i : Nat))) (.lst ((lensL (evB o b) o).map .int)) = .ok (.bl (decide (made (evB o b) o (i + 1) ≠ []))) := di
    generalize decide (made (evB o b) o (i + 1) ≠ []) = c at *
    have nn := nn c
    generalize (lensL (evB o b) o).map D.int = LL at *
    generalize ((made (evB o b) o (i + 1)).length : Nat) = ml at *
    unfold E20
    generalize bkD b = B at *
    generalize (1 : Int) + (i : Nat) = i1 at *
    have v1 : bCall g_how_many (bCons (bVar 1) (bCons (bVar 2) (bCons (bVar 4) bNil))) ((wipeG [s0, .va B, .va (.int o), s3, s4, .va (.lst LL), s6, s7, s8, s9, s10, s11] [4]).set 4 (.va (.int i1))) = .ok (.int (ml : Nat)) := by
      simp [wipeG, hm]
    have v2 : b2 dIn (bVar 4) (bVar 5) ((wipeG [s0, .va B, .va (.int o), s3, s4, .va (.lst LL), s6, s7, s8, s9, s10, s11] [4]).set 4 (.va (.int i1))) = .ok (.bl c) := by
      simp [wipeG, di]
    rw [tVal_e, b2_e, b2_e, v1, v2, bC_e]
    simp only [R.bind, gt, nn, tB_e], fun h => nomatch h⟩
  have ef : (List.range 8).filter (fun _ => false) = [] := List.filter_eq_nil_iff.mpr fun _ _ => by simp
  rw [ef] at comp
  have lc : bLcI (iR2 (bC (.int 1)) (bC (.int 9))) [4] (bdN 4) (tVal (b2 dNe (b2 dGt (bCall g_how_many (bCons (bVar 1) (bCons (bVar 2) (bCons (bVar 4) bNil)))) (bC (.int 0))) (b2 dIn (bVar 4) (bVar 5)))) (bVar 4) (E20 s0 b o s3 s4 (.va (.lst ((lensL (evB o b) o).map .int))) s6 s7 s8 s9 s10 s11) = .ok (.lst []) := by
    unfold bLcI
    rw [iR2_one (fa := bC (.int 1)) (fb := bC (.int 9)) (n := 8) rfl rfl (by decide)]
    exact lcOut_e comp (by simp)
  refine if_f ?_
  rw [tVal_e, b2_e, lc, nilE]
  simp only [R.bind, xNil, tB_e]
end
theorem law_true_k20 : ∀ ns : List Int, ns.length ≤ 63 → g_law_k20 [.lst (ns.map .int)] = .ok (.bl true) := fun ns hns => by
  obtain ⟨b1, bb2, b3, b4⟩ := book_ok hns (k := 0) (many := 3) (m := 4) (by decide) (by decide) (by decide) (by decide) (by decide) (by decide)
  have g : Gd (bookF ns 0 3 4) := ⟨⟨by omega, by omega, fun x hx => (b4 x hx).nm (by decide)⟩, fun x hx => (b4 x hx).2.2, by omega, fun x hx => by have := (b4 x hx).2.1; omega⟩
  generalize bookF ns 0 3 4 = b at *
  obtain ⟨d1, d2, d3⟩ := drawn_ok hns (k := 50) (m := 3) (by decide) (by decide) (by decide)
  obtain ⟨o, ho0⟩ : ∃ o : Nat, (1 : Int) + drawnF ns 50 3 = o := ⟨(1 + drawnF ns 50 3).toNat, by omega⟩
  have ho : 1 ≤ o ∧ o ≤ 3 := by omega
  generalize drawnF ns 50 3 = dr at *
  obtain ⟨e1, e2, e3⟩ := drawn_ok hns (k := 51) (m := 5) (by decide) (by decide) (by decide)
  obtain ⟨f1, f2, f3⟩ := drawn_ok hns (k := 52) (m := 3) (by decide) (by decide) (by decide)
  generalize drawnF ns 51 5 = i1 at *
  generalize drawnF ns 52 3 = i2 at *
  generalize hL : Lk ns = L at *
  obtain ⟨odd, hod, hod2⟩ := ix_in (l := bad2) e2 e3
  obtain ⟨bad, hbd, hbd2⟩ := ix_in (l := bad1) f2 f3
  have hb := g.ok
  have few := abz_few (o := o) g.ltr (n := 4) (by omega)
  have f4 := found4 (abz_nxt (o := o) g.ltr) o
  have mk := law_made_ok hb ho.1 (g.ev o) (m := 3) (by decide) few.1 (by rw [lim_val]; show (foundL (evB o b) o 4).length < _; omega) (fun k _ t ht => path_chs hb k t ht)
  have k1 : q1 [.va L, .un, .un, .un, .un, .un, .un, .un, .un, .un, .un, .un] = .ok (.nx [.va L, .va (bkD b), .un, .un, .un, .un, .un, .un, .un, .un, .un, .un]) := set_e (by simp [b1])
  have k2 : q2 [.va L, .va (bkD b), .un, .un, .un, .un, .un, .un, .un, .un, .un, .un] = .ok (.nx (E20 (.va L) b o .un .un .un .un .un .un .un .un .un)) := set_e (by
    generalize bkD b = B at *
    simp [d1, ho0])
  have k3 : q3 (E20 (.va L) b o .un .un .un .un .un .un .un .un .un) = .ok (.nx (E20 (.va L) b o (.va (.lst ((foundL (evB o b) o 4).map .str))) .un .un .un .un .un .un .un .un)) := set_e (by
    have mk : g__law_made [bkD b, .int o, .int 3] = .ok (.lst ((foundL (evB o b) o 4).map .str)) := mk
    generalize (foundL (evB o b) o 4).map D.str = FL at *
    unfold E20
    generalize bkD b = B at *
    simp [mk])
  have k4 : ∃ t4 t7 t8 t9, q4 (E20 (.va L) b o (.va (.lst ((foundL (evB o b) o 4).map .str))) .un .un .un .un .un .un .un .un) = .ok (.nx (E20 (.va L) b o (.va (.lst ((foundL (evB o b) o 4).map .str))) t4 .un .un t7 t8 t9 .un .un)) := by
    obtain ⟨γ', loop, t4, t7, t8, t9, rfl⟩ := forGo_inv (bd := bdN 4) (inj := fun n : Nat => D.int n) (l0 := [1, 2, 3]) (body := q4b) (I := fun _ γ => ∃ t4 t7 t8 t9, γ = E20 (.va L) b o (.va (.lst ((foundL (evB o b) o 4).map .str))) t4 .un .un t7 t8 t9 .un .un)
      (γ := E20 (.va L) b o (.va (.lst ((foundL (evB o b) o 4).map .str))) .un .un .un .un .un .un .un .un) (fun dn n rest γ hr hI => by
        obtain ⟨t4, t7, t8, t9, rfl⟩ := hI
        have hn : 1 ≤ n ∧ n ≤ 3 := by
          have : n ∈ [1, 2, 3] := by rw [hr]; simp
          simp at this; omega
        obtain ⟨u7, u8, u9, r⟩ := q4b_ok (s0 := .va L) (s5 := .un) (s6 := .un) (s7 := t7) (s8 := t8) (s9 := t9) (s10 := .un) (s11 := .un) g ho hn
        exact ⟨_, rfl, _, .inl r, _, _, _, _, rfl⟩) ⟨.un, .un, .un, .un, rfl⟩
    refine ⟨t4, t7, t8, t9, ?_⟩
    unfold q4
    refine forE_e (d := .tup [.int 1, .int 2, .int 3]) ?_ rfl (fun es h => nomatch h) loop
    have l3 : 3 ≤ lim := by decide
    simp [l3]
  obtain ⟨t4, t7, t8, t9, k4⟩ := k4
  have k5 := q5_ok (s0 := .va L) (s3 := .va (.lst ((foundL (evB o b) o 4).map .str))) (s4 := t4) (s5 := .un) (s6 := .un) (s7 := t7) (s8 := t8) (s9 := t9) (s10 := .un) (s11 := .un) g ho
  have k6 := q6_ok (s0 := .va L) (s4 := t4) (s6 := .un) (s7 := t7) (s8 := t8) (s9 := t9) (s10 := .un) (s11 := .un) g ho
  have k7 := q7_ok (s0 := .va L) (s3 := .va (.lst ((foundL (evB o b) o 4).map .str))) (s4 := t4) (s6 := .un) (s7 := t7) (s8 := t8) (s9 := t9) (s10 := .un) (s11 := .un) g ho
  generalize Sl.va (.lst ((foundL (evB o b) o 4).map .str)) = s3 at *
  generalize Sl.va (.lst ((lensL (evB o b) o).map .int)) = s5 at *
  have nb := needBook_ok hb
  have no := needOrder_ok ho
  have no4 := bad2_num odd hod
  have no1 := bad1_order bad hbd
  have l5 : 5 ≤ lim := by decide
  have l4 : 4 ≤ lim := by decide
  have l3 : 3 ≤ lim := by decide
  have l2 : 2 ≤ lim := by decide
  have l1 : 1 ≤ lim := by decide
  have k8 : q8 (E20 (.va L) b o s3 t4 s5 .un t7 t8 t9 .un .un) = .ok (.nx (E20 (.va L) b o s3 t4 s5 (.va odd) t7 t8 t9 .un .un)) := set_e (by
    unfold E20
    unfold bad2 at hod2
    generalize bkD b = B at *
    simp [e1, hod2, l5])
  have k9 : q9 (E20 (.va L) b o s3 t4 s5 (.va odd) t7 t8 t9 .un .un) = .ok (.nx (E20 (.va L) b o s3 t4 s5 (.va odd) t7 t8 t9 .un .un)) := by
    have t := tolds_ex (k := 4) (γ := E20 (.va L) b o s3 t4 s5 (.va odd) t7 t8 t9 .un .un) (fb := bVar 1) (fo := bVar 2) (fn := bVar 6) (by omega) (by simp) (fun _ => rfl) (fun _ => rfl) (fun _ => rfl) (all_ex (nall4 nb no no4)) r4
    have t : bLcI (iR1 (bC (.int 4))) [10] (bdN 10) yes (bCall g__law_told (bCons (bVar 10) (bCons (bVar 1) (bCons (bVar 2) (bCons (bVar 6) bNil))))) (E20 (.va L) b o s3 t4 s5 (.va odd) t7 t8 t9 .un .un) = .ok (.lst (List.replicate 4 (refD 4))) := t
    refine if_f ?_
    have rr := refRep4 4
    have rn := refNe4 4
    generalize bLcI (iR1 (bC (.int 4))) [10] (bdN 10) yes (bCall g__law_told (bCons (bVar 10) (bCons (bVar 1) (bCons (bVar 2) (bCons (bVar 6) bNil))))) = LC at *
    generalize List.replicate 4 (refD 4) = RL at *
    rw [tVal_e, b2_e, t]
    simp [l1, l2, rr, rn]
  have k10 : q10 (E20 (.va L) b o s3 t4 s5 (.va odd) t7 t8 t9 .un .un) = .ok (.nx (E20 (.va L) b o s3 t4 s5 (.va odd) t7 t8 t9 .un .un)) := by
    have t := tolds_ex (k := 5) (γ := E20 (.va L) b o s3 t4 s5 (.va odd) t7 t8 t9 .un .un) (fb := bVar 1) (fo := b2 dIx (bLst (bCons (bC (.int 0)) (bCons (bC (.int 4)) (bCons (bC .non) bNil)))) (bCall g__law_drawn (bCons (bVar 0) (bCons (bC (.int 52)) (bCons (bC (.int 3)) bNil))))) (fn := bVar 6) (by omega) (by simp) (fun _ => rfl) (fun s => by
      unfold bad1 at hbd2
      unfold E20
      generalize bkD b = B at *
      simp [wipeG, f1, hbd2, l3]) (fun _ => rfl) (all_ex5 (nall1 nb no1) (len1 nb no1)) r1
    have t : bLcI (iR1 (bC (.int 5))) [10] (bdN 10) yes (bCall g__law_told (bCons (bVar 10) (bCons (bVar 1) (bCons (b2 dIx (bLst (bCons (bC (.int 0)) (bCons (bC (.int 4)) (bCons (bC .non) bNil)))) (bCall g__law_drawn (bCons (bVar 0) (bCons (bC (.int 52)) (bCons (bC (.int 3)) bNil))))) (bCons (bVar 6) bNil))))) (E20 (.va L) b o s3 t4 s5 (.va odd) t7 t8 t9 .un .un) = .ok (.lst (List.replicate 5 (refD 1))) := t
    refine if_f ?_
    have rr := refRep 1
    have rn := refNe 1
    generalize bLcI (iR1 (bC (.int 5))) [10] (bdN 10) yes (bCall g__law_told (bCons (bVar 10) (bCons (bVar 1) (bCons (b2 dIx (bLst (bCons (bC (.int 0)) (bCons (bC (.int 4)) (bCons (bC .non) bNil)))) (bCall g__law_drawn (bCons (bVar 0) (bCons (bC (.int 52)) (bCons (bC (.int 3)) bNil))))) (bCons (bVar 6) bNil))))) = LC at *
    generalize List.replicate 5 (refD 1) = RL at *
    rw [tVal_e, b2_e, t]
    simp [l1, l2, rr, rn]
  have k11 : q11 (E20 (.va L) b o s3 t4 s5 (.va odd) t7 t8 t9 .un .un) = .ok (.rt (.bl true)) := by
    have nb0 : g_need_book [.lst (b.map D.str)] = .ex 0 := needBook_bad (isBookG (d := .lst (b.map D.str)) (fun xs h => nomatch h))
    have t := tolds_ex (k := 5) (γ := E20 (.va L) b o s3 t4 s5 (.va odd) t7 t8 t9 .un .un) (fb := bN dList (bCons (bVar 1) bNil)) (fo := bC (.int 0)) (fn := bVar 6) (b := .lst (b.map D.str)) (by omega) (by simp) (fun _ => rfl) (fun _ => rfl) (fun _ => rfl) (all_ex5 (nall0 nb0) (len0 nb0)) r0
    have t : bLcI (iR1 (bC (.int 5))) [10] (bdN 10) yes (bCall g__law_told (bCons (bVar 10) (bCons (bN dList (bCons (bVar 1) bNil)) (bCons (bC (.int 0)) (bCons (bVar 6) bNil))))) (E20 (.va L) b o s3 t4 s5 (.va odd) t7 t8 t9 .un .un) = .ok (.lst (List.replicate 5 (refD 0))) := t
    refine ret_e ?_
    have rr := refRep 0
    have rn := refEq 0
    generalize bLcI (iR1 (bC (.int 5))) [10] (bdN 10) yes (bCall g__law_told (bCons (bVar 10) (bCons (bN dList (bCons (bVar 1) bNil)) (bCons (bC (.int 0)) (bCons (bVar 6) bNil))))) = LC at *
    generalize List.replicate 5 (refD 0) = RL at *
    rw [b2_e, t]
    simp [l1, l2, rr, rn]
  unfold g_law_k20
  refine fn_rt ?_
  rw [m_law_k20_e]
  unfold q
  rw [show [D.lst (ns.map D.int)].map Sl.va ++ List.replicate (12 - [D.lst (ns.map D.int)].length) Sl.un = [.va (Lk ns), .un, .un, .un, .un, .un, .un, .un, .un, .un, .un, .un] from rfl, hL]
  rw [seq_nx k1, seq_nx k2, seq_nx k3, seq_nx k4, seq_nx k5, seq_nx k6, seq_nx k7, seq_nx k8, seq_nx k9, seq_nx k10, k11]
end
end KN
open PySem PySem.W PyProof.Rows
set_option maxHeartbeats 0 in
theorem PySem.Challenge.cw_kinnames_k20_lengths_holds : PySem.Challenge.rw_kinnames_k20_lengths.Holds := by
  w_on; o_law; k_head; (case hw => w_witness2)
  k_fill
  refine L2.walk_of (l := PySem.Challenge.rw_kinnames_k20_lengths) (n := 63) (k := 8) (x := "_law_script") (CX := fun w => L2.CX PySem.Challenge.rw_kinnames_k20_lengths.prog w) (sp := fun w => KN.spOk _ 1 KN.g_law_k20) rfl (by decide) rfl ⟨rfl, by decide, by decide⟩ (fun w h Y => PySem.W.kIn_of Y) ?F (fun _ _ a ns hl _ hS => KN.law_endX KN.law_true_k20 hl hS) (fun w H s e s' h => KN.cx_end h)
  case F =>
    intro w mg fa h KX G hmg
    refine' KN.all_mk KX G hmg ?a0 ?l0 ?c0 ?k0 ?a1 ?l1 ?c1 ?k1 ?a2 ?l2 ?c2 ?k2 ?a3 ?l3 ?c3 ?k3 ?a4 ?l4 ?c4 ?k4 ?a5 ?l5 ?c5 ?k5 ?a6 ?l6 ?c6 ?k6 ?a7 ?l7 ?c7 ?k7 ?a8 ?l8 ?c8 ?k8 ?a9 ?l9 ?c9 ?k9 ?a10 ?l10 ?c10 ?k10 ?a11 ?l11 ?c11 ?k11 ?a12 ?l12 ?c12 ?k12 ?a13 ?l13 ?c13 ?k13 ?a14 ?l14 ?c14 ?k14 ?a15 ?l15 ?c15 ?k15 ?a16 ?l16 ?c16 ?k16 ?a17 ?l17 ?c17 ?k17 ?a18 ?l18 ?c18 ?k18 ?a19 ?l19 ?c19 ?k19 ?a20 ?l20 ?c20 ?k20 ?a21 ?l21 ?c21 ?k21 ?a22 ?l22 ?c22 ?k22 ?a23 ?l23 ?c23 ?k23 ?a24 ?l24 ?c24 ?k24 ?a25 ?l25 ?c25 ?k25 ?a26 ?l26 ?c26 ?k26 ?a27 ?l27 ?c27 ?k27 ?a28 ?l28 ?c28 ?k28 ?a29 ?l29 ?c29 ?k29 ?a30 ?l30 ?c30 ?k30 ?a31 ?l31 ?c31 ?k31 ?a32 ?l32 ?c32 ?k32 ?z_ValueError ?z_all ?z_bool ?z_int ?z_isinstance ?z_len ?z_list ?z_max ?z_min ?z_range ?z_set ?z_sorted ?z_str ?z_sum ?z_tuple ?g_LETTERS ?g_MOST_LETTERS ?g_MOST_NAMES ?g_MOST_ORDER ?g_MOST ?EL ?E0 ?E1 ?E2 ?E3 ?E4 ?E5 ?E6 ?E7 ?ES
    case a0 => k_is
    case l0 => k_is
    case c0 => k_is
    case k0 => k_is
    case a1 => k_is
    case l1 => k_is
    case c1 => k_is
    case k1 => k_is
    case a2 => k_is
    case l2 => k_is
    case c2 => k_is
    case k2 => k_is
    case a3 => k_is
    case l3 => k_is
    case c3 => k_is
    case k3 => k_is
    case a4 => k_is
    case l4 => k_is
    case c4 => k_is
    case k4 => k_is
    case a5 => k_is
    case l5 => k_is
    case c5 => k_is
    case k5 => k_is
    case a6 => k_is
    case l6 => k_is
    case c6 => k_is
    case k6 => k_is
    case a7 => k_is
    case l7 => k_is
    case c7 => k_is
    case k7 => k_is
    case a8 => k_is
    case l8 => k_is
    case c8 => k_is
    case k8 => k_is
    case a9 => k_is
    case l9 => k_is
    case c9 => k_is
    case k9 => k_is
    case a10 => k_is
    case l10 => k_is
    case c10 => k_is
    case k10 => k_is
    case a11 => k_is
    case l11 => k_is
    case c11 => k_is
    case k11 => k_is
    case a12 => k_is
    case l12 => k_is
    case c12 => k_is
    case k12 => k_is
    case a13 => k_is
    case l13 => k_is
    case c13 => k_is
    case k13 => k_is
    case a14 => k_is
    case l14 => k_is
    case c14 => k_is
    case k14 => k_is
    case a15 => k_is
    case l15 => k_is
    case c15 => k_is
    case k15 => k_is
    case a16 => k_is
    case l16 => k_is
    case c16 => k_is
    case k16 => k_is
    case a17 => k_is
    case l17 => k_is
    case c17 => k_is
    case k17 => k_is
    case a18 => k_is
    case l18 => k_is
    case c18 => k_is
    case k18 => k_is
    case a19 => k_is
    case l19 => k_is
    case c19 => k_is
    case k19 => k_is
    case a20 => k_is
    case l20 => k_is
    case c20 => k_is
    case k20 => k_is
    case a21 => k_is
    case l21 => k_is
    case c21 => k_is
    case k21 => k_is
    case a22 => k_is
    case l22 => k_is
    case c22 => k_is
    case k22 => k_is
    case a23 => k_is
    case l23 => k_is
    case c23 => k_is
    case k23 => k_is
    case a24 => k_is
    case l24 => k_is
    case c24 => k_is
    case k24 => k_is
    case a25 => k_is
    case l25 => k_is
    case c25 => k_is
    case k25 => k_is
    case a26 => k_is
    case l26 => k_is
    case c26 => k_is
    case k26 => k_is
    case a27 => k_is
    case l27 => k_is
    case c27 => k_is
    case k27 => k_is
    case a28 => k_is
    case l28 => k_is
    case c28 => k_is
    case k28 => k_is
    case a29 => k_is
    case l29 => k_is
    case c29 => k_is
    case k29 => k_is
    case a30 => k_is
    case l30 => k_is
    case c30 => k_is
    case k30 => k_is
    case a31 => k_is
    case l31 => k_is
    case c31 => k_is
    case k31 => k_is
    case a32 => k_is
    case l32 => k_is
    case c32 => k_is
    case k32 => k_is
    case z_ValueError => k_is
    case z_all => k_is
    case z_bool => k_is
    case z_int => k_is
    case z_isinstance => k_is
    case z_len => k_is
    case z_list => k_is
    case z_max => k_is
    case z_min => k_is
    case z_range => k_is
    case z_set => k_is
    case z_sorted => k_is
    case z_str => k_is
    case z_sum => k_is
    case z_tuple => k_is
    case g_LETTERS => k_is
    case g_MOST_LETTERS => k_is
    case g_MOST_NAMES => k_is
    case g_MOST_ORDER => k_is
    case g_MOST => k_is
    case EL => (refine' KN.ErrL.mk ?nn ?bb ?tt ?dd; (case nn => k_is); (case bb => k_is); (case tt => k_is); (case dd => k_is))
    case E0 => (refine' KN.ErrOne.mk ?y0 ?y1 ?y2 ?y3 ?y4 ?y5 ?y6 ?y7 ?y8 ?y9 ?y10 ?y11 ?y12 ?y13; (case y0 => k_is); (case y1 => k_exc); (case y2 => k_is); (case y3 => k_is); (case y4 => k_is); (case y5 => k_is); (case y6 => k_is); (case y7 => k_is); (case y8 => k_is); (case y9 => k_is); (case y10 => k_is); (case y11 => k_is); (case y12 => k_is); (case y13 => k_is))
    case E1 => (refine' KN.ErrOne.mk ?y0 ?y1 ?y2 ?y3 ?y4 ?y5 ?y6 ?y7 ?y8 ?y9 ?y10 ?y11 ?y12 ?y13; (case y0 => k_is); (case y1 => k_exc); (case y2 => k_is); (case y3 => k_is); (case y4 => k_is); (case y5 => k_is); (case y6 => k_is); (case y7 => k_is); (case y8 => k_is); (case y9 => k_is); (case y10 => k_is); (case y11 => k_is); (case y12 => k_is); (case y13 => k_is))
    case E2 => (refine' KN.ErrOne.mk ?y0 ?y1 ?y2 ?y3 ?y4 ?y5 ?y6 ?y7 ?y8 ?y9 ?y10 ?y11 ?y12 ?y13; (case y0 => k_is); (case y1 => k_exc); (case y2 => k_is); (case y3 => k_is); (case y4 => k_is); (case y5 => k_is); (case y6 => k_is); (case y7 => k_is); (case y8 => k_is); (case y9 => k_is); (case y10 => k_is); (case y11 => k_is); (case y12 => k_is); (case y13 => k_is))
    case E3 => (refine' KN.ErrOne.mk ?y0 ?y1 ?y2 ?y3 ?y4 ?y5 ?y6 ?y7 ?y8 ?y9 ?y10 ?y11 ?y12 ?y13; (case y0 => k_is); (case y1 => k_exc); (case y2 => k_is); (case y3 => k_is); (case y4 => k_is); (case y5 => k_is); (case y6 => k_is); (case y7 => k_is); (case y8 => k_is); (case y9 => k_is); (case y10 => k_is); (case y11 => k_is); (case y12 => k_is); (case y13 => k_is))
    case E4 => (refine' KN.ErrOne.mk ?y0 ?y1 ?y2 ?y3 ?y4 ?y5 ?y6 ?y7 ?y8 ?y9 ?y10 ?y11 ?y12 ?y13; (case y0 => k_is); (case y1 => k_exc); (case y2 => k_is); (case y3 => k_is); (case y4 => k_is); (case y5 => k_is); (case y6 => k_is); (case y7 => k_is); (case y8 => k_is); (case y9 => k_is); (case y10 => k_is); (case y11 => k_is); (case y12 => k_is); (case y13 => k_is))
    case E5 => (refine' KN.ErrOne.mk ?y0 ?y1 ?y2 ?y3 ?y4 ?y5 ?y6 ?y7 ?y8 ?y9 ?y10 ?y11 ?y12 ?y13; (case y0 => k_is); (case y1 => k_exc); (case y2 => k_is); (case y3 => k_is); (case y4 => k_is); (case y5 => k_is); (case y6 => k_is); (case y7 => k_is); (case y8 => k_is); (case y9 => k_is); (case y10 => k_is); (case y11 => k_is); (case y12 => k_is); (case y13 => k_is))
    case E6 => (refine' KN.ErrOne.mk ?y0 ?y1 ?y2 ?y3 ?y4 ?y5 ?y6 ?y7 ?y8 ?y9 ?y10 ?y11 ?y12 ?y13; (case y0 => k_is); (case y1 => k_exc); (case y2 => k_is); (case y3 => k_is); (case y4 => k_is); (case y5 => k_is); (case y6 => k_is); (case y7 => k_is); (case y8 => k_is); (case y9 => k_is); (case y10 => k_is); (case y11 => k_is); (case y12 => k_is); (case y13 => k_is))
    case E7 => (refine' KN.ErrOne.mk ?y0 ?y1 ?y2 ?y3 ?y4 ?y5 ?y6 ?y7 ?y8 ?y9 ?y10 ?y11 ?y12 ?y13; (case y0 => k_is); (case y1 => k_exc); (case y2 => k_is); (case y3 => k_is); (case y4 => k_is); (case y5 => k_is); (case y6 => k_is); (case y7 => k_is); (case y8 => k_is); (case y9 => k_is); (case y10 => k_is); (case y11 => k_is); (case y12 => k_is); (case y13 => k_is))
    case ES => (refine' KN.ErrSub.mk ?y0 ?y1 ?y2 ?y3 ?y4 ?y5 ?y6 ?y7 ?y8 ?y9 ?y10 ?y11 ?y12 ?y13 ?y14 ?y15 ?y16 ?y17 ?y18 ?y19 ?y20 ?y21 ?y22 ?y23 ?y24 ?y25 ?y26 ?y27 ?y28 ?y29 ?y30 ?y31 ?y32 ?y33 ?y34 ?y35 ?y36 ?y37 ?y38 ?y39 ?y40 ?y41 ?y42 ?y43 ?y44 ?y45 ?y46 ?y47 ?y48 ?y49 ?y50 ?y51 ?y52 ?y53 ?y54 ?y55 ?y56 ?y57 ?y58 ?y59 ?y60 ?y61 ?y62 ?y63; (case y0 => k_is); (case y1 => k_is); (case y2 => k_is); (case y3 => k_is); (case y4 => k_is); (case y5 => k_is); (case y6 => k_is); (case y7 => k_is); (case y8 => k_is); (case y9 => k_is); (case y10 => k_is); (case y11 => k_is); (case y12 => k_is); (case y13 => k_is); (case y14 => k_is); (case y15 => k_is); (case y16 => k_is); (case y17 => k_is); (case y18 => k_is); (case y19 => k_is); (case y20 => k_is); (case y21 => k_is); (case y22 => k_is); (case y23 => k_is); (case y24 => k_is); (case y25 => k_is); (case y26 => k_is); (case y27 => k_is); (case y28 => k_is); (case y29 => k_is); (case y30 => k_is); (case y31 => k_is); (case y32 => k_is); (case y33 => k_is); (case y34 => k_is); (case y35 => k_is); (case y36 => k_is); (case y37 => k_is); (case y38 => k_is); (case y39 => k_is); (case y40 => k_is); (case y41 => k_is); (case y42 => k_is); (case y43 => k_is); (case y44 => k_is); (case y45 => k_is); (case y46 => k_is); (case y47 => k_is); (case y48 => k_is); (case y49 => k_is); (case y50 => k_is); (case y51 => k_is); (case y52 => k_is); (case y53 => k_is); (case y54 => k_is); (case y55 => k_is); (case y56 => k_is); (case y57 => k_is); (case y58 => k_is); (case y59 => k_is); (case y60 => k_is); (case y61 => k_is); (case y62 => k_is); (case y63 => k_is))
