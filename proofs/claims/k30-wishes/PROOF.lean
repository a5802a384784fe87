import PyProof.Rows.All
import Wide.All
import OpenK.AllK
import Wide.FinOn
import HandS.ForMost
import HandS.ForExc
import HandS.CallSlots
import HandS.Wide
import HandS.More
import HandS.TupAny
import HandS.TupMul
import HandS.Deep
import HandS.Style
import HandS.IsInst
import HandS.SortInts
import PyProof.Rows.SortShellAny
import KE.KSortTupG
import HandS.SetFor
import HandS.TryOnly
import HandS.HotCalls
import HandS.ExcIs
import HandS.ListItems
import KE.SortData
import HandS.Conv
import HandS.StrMore
import HandS.Codes
import HandS.Zip
import HandS.TryMany
import HandS.Text
import PySem.Challenge.RW_kinnames_k30_wishes
set_option Elab.async false
set_option linter.all false
set_option maxRecDepth 100000
set_option maxHeartbeats 4000000
/-! KnA: pure data, their standing in a heap, judgements -/
namespace KN
open PySem PySem.Spec PyProof.Rows L2
/-! ### pure data -/
abbrev Tx := List Nat
inductive D where
  | non | bl (b : Bool) | int (i : Int) | str (s : Tx)
  | lst (xs : List D) | tup (xs : List D) | dic (es : List (Tx × D))
abbrev toS (s : Tx) : Str := ⟨s.toArray⟩
inductive R (α : Type) where
  | ok (a : α) | ex (c : Nat) | no
namespace R
@[simp] def bind {α β : Type} : R α → (α → R β) → R β
  | ok a, f => f a
  | ex c, _ => ex c
  | no, _ => no
@[simp] def noex {α : Type} : R α → R α
  | ok a => ok a
  | _ => no
end R
inductive Sl where
  | un | va (d : D) | ow (d : D) | nd (es : List (Tx × List (Tx × D))) | xc (a : Addr)
abbrev Ga := List Sl
/-! ### data in a heap -/
mutual
inductive Rep (K : PySem.W.Frag) (F : Hp) : D → V → Prop
  | non : Rep K F .non .non
  | bl (b : Bool) : Rep K F (.bl b) (.bl b)
  | int (i : Int) : Rep K F (.int i) (.int i)
  | str (s : Tx) : Rep K F (.str s) (.str (toS s))
  | lst {a : Addr} {ds : List D} {vs : List V} : SqL K F a vs → Reps K F ds vs → Rep K F (.lst ds) (.ref a)
  | tup {a : Addr} {ds : List D} {vs : List V} : SqT K F a vs → Reps K F ds vs → Rep K F (.tup ds) (.ref a)
  | dic {a : Addr} {es : List (Tx × D)} {kvs : List (Key × V)} : F a = some (.dK kvs) → RepK K F es kvs → Rep K F (.dic es) (.ref a)
inductive Reps (K : PySem.W.Frag) (F : Hp) : List D → List V → Prop
  | nil : Reps K F [] []
  | cons {d : D} {ds : List D} {v : V} {vs : List V} : Rep K F d v → Reps K F ds vs → Reps K F (d :: ds) (v :: vs)
inductive RepK (K : PySem.W.Frag) (F : Hp) : List (Tx × D) → List (Key × V) → Prop
  | nil : RepK K F [] []
  | cons {k : Tx} {d : D} {es : List (Tx × D)} {v : V} {kvs : List (Key × V)} : Rep K F d v → RepK K F es kvs → RepK K F ((k, d) :: es) ((Sum.inr (toS k), v) :: kvs)
end
theorem same_sqt {K : PySem.W.Frag} {F F' : Hp} {a : Addr} {xs : List V} (e : Same F F') (h : SqT K F a xs) : SqT K F' a xs := by
  rcases h with (h | ⟨o, h⟩) | h
  · exact .inl (.inl (e _ _ h))
  · exact .inl (.inr ⟨o, e _ _ h⟩)
  · exact .inr h
section
variable {K : PySem.W.Frag} {F F' : Hp}
theorem Rep.mono (e : Same F F') {d : D} {v : V} (h : Rep K F d v) : Rep K F' d v :=
  Rep.rec (motive_1 := fun d v _ => Rep K F' d v) (motive_2 := fun ds vs _ => Reps K F' ds vs) (motive_3 := fun es kvs _ => RepK K F' es kvs)
    .non .bl .int .str (fun h1 _ i => .lst (e.seq h1) i) (fun h1 _ i => .tup (same_sqt e h1) i) (fun h1 _ i => .dic (e _ _ h1) i)
    .nil (fun _ _ i j => .cons i j) .nil (fun _ _ i j => .cons i j) h
theorem Reps.mono (e : Same F F') {ds : List D} {vs : List V} (h : Reps K F ds vs) : Reps K F' ds vs :=
  Reps.rec (motive_1 := fun d v _ => Rep K F' d v) (motive_2 := fun ds vs _ => Reps K F' ds vs) (motive_3 := fun es kvs _ => RepK K F' es kvs)
    .non .bl .int .str (fun h1 _ i => .lst (e.seq h1) i) (fun h1 _ i => .tup (same_sqt e h1) i) (fun h1 _ i => .dic (e _ _ h1) i)
    .nil (fun _ _ i j => .cons i j) .nil (fun _ _ i j => .cons i j) h
theorem RepK.mono (e : Same F F') {es : List (Tx × D)} {kvs : List (Key × V)} (h : RepK K F es kvs) : RepK K F' es kvs :=
  RepK.rec (motive_1 := fun d v _ => Rep K F' d v) (motive_2 := fun ds vs _ => Reps K F' ds vs) (motive_3 := fun es kvs _ => RepK K F' es kvs)
    .non .bl .int .str (fun h1 _ i => .lst (e.seq h1) i) (fun h1 _ i => .tup (same_sqt e h1) i) (fun h1 _ i => .dic (e _ _ h1) i)
    .nil (fun _ _ i j => .cons i j) .nil (fun _ _ i j => .cons i j) h
theorem Reps.length {ds : List D} {vs : List V} (h : Reps K F ds vs) : ds.length = vs.length := by
  induction ds generalizing vs with
  | nil => cases h; rfl
  | cons d ds ih => cases h with | cons h1 h2 => simp [ih h2]
theorem Reps.get {ds : List D} {vs : List V} (h : Reps K F ds vs) {i : Nat} {d : D} (e : ds[i]? = some d) : ∃ v, vs[i]? = some v ∧ Rep K F d v := by
  induction ds generalizing vs i with
  | nil => simp at e
  | cons d' ds ih =>
    cases h with
    | cons h1 h2 =>
      cases i with
      | zero => simp at e; subst e; exact ⟨_, rfl, h1⟩
      | succ i => simp at e; simpa using ih h2 e
theorem Reps.append {ds es : List D} {vs us : List V} (h : Reps K F ds vs) (h' : Reps K F es us) : Reps K F (ds ++ es) (vs ++ us) := by
  induction ds generalizing vs with
  | nil => cases h; exact h'
  | cons d ds ih => cases h with | cons h1 h2 => exact .cons h1 (ih h2)
theorem Reps.take {ds : List D} {vs : List V} (h : Reps K F ds vs) (n : Nat) : Reps K F (ds.take n) (vs.take n) := by
  induction ds generalizing vs n with
  | nil => cases h; simp; exact .nil
  | cons d ds ih =>
    cases h with
    | cons h1 h2 =>
      cases n with
      | zero => exact .nil
      | succ n => exact .cons h1 (ih h2 n)
theorem Reps.drop {ds : List D} {vs : List V} (h : Reps K F ds vs) (n : Nat) : Reps K F (ds.drop n) (vs.drop n) := by
  induction ds generalizing vs n with
  | nil => cases h; simp; exact .nil
  | cons d ds ih =>
    cases h with
    | cons h1 h2 =>
      cases n with
      | zero => exact .cons h1 h2
      | succ n => exact ih h2 n
theorem Reps.set {ds : List D} {vs : List V} (h : Reps K F ds vs) {d : D} {v : V} (r : Rep K F d v) (n : Nat) : Reps K F (ds.set n d) (vs.set n v) := by
  induction ds generalizing vs n with
  | nil => cases h; exact .nil
  | cons d' ds ih =>
    cases h with
    | cons h1 h2 =>
      cases n with
      | zero => exact .cons r h2
      | succ n => exact .cons h1 (ih h2 n)
theorem RepK.length {es : List (Tx × D)} {kvs : List (Key × V)} (h : RepK K F es kvs) : es.length = kvs.length := by
  induction es generalizing kvs with
  | nil => cases h; rfl
  | cons d ds ih => cases h with | cons h1 h2 => simp [ih h2]
end
/-- the frozen part of a heap; a dict of it may be locked -/
def Emb (F H : Hp) : Prop := ∀ a o, F a = some o → H a = some o ∨ ∃ ob kvs, o = .dK kvs ∧ H a = some (.frz ob (.dK kvs))
theorem Emb.sql {K : PySem.W.Frag} {F H : Hp} {a : Addr} {xs : List V} (e : Emb F H) (h : SqL K F a xs) : SqL K H a xs := by
  rcases h with (h | ⟨o, h⟩) | h
  · rcases e _ _ h with h | ⟨_, _, z, _⟩
    · exact .inl (.inl h)
    · cases z
  · rcases e _ _ h with h | ⟨_, _, z, _⟩
    · exact .inl (.inr ⟨o, h⟩)
    · cases z
  · exact .inr h
theorem Emb.sqt {K : PySem.W.Frag} {F H : Hp} {a : Addr} {xs : List V} (e : Emb F H) (h : SqT K F a xs) : SqT K H a xs := by
  rcases h with (h | ⟨o, h⟩) | h
  · rcases e _ _ h with h | ⟨_, _, z, _⟩
    · exact .inl (.inl h)
    · cases z
  · rcases e _ _ h with h | ⟨_, _, z, _⟩
    · exact .inl (.inr ⟨o, h⟩)
    · cases z
  · exact .inr h
theorem Emb.dk {F H : Hp} {a : Addr} {kvs : List (Key × V)} (e : Emb F H) (h : F a = some (.dK kvs)) : Rd H a (.dK kvs) := by
  rcases e _ _ h with h | ⟨ob, kvs', z, h⟩
  · exact .inl h
  · cases z; exact .inr ⟨ob, h⟩
theorem Emb.free {F H : Hp} {a : Addr} (e : Emb F H) (h : H a = none) : F a = none := by
  cases q : F a with
  | none => rfl
  | some o =>
    rcases e _ _ q with z | ⟨_, _, _, z⟩ <;> rw [h] at z <;> cases z
theorem Emb.none : Emb (fun _ => none) H := fun _ _ h => nomatch h
/-- F' and H' stand behind F and H: nothing known has changed -/
structure Nxt (F H F' H' : Hp) : Prop where
  f : Same F F'
  fn : ∀ a o, F' a = some o → F a = some o ∨ H a = none
  emb : Emb F' H'
  h : Same H H'
theorem Nxt.refl {F H : Hp} (e : Emb F H) : Nxt F H F H := ⟨.refl _, fun _ _ h => .inl h, e, .refl _⟩
theorem Nxt.trans {F H F1 H1 F2 H2 : Hp} (a : Nxt F H F1 H1) (b : Nxt F1 H1 F2 H2) : Nxt F H F2 H2 :=
  ⟨a.f.trans b.f, fun c o h => by
    rcases b.fn c o h with z | z
    · exact a.fn c o z
    · exact .inr (a.h.free z), b.emb, a.h.trans b.h⟩
theorem Nxt.new {F H : Hp} {p : Addr} (e : Emb F H) (hp : H p = none) (o : HO) : Nxt F H (upd F p o) (upd H p o) := by
  have fp : F p = none := e.free hp
  refine ⟨fun b u h => ?_, fun a u h => ?_, fun a u h => ?_, fun b u h => ?_⟩
  · rw [upd_ne (ne_of_none h fp)]; exact h
  · by_cases q : a = p
    · subst q; exact .inr hp
    · rw [upd_ne q] at h; exact .inl h
  · by_cases q : a = p
    · subst q; rw [upd_same] at h ⊢; exact .inl h
    · rw [upd_ne q] at h; rw [upd_ne q]; exact e a u h
  · rw [upd_ne (ne_of_none h hp)]; exact h
/-- a new thing that isn't frozen yet -/
theorem Nxt.laid {F H : Hp} {p : Addr} (e : Emb F H) (hp : H p = none) (o : HO) : Nxt F H F (upd H p o) := by
  have fp : F p = none := e.free hp
  refine ⟨.refl _, fun _ _ h => .inl h, fun a u h => ?_, fun b u h => ?_⟩
  · have q : a ≠ p := ne_of_none h fp
    rw [upd_ne q]; exact e a u h
  · rw [upd_ne (ne_of_none h hp)]; exact h
/-- a laid thing is frozen -/
theorem Emb.freeze {F H : Hp} {p : Addr} {o : HO} (e : Emb F H) (hp : H p = some o) : Emb (upd F p o) H := fun a u h => by
  by_cases q : a = p
  · subst q; rw [upd_same] at h; cases h; exact .inl hp
  · rw [upd_ne q] at h; exact e a u h
theorem same_upd {F : Hp} {p : Addr} {o : HO} (h : F p = none) : Same F (upd F p o) := fun b u e => by
  rw [upd_ne (ne_of_none e h)]; exact e
/-- a list or dict that may still change, at a -/
def Own (K : PySem.W.Frag) (F H : Hp) : D → Addr → Prop
  | .lst ds, a => ∃ vs, H a = some (.lst vs) ∧ Reps K F ds vs
  | .dic es, a => ∃ kvs, H a = some (.dK kvs) ∧ RepK K F es kvs
  | _, _ => False
theorem Own.next {K : PySem.W.Frag} {F H F' H' : Hp} {d : D} {a : Addr} (o : Own K F H d a) (f : Same F F') (h : ∀ u, H a = some u → H' a = some u) : Own K F' H' d a := by
  cases d <;> simp only [Own] at o ⊢
  · obtain ⟨vs, e, r⟩ := o; exact ⟨vs, h _ e, r.mono f⟩
  · obtain ⟨vs, e, r⟩ := o; exact ⟨vs, h _ e, r.mono f⟩
theorem Own.have {K : PySem.W.Frag} {F H : Hp} {d : D} {a : Addr} (o : Own K F H d a) : ∃ u, H a = some u := by
  cases d <;> simp only [Own] at o
  · obtain ⟨vs, e, r⟩ := o; exact ⟨_, e⟩
  · obtain ⟨vs, e, r⟩ := o; exact ⟨_, e⟩
/-- frozen: F' with the thing itself -/
theorem Own.freeze {K : PySem.W.Frag} {F H : Hp} {d : D} {a : Addr} (o : Own K F H d a) (e : Emb F H) (fa : F a = none) :
    ∃ u, H a = some u ∧ Emb (upd F a u) H ∧ Same F (upd F a u) ∧ Rep K (upd F a u) d (.ref a) := by
  cases d <;> simp only [Own] at o
  · obtain ⟨vs, h, r⟩ := o
    exact ⟨_, h, e.freeze h, same_upd fa, .lst (.inl (.inl upd_same)) (r.mono (same_upd fa))⟩
  · obtain ⟨kvs, h, r⟩ := o
    exact ⟨_, h, e.freeze h, same_upd fa, .dic upd_same (r.mono (same_upd fa))⟩
/-- read: frozen, or one's own -/
def Rep1 (K : PySem.W.Frag) (F H : Hp) (d : D) (v : V) : Prop := Rep K F d v ∨ ∃ a, v = .ref a ∧ Own K F H d a
theorem Rep1.next {K : PySem.W.Frag} {F H F' H' : Hp} {d : D} {v : V} (r : Rep1 K F H d v) (n : Nxt F H F' H') : Rep1 K F' H' d v := by
  rcases r with r | ⟨a, e, o⟩
  · exact .inl (r.mono n.f)
  · exact .inr ⟨a, e, o.next n.f (fun u z => n.h _ _ z)⟩
section
variable {K : PySem.W.Frag} {F H : Hp} {v : V}
theorem Rep1.lst (e : Emb F H) {ds : List D} (r : Rep1 K F H (.lst ds) v) : ∃ a vs, v = .ref a ∧ SqL K H a vs ∧ Reps K F ds vs := by
  rcases r with r | ⟨a, rfl, vs, h, r⟩
  · cases r with | lst h1 h2 => exact ⟨_, _, rfl, e.sql h1, h2⟩
  · exact ⟨a, vs, rfl, .inl (.inl h), r⟩
theorem Rep1.tup (e : Emb F H) {ds : List D} (r : Rep1 K F H (.tup ds) v) : ∃ a vs, v = .ref a ∧ SqT K H a vs ∧ Reps K F ds vs := by
  rcases r with r | ⟨a, rfl, o⟩
  · cases r with | tup h1 h2 => exact ⟨_, _, rfl, e.sqt h1, h2⟩
  · exact o.elim
theorem Rep1.dic (e : Emb F H) {es : List (Tx × D)} (r : Rep1 K F H (.dic es) v) : ∃ a kvs, v = .ref a ∧ Rd H a (.dK kvs) ∧ RepK K F es kvs := by
  rcases r with r | ⟨a, rfl, kvs, h, r⟩
  · cases r with | dic h1 h2 => exact ⟨_, _, rfl, e.dk h1, h2⟩
  · exact ⟨a, kvs, rfl, .inl h, r⟩
theorem Rep1.int {i : Int} (r : Rep1 K F H (.int i) v) : v = .int i := by
  rcases r with r | ⟨a, rfl, o⟩
  · cases r; rfl
  · exact o.elim
theorem Rep1.str {s : Tx} (r : Rep1 K F H (.str s) v) : v = .str (toS s) := by
  rcases r with r | ⟨a, rfl, o⟩
  · cases r; rfl
  · exact o.elim
theorem Rep1.bl {b : Bool} (r : Rep1 K F H (.bl b) v) : v = .bl b := by
  rcases r with r | ⟨a, rfl, o⟩
  · cases r; rfl
  · exact o.elim
theorem Rep1.non (r : Rep1 K F H .non v) : v = .non := by
  rcases r with r | ⟨a, rfl, o⟩
  · cases r; rfl
  · exact o.elim
end
/-! ### a frame -/
/-- the rows of a dict of dicts, all of one's own -/
def OwK (K : PySem.W.Frag) (F H : Hp) (a : Addr) : List (Tx × List (Tx × D)) → List (Key × V) → Prop
  | [], [] => True
  | (k, row) :: es, (k', v) :: kvs => k' = Sum.inr (toS k) ∧ (∃ r kv, v = .ref r ∧ r ≠ a ∧ F r = none ∧ H r = some (.dK kv) ∧ RepK K F row kv ∧ ∀ p ∈ kvs, p.1 ≠ k' ∧ p.2 ≠ .ref r) ∧ OwK K F H a es kvs
  | _, _ => False
theorem OwK.next {K : PySem.W.Frag} {F H F' H' : Hp} {a : Addr} : ∀ {es : List (Tx × List (Tx × D))} {kvs : List (Key × V)}, OwK K F H a es kvs → Same F F' →
    (∀ k b u, (k, V.ref b) ∈ kvs → F b = none → H b = some u → H' b = some u ∧ F' b = none) → OwK K F' H' a es kvs
  | [], [], _, _, _ => trivial
  | (k, row) :: es, (k', v) :: kvs, ⟨e, ⟨r, kv, e1, e2, e3, e4, e5, e6⟩, o⟩, f, h => by
    subst e1
    obtain ⟨h1, h2⟩ := h k' r _ List.mem_cons_self e3 e4
    exact ⟨e, ⟨r, kv, rfl, e2, h2, h1, e5.mono f, e6⟩, o.next f fun k b u m => h k b u (List.mem_cons_of_mem _ m)⟩
  | [], _ :: _, h, _, _ => h.elim
  | _ :: _, [], h, _, _ => h.elim
theorem OwK.row {K : PySem.W.Frag} {F H : Hp} {a : Addr} : ∀ {es : List (Tx × List (Tx × D))} {kvs : List (Key × V)}, OwK K F H a es kvs → ∀ {k : Key} {v : V}, (k, v) ∈ kvs → ∃ r kv, v = .ref r ∧ r ≠ a ∧ F r = none ∧ H r = some (.dK kv)
  | [], [], _, _, _, m => nomatch m
  | (k, row) :: es, (k', v) :: kvs, ⟨e, ⟨r, kv, e1, e2, e3, e4, e5, e6⟩, o⟩, _, _, m => by
    rcases List.mem_cons.mp m with m | m
    · cases m; exact ⟨r, kv, e1, e2, e3, e4⟩
    · exact o.row m
  | [], _ :: _, h, _, _, _ => h.elim
  | _ :: _, [], h, _, _, _ => h.elim
def SlOk (K : PySem.W.Frag) (F H : Hp) (s : Sl) (x : Option (Option V)) : Prop := match s with
  | .un => True
  | .va d => ∃ v, x = some (some v) ∧ Rep K F d v
  | .ow d => ∃ a, x = some (some (.ref a)) ∧ F a = none ∧ Own K F H d a
  | .nd es => ∃ a kvs, x = some (some (.ref a)) ∧ F a = none ∧ H a = some (.dK kvs) ∧ OwK K F H a es kvs
  | .xc a => x = some (some (.ref a))
/-- b is one of what the slot owns -/
def Inn (H : Hp) (s : Sl) (x : Option (Option V)) (b : Addr) : Prop := match s with
  | .ow _ => x = some (some (.ref b))
  | .nd _ => ∃ a kvs, x = some (some (.ref a)) ∧ H a = some (.dK kvs) ∧ (b = a ∨ ∃ k, (k, V.ref b) ∈ kvs)
  | _ => False
theorem Inn.have {K : PySem.W.Frag} {F H : Hp} {s : Sl} {x : Option (Option V)} {b : Addr} (i : Inn H s x b) (k : SlOk K F H s x) : F b = none ∧ ∃ u, H b = some u := by
  cases s with
  | xc a => exact i.elim
  | un => exact i.elim
  | va d => exact i.elim
  | ow d =>
    obtain ⟨a, e1, e2, e3⟩ := k
    have i : x = some (some (.ref b)) := i
    rw [i] at e1; cases e1
    exact ⟨e2, e3.have⟩
  | nd es =>
    obtain ⟨a, kvs, e1, e2, e3, e4⟩ := k
    obtain ⟨a', kvs', i1, i2, i3⟩ := i
    rw [i1] at e1; cases e1
    rw [i2] at e3; cases e3
    rcases i3 with rfl | ⟨k, m⟩
    · exact ⟨e2, _, i2⟩
    · obtain ⟨r, kv, q1, q2, q3, q4⟩ := e4.row m
      cases q1
      exact ⟨q3, _, q4⟩
/-- what is owned keeps standing -/
theorem SlOk.keep {K : PySem.W.Frag} {F H F' H' : Hp} {s : Sl} {x : Option (Option V)} (k : SlOk K F H s x) (f : Same F F') (h : ∀ b u, Inn H s x b → F b = none → H b = some u → H' b = some u ∧ F' b = none) : SlOk K F' H' s x := by
  cases s with
  | xc a => exact k
  | un => trivial
  | va d => obtain ⟨v, e, p⟩ := k; exact ⟨v, e, p.mono f⟩
  | ow d =>
    obtain ⟨a, e1, e2, e3⟩ := k
    obtain ⟨u, hu⟩ := e3.have
    exact ⟨a, e1, (h a u e1 e2 hu).2, e3.next f fun u z => (h a u e1 e2 z).1⟩
  | nd es =>
    obtain ⟨a, kvs, e1, e2, e3, e4⟩ := k
    obtain ⟨y1, y2⟩ := h a _ ⟨a, kvs, e1, e3, .inl rfl⟩ e2 e3
    exact ⟨a, kvs, e1, y2, y1, e4.next f fun k b u m => h b u ⟨a, kvs, e1, e3, .inr ⟨k, m⟩⟩⟩
theorem Inn.back {K : PySem.W.Frag} {F H H' : Hp} {s : Sl} {x : Option (Option V)} {b : Addr} (i : Inn H' s x b) (k : SlOk K F H s x) (h : ∀ b u, Inn H s x b → H b = some u → H' b = some u) : Inn H s x b := by
  cases s with
  | xc a => exact i
  | un => exact i
  | va d => exact i
  | ow d => exact i
  | nd es =>
    obtain ⟨a, kvs, e1, e2, e3, e4⟩ := k
    obtain ⟨a', kvs', i1, i2, i3⟩ := i
    rw [i1] at e1; cases e1
    have := h _ _ ⟨_, kvs, i1, e3, .inl rfl⟩ e3
    rw [i2] at this; cases this
    exact ⟨_, _, i1, e3, i3⟩
theorem Nxt.unf {F H F' H' : Hp} (n : Nxt F H F' H') {b : Addr} {u : HO} (h1 : F b = none) (h2 : H b = some u) : F' b = none := by
  cases z : F' b with
  | none => rfl
  | some u' =>
    rcases n.fn b u' z with y | y
    · rw [h1] at y; cases y
    · rw [h2] at y; cases y
structure RS (K : PySem.W.Frag) (F : Hp) (γ : Ga) (σ : L2.St) (H : Hp) : Prop where
  emb : Emb F H
  len : γ.length = σ.length
  sl : ∀ (i : Nat) (s : Sl), γ[i]? = some s → SlOk K F H s σ[i]?
  apart : ∀ (i j : Nat) (s s' : Sl) (b : Addr), γ[i]? = some s → γ[j]? = some s' → Inn H s σ[i]? b → Inn H s' σ[j]? b → i = j
theorem RS.next {K : PySem.W.Frag} {F H F' H' : Hp} {γ : Ga} {σ : L2.St} (r : RS K F γ σ H) (n : Nxt F H F' H') : RS K F' γ σ H' :=
  ⟨n.emb, r.len, fun i s e => (r.sl i s e).keep n.f fun b u _ h1 h2 => ⟨n.h _ _ h2, n.unf h1 h2⟩, fun i j s s' b e1 e2 h1 h2 =>
    r.apart i j s s' b e1 e2 (h1.back (r.sl i s e1) fun b u _ z => n.h _ _ z) (h2.back (r.sl j s' e2) fun b u _ z => n.h _ _ z)⟩
/-! ### what is wanted of a value -/
/-- wishes about exceptions: class number, slots, heap -/
abbrev WN := Nat → L2.St → Hp → Prop
def PV (K : PySem.W.Frag) (F H : Hp) (d : D) (Q : VK) : Prop := ∀ v F' H', Nxt F H F' H' → Rep K F' d v → Q v H'
def PR (K : PySem.W.Frag) (F H : Hp) (d : D) (Q : VK) : Prop := ∀ v F' H', Nxt F H F' H' → Rep1 K F' H' d v → Q v H'
def PF (K : PySem.W.Frag) (F H : Hp) (d : D) (Q : VK) : Prop := ∀ a F' H', Nxt F H F' H' → H a = none → F' a = none → Own K F' H' d a → Q (.ref a) H'
def Out (P : D → VK → Prop) (F H : Hp) (W : Nat → Hp → Prop) (r : R D) (Q : VK) : Prop := match r with
  | .ok d => P d Q
  | .ex c => ∀ F' H', Nxt F H F' H' → W c H'
  | .no => False
def rdV (K : PySem.W.Frag) (W : WN) (f : Ga → R D) : TE := fun σ H Q => ∃ F γ, RS K F γ σ H ∧ Out (PV K F H) F H (fun c H' => W c σ H') (f γ) Q
def rdR (K : PySem.W.Frag) (W : WN) (f : Ga → R D) : TE := fun σ H Q => ∃ F γ, RS K F γ σ H ∧ Out (PR K F H) F H (fun c H' => W c σ H') (f γ) Q
def rdF (K : PySem.W.Frag) (W : WN) (f : Ga → R D) : TE := fun σ H Q => ∃ F γ, RS K F γ σ H ∧ Out (PF K F H) F H (fun c H' => W c σ H') (f γ) Q
/-- an expression: its value is frozen -/
structure J (X : Cx) (W : WN) (f : Ga → R D) (e : Expr) : Prop where
  pe : PE X e (rdV X.K W f)
/-- .. is read alone -/
structure JR (X : Cx) (W : WN) (f : Ga → R D) (e : Expr) : Prop where
  pe : PE X e (rdR X.K W f)
/-- .. is new, a list or a dict -/
structure JF (X : Cx) (W : WN) (f : Ga → R D) (e : Expr) : Prop where
  pe : PE X e (rdF X.K W f)
theorem PE.imp {X : Cx} {e : Expr} {t t' : TE} (h : PE X e t) (i : ∀ σ H Q, t' σ H Q → t σ H Q) : PE X e t' := ⟨fun pins s σ H Q I q => h.run pins s σ H Q I (i σ H Q q)⟩
section
variable {X : Cx} {W : WN} {f : Ga → R D} {e : Expr}
theorem Out.imp {P P' : D → VK → Prop} {F H : Hp} {W : Nat → Hp → Prop} {x : R D} {Q : VK} (o : Out P F H W x Q) (i : ∀ d, x = .ok d → P d Q → P' d Q) : Out P' F H W x Q := by
  cases x with
  | ok d => exact i d rfl o
  | ex c => exact o
  | no => exact o
theorem J.r (h : J X W f e) : JR X W f e := ⟨PE.imp h.pe fun σ H Q ⟨F, γ, r, o⟩ => ⟨F, γ, r, o.imp fun d _ o =>
  fun v F' H' n p => o v F' H' n (.inl p)⟩⟩
theorem JF.v (h : JF X W f e) : J X W f e := ⟨PE.imp h.pe fun σ H Q ⟨F, γ, r, o⟩ => ⟨F, γ, r, o.imp fun d _ o => by
  intro a F' H' n ha fa ow
  obtain ⟨u, hu, e1, s1, p⟩ := ow.freeze n.emb fa
  refine o _ _ H' ⟨n.f.trans s1, fun b w z => ?_, e1, n.h⟩ p
  by_cases q : b = a
  · subst q; exact .inr ha
  · rw [upd_ne q] at z; exact n.fn b w z⟩⟩
theorem JF.r (h : JF X W f e) : JR X W f e := h.v.r
end
end KN
/-! KnB: operations on pure data, and that the machine does them -/
namespace KN
open PySem PySem.Spec PyProof.Rows L2
/-- a length that any text or list may have -/
def lim : Nat := 1000000
theorem lim_line : lim ≤ sizeLine := by rw [sizeLine_eq]; decide
/-! ### plain data and == -/
def pl : Nat → D → Bool
  | _, .non => true
  | _, .bl _ => true
  | _, .int _ => true
  | _, .str s => s.all (· < 0x110000)
  | n + 1, .lst xs => xs.all (pl n)
  | n + 1, .tup xs => xs.all (pl n)
  | _, _ => false
def eqvL (f : D → D → Bool) : List D → List D → Bool
  | [], [] => true
  | x :: xs, y :: ys => f x y && eqvL f xs ys
  | _, _ => false
def eqv : Nat → D → D → Bool
  | _, .non, .non => true
  | _, .bl a, .bl b => a == b
  | _, .bl a, .int j => (if a then 1 else 0) == j
  | _, .int i, .bl b => i == (if b then 1 else 0)
  | _, .int i, .int j => i == j
  | _, .str s, .str t => s == t
  | n + 1, .lst xs, .lst ys => eqvL (eqv n) xs ys
  | n + 1, .tup xs, .tup ys => eqvL (eqv n) xs ys
  | _, _, _ => false
def toP : Nat → D → PyData
  | _, .non => .none
  | _, .bl b => .bool b
  | _, .int i => .int i
  | _, .str s => .str (toS s)
  | n + 1, .lst xs => .list (xs.map (toP n))
  | n + 1, .tup xs => .tuple (xs.map (toP n))
  | _, _ => .dict []
theorem strOk_toS (s : Tx) : PyData.strOk (toS s) = s.all (· < 0x110000) := by simp [PyData.strOk, toS]
theorem toP_lay : ∀ (n : Nat) (d : D), pl n d = true → (toP n d).canLay0 = true ∧ (toP n d).depth ≤ n
  | n, .non, _ => by cases n <;> simp [toP, PyData.canLay0, PyData.depth]
  | n, .bl _, _ => by cases n <;> simp [toP, PyData.canLay0, PyData.depth]
  | n, .int _, _ => by cases n <;> simp [toP, PyData.canLay0, PyData.depth]
  | n, .str s, h => by
    have h' : s.all (· < 0x110000) = true := by cases n <;> exact h
    cases n <;> simp only [toP, PyData.canLay0, PyData.depth, strOk_toS] <;> exact ⟨h', by omega⟩
  | 0, .lst _, h => nomatch h
  | 0, .tup _, h => nomatch h
  | n + 1, .lst xs, h => by
    have aux : ∀ xs : List D, xs.all (pl n) = true → PyData.canLayAll0 (xs.map (toP n)) = true ∧ PyData.depthAll (xs.map (toP n)) ≤ n := by
      intro xs
      induction xs with
      | nil => intro _; simp [PyData.canLayAll0, PyData.depthAll]
      | cons x xs ih =>
        intro h
        rw [List.all_cons, Bool.and_eq_true] at h
        obtain ⟨a, b⟩ := toP_lay n x h.1
        obtain ⟨c, d⟩ := ih h.2
        simp only [List.map_cons, PyData.canLayAll0, PyData.depthAll, a, c, Bool.and_self, true_and]
        omega
    obtain ⟨a, b⟩ := aux xs h
    simp only [toP, PyData.canLay0, PyData.depth]
    exact ⟨a, by omega⟩
  | n + 1, .tup xs, h => by
    have aux : ∀ xs : List D, xs.all (pl n) = true → PyData.canLayAll0 (xs.map (toP n)) = true ∧ PyData.depthAll (xs.map (toP n)) ≤ n := by
      intro xs
      induction xs with
      | nil => intro _; simp [PyData.canLayAll0, PyData.depthAll]
      | cons x xs ih =>
        intro h
        rw [List.all_cons, Bool.and_eq_true] at h
        obtain ⟨a, b⟩ := toP_lay n x h.1
        obtain ⟨c, d⟩ := ih h.2
        simp only [List.map_cons, PyData.canLayAll0, PyData.depthAll, a, c, Bool.and_self, true_and]
        omega
    obtain ⟨a, b⟩ := aux xs h
    simp only [toP, PyData.canLay0, PyData.depth]
    exact ⟨a, by omega⟩
  | n, .dic _, h => by cases n <;> exact nomatch h
theorem toP_shaped {d : D} (h : pl 20 d = true) : SeqAt.shaped (toP 20 d) = true := by
  obtain ⟨a, b⟩ := toP_lay 20 d h
  unfold SeqAt.shaped
  rw [a, decide_eq_true (by omega)]; rfl
theorem toS_inj {s t : Tx} : (toS s = toS t) ↔ s = t := by
  constructor
  · intro h
    have := congrArg (fun z : Str => z.cps.toList) h
    simpa using this
  · rintro rfl; rfl
theorem toS_beq (s t : Tx) : (toS s == toS t) = (s == t) := by
  rw [Bool.eq_iff_iff, beq_iff_eq, beq_iff_eq]; exact toS_inj
theorem eqvL_toP {n : Nat} (ih : ∀ d e, pl n d = true → pl n e = true → PyData.eqv (toP n d) (toP n e) = eqv n d e) : ∀ xs ys : List D, xs.all (pl n) = true → ys.all (pl n) = true → PyData.eqvAll (xs.map (toP n)) (ys.map (toP n)) = eqvL (eqv n) xs ys
  | [], [], _, _ => by simp [PyData.eqvAll, eqvL]
  | [], y :: ys, _, _ => by simp [PyData.eqvAll, eqvL]
  | x :: xs, [], _, _ => by simp [PyData.eqvAll, eqvL]
  | x :: xs, y :: ys, h, k => by
    rw [List.all_cons, Bool.and_eq_true] at h k
    simp only [List.map_cons, PyData.eqvAll, eqvL]
    rw [ih x y h.1 k.1, eqvL_toP ih xs ys h.2 k.2]
theorem eqv_toP : ∀ (n : Nat) (d e : D), pl n d = true → pl n e = true → PyData.eqv (toP n d) (toP n e) = eqv n d e := by
  intro n
  induction n with
  | zero =>
    intro d e h k
    cases d <;> cases e <;> first | (cases h; done) | (cases k; done) | (simp only [toP, PyData.eqv, eqv]; done) | (simp only [toP, PyData.eqv, eqv, toS_beq])
  | succ n ih =>
    intro d e h k
    cases d <;> cases e <;> first | (cases h; done) | (cases k; done) | (simp only [toP, PyData.eqv, eqv]; done) | (simp only [toP, PyData.eqv, eqv, toS_beq]; done) | (simp only [toP, PyData.eqv, eqv]; exact eqvL_toP ih _ _ h k)
/-- what is read is data for the library's == -/
theorem dp_of {K : PySem.W.Frag} {F H : Hp} (em : Emb F H) : ∀ (n : Nat) (d : D) (v : V), pl n d = true → Rep K F d v → Dp K H v (toP n d) := by
  intro n
  induction n with
  | zero =>
    intro d v h r
    cases r <;> first | (cases h; done) | exact .non | exact .bl _ | exact .int _ | exact .str _
  | succ n ih =>
    have aux : ∀ (ds : List D) (vs : List V), ds.all (pl n) = true → Reps K F ds vs → DpAll K H vs (ds.map (toP n)) := by
      intro ds
      induction ds with
      | nil => intro vs _ r; cases r; exact .nil
      | cons d ds ihl =>
        intro vs h r
        rw [List.all_cons, Bool.and_eq_true] at h
        cases r with | cons r1 r2 => exact .cons (ih d _ h.1 r1) (ihl _ h.2 r2)
    intro d v h r
    cases r with
    | non => exact .non
    | bl b => exact .bl _
    | int i => exact .int _
    | str s => exact .str _
    | lst h1 h2 => exact .lst (em.sql h1) (aux _ _ h h2)
    | tup h1 h2 => exact .tup (em.sqt h1) (aux _ _ h h2)
    | dic _ _ => exact nomatch h
theorem dps_of {K : PySem.W.Frag} {F H : Hp} (em : Emb F H) (n : Nat) : ∀ (ds : List D) (vs : List V), ds.all (pl n) = true → Reps K F ds vs → DpAll K H vs (ds.map (toP n)) := by
  intro ds
  induction ds with
  | nil => intro vs _ r; cases r; exact .nil
  | cons d ds ihl =>
    intro vs h r
    rw [List.all_cons, Bool.and_eq_true] at h
    cases r with | cons r1 r2 => exact .cons (dp_of em n d _ h.1 r1) (ihl _ h.2 r2)
theorem dp_of1 {K : PySem.W.Frag} {F H : Hp} (em : Emb F H) {d : D} {v : V} (h : pl 20 d = true) (r : Rep1 K F H d v) : Dp K H v (toP 20 d) := by
  rcases r with r | ⟨a, rfl, o⟩
  · exact dp_of em 20 d v h r
  · cases d <;> simp only [Own] at o
    · obtain ⟨vs, e, r⟩ := o
      exact .lst (.inl (.inl e)) (dps_of em 19 _ _ h r)
    · exact nomatch h
/-! ### the operations -/
def dAdd : D → D → R D
  | .int i, .int j => .ok (.int (i + j))
  | .str s, .str t => if s.length + t.length ≤ lim then .ok (.str (s ++ t)) else .no
  | .lst s, .lst t => if s.length + t.length ≤ lim then .ok (.lst (s ++ t)) else .no
  | .tup s, .tup t => if s.length + t.length ≤ lim then .ok (.tup (s ++ t)) else .no
  | _, _ => .no
def dSub : D → D → R D
  | .int i, .int j => .ok (.int (i - j))
  | _, _ => .no
def dMul : D → D → R D
  | .int i, .int j => if i.natAbs.log2 + j.natAbs.log2 < 1000000 then .ok (.int (i * j)) else .no
  | _, _ => .no
def dDiv : D → D → R D
  | .int i, .int j => if 0 < j ∧ j.natAbs.log2 < 9000 then .ok (.int (i / j)) else .no
  | _, _ => .no
def dMod : D → D → R D
  | .int i, .int j => if 0 < j then .ok (.int (i % j)) else .no
  | _, _ => .no
def dLt : D → D → R D
  | .int i, .int j => .ok (.bl (decide (i < j)))
  | .str s, .str t => .ok (.bl (decide (s < t)))
  | _, _ => .no
def dLe : D → D → R D
  | .int i, .int j => .ok (.bl (decide (i ≤ j)))
  | _, _ => .no
def dGt : D → D → R D
  | .int i, .int j => .ok (.bl (decide (j < i)))
  | _, _ => .no
def dGe : D → D → R D
  | .int i, .int j => .ok (.bl (decide (j ≤ i)))
  | _, _ => .no
def dEq (d e : D) : R D := if pl 20 d = true ∧ pl 20 e = true then .ok (.bl (eqv 20 d e)) else .no
def dNe (d e : D) : R D := if pl 20 d = true ∧ pl 20 e = true then .ok (.bl (!eqv 20 d e)) else .no
/-- a two-place operation of pure data, as a reading -/
def RD2 (K : PySem.W.Frag) (g : D → D → R D) : R2 := fun x y H Q => ∃ F dx dy d, Emb F H ∧ Rep1 K F H dx x ∧ Rep1 K F H dy y ∧ g dx dy = .ok d ∧ PV K F H d Q
section
variable {X : Cx}
theorem PV.here {K : PySem.W.Frag} {F H : Hp} {d : D} {Q : VK} (q : PV K F H d Q) (e : Emb F H) {v : V} (r : Rep K F d v) : Q v H := q v F H (.refl e) r
theorem PV.newL {K : PySem.W.Frag} {F H : Hp} {ds : List D} {vs : List V} {Q : VK} (q : PV K F H (.lst ds) Q) (e : Emb F H) (r : Reps K F ds vs) (p : Addr) (hp : H p = none) : Q (.ref p) (upd H p (.lst vs)) :=
  q _ _ _ (Nxt.new e hp _) (.lst (.inl (.inl upd_same)) (r.mono (same_upd (e.free hp))))
theorem PV.newT {K : PySem.W.Frag} {F H : Hp} {ds : List D} {vs : List V} {Q : VK} (q : PV K F H (.tup ds) Q) (e : Emb F H) (r : Reps K F ds vs) (p : Addr) (hp : H p = none) : Q (.ref p) (upd H p (.tup vs)) :=
  q _ _ _ (Nxt.new e hp _) (.tup (.inl (.inl upd_same)) (r.mono (same_upd (e.free hp))))
theorem toS_append (s t : Tx) : toS s ++ toS t = toS (s ++ t) := by
  apply TL.ext_tl
  rw [TL.tl_append]
theorem toS_len (s : Tx) : (toS s).length = s.length := by simp [toS, Str.length]
theorem od_addL {pins : List (Addr × Obj)} {s : Shared} {σ : L2.St} {H F : Hp} {x y : V} {v u : Value} {Q : VK} {xs ys : List D} (I : Inv X pins σ H s) (rx : RelV x v) (ry : RelV y u) (e : Emb F H)
    (r1 : Rep1 X.K F H (.lst xs) x) (r2 : Rep1 X.K F H (.lst ys) y) (hl : xs.length + ys.length ≤ lim) (q : PV X.K F H (.lst (xs ++ ys)) Q) : wpAny (model X.prog X.w) X.A (binaryOp .Add v u) (EP X pins σ Q) X.xe s := by
  obtain ⟨a, vs, rfl, s1, p1⟩ := r1.lst e
  obtain ⟨b, us, rfl, s2, p2⟩ := r2.lst e
  cases rx
  cases ry
  obtain ⟨its, w1, l1, z1⟩ := I.list s1
  obtain ⟨its2, w2, l2, z2⟩ := I.list s2
  obtain ⟨o1, n1, e1, c1, d1, t1⟩ := l1
  obtain ⟨o2, n2, e2, c2, d2, t2⟩ := l2
  obtain ⟨cc1, dd1, da1, sl1⟩ := o1
  obtain ⟨cc2, dd2, da2, sl2⟩ := o2
  simp only at c1 d1 t1 c2 d2 t2
  subst c1 d1 t1 c2 d2 t2
  have hz : vs.length + us.length ≤ sizeLine := by
    have := p1.length; have := p2.length; have := lim_line; omega
  have hz2 : its.length + its2.length ≤ sizeLine := by rw [← w1.length, ← w2.length]; exact hz
  have ea : its.toArray ++ its2.toArray = (its ++ its2).toArray := by simp
  refine concat_meets ⟨_, e1, rfl⟩ ⟨_, e2, rfl⟩ noFill_list_add seq_list_add PySem.F.slot_list_add PySem.F.entry_list_add (PySem.F.args_list_add_2 _ _) (list_addW a b its.toArray its2.toArray n1 n2 none none sl1 sl2 (by simpa using hz2)) ⟨e1, e2, ?_⟩
  rw [ea]
  exact ⟨.ref _, _, I.lnew (t' := s.toks) (w1.append w2) (by rw [List.length_append]; omega), rfl, q.newL e (p1.append p2) _ I.fresh⟩
theorem od_add : OpR X (binaryOp .Add) (RD2 X.K dAdd) := by
  intro pins s σ H x y v u Q I rx ry ⟨F, dx, dy, d, e, r1, r2, hg, q⟩
  cases dx <;> cases dy <;> first | (cases hg; done) | skip
  · rename_i i j
    cases hg
    exact op_add pins s σ H x y v u Q I rx ry ⟨i, j, r1.int, r2.int, q.here e (.int _)⟩
  · rename_i a b
    simp only [dAdd] at hg
    split at hg
    · rename_i hl
      cases hg
      refine op_add_str pins s σ H x y v u Q I rx ry ⟨_, _, r1.str, r2.str, ?_, ?_⟩
      · rw [toS_len, toS_len]; exact Nat.le_trans hl lim_line
      · rw [toS_append]; exact q.here e (.str _)
    · cases hg
  · simp only [dAdd] at hg
    split at hg
    · rename_i hl
      cases hg
      exact od_addL I rx ry e r1 r2 hl q
    · cases hg
  · simp only [dAdd] at hg
    split at hg
    · rename_i hl
      cases hg
      obtain ⟨a, vs, rfl, s1, p1⟩ := r1.tup e
      obtain ⟨b, us, rfl, s2, p2⟩ := r2.tup e
      refine op_catA pins s σ H _ _ v u Q I rx ry ⟨a, b, vs, us, rfl, rfl, s1, s2, ?_, fun h => ?_, fun h0 h => ?_, fun _ _ p hp => q.newT e (p1.append p2) p hp⟩
      · have := p1.length; have := p2.length; have := lim_line; omega
      · subst h
        rcases r2 with r2 | ⟨_, _, o⟩
        · have : _ = [] := List.eq_nil_of_length_eq_zero (by have := p1.length; simpa using this)
          subst this
          exact q.here e r2
        · exact o.elim
      · subst h
        rcases r1 with r1 | ⟨_, _, o⟩
        · have : _ = [] := List.eq_nil_of_length_eq_zero (by have := p2.length; simpa using this)
          subst this
          rw [List.append_nil] at q
          exact q.here e r1
        · exact o.elim
    · cases hg
theorem od_sub : OpR X (binaryOp .Sub) (RD2 X.K dSub) := by
  intro pins s σ H x y v u Q I rx ry ⟨F, dx, dy, d, e, r1, r2, hg, q⟩
  cases dx <;> cases dy <;> first | (cases hg; done) | skip
  rename_i i j
  cases hg
  exact op_sub pins s σ H x y v u Q I rx ry ⟨i, j, r1.int, r2.int, q.here e (.int _)⟩
theorem od_mul : OpR X (binaryOp .Mult) (RD2 X.K dMul) := by
  intro pins s σ H x y v u Q I rx ry ⟨F, dx, dy, d, e, r1, r2, hg, q⟩
  cases dx <;> cases dy <;> first | (cases hg; done) | skip
  rename_i i j
  simp only [dMul] at hg
  split at hg
  · rename_i hl
    cases hg
    exact op_mulW pins s σ H x y v u Q I rx ry ⟨i, j, r1.int, r2.int, hl, q.here e (.int _)⟩
  · cases hg
theorem od_div : OpR X (binaryOp .FloorDiv) (RD2 X.K dDiv) := by
  intro pins s σ H x y v u Q I rx ry ⟨F, dx, dy, d, e, r1, r2, hg, q⟩
  cases dx <;> cases dy <;> first | (cases hg; done) | skip
  rename_i i j
  simp only [dDiv] at hg
  split at hg
  · rename_i hl
    cases hg
    exact op_fdivW pins s σ H x y v u Q I rx ry ⟨i, j, r1.int, r2.int, hl, q.here e (.int _)⟩
  · cases hg
theorem od_mod : OpR X (binaryOp .Mod) (RD2 X.K dMod) := by
  intro pins s σ H x y v u Q I rx ry ⟨F, dx, dy, d, e, r1, r2, hg, q⟩
  cases dx <;> cases dy <;> first | (cases hg; done) | skip
  rename_i i j
  simp only [dMod] at hg
  split at hg
  · rename_i hl
    cases hg
    exact op_mod pins s σ H x y v u Q I rx ry ⟨i, j, r1.int, r2.int, hl, q.here e (.int _)⟩
  · cases hg
theorem od_lt : OpR X (compareOp .Lt) (RD2 X.K dLt) := by
  intro pins s σ H x y v u Q I rx ry ⟨F, dx, dy, d, e, r1, r2, hg, q⟩
  cases dx <;> cases dy <;> first | (cases hg; done) | skip
  · rename_i i j
    cases hg
    exact op_lt pins s σ H x y v u Q I rx ry ⟨i, j, r1.int, r2.int, q.here e (.bl _)⟩
  · rename_i i j
    cases hg
    exact op_lt_str pins s σ H x y v u Q I rx ry ⟨_, _, r1.str, r2.str, q.here e (.bl _)⟩
theorem od_le : OpR X (compareOp .LtE) (RD2 X.K dLe) := by
  intro pins s σ H x y v u Q I rx ry ⟨F, dx, dy, d, e, r1, r2, hg, q⟩
  cases dx <;> cases dy <;> first | (cases hg; done) | skip
  rename_i i j
  cases hg
  exact op_le pins s σ H x y v u Q I rx ry ⟨i, j, r1.int, r2.int, q.here e (.bl _)⟩
theorem od_gt : OpR X (compareOp .Gt) (RD2 X.K dGt) := by
  intro pins s σ H x y v u Q I rx ry ⟨F, dx, dy, d, e, r1, r2, hg, q⟩
  cases dx <;> cases dy <;> first | (cases hg; done) | skip
  rename_i i j
  cases hg
  exact op_gt pins s σ H x y v u Q I rx ry ⟨i, j, r1.int, r2.int, q.here e (.bl _)⟩
theorem od_eq (hu : X.A.units + 64 < cLine) : OpR X (compareOp .Eq) (RD2 X.K dEq) := by
  intro pins s σ H x y v u Q I rx ry ⟨F, dx, dy, d, e, r1, r2, hg, q⟩
  simp only [dEq] at hg
  split at hg
  · rename_i hl
    cases hg
    refine op_eqD hu pins s σ H x y v u Q I rx ry ⟨_, _, dp_of1 e hl.1 r1, dp_of1 e hl.2 r2, toP_shaped hl.1, toP_shaped hl.2, ?_⟩
    rw [eqv_toP 20 _ _ hl.1 hl.2]
    exact q.here e (.bl _)
  · cases hg
theorem od_ne (hu : X.A.units + 64 < cLine) : OpR X (compareOp .NotEq) (RD2 X.K dNe) := by
  intro pins s σ H x y v u Q I rx ry ⟨F, dx, dy, d, e, r1, r2, hg, q⟩
  simp only [dNe] at hg
  split at hg
  · rename_i hl
    cases hg
    refine op_neD hu pins s σ H x y v u Q I rx ry ⟨_, _, dp_of1 e hl.1 r1, dp_of1 e hl.2 r2, toP_shaped hl.1, toP_shaped hl.2, ?_⟩
    rw [eqv_toP 20 _ _ hl.1 hl.2]
    exact q.here e (.bl _)
  · cases hg
end
end KN
/-! KnC: judgements of expressions -/
namespace KN
open PySem PySem.Spec PyProof.Rows L2
/-! ### meanings -/
def bVar (i : Nat) : Ga → R D := fun γ => match γ[i]? with | some (.va d) => .ok d | _ => .no
def bRd (i : Nat) : Ga → R D := fun γ => match γ[i]? with | some (.ow d) => .ok d | _ => .no
def bC (d : D) : Ga → R D := fun _ => .ok d
def b1 (g : D → R D) (fa : Ga → R D) : Ga → R D := fun γ => (fa γ).bind g
def b2 (g : D → D → R D) (fa fb : Ga → R D) : Ga → R D := fun γ => (fa γ).bind fun x => (fb γ).bind fun y => g x y
def bNil : Ga → R (List D) := fun _ => .ok []
def bCons (fa : Ga → R D) (fs : Ga → R (List D)) : Ga → R (List D) := fun γ => (fa γ).bind fun x => (fs γ).bind fun xs => .ok (x :: xs)
def bN (g : List D → R D) (fs : Ga → R (List D)) : Ga → R D := fun γ => (fs γ).bind g
def bIf (c : Ga → R Bool) (fa fb : Ga → R D) : Ga → R D := fun γ => (c γ).bind fun b => if b = true then fa γ else fb γ
def tB : D → R Bool
  | .bl b => .ok b
  | _ => .no
def tVal (fa : Ga → R D) : Ga → R Bool := fun γ => (fa γ).bind tB
def tAnd (p q : Ga → R Bool) : Ga → R Bool := fun γ => (p γ).bind fun b => if b = true then q γ else .ok false
def tOr (p q : Ga → R Bool) : Ga → R Bool := fun γ => (p γ).bind fun b => if b = true then .ok true else q γ
def tNot (p : Ga → R Bool) : Ga → R Bool := fun γ => (p γ).bind fun b => .ok (!b)
def bTup (fs : Ga → R (List D)) : Ga → R D := bN (fun xs => if xs.length ≤ lim then .ok (.tup xs) else .no) fs
def bLst (fs : Ga → R (List D)) : Ga → R D := bN (fun xs => if xs.length ≤ lim then .ok (.lst xs) else .no) fs
/-! ### more judgements -/
inductive Reps1 (K : PySem.W.Frag) (F H : Hp) : List D → List V → Prop
  | nil : Reps1 K F H [] []
  | cons {d : D} {ds : List D} {v : V} {vs : List V} : Rep1 K F H d v → Reps1 K F H ds vs → Reps1 K F H (d :: ds) (v :: vs)
def OutA (P : List D → (List V → Hp → Prop) → Prop) (F H : Hp) (W : Nat → Hp → Prop) (r : R (List D)) (Q : List V → Hp → Prop) : Prop := match r with
  | .ok d => P d Q
  | .ex c => ∀ F' H', Nxt F H F' H' → W c H'
  | .no => False
def OutT (F H : Hp) (W : Nat → Hp → Prop) (r : R Bool) (Q : Bool → Hp → Prop) : Prop := match r with
  | .ok b => ∀ F' H', Nxt F H F' H' → Q b H'
  | .ex c => ∀ F' H', Nxt F H F' H' → W c H'
  | .no => False
def rdA (K : PySem.W.Frag) (W : WN) (f : Ga → R (List D)) : TA := fun σ H Q => ∃ F γ, RS K F γ σ H ∧ OutA (fun ds Q => ∀ vs F' H', Nxt F H F' H' → Reps K F' ds vs → Q vs H') F H (fun c H' => W c σ H') (f γ) Q
def rdA1 (K : PySem.W.Frag) (W : WN) (f : Ga → R (List D)) : TA := fun σ H Q => ∃ F γ, RS K F γ σ H ∧ OutA (fun ds Q => ∀ vs F' H', Nxt F H F' H' → Reps1 K F' H' ds vs → Q vs H') F H (fun c H' => W c σ H') (f γ) Q
def rdT (K : PySem.W.Frag) (W : WN) (f : Ga → R Bool) : TT := fun σ H Q => ∃ F γ, RS K F γ σ H ∧ OutT F H (fun c H' => W c σ H') (f γ) Q
structure JA (X : Cx) (W : WN) (f : Ga → R (List D)) (es : List Expr) : Prop where
  pa : PA X es (rdA X.K W f)
structure JA1 (X : Cx) (W : WN) (f : Ga → R (List D)) (es : List Expr) : Prop where
  pa : PA X es (rdA1 X.K W f)
structure JT (X : Cx) (W : WN) (f : Ga → R Bool) (e : Expr) : Prop where
  pt : PT X e (rdT X.K W f)
structure JW (X : Cx) (W : WN) (f : Ga → R Bool) (e : Expr) : Prop where
  pw : PW X e (rdT X.K W f)
theorem PA.imp {X : Cx} {e : List Expr} {t t' : TA} (h : PA X e t) (i : ∀ σ H Q, t' σ H Q → t σ H Q) : PA X e t' := ⟨fun pos pins s σ H Q I q => h.run pos pins s σ H Q I (i σ H Q q)⟩
theorem PT.imp {X : Cx} {e : Expr} {t t' : TT} (h : PT X e t) (i : ∀ σ H Q, t' σ H Q → t σ H Q) : PT X e t' := ⟨fun pins s σ H Q I q => h.run pins s σ H Q I (i σ H Q q)⟩
theorem PW.imp {X : Cx} {e : Expr} {t t' : TT} (h : PW X e t) (i : ∀ σ H Q, t' σ H Q → t σ H Q) : PW X e t' := ⟨fun w pins s σ H Q I q => h.run w pins s σ H Q I (i σ H Q q)⟩
section
variable {K : PySem.W.Frag} {F H F1 H1 : Hp} {d : D} {Q : VK}
theorem PV.next (q : PV K F H d Q) (n : Nxt F H F1 H1) : PV K F1 H1 d Q := fun v F' H' m p => q v F' H' (n.trans m) p
theorem PR.next (q : PR K F H d Q) (n : Nxt F H F1 H1) : PR K F1 H1 d Q := fun v F' H' m p => q v F' H' (n.trans m) p
theorem PF.next (q : PF K F H d Q) (n : Nxt F H F1 H1) : PF K F1 H1 d Q := fun a F' H' m ha fa p => q a F' H' (n.trans m) (n.h.free ha) fa p
end
section
variable {K : PySem.W.Frag} {W : WN} {F H : Hp} {γ : Ga} {σ : L2.St} {fa fb fc : Ga → R D} {Q : VK}
/-- from what is wanted behind a and what follows -/
theorem go1 {α : Type} {k : D → R α} {R' : V → Hp → Prop} {Z : R α → Prop} (r : RS K F γ σ H) (o : Z ((fa γ).bind k)) (hex : ∀ c, Z (.ex c) → ∀ F' H', Nxt F H F' H' → W c σ H') (hno : ¬ Z .no)
    (h : ∀ d x F1 H1, Nxt F H F1 H1 → RS K F1 γ σ H1 → Rep1 K F1 H1 d x → Z (k d) → R' x H1) : rdR K W fa σ H R' := by
  refine ⟨F, γ, r, ?_⟩
  cases e : fa γ with
  | ok d => rw [e] at o; exact fun x F1 H1 n p => h d x F1 H1 n (r.next n) p o
  | ex c => rw [e] at o; exact hex c o
  | no => rw [e] at o; exact hno o
theorem go1v {α : Type} {k : D → R α} {R' : V → Hp → Prop} {Z : R α → Prop} (r : RS K F γ σ H) (o : Z ((fa γ).bind k)) (hex : ∀ c, Z (.ex c) → ∀ F' H', Nxt F H F' H' → W c σ H') (hno : ¬ Z .no)
    (h : ∀ d x F1 H1, Nxt F H F1 H1 → RS K F1 γ σ H1 → Rep K F1 d x → Z (k d) → R' x H1) : rdV K W fa σ H R' := by
  refine ⟨F, γ, r, ?_⟩
  cases e : fa γ with
  | ok d => rw [e] at o; exact fun x F1 H1 n p => h d x F1 H1 n (r.next n) p o
  | ex c => rw [e] at o; exact hex c o
  | no => rw [e] at o; exact hno o
end
/-- a two-place operation on data, done by f, never raising -/
structure OpD (X : Cx) (f : Value → Value → Sem Value) (g : D → D → R D) : Prop where
  run : OpR X f (RD2 X.K g)
  ne : ∀ x y c, g x y ≠ .ex c
section
variable {X : Cx}
theorem o_add : OpD X (binaryOp .Add) dAdd := ⟨od_add, fun x y c => by cases x <;> cases y <;> simp [dAdd] <;> split <;> simp⟩
theorem o_sub : OpD X (binaryOp .Sub) dSub := ⟨od_sub, fun x y c => by cases x <;> cases y <;> simp [dSub]⟩
theorem o_mul : OpD X (binaryOp .Mult) dMul := ⟨od_mul, fun x y c => by cases x <;> cases y <;> simp [dMul] <;> split <;> simp⟩
theorem o_div : OpD X (binaryOp .FloorDiv) dDiv := ⟨od_div, fun x y c => by cases x <;> cases y <;> simp [dDiv] <;> split <;> simp⟩
theorem o_mod : OpD X (binaryOp .Mod) dMod := ⟨od_mod, fun x y c => by cases x <;> cases y <;> simp [dMod] <;> split <;> simp⟩
theorem o_lt : OpD X (compareOp .Lt) dLt := ⟨od_lt, fun x y c => by cases x <;> cases y <;> simp [dLt]⟩
theorem o_le : OpD X (compareOp .LtE) dLe := ⟨od_le, fun x y c => by cases x <;> cases y <;> simp [dLe]⟩
theorem o_gt : OpD X (compareOp .Gt) dGt := ⟨od_gt, fun x y c => by cases x <;> cases y <;> simp [dGt]⟩
theorem o_eq (hu : X.A.units + 64 < cLine) : OpD X (compareOp .Eq) dEq := ⟨od_eq hu, fun x y c => by unfold dEq; split <;> simp⟩
theorem o_ne (hu : X.A.units + 64 < cLine) : OpD X (compareOp .NotEq) dNe := ⟨od_ne hu, fun x y c => by unfold dNe; split <;> simp⟩
end
section
variable {X : Cx} {W : WN} {f fa fb fc : Ga → R D} {a b c e : Expr} {pos : Pos}
theorem toS_tl (x : Str) : toS x.cps.toList = x := by apply TL.ext_tl; rfl
/-! ### names and constants -/
theorem j_var (i : Nat) {x : Str} (hN : X.N[i]? = some x := by rfl) (hv : Vis X.env.scope x := by first | exact Or.inl rfl | exact Or.inr (Or.inl rfl) | exact Or.inr (Or.inr rfl)) (hd : (x == ("__debug__" : Str)) = false := by decide)
    (hcd : (x == ("__classdict__" : Str)) = false := by decide) : J X W (bVar i) (.Name x pos) := ⟨PE.imp (pe_var hN hv hd hcd) fun σ H Q ⟨F, γ, r, o⟩ => by
  unfold bVar at o
  cases h : γ[i]? with
  | none => rw [h] at o; exact o.elim
  | some s =>
    rw [h] at o
    cases s with
    | un => exact o.elim
    | ow d => exact o.elim
    | nd d => exact o.elim
    | xc a => exact o.elim
    | va d =>
      obtain ⟨v, e1, p⟩ := r.sl i _ h
      exact ⟨v, e1, PV.here o r.emb p⟩⟩
theorem jr_rd (i : Nat) {x : Str} (hN : X.N[i]? = some x := by rfl) (hv : Vis X.env.scope x := by first | exact Or.inl rfl | exact Or.inr (Or.inl rfl) | exact Or.inr (Or.inr rfl)) (hd : (x == ("__debug__" : Str)) = false := by decide)
    (hcd : (x == ("__classdict__" : Str)) = false := by decide) : JR X W (bRd i) (.Name x pos) := ⟨PE.imp (pe_var hN hv hd hcd) fun σ H Q ⟨F, γ, r, o⟩ => by
  unfold bRd at o
  cases h : γ[i]? with
  | none => rw [h] at o; exact o.elim
  | some s =>
    rw [h] at o
    cases s with
    | un => exact o.elim
    | va d => exact o.elim
    | nd d => exact o.elim
    | xc a => exact o.elim
    | ow d =>
      obtain ⟨v, e1, _, p⟩ := r.sl i _ h
      exact ⟨_, e1, o _ F H (.refl r.emb) (.inr ⟨v, rfl, p⟩)⟩⟩
theorem j_c {v : V} {d : D} (h : PE X e (tC v)) (p : ∀ F, Rep X.K F d v) : J X W (bC d) e := ⟨PE.imp h fun σ H Q ⟨F, γ, r, o⟩ => PV.here (Q := Q) o r.emb (p F)⟩
theorem j_int {i : Int} {k : Nat} : J X W (bC (.int i)) (.Constant (.int i) k pos) := j_c pe_int fun _ => .int i
theorem j_bl {b : Bool} {k : Nat} : J X W (bC (.bl b)) (.Constant (.bool b) k pos) := j_c pe_bl fun _ => .bl b
theorem j_non {k : Nat} : J X W (bC .non) (.Constant .none k pos) := j_c pe_non fun _ => .non
theorem j_str {s : Tx} {x : Str} {k : Nat} (h : x.cps.toList = s := by rfl) : J X W (bC (.str s)) (.Constant (.str x) k pos) := j_c (v := .str x) pe_str fun _ => by
  subst h
  have := Rep.str (K := X.K) (F := ‹Hp›) x.cps.toList
  rw [toS_tl] at this
  exact this
/-- a constant of the module -/
theorem j_glob {x : Str} {u : Value} {d : D} {v : V} (hg : Gl X x) (hm : X.mg x = some u) (hu : RelV v u) (p : ∀ F, Rep X.K F d v) (hd : (x == ("__debug__" : Str)) = false := by decide) : J X W (bC d) (.Name x pos) := ⟨⟨fun pins s σ H Q I h => by
  obtain ⟨F, γ, r, o⟩ := h
  exact ld_glob I hg hm ⟨v, H, I, hu, PV.here (Q := Q) o r.emb (p F)⟩ hd⟩⟩
/-! ### operators -/
theorem rd2 {K : PySem.W.Frag} {F H : Hp} {γ : Ga} {σ : L2.St} {g : D → D → R D} {Q : VK} {R' : V → V → Hp → Prop} (r : RS K F γ σ H) (o : Out (PV K F H) F H (fun c H' => W c σ H') (b2 g fa fb γ) Q)
    (h : ∀ dx dy x y F2 H2, Nxt F H F2 H2 → RS K F2 γ σ H2 → Rep1 K F2 H2 dx x → Rep1 K F2 H2 dy y → Out (PV K F H) F H (fun c H' => W c σ H') (g dx dy) Q → R' x y H2) :
    rdR K W fa σ H fun x H1 => rdR K W fb σ H1 fun y H2 => R' x y H2 := by
  refine go1 (Z := fun z => Out (PV K F H) F H (fun c H' => W c σ H') z Q) r o (fun _ z => z) (fun z => z) fun dx x F1 H1 n1 r1 p1 o1 => ?_
  refine go1 (Z := fun z => Out (PV K F H) F H (fun c H' => W c σ H') z Q) r1 o1 (fun _ z F' H' n => z F' H' (n1.trans n)) (fun z => z) fun dy y F2 H2 n2 r2 p2 o2 => ?_
  exact h dx dy x y F2 H2 (n1.trans n2) r2 (p1.next n2) p2 o2
theorem tOp_of {K : PySem.W.Frag} {F H : Hp} {γ : Ga} {σ : L2.St} {g : D → D → R D} {Q : VK} (ne : ∀ x y c, g x y ≠ .ex c) (r : RS K F γ σ H) (o : Out (PV K F H) F H (fun c H' => W c σ H') (b2 g fa fb γ) Q) :
    tOp (RD2 K g) (rdR K W fa) (rdR K W fb) σ H Q := by
  refine rd2 r o fun dx dy x y F2 H2 n r2 p1 p2 o2 => ?_
  cases e : g dx dy with
  | ok d => rw [e] at o2; exact ⟨F2, dx, dy, d, r2.emb, p1, p2, e, PV.next (Q := Q) o2 n⟩
  | ex c => exact absurd e (ne _ _ _)
  | no => rw [e] at o2; exact o2.elim
theorem j_op {op : Operator} {g : D → D → R D} (ho : OpD X (binaryOp op) g) (ha : JR X W fa a) (hb : JR X W fb b) : J X W (b2 g fa fb) (.BinOp a op b pos) :=
  ⟨PE.imp (pe_op ho.run ha.pe hb.pe) fun σ H Q ⟨F, γ, r, o⟩ => tOp_of ho.ne r o⟩
theorem j_cmp {op : CmpOp} {g : D → D → R D} (ho : OpD X (compareOp op) g) (ha : JR X W fa a) (hb : JR X W fb b) (hm : behindInMarks op b = false := by first | exact nomark _ | rfl) : J X W (b2 g fa fb) (.Compare a [op] [b] pos) :=
  ⟨PE.imp (pe_cmpR ho.run ha.pe hb.pe hm) fun σ H Q ⟨F, γ, r, o⟩ => tOp_of ho.ne r o⟩
def dNeg : D → R D
  | .int i => .ok (.int (-i))
  | _ => .no
theorem j_neg (ha : JR X W fa a) : J X W (b1 dNeg fa) (.UnaryOp .USub a pos) := ⟨PE.imp (pe_un un_neg ha.pe) fun σ H Q ⟨F, γ, r, o⟩ => by
  refine go1 (Z := fun z => Out (PV X.K F H) F H (fun c H' => W c σ H') z Q) r o (fun _ z => z) (fun z => z) fun dx x F1 H1 n1 r1 p1 o1 => ?_
  cases dx <;> first | exact o1.elim | skip
  exact ⟨_, p1.int, PV.here (PV.next (Q := Q) o1 n1) r1.emb (.int _)⟩⟩
def dNot : D → R D
  | .bl b => .ok (.bl (!b))
  | _ => .no
theorem j_not (ha : JR X W fa a) : J X W (b1 dNot fa) (.UnaryOp .Not a pos) := ⟨PE.imp (pe_not ha.pe) fun σ H Q ⟨F, γ, r, o⟩ => by
  refine go1 (Z := fun z => Out (PV X.K F H) F H (fun c H' => W c σ H') z Q) r o (fun _ z => z) (fun z => z) fun dx x F1 H1 n1 r1 p1 o1 => ?_
  cases dx <;> first | exact o1.elim | skip
  exact ⟨_, p1.bl, PV.here (PV.next (Q := Q) o1 n1) r1.emb (.bl _)⟩⟩
/-! ### tests -/
theorem jt_cmp {op : CmpOp} {g : D → D → R D} (ho : OpD X (compareOp op) g) (ha : JR X W fa a) (hb : JR X W fb b) (hm : behindInMarks op b = false := by first | exact nomark _ | rfl) : JT X W (tVal (b2 g fa fb)) (.Compare a [op] [b] pos) :=
  ⟨PT.imp (pt_cmpR ho.run ha.pe hb.pe hm) fun σ H Q ⟨F, γ, r, o⟩ => by
    refine tOp_of (Q := fun x H' => ∃ k, x = .bl k ∧ Q k H') ho.ne r ?_
    unfold tVal at o
    cases e : b2 g fa fb γ with
    | ok d =>
      rw [e] at o
      cases d <;> first | exact o.elim | skip
      intro v F' H' n p
      cases p
      exact ⟨_, rfl, o F' H' n⟩
    | ex c => rw [e] at o; exact o
    | no => rw [e] at o; exact o⟩
theorem jt_val (h : J X W f e) (he : ∀ whole, isTrue e X.env whole = (do let v ← whole; standAt e.pos; holding [v] (truthy v)) := by intro _; rfl) : JT X W (tVal f) e :=
  ⟨PT.imp (pt_val h.pe he) fun σ H Q ⟨F, γ, r, o⟩ => by
    refine ⟨F, γ, r, ?_⟩
    unfold tVal at o
    cases e : f γ with
    | ok d =>
      rw [e] at o
      cases d <;> first | exact o.elim | skip
      intro v F' H' n p
      cases p
      exact ⟨_, rfl, o F' H' n⟩
    | ex c => rw [e] at o; exact o
    | no => rw [e] at o; exact o⟩
variable {p q : Ga → R Bool} {rest : List Expr}
theorem JW.t (h : JW X W p e) : JT X W p e := ⟨h.pw.pt⟩
theorem jw_or1 (ha : JT X W p a) : JW X W p (.BoolOp .Or [a] pos) := ⟨pw_or1 ha.pt⟩
theorem jw_or (ha : JT X W p a) (hb : JW X W q (.BoolOp .Or (b :: rest) pos)) : JW X W (tOr p q) (.BoolOp .Or (a :: b :: rest) pos) := ⟨PW.imp (pw_or ha.pt hb.pw) fun σ H Q h => by
  obtain ⟨F, γ, r, o⟩ := h
  refine ⟨F, γ, r, ?_⟩
  unfold tOr at o
  cases e : p γ with
  | ok b =>
    simp only [e, R.bind] at o
    intro F' H' n
    cases b with
    | false =>
      simp only [Bool.false_eq_true, if_false] at o ⊢
      refine ⟨F', γ, r.next n, ?_⟩
      cases e2 : q γ with
      | ok b' => rw [e2] at o; exact fun F2 H2 n2 => o F2 H2 (n.trans n2)
      | ex c => rw [e2] at o; exact fun F2 H2 n2 => o F2 H2 (n.trans n2)
      | no => rw [e2] at o; exact o
    | true => exact o F' H' n
  | ex c => simp only [e, R.bind] at o; exact o
  | no => simp only [e, R.bind] at o; exact o⟩
theorem jt_not (ha : JT X W p a) : JT X W (tNot p) (.UnaryOp .Not a pos) := ⟨PT.imp (pt_not ha.pt) fun σ H Q h => by
  obtain ⟨F, γ, r, o⟩ := h
  refine ⟨F, γ, r, ?_⟩
  unfold tNot at o
  cases e : p γ with
  | ok b => simp only [e, R.bind] at o; exact o
  | ex c => simp only [e, R.bind] at o; exact o
  | no => simp only [e, R.bind] at o; exact o⟩
/-! ### and, or of truths as values; if .. else -/
def bAnd (fa fb : Ga → R D) : Ga → R D := fun γ => (fa γ).bind fun x => match x with | .bl true => fb γ | .bl false => .ok (.bl false) | _ => .no
def bOr (fa fb : Ga → R D) : Ga → R D := fun γ => (fa γ).bind fun x => match x with | .bl false => fb γ | .bl true => .ok (.bl true) | _ => .no
theorem Out.next {K : PySem.W.Frag} {F H F1 H1 : Hp} {σ : L2.St} {x : R D} {Q : VK} (o : Out (PV K F H) F H (fun c H' => W c σ H') x Q) (n : Nxt F H F1 H1) : Out (PV K F1 H1) F1 H1 (fun c H' => W c σ H') x Q := by
  cases x with
  | ok d => exact PV.next (Q := Q) o n
  | ex c => exact fun F' H' m => o F' H' (n.trans m)
  | no => exact o
theorem j_one {op : BoolOp} (h : J X W f a) : J X W f (.BoolOp op [a] pos) := ⟨pe_one h.pe⟩
theorem j_and (ha : J X W fa a) (hb : J X W fb (.BoolOp .And (b :: rest) pos)) : J X W (bAnd fa fb) (.BoolOp .And (a :: b :: rest) pos) := ⟨PE.imp (pe_and ha.pe hb.pe) fun σ H Q ⟨F, γ, r, o⟩ => by
  refine go1v (Z := fun z => Out (PV X.K F H) F H (fun c H' => W c σ H') z Q) r o (fun _ z => z) (fun z => z) fun dx x F1 H1 n1 r1 p1 o1 => ?_
  cases dx <;> first | exact o1.elim | skip
  rename_i b
  cases p1
  refine ⟨b, rfl, ?_⟩
  cases b with
  | true => exact ⟨F1, γ, r1, Out.next o1 n1⟩
  | false => exact PV.here (PV.next (Q := Q) o1 n1) r1.emb (.bl _)⟩
theorem j_or (ha : J X W fa a) (hb : J X W fb (.BoolOp .Or (b :: rest) pos)) : J X W (bOr fa fb) (.BoolOp .Or (a :: b :: rest) pos) := ⟨PE.imp (pe_or ha.pe hb.pe) fun σ H Q ⟨F, γ, r, o⟩ => by
  refine go1v (Z := fun z => Out (PV X.K F H) F H (fun c H' => W c σ H') z Q) r o (fun _ z => z) (fun z => z) fun dx x F1 H1 n1 r1 p1 o1 => ?_
  cases dx <;> first | exact o1.elim | skip
  rename_i b
  cases p1
  refine ⟨b, rfl, ?_⟩
  cases b with
  | false => exact ⟨F1, γ, r1, Out.next o1 n1⟩
  | true => exact PV.here (PV.next (Q := Q) o1 n1) r1.emb (.bl _)⟩
theorem j_if (hc : JT X W p c) (ha : J X W fa a) (hb : J X W fb b) : J X W (bIf p fa fb) (.IfExp c a b pos) := ⟨PE.imp (pe_ifExp hc.pt ha.pe hb.pe) fun σ H Q ⟨F, γ, r, o⟩ => by
  refine ⟨F, γ, r, ?_⟩
  unfold bIf at o
  cases e : p γ with
  | ok b =>
    simp only [e, R.bind] at o
    intro F' H' n
    cases b with
    | true => exact ⟨F', γ, r.next n, Out.next o n⟩
    | false => exact ⟨F', γ, r.next n, Out.next o n⟩
  | ex c => simp only [e, R.bind] at o; exact o
  | no => simp only [e, R.bind] at o; exact o⟩
/-! ### chains -/
def bCh (g g' : D → D → R D) (fa fb fc : Ga → R D) : Ga → R D := fun γ => (fa γ).bind fun x => (fb γ).bind fun y => (g x y).bind fun z => match z with
  | .bl true => (fc γ).bind fun w => g' y w
  | .bl false => .ok (.bl false)
  | _ => .no
theorem tCh_of {g g' : D → D → R D} {K : PySem.W.Frag} {F H : Hp} {γ : Ga} {σ : L2.St} {Q : VK} (ne : ∀ x y c, g x y ≠ .ex c) (ne' : ∀ x y c, g' x y ≠ .ex c) (r : RS K F γ σ H) (o : Out (PV K F H) F H (fun c H' => W c σ H') (bCh g g' fa fb fc γ) Q) :
    tChain (RD2 K g) (RD2 K g') (rdR K W fa) (rdR K W fb) (rdR K W fc) σ H Q := by
  refine go1 (Z := fun z => Out (PV K F H) F H (fun c H' => W c σ H') z Q) r o (fun _ z => z) (fun z => z) fun dx x F1 H1 n1 r1 p1 o1 => ?_
  refine go1 (Z := fun z => Out (PV K F H) F H (fun c H' => W c σ H') z Q) r1 o1 (fun _ z F' H' n => z F' H' (n1.trans n)) (fun z => z) fun dy y F2 H2 n2 r2 p2 o2 => ?_
  have p1' := p1.next n2
  have n12 := n1.trans n2
  cases e : g dx dy with
  | ok d =>
    rw [e] at o2
    simp only [R.bind] at o2
    cases d <;> first | exact o2.elim | skip
    rename_i k
    refine ⟨F2, dx, dy, _, r2.emb, p1', p2, e, fun v F' H' n p => ?_⟩
    cases p
    refine ⟨k, rfl, ?_⟩
    cases k with
    | true =>
      refine go1 (Z := fun z => Out (PV K F H) F H (fun c H' => W c σ H') z Q) (r2.next n) o2 (fun _ z F'' H'' m => z F'' H'' ((n12.trans n).trans m)) (fun z => z) fun dw w F3 H3 n3 r3 p3 o3 => ?_
      cases e3 : g' dy dw with
      | ok d => rw [e3] at o3; exact ⟨F3, dy, dw, d, r3.emb, (p2.next n).next n3, p3, e3, PV.next (Q := Q) o3 ((n12.trans n).trans n3)⟩
      | ex c => exact absurd e3 (ne' _ _ _)
      | no => rw [e3] at o3; exact o3.elim
    | false => exact PV.here (PV.next (Q := Q) o2 (n12.trans n)) n.emb (.bl _)
  | ex c => exact absurd e (ne _ _ _)
  | no => rw [e] at o2; exact o2.elim
theorem j_chain {op op' : CmpOp} {g g' : D → D → R D} (ho : OpD X (compareOp op) g) (ho' : OpD X (compareOp op') g') (ha : JR X W fa a) (hb : JR X W fb b) (hc : JR X W fc c)
    (h1 : lastMarks [op, op'] [b, c] = false := by with_unfolding_all rfl) : J X W (bCh g g' fa fb fc) (.Compare a [op, op'] [b, c] pos) :=
  ⟨PE.imp (pe_chain ho.run ho'.run ha.pe hb.pe hc.pe h1) fun σ H Q ⟨F, γ, r, o⟩ => tCh_of ho.ne ho'.ne r o⟩
theorem jt_chain {op op' : CmpOp} {g g' : D → D → R D} (ho : OpD X (compareOp op) g) (ho' : OpD X (compareOp op') g') (ha : JR X W fa a) (hb : JR X W fb b) (hc : JR X W fc c)
    (h1 : lastMarks [op, op'] [b, c] = false := by with_unfolding_all rfl) : JT X W (tVal (bCh g g' fa fb fc)) (.Compare a [op, op'] [b, c] pos) :=
  ⟨PT.imp (pt_chain ho.run ho'.run ha.pe hb.pe hc.pe h1) fun σ H Q ⟨F, γ, r, o⟩ => by
    refine tCh_of (Q := fun x H' => ∃ k, x = .bl k ∧ Q k H') ho.ne ho'.ne r ?_
    unfold tVal at o
    cases e : bCh g g' fa fb fc γ with
    | ok d =>
      rw [e] at o
      cases d <;> first | exact o.elim | skip
      intro v F' H' n p
      cases p
      exact ⟨_, rfl, o F' H' n⟩
    | ex c => rw [e] at o; exact o
    | no => rw [e] at o; exact o⟩
/-! ### argument lists, displays -/
variable {es : List Expr} {fs : Ga → R (List D)}
theorem Reps.one {K : PySem.W.Frag} {F H : Hp} {ds : List D} {vs : List V} (h : Reps K F ds vs) : Reps1 K F H ds vs := by
  induction ds generalizing vs with
  | nil => cases h; exact .nil
  | cons d ds ih => cases h with | cons h1 h2 => exact .cons (.inl h1) (ih h2)
theorem Reps1.next {K : PySem.W.Frag} {F H F' H' : Hp} {ds : List D} {vs : List V} (h : Reps1 K F H ds vs) (n : Nxt F H F' H') : Reps1 K F' H' ds vs := by
  induction ds generalizing vs with
  | nil => cases h; exact .nil
  | cons d ds ih => cases h with | cons h1 h2 => exact .cons (h1.next n) (ih h2)
theorem ja_nil : JA X W bNil [] := ⟨PA.imp pa_nil fun σ H Q ⟨F, γ, r, o⟩ => o [] F H (.refl r.emb) .nil⟩
theorem ja1_nil : JA1 X W bNil [] := ⟨PA.imp pa_nil fun σ H Q ⟨F, γ, r, o⟩ => o [] F H (.refl r.emb) .nil⟩
theorem ja_cons (ha : J X W fa e) (hr : JA X W fs es) (hs : starEach (e :: es) X.env = (false, eval e X.env) :: starEach es X.env := by rfl) : JA X W (bCons fa fs) (e :: es) := ⟨PA.imp (pa_cons ha.pe hr.pa hs) fun σ H Q ⟨F, γ, r, o⟩ => by
  refine ⟨F, γ, r, ?_⟩
  unfold bCons at o
  cases e1 : fa γ with
  | ok d =>
    simp only [e1, R.bind] at o
    intro v F' H' n p
    refine ⟨F', γ, r.next n, ?_⟩
    cases e2 : fs γ with
    | ok ds => simp only [e2, R.bind] at o; exact fun vs F2 H2 n2 ps => o _ F2 H2 (n.trans n2) (.cons (p.mono n2.f) ps)
    | ex c => simp only [e2, R.bind] at o; exact fun F2 H2 n2 => o F2 H2 (n.trans n2)
    | no => simp only [e2, R.bind] at o; exact o
  | ex c => simp only [e1, R.bind] at o; exact o
  | no => simp only [e1, R.bind] at o; exact o⟩
theorem ja1_cons (ha : JR X W fa e) (hr : JA1 X W fs es) (hs : starEach (e :: es) X.env = (false, eval e X.env) :: starEach es X.env := by rfl) : JA1 X W (bCons fa fs) (e :: es) := ⟨PA.imp (pa_cons ha.pe hr.pa hs) fun σ H Q ⟨F, γ, r, o⟩ => by
  refine ⟨F, γ, r, ?_⟩
  unfold bCons at o
  cases e1 : fa γ with
  | ok d =>
    simp only [e1, R.bind] at o
    intro v F' H' n p
    refine ⟨F', γ, r.next n, ?_⟩
    cases e2 : fs γ with
    | ok ds => simp only [e2, R.bind] at o; exact fun vs F2 H2 n2 ps => o _ F2 H2 (n.trans n2) (.cons (p.next n2) ps)
    | ex c => simp only [e2, R.bind] at o; exact fun F2 H2 n2 => o F2 H2 (n.trans n2)
    | no => simp only [e2, R.bind] at o; exact o
  | ex c => simp only [e1, R.bind] at o; exact o
  | no => simp only [e1, R.bind] at o; exact o⟩
theorem j_tup {x1 : Nat} (h : JA X W fs es) : J X W (bTup fs) (.Tuple es x1 pos) := ⟨PE.imp (pe_tup h.pa) fun σ H Q ⟨F, γ, r, o⟩ => by
  refine ⟨F, γ, r, ?_⟩
  unfold bTup bN at o
  cases e1 : fs γ with
  | ok ds =>
    simp only [e1, R.bind] at o
    intro vs F' H' n p
    split at o
    · rename_i hl
      refine ⟨by rw [← p.length]; exact Nat.le_trans hl lim_line, fun a ha => PV.newT (PV.next (Q := Q) o n) n.emb p a ha⟩
    · exact o.elim
  | ex c => simp only [e1, R.bind] at o; exact o
  | no => simp only [e1, R.bind] at o; exact o⟩
theorem jf_lst (h : JA X W fs es) : JF X W (bLst fs) (.List es pos) := ⟨PE.imp (pe_lst h.pa) fun σ H Q ⟨F, γ, r, o⟩ => by
  refine ⟨F, γ, r, ?_⟩
  unfold bLst bN at o
  cases e1 : fs γ with
  | ok ds =>
    simp only [e1, R.bind] at o
    intro vs F' H' n p
    split at o
    · rename_i hl
      refine ⟨by rw [← p.length]; exact Nat.le_trans hl lim_line, fun a ha => ?_⟩
      exact o a F' _ (n.trans (.laid n.emb ha _)) (n.h.free ha) (n.emb.free ha) ⟨_, upd_same, p⟩
    · exact o.elim
  | ex c => simp only [e1, R.bind] at o; exact o
  | no => simp only [e1, R.bind] at o; exact o⟩
end
end KN
/-! KnD: subscripts, slices, builtins, calls -/
namespace KN
open PySem PySem.Spec PyProof.Rows L2
/-! ### subscripts -/
def lookK (es : List (Tx × D)) (k : Tx) : Option D := (es.find? fun e => e.1 == k).map (·.2)
def o2r {α : Type} : Option α → R α
  | some a => .ok a
  | none => .no
def dIx : D → D → R D
  | .lst xs, .int i => o2r (atI xs i)
  | .tup xs, .int i => o2r (atI xs i)
  | .str s, .int i => if s.length ≤ lim then (match atI s i with | some c => .ok (.str [c]) | none => .no) else .no
  | .dic es, .str k => o2r (lookK es k)
  | _, _ => .no
theorem Reps.atI {K : PySem.W.Frag} {F : Hp} {ds : List D} {vs : List V} (h : Reps K F ds vs) {i : Int} {d : D} (e : atI ds i = some d) : ∃ v, L2.atI vs i = some v ∧ Rep K F d v := by
  unfold L2.atI at e ⊢
  rw [← h.length]
  cases q : ixN ds.length i with
  | none => rw [q] at e; cases e
  | some j =>
    rw [q] at e
    exact h.get (i := j) (by simpa using e)
theorem RepK.look {K : PySem.W.Frag} {F : Hp} {es : List (Tx × D)} {kvs : List (Key × V)} (h : RepK K F es kvs) (k : Tx) :
    (lookK es k = none ∧ valV kvs (Sum.inr (toS k)) = none) ∨ ∃ d v, lookK es k = some d ∧ valV kvs (Sum.inr (toS k)) = some v ∧ Rep K F d v := by
  induction es generalizing kvs with
  | nil => cases h; exact .inl ⟨rfl, rfl⟩
  | cons e es ih =>
    obtain ⟨k', d⟩ := e
    cases h with
    | cons h1 h2 =>
      by_cases q : k' = k
      · subst q
        refine .inr ⟨d, _, ?_, valV_pos rfl, h1⟩
        simp [lookK]
      · have q2 : ¬ (Sum.inr (toS k') : Key) = Sum.inr (toS k) := fun z => q (toS_inj.mp (Sum.inr.inj z))
        rw [valV_neg q2]
        have : lookK ((k', d) :: es) k = lookK es k := by
          unfold lookK
          rw [List.find?_cons, show (k' == k) = false from beq_eq_false_iff_ne.mpr q]
        rw [this]
        exact ih h2
section
variable {X : Cx}
theorem xd_ix (hu : X.A.units + 1 < cLine) : IxR X (RD2 X.K dIx) := by
  intro value slice pins s σ H x y v u Q I rx ry ⟨F, dx, dy, d, e, r1, r2, hg, q⟩ hs
  cases dx <;> cases dy <;> first | (cases hg; done) | skip
  · rename_i z i
    simp only [dIx] at hg
    split at hg
    · rename_i hl
      split at hg
      · rename_i c hc
        cases hg
        have e1 := r1.str
        refine ix_str value slice pins s σ H x y v u Q I rx ry ⟨toS z, i, c, e1, r2.int, ?_, ?_, ?_⟩ hs
        · rw [toS_len]; exact Nat.le_trans hl lim_line
        · exact hc
        · exact q.here e (.str [c])
      · cases hg
    · cases hg
  · rename_i xs i
    simp only [dIx, o2r] at hg
    split at hg
    · rename_i d' hc
      cases hg
      obtain ⟨p, vs, rfl, s1, p1⟩ := r1.lst e
      obtain ⟨w, e1, e2⟩ := p1.atI hc
      exact ix_list value slice pins s σ H _ y v u Q I rx ry ⟨p, vs, i, w, rfl, r2.int, s1, e1, q.here e e2⟩ hs
    · cases hg
  · rename_i xs i
    simp only [dIx, o2r] at hg
    split at hg
    · rename_i d' hc
      cases hg
      obtain ⟨p, vs, rfl, s1, p1⟩ := r1.tup e
      obtain ⟨w, e1, e2⟩ := p1.atI hc
      exact ix_tup value slice pins s σ H _ y v u Q I rx ry ⟨p, vs, i, w, rfl, r2.int, s1, e1, q.here e e2⟩ hs
    · cases hg
  · rename_i es k
    simp only [dIx, o2r] at hg
    split at hg
    · rename_i d' hc
      cases hg
      obtain ⟨p, kvs, rfl, s1, p1⟩ := r1.dic e
      rcases p1.look k with ⟨z, _⟩ | ⟨d2, w, z, e1, e2⟩
      · rw [hc] at z; cases z
      · rw [hc] at z; cases z
        cases rx
        have g : DGet H p y (some w) := .inl ⟨kvs, .inr (toS k), s1, r2.str, e1.symm⟩
        exact tail_any (dict_typeIs I g) PySem.F.slot_dict_getitem.lookup (d_getItem hu I g ry fun w' s3 I3 rw' => ⟨w, H, I3, rw', q.here e e2⟩) hs
    · cases hg
end
theorem ne_ix : ∀ x y c, dIx x y ≠ .ex c := fun x y c => by
  cases x <;> cases y <;> simp only [dIx, o2r] <;> first | (intro h; cases h; done) | (split <;> first | (intro h; cases h; done) | (split <;> intro h <;> cases h))
/-! ### slices -/
def cutL {α : Type} (xs : List α) (lo hi : Option Int) : List α := (xs.drop (HT.sIx xs.length 0 lo)).take (HT.sIx xs.length xs.length hi - HT.sIx xs.length 0 lo)
theorem Reps.cut {K : PySem.W.Frag} {F : Hp} {ds : List D} {vs : List V} (h : Reps K F ds vs) (lo hi : Option Int) : Reps K F (cutL ds lo hi) (cutV vs lo hi) := by
  unfold cutL cutV
  rw [← h.length]
  exact (h.drop _).take _
def dSl : D → Option Int → Option Int → R D
  | .lst xs, lo, hi => .ok (.lst (cutL xs lo hi))
  | .tup xs, lo, hi => .ok (.tup (cutL xs lo hi))
  | .str s, lo, hi => if s.length ≤ lim then .ok (.str (cutL s lo hi)) else .no
  | _, _, _ => .no
theorem ne_sl : ∀ x lo hi c, dSl x lo hi ≠ .ex c := fun x lo hi c => by
  cases x <;> simp only [dSl] <;> first | (intro h; cases h; done) | (split <;> intro h <;> cases h)
def RSl (K : PySem.W.Frag) : V → Option Int → Option Int → Hp → VK → Prop := fun x lo hi H Q => ∃ F dx d, Emb F H ∧ Rep1 K F H dx x ∧ dSl dx lo hi = .ok d ∧ PV K F H d Q
theorem toS_cut (z : Tx) (lo hi : Option Int) : cutS (toS z) lo hi = toS (cutL z lo hi) := by
  unfold cutS cutL
  rw [toS_len]
theorem cut_whole {α : Type} {xs : List α} {lo hi : Option Int} (h : HT.sIx xs.length 0 lo = 0 ∧ HT.sIx xs.length xs.length hi = xs.length) : cutL xs lo hi = xs := by
  unfold cutL
  rw [h.1, h.2]
  simp
theorem sd_sl {X : Cx} : SlR X (RSl X.K) := by
  intro pins s σ H x v vl vu lo hi sl Q I rx hs pl pu ⟨F, dx, d, e, r1, hg, q⟩
  cases dx <;> first | (cases hg; done) | skip
  · rename_i z
    simp only [dSl] at hg
    split at hg
    · rename_i hl
      cases hg
      refine sl_str pins s σ H x v vl vu lo hi sl Q I rx hs pl pu ⟨toS z, r1.str, ?_, ?_⟩
      · rw [toS_len]; exact Nat.le_trans hl lim_line
      · rw [toS_cut]; exact q.here e (.str _)
    · cases hg
  · rename_i xs
    cases hg
    obtain ⟨p, vs, rfl, s1, p1⟩ := r1.lst e
    exact sl_list pins s σ H _ v vl vu lo hi sl Q I rx hs pl pu ⟨p, vs, rfl, s1, fun a ha => q.newL e (p1.cut lo hi) a ha⟩
  · rename_i xs
    cases hg
    have r1' := r1
    obtain ⟨p, vs, rfl, s1, p1⟩ := r1.tup e
    refine sl_tupA pins s σ H _ v vl vu lo hi sl Q I rx hs pl pu ⟨p, vs, rfl, s1, fun h => ?_, fun _ a ha => q.newT e (p1.cut lo hi) a ha⟩
    rw [← p1.length] at h
    rw [cut_whole h] at q
    rcases r1' with r1' | ⟨_, _, o⟩
    · exact q.here e r1'
    · exact o.elim
def bSl (fa : Ga → R D) (fl fh : Ga → R (Option Int)) : Ga → R D := fun γ => (fa γ).bind fun x => (fl γ).bind fun l => (fh γ).bind fun h => dSl x l h
def pNo : Ga → R (Option Int) := fun _ => .ok none
def toI : D → R (Option Int)
  | .int i => .ok (some i)
  | _ => .no
def pSo (fa : Ga → R D) : Ga → R (Option Int) := fun γ => (fa γ).bind toI
def rdO (K : PySem.W.Frag) (W : WN) (f : Ga → R (Option Int)) : TO := fun σ H Q => ∃ F γ, RS K F γ σ H ∧ (match f γ with
  | .ok o => ∀ F' H', Nxt F H F' H' → Q o H'
  | .ex c => ∀ F' H', Nxt F H F' H' → W c σ H'
  | .no => False)
structure JO (X : Cx) (W : WN) (f : Ga → R (Option Int)) (e : Option Expr) : Prop where
  po : PO X e (rdO X.K W f)
theorem PO.imp {X : Cx} {e : Option Expr} {t t' : TO} (h : PO X e t) (i : ∀ σ H Q, t' σ H Q → t σ H Q) : PO X e t' := ⟨fun pins s σ H Q I q => h.run pins s σ H Q I (i σ H Q q)⟩
section
variable {X : Cx} {W : WN} {f fa fb fc : Ga → R D} {a b c e : Expr} {pos p2 p : Pos} {lo hi : Option Expr} {fl fh : Ga → R (Option Int)} {es : List Expr} {fs : Ga → R (List D)}
theorem j_ix (hu : X.A.units + 1 < cLine) (ha : JR X W fa a) (hb : JR X W fb b) (hs : PlainIx b := by exact fun _ _ => rfl) : J X W (b2 dIx fa fb) (.Subscript a b pos) :=
  ⟨PE.imp (pe_ix (xd_ix hu) ha.pe hb.pe hs) fun σ H Q ⟨F, γ, r, o⟩ => tOp_of ne_ix r o⟩
theorem jo_none : JO X W pNo none := ⟨PO.imp po_none fun σ H Q ⟨F, γ, r, o⟩ => o F H (.refl r.emb)⟩
theorem jo_some (ha : JR X W fa a) : JO X W (pSo fa) (some a) := ⟨PO.imp (po_some ha.pe) fun σ H Q ⟨F, γ, r, o⟩ => by
  refine ⟨F, γ, r, ?_⟩
  unfold pSo at o
  cases e1 : fa γ with
  | ok d =>
    simp only [e1, R.bind] at o
    cases d <;> first | exact o.elim | skip
    exact fun v F' H' n p => ⟨_, p.int, o F' H' n⟩
  | ex c => simp only [e1, R.bind] at o; exact o
  | no => simp only [e1, R.bind] at o⟩
theorem j_slice (ha : JR X W fa a) (hl : JO X W fl lo) (hh : JO X W fh hi) : J X W (bSl fa fl fh) (.Subscript a (.Slice lo hi none p2) pos) := ⟨PE.imp (pe_slice sd_sl ha.pe hl.po hh.po) fun σ H Q ⟨F, γ, r, o⟩ => by
  refine go1 (Z := fun z => Out (PV X.K F H) F H (fun c H' => W c σ H') z Q) r o (fun _ z => z) (fun z => z) fun dx x F1 H1 n1 r1 p1 o1 => ?_
  refine ⟨F1, γ, r1, ?_⟩
  cases e1 : fl γ with
  | ok l =>
    simp only [e1, R.bind] at o1
    intro F2 H2 n2
    refine ⟨F2, γ, r1.next n2, ?_⟩
    cases e2 : fh γ with
    | ok h =>
      simp only [e2, R.bind] at o1
      intro F3 H3 n3
      cases e3 : dSl dx l h with
      | ok d => rw [e3] at o1; exact ⟨F3, dx, d, n3.emb, (p1.next n2).next n3, e3, PV.next (Q := Q) o1 ((n1.trans n2).trans n3)⟩
      | ex c => exact absurd e3 (ne_sl _ _ _ _)
      | no => rw [e3] at o1; exact o1.elim
    | ex c => simp only [e2, R.bind] at o1; exact fun F' H' m => o1 F' H' ((n1.trans n2).trans m)
    | no => simp only [e2, R.bind] at o1; exact o1
  | ex c => simp only [e1, R.bind] at o1; exact fun F' H' m => o1 F' H' (n1.trans m)
  | no => simp only [e1, R.bind] at o1; exact o1⟩
/-! ### builtins by name -/
def RDc (K : PySem.W.Frag) (g : List D → R D) : List V → Hp → VK → Prop := fun xs H Q => ∃ F ds d, Emb F H ∧ Reps1 K F H ds xs ∧ g ds = .ok d ∧ PV K F H d Q
def RDf (K : PySem.W.Frag) (g : List D → R D) : List V → Hp → VK → Prop := fun xs H Q => ∃ F ds d, Emb F H ∧ Reps1 K F H ds xs ∧ g ds = .ok d ∧ PF K F H d Q
structure CalD (X : Cx) (f : Value) (g : List D → R D) : Prop where
  run : CallR X f (RDc X.K g)
  ne : ∀ x c, g x ≠ .ex c
structure CalF (X : Cx) (f : Value) (g : List D → R D) : Prop where
  run : CallR X f (RDf X.K g)
  ne : ∀ x c, g x ≠ .ex c
theorem tCB_of {K : PySem.W.Frag} {g : List D → R D} {σ : L2.St} {H F : Hp} {γ : Ga} {Q : VK} (ne : ∀ x c, g x ≠ .ex c) (r : RS K F γ σ H) (o : Out (PV K F H) F H (fun c H' => W c σ H') (bN g fs γ) Q) :
    rdA1 K W fs σ H fun vs H1 => RDc K g vs H1 Q := by
  refine ⟨F, γ, r, ?_⟩
  unfold bN at o
  cases e1 : fs γ with
  | ok ds =>
    simp only [e1, R.bind] at o
    intro vs F' H' n p
    cases e2 : g ds with
    | ok d => rw [e2] at o; exact ⟨F', ds, d, n.emb, p, e2, PV.next (Q := Q) o n⟩
    | ex c => exact absurd e2 (ne _ _)
    | no => rw [e2] at o; exact o.elim
  | ex c => simp only [e1, R.bind] at o; exact o
  | no => simp only [e1, R.bind] at o; exact o
theorem tCF_of {K : PySem.W.Frag} {g : List D → R D} {σ : L2.St} {H F : Hp} {γ : Ga} {Q : VK} (ne : ∀ x c, g x ≠ .ex c) (r : RS K F γ σ H) (o : Out (PF K F H) F H (fun c H' => W c σ H') (bN g fs γ) Q) :
    rdA1 K W fs σ H fun vs H1 => RDf K g vs H1 Q := by
  refine ⟨F, γ, r, ?_⟩
  unfold bN at o
  cases e1 : fs γ with
  | ok ds =>
    simp only [e1, R.bind] at o
    intro vs F' H' n p
    cases e2 : g ds with
    | ok d => rw [e2] at o; exact ⟨F', ds, d, n.emb, p, e2, PF.next (Q := Q) o n⟩
    | ex c => exact absurd e2 (ne _ _)
    | no => rw [e2] at o; exact o.elim
  | ex c => simp only [e1, R.bind] at o; exact o
  | no => simp only [e1, R.bind] at o; exact o
theorem j_b {id : String} {x : Str} {g : List D → R D} (hc : CalD X (.builtin id) g) (hm : X.mg x = none) (hv : bootBuiltins x = some (.builtin id)) (ha : JA1 X W fs (e :: es)) (hg : Gl X x := by rfl) (hn : x ≠ "__name__" := by decide) (hdb : (x == ("__debug__" : Str)) = false := by decide)
    (he : starEach (e :: es) X.env = (false, eval e X.env) :: starEach es X.env := by rfl) (hpl : (backTo pos (starEach es X.env)).any (·.1) = false := by rfl) : J X W (bN g fs) (.Call (.Name x p) (e :: es) [] pos) :=
  ⟨PE.imp (pe_callB hc.run hg hm hv ha.pa hn hdb he hpl) fun σ H Q ⟨F, γ, r, o⟩ => tCB_of hc.ne r o⟩
theorem j_ty {id : String} {x : Str} {g : List D → R D} (hc : CalD X (.type id) g) (hm : X.mg x = none) (hv : bootBuiltins x = some (.type id)) (ha : JA1 X W fs (e :: es)) (hg : Gl X x := by rfl) (hn : x ≠ "__name__" := by decide) (hdb : (x == ("__debug__" : Str)) = false := by decide)
    (he : starEach (e :: es) X.env = (false, eval e X.env) :: starEach es X.env := by rfl) (hpl : (backTo pos (starEach es X.env)).any (·.1) = false := by rfl) : J X W (bN g fs) (.Call (.Name x p) (e :: es) [] pos) :=
  ⟨PE.imp (pe_callTy hc.run hg hm hv ha.pa hn hdb he hpl) fun σ H Q ⟨F, γ, r, o⟩ => tCB_of hc.ne r o⟩
theorem jf_ty {id : String} {x : Str} {g : List D → R D} (hc : CalF X (.type id) g) (hm : X.mg x = none) (hv : bootBuiltins x = some (.type id)) (ha : JA1 X W fs (e :: es)) (hg : Gl X x := by rfl) (hn : x ≠ "__name__" := by decide) (hdb : (x == ("__debug__" : Str)) = false := by decide)
    (he : starEach (e :: es) X.env = (false, eval e X.env) :: starEach es X.env := by rfl) (hpl : (backTo pos (starEach es X.env)).any (·.1) = false := by rfl) : JF X W (bN g fs) (.Call (.Name x p) (e :: es) [] pos) :=
  ⟨PE.imp (pe_callTy hc.run hg hm hv ha.pa hn hdb he hpl) fun σ H Q ⟨F, γ, r, o⟩ => tCF_of hc.ne r o⟩
end
/-! ### the builtins -/
section
variable {X : Cx}
theorem Reps1.inv1 {K : PySem.W.Frag} {F H : Hp} {d : D} {xs : List V} (h : Reps1 K F H [d] xs) : ∃ x, xs = [x] ∧ Rep1 K F H d x := by
  cases h with | cons h1 h2 => cases h2; exact ⟨_, rfl, h1⟩
theorem Reps1.inv2 {K : PySem.W.Frag} {F H : Hp} {d e : D} {xs : List V} (h : Reps1 K F H [d, e] xs) : ∃ x y, xs = [x, y] ∧ Rep1 K F H d x ∧ Rep1 K F H e y := by
  cases h with | cons h1 h2 => obtain ⟨y, rfl, h3⟩ := h2.inv1; exact ⟨_, _, rfl, h1, h3⟩
def dLen : List D → R D
  | [.str s] => if s.length ≤ lim then .ok (.int s.length) else .no
  | [.lst xs] => .ok (.int xs.length)
  | [.tup xs] => .ok (.int xs.length)
  | [.dic es] => .ok (.int es.length)
  | _ => .no
theorem c_len : CalD X (.builtin "len") dLen := by
  refine ⟨fun pins s σ H xs us Q I rv ⟨F, ds, d, e, r, hg, q⟩ => ?_, fun x c => ?_⟩
  · match ds, hg with
    | [.str z], hg =>
      simp only [dLen] at hg
      split at hg
      · rename_i hl
        cases hg
        obtain ⟨x, rfl, r1⟩ := r.inv1
        have e1 := r1.str
        subst e1
        refine call_len pins s σ H _ us Q I rv ⟨.str (toS z), z.length, rfl, ⟨?_, (toS_len z).symm⟩, q.here e (.int _)⟩
        rw [toS_len]; exact Nat.le_trans hl lim_line
      · cases hg
    | [.lst ys], hg =>
      cases hg
      obtain ⟨x, rfl, r1⟩ := r.inv1
      obtain ⟨a, vs, rfl, s1, p1⟩ := r1.lst e
      exact call_len pins s σ H _ us Q I rv ⟨.ref a, ys.length, rfl, .inl ⟨vs, s1, p1.length⟩, q.here e (.int _)⟩
    | [.tup ys], hg =>
      cases hg
      obtain ⟨x, rfl, r1⟩ := r.inv1
      obtain ⟨a, vs, rfl, s1, p1⟩ := r1.tup e
      exact call_len pins s σ H _ us Q I rv ⟨.ref a, ys.length, rfl, .inr ⟨vs, s1, p1.length⟩, q.here e (.int _)⟩
    | [.dic ys], hg =>
      cases hg
      obtain ⟨x, rfl, r1⟩ := r.inv1
      obtain ⟨a, kvs, rfl, s1, p1⟩ := r1.dic e
      obtain ⟨u, rfl, ru⟩ := vals1 rv
      cases ru
      refine d_len I s1 fun t s' I' => ⟨.int kvs.length, H, I', ⟨t, rfl⟩, ?_⟩
      rw [← p1.length]
      exact q.here e (.int _)
  · intro h
    unfold dLen at h
    split at h <;> try split at h
    all_goals cases h
def dMax : List D → R D
  | [.int i, .int j] => .ok (.int (max i j))
  | _ => .no
theorem c_max (hc : X.calm = true) : CalD X (.builtin "max") dMax := by
  refine ⟨fun pins s σ H xs us Q I rv ⟨F, ds, d, e, r, hg, q⟩ => ?_, fun x c => ?_⟩
  · match ds, hg with
    | [.int i, .int j], hg =>
      cases hg
      obtain ⟨x, y, rfl, r1, r2⟩ := r.inv2
      have e1 := r1.int
      have e2 := r2.int
      subst e1 e2
      refine call_max2 hc pins s σ H _ us Q I rv ⟨i, j, rfl, ?_⟩
      have : (if j > i then j else i) = max i j := by split <;> omega
      rw [this]
      exact q.here e (.int _)
  · intro h
    unfold dMax at h
    split at h <;> cases h
def dList : List D → R D
  | [.lst xs] => .ok (.lst xs)
  | [.tup xs] => .ok (.lst xs)
  | _ => .no
theorem PF.newL {K : PySem.W.Frag} {F H : Hp} {ds : List D} {vs : List V} {Q : VK} (q : PF K F H (.lst ds) Q) (e : Emb F H) (r : Reps K F ds vs) (p : Addr) (hp : H p = none) : Q (.ref p) (upd H p (.lst vs)) :=
  q p F _ (.laid e hp _) hp (e.free hp) ⟨vs, upd_same, r⟩
theorem c_list : CalF X (.type "list") dList := by
  refine ⟨fun pins s σ H xs us Q I rv ⟨F, ds, d, e, r, hg, q⟩ => ?_, fun x c => ?_⟩
  · match ds, hg with
    | [.lst ys], hg =>
      cases hg
      obtain ⟨x, rfl, r1⟩ := r.inv1
      obtain ⟨a, vs, rfl, s1, p1⟩ := r1.lst e
      exact call_list_of pins s σ H _ us Q I rv ⟨a, vs, rfl, .inl s1, fun l hl => q.newL e p1 l hl⟩
    | [.tup ys], hg =>
      cases hg
      obtain ⟨x, rfl, r1⟩ := r.inv1
      obtain ⟨a, vs, rfl, s1, p1⟩ := r1.tup e
      exact call_list_of pins s σ H _ us Q I rv ⟨a, vs, rfl, .inr s1, fun l hl => q.newL e p1 l hl⟩
  · intro h
    unfold dList at h
    split at h <;> cases h
def dTuple : List D → R D
  | [.lst xs] => .ok (.tup xs)
  | [.tup xs] => .ok (.tup xs)
  | _ => .no
theorem c_tuple : CalD X (.type "tuple") dTuple := by
  refine ⟨fun pins s σ H xs us Q I rv ⟨F, ds, d, e, r, hg, q⟩ => ?_, fun x c => ?_⟩
  · match ds, hg with
    | [.lst ys], hg =>
      cases hg
      obtain ⟨x, rfl, r1⟩ := r.inv1
      obtain ⟨a, vs, rfl, s1, p1⟩ := r1.lst e
      exact call_tuple_of pins s σ H _ us Q I rv ⟨a, vs, rfl, .inl ⟨s1, fun l hl => q.newT e p1 l hl⟩⟩
    | [.tup ys], hg =>
      cases hg
      obtain ⟨x, rfl, r1⟩ := r.inv1
      have r1' := r1
      obtain ⟨a, vs, rfl, s1, p1⟩ := r1.tup e
      refine call_tuple_of pins s σ H _ us Q I rv ⟨a, vs, rfl, .inr ⟨s1, ?_⟩⟩
      rcases r1' with r1' | ⟨_, _, o⟩
      · exact q.here e r1'
      · exact o.elim
  · intro h
    unfold dTuple at h
    split at h <;> cases h
/-- ints, truths, texts all the way -/
def asInts : List D → Option (List Int)
  | [] => some []
  | .int i :: xs => (asInts xs).map (i :: ·)
  | _ :: _ => none
def asBls : List D → Option (List Bool)
  | [] => some []
  | .bl i :: xs => (asBls xs).map (i :: ·)
  | _ :: _ => none
def asTxs : List D → Option (List Tx)
  | [] => some []
  | .str i :: xs => (asTxs xs).map (i :: ·)
  | _ :: _ => none
theorem asInts_of {xs : List D} {ns : List Int} (h : asInts xs = some ns) : xs = ns.map D.int := by
  induction xs generalizing ns with
  | nil => cases h; rfl
  | cons x xs ih =>
    cases x <;> simp only [asInts] at h <;> first | (cases h; done) | skip
    cases e : asInts xs with
    | none => rw [e] at h; cases h
    | some ms => rw [e] at h; cases h; rw [ih e]; rfl
theorem asBls_of {xs : List D} {ns : List Bool} (h : asBls xs = some ns) : xs = ns.map D.bl := by
  induction xs generalizing ns with
  | nil => cases h; rfl
  | cons x xs ih =>
    cases x <;> simp only [asBls] at h <;> first | (cases h; done) | skip
    cases e : asBls xs with
    | none => rw [e] at h; cases h
    | some ms => rw [e] at h; cases h; rw [ih e]; rfl
theorem asTxs_of {xs : List D} {ns : List Tx} (h : asTxs xs = some ns) : xs = ns.map D.str := by
  induction xs generalizing ns with
  | nil => cases h; rfl
  | cons x xs ih =>
    cases x <;> simp only [asTxs] at h <;> first | (cases h; done) | skip
    cases e : asTxs xs with
    | none => rw [e] at h; cases h
    | some ms => rw [e] at h; cases h; rw [ih e]; rfl
@[simp] theorem asInts_map (ns : List Int) : asInts (ns.map D.int) = some ns := by
  induction ns with
  | nil => rfl
  | cons n ns ih => simp [asInts, ih]
@[simp] theorem asBls_map (ns : List Bool) : asBls (ns.map D.bl) = some ns := by
  induction ns with
  | nil => rfl
  | cons n ns ih => simp [asBls, ih]
@[simp] theorem asTxs_map (ns : List Tx) : asTxs (ns.map D.str) = some ns := by
  induction ns with
  | nil => rfl
  | cons n ns ih => simp [asTxs, ih]
theorem Reps.ints {K : PySem.W.Frag} {F : Hp} {ns : List Int} {vs : List V} (h : Reps K F (ns.map D.int) vs) : vs = ns.map V.int := by
  induction ns generalizing vs with
  | nil => cases h; rfl
  | cons n ns ih => cases h with | cons h1 h2 => cases h1; rw [ih h2]; rfl
theorem Reps.bls {K : PySem.W.Frag} {F : Hp} {ns : List Bool} {vs : List V} (h : Reps K F (ns.map D.bl) vs) : vs = ns.map V.bl := by
  induction ns generalizing vs with
  | nil => cases h; rfl
  | cons n ns ih => cases h with | cons h1 h2 => cases h1; rw [ih h2]; rfl
theorem Reps.txs {K : PySem.W.Frag} {F : Hp} {ns : List Tx} {vs : List V} (h : Reps K F (ns.map D.str) vs) : vs = (ns.map toS).map V.str := by
  induction ns generalizing vs with
  | nil => cases h; rfl
  | cons n ns ih => cases h with | cons h1 h2 => cases h1; rw [ih h2]; rfl
theorem reps_ints {K : PySem.W.Frag} {F : Hp} (ns : List Int) : Reps K F (ns.map D.int) (ns.map V.int) := by
  induction ns with
  | nil => exact .nil
  | cons n ns ih => exact .cons (.int n) ih
theorem reps_txs {K : PySem.W.Frag} {F : Hp} (ns : List Tx) : Reps K F (ns.map D.str) ((ns.map toS).map V.str) := by
  induction ns with
  | nil => exact .nil
  | cons n ns ih => exact .cons (.str n) ih
def dAll : List D → R D
  | [.lst xs] => (o2r (asBls xs)).bind fun ns => .ok (.bl (ns.all id))
  | _ => .no
theorem c_all (hc : X.calm = true) : CalD X (.builtin "all") dAll := by
  refine ⟨fun pins s σ H xs us Q I rv ⟨F, ds, d, e, r, hg, q⟩ => ?_, fun x c => ?_⟩
  · match ds, hg with
    | [.lst ys], hg =>
      simp only [dAll, o2r] at hg
      split at hg
      · rename_i ns hn
        cases hg
        have := asBls_of hn
        subst this
        obtain ⟨x, rfl, r1⟩ := r.inv1
        obtain ⟨a, vs, rfl, s1, p1⟩ := r1.lst e
        rw [p1.bls] at s1
        exact cr_all hc pins s σ H _ us Q I rv ⟨a, ns, rfl, s1, q.here e (.bl _)⟩
      · cases hg
  · intro h
    unfold dAll at h
    split at h
    · simp only [o2r] at h; split at h <;> cases h
    · cases h
/-! ### sorted -/
def leT (a b : Tx) : Bool := !decide (b < a)
def sortT (l : List Tx) : List Tx := l.mergeSort leT
def sortI (l : List Int) : List Int := l.mergeSort fun a b => decide (a ≤ b)
theorem tx_lt_trans {a b c : Tx} (h : a < b) (k : b < c) : a < c := List.lt_trans h k
theorem leT_total (a b : Tx) : (leT a b || leT b a) = true := by
  unfold leT
  rcases Decidable.em (b < a) with h | h
  · have : ¬ a < b := List.lt_asymm h
    simp [this]
  · simp [h]
theorem leT_trans (a b c : Tx) : leT a b = true → leT b c = true → leT a c = true := by
  unfold leT
  simp only [Bool.not_eq_true', decide_eq_false_iff_not, List.not_lt]
  exact fun h k => List.le_trans h k
theorem leT_anti {a b : Tx} (h : leT a b = true) (k : leT b a = true) : a = b := by
  unfold leT at h k
  simp only [Bool.not_eq_true', decide_eq_false_iff_not, List.not_lt] at h k
  exact List.le_antisymm h k
theorem sortT_perm (l : List Tx) : (sortT l).Perm l := List.mergeSort_perm _ _
theorem sortT_pw (l : List Tx) : (sortT l).Pairwise (fun a b => leT a b = true) := List.pairwise_mergeSort leT_trans leT_total l
theorem sortI_perm (l : List Int) : (sortI l).Perm l := List.mergeSort_perm _ _
theorem sortI_pw (l : List Int) : (sortI l).Pairwise (· ≤ ·) := by
  have := List.pairwise_mergeSort (le := fun a b : Int => decide (a ≤ b)) (fun a b c h k => by simp at h k ⊢; omega) (fun a b => by simp; omega) l
  exact this.imp (fun h => of_decide_eq_true h)
theorem sorted_uniq {α : Type} {r : α → α → Prop} (anti : ∀ a b, r a b → r b a → a = b) {l m : List α} (p : l.Perm m) (hl : l.Pairwise r) (hm : m.Pairwise r) : l = m :=
  p.eq_of_pairwise (fun a b _ _ h k => anti a b h k) hl hm
theorem ltCps_iff (a b : Tx) : ltCps a b = decide (a < b) := ltCps_eq a b
theorem sortedS_pw {ys : List Tx} (h : sortedS (ys.map toS) = true) : ys.Pairwise (fun a b => leT a b = true) := by
  have aux : ∀ (r : List Tx) (x : Tx), risingS (toS x) (r.map toS) = true → (x :: r).Pairwise (fun a b => leT a b = true) := by
    intro r
    induction r with
    | nil => intro x _; simp
    | cons y r ih =>
      intro x h
      simp only [List.map_cons, risingS, Bool.and_eq_true] at h
      have h1 : leT x y = true := by
        have := h.1
        rw [ltCps_iff] at this
        exact this
      have h2 := ih y h.2
      refine List.pairwise_cons.mpr ⟨fun z hz => ?_, h2⟩
      rcases List.mem_cons.mp hz with e | hz
      · subst e; exact h1
      · exact leT_trans _ _ _ h1 ((List.pairwise_cons.mp h2).1 z hz)
  cases ys with
  | nil => exact .nil
  | cons x r => exact aux r x h
theorem sortT_of {ys ks : List Tx} (p : ys.Perm ks) (h : sortedS (ys.map toS) = true) : ys = sortT ks :=
  sorted_uniq (fun _ _ => leT_anti) (p.trans (sortT_perm ks).symm) (sortedS_pw h) (sortT_pw ks)
theorem sortI_of {ys ks : List Int} (p : ys.Perm ks) (h : ys.Pairwise (· ≤ ·)) : ys = sortI ks :=
  sorted_uniq (fun a b h k => by omega) (p.trans (sortI_perm ks).symm) h (sortI_pw ks)
section
variable {X : Cx}
theorem PF.newTx {K : PySem.W.Frag} {F H : Hp} {ks : List Tx} {Q : VK} (q : PF K F H (.lst (ks.map D.str)) Q) (e : Emb F H) (p : Addr) (hp : H p = none) : Q (.ref p) (upd H p (.lst ((ks.map toS).map V.str))) :=
  q.newL e (reps_txs ks) p hp
/-- sorted of a dict with text keys, of texts, of ints -/
def dSorted : List D → R D
  | [.dic es] => if es.length < 64 then .ok (.lst ((sortT (es.map (·.1))).map D.str)) else .no
  | [.lst xs] => match asTxs xs with
    | some ks => .ok (.lst ((sortT ks).map D.str))
    | none => match asInts xs with
      | some ns => .ok (.lst ((sortI ns).map D.int))
      | none => .no
  | _ => .no
/-! ### isinstance -/
inductive TK where
  | int | bool | str | tup | lst
def TK.nm : TK → String
  | .int => "int"
  | .bool => "bool"
  | .str => "str"
  | .tup => "tuple"
  | .lst => "list"
def isT : TK → D → Bool
  | .int, .int _ => true
  | .int, .bl _ => true
  | .bool, .bl _ => true
  | .str, .str _ => true
  | .tup, .tup _ => true
  | .lst, .lst _ => true
  | _, _ => false
def tyD : D → String
  | .non => "NoneType"
  | .bl _ => "bool"
  | .int _ => "int"
  | .str _ => "str"
  | .lst _ => "list"
  | .tup _ => "tuple"
  | .dic _ => "dict"
theorem tyX_of {K : PySem.W.Frag} {F H : Hp} (em : Emb F H) {d : D} {v : V} (r : Rep1 K F H d v) : TyX K H v (.type (tyD d)) := by
  cases d with
  | non => cases r.non; exact .base .non
  | bl b => cases r.bl; exact .base (.bl _)
  | int i => cases r.int; exact .base (.int _)
  | str s => cases r.str; exact .base (.str _)
  | lst xs =>
    obtain ⟨a, vs, rfl, s1, _⟩ := r.lst em
    rcases s1 with (h | ⟨o, h⟩) | ⟨o, its, n, h, c, _⟩
    · exact .base (.lst h)
    · exact .base (.frz h)
    · exact .kList h c
  | tup xs =>
    obtain ⟨a, vs, rfl, s1, _⟩ := r.tup em
    rcases s1 with (h | ⟨o, h⟩) | ⟨o, its, n, h, c, _⟩
    · exact .base (.tup h)
    · exact .fTuple h
    · exact .kTuple h c
  | dic xs =>
    obtain ⟨a, vs, rfl, s1, _⟩ := r.dic em
    rcases s1 with h | ⟨o, h⟩
    · exact .base (.dK h)
    · exact .fDict h
def dIsi (T : TK) : D → R D := fun d => .ok (.bl (isT T d))
def kitN : Nat → TK → Bool
  | 1, .int => true
  | 1, .bool => true
  | 2, .int => true
  | 3, .str => true
  | 4, .lst => true
  | 5, .tup => true
  | _, _ => false
theorem kit_tab : ∀ T : TK, kitB "NoneType" T.nm = some false ∧ kitB "dict" T.nm = some false ∧ kitB "bool" T.nm = some (kitN 1 T) ∧ kitB "int" T.nm = some (kitN 2 T) ∧ kitB "str" T.nm = some (kitN 3 T) ∧ kitB "list" T.nm = some (kitN 4 T) ∧ kitB "tuple" T.nm = some (kitN 5 T) := by
  intro T
  cases T <;> decide +kernel
theorem kit_isT (T : TK) (d : D) : kitB (tyD d) T.nm = some (isT T d) := by
  obtain ⟨a, b, c, d1, e, f, g⟩ := kit_tab T
  cases d with
  | non => rw [show tyD .non = "NoneType" from rfl, a]; cases T <;> rfl
  | bl _ => rw [show tyD (.bl _) = "bool" from rfl, c]; cases T <;> rfl
  | int _ => rw [show tyD (.int _) = "int" from rfl, d1]; cases T <;> rfl
  | str _ => rw [show tyD (.str _) = "str" from rfl, e]; cases T <;> rfl
  | lst _ => rw [show tyD (.lst _) = "list" from rfl, f]; cases T <;> rfl
  | tup _ => rw [show tyD (.tup _) = "tuple" from rfl, g]; cases T <;> rfl
  | dic _ => rw [show tyD (.dic _) = "dict" from rfl, b]; cases T <;> rfl
end
section
variable {X : Cx} {W : WN} {f fa fb fc : Ga → R D} {a b c e : Expr} {pos p p2 : Pos}
theorem j_isi (T : TK) {x : Str} (ha : JR X W fa a) (hv : bootBuiltins x = some (.type T.nm)) (hm : X.mg "isinstance" = none) (hm2 : X.mg x = none) (hg : Gl X "isinstance" := by rfl) (hg2 : Gl X x := by rfl)
    (hn : x ≠ "__name__" := by decide) (hdb : (x == ("__debug__" : Str)) = false := by decide) (he : starEach [a, .Name x p2] X.env = (false, eval a X.env) :: starEach [.Name x p2] X.env := by rfl) (he2 : starEach [.Name x p2] X.env = (false, eval (.Name x p2) X.env) :: starEach [] X.env := by rfl)
    (hpl : (backTo pos (starEach [.Name x p2] X.env)).any (·.1) = false := by rfl) : J X W (b1 (dIsi T) fa) (.Call (.Name "isinstance" p) [a, .Name x p2] [] pos) := by
  have h2 : PE X (.Name x p2) (tC (.ty T.nm)) := pe_bltn hg2 hm2 hv rfl hn hdb
  refine ⟨PE.imp (pe_callB call_isi hg hm boot_isinstance (pa_cons ha.pe (pa_cons h2 pa_nil he2) he) (by decide) (by decide) he hpl) fun σ H Q ⟨F, γ, r, o⟩ => ?_⟩
  refine go1 (Z := fun z => Out (PV X.K F H) F H (fun c H' => W c σ H') z Q) r o (fun _ z => z) (fun z => z) fun dx x F1 H1 n1 r1 p1 o1 => ?_
  exact ⟨x, .ty T.nm, .type (tyD dx), .type T.nm, isT T dx, rfl, .ty T.nm, tyX_of r1.emb p1, kit_ty (kit_isT T dx), PV.here (PV.next (Q := Q) o1 n1) r1.emb (.bl _)⟩
end
/-! ### calls of defs -/
/-- a class's number as a value -/
abbrev Cl := Nat → Value
def VW (cl : Cl) (W : WN) : WX := fun cls d σ H => ∃ c, cls = cl c ∧ d = none ∧ W c σ H
def spD (K : PySem.W.Frag) (cl : Cl) (n : Nat) (g : List D → R D) : Sp := fun vs H Q E => ∃ F ds, vs.length = n ∧ Emb F H ∧ Reps K F ds vs ∧ Out (PV K F H) F H (fun c H' => E (cl c) none H') (g ds) Q
section
variable {X : Cx} {W : WN} {cl : Cl} {fs : Ga → R (List D)} {k n : Nat} {f : Addr} {fd : FuncData} {ps : List Str} {g : List D → R D} {x : Str} {e : Expr} {es : List Expr} {p pos : Pos}
def bCall (g : List D → R D) (fs : Ga → R (List D)) : Ga → R D := fun γ => (fs γ).bind g
theorem tCall_of {K : PySem.W.Frag} {σ : L2.St} {H F : Hp} {γ : Ga} {Q : VK} (hn : ∀ γ ds, fs γ = .ok ds → ds.length = n) (r : RS K F γ σ H) (o : Out (PV K F H) F H (fun c H' => W c σ H') (bCall g fs γ) Q) :
    rdA K W fs σ H fun vs H1 => spD K cl n g vs H1 Q (WE (VW cl W) σ) := by
  refine ⟨F, γ, r, ?_⟩
  unfold bCall at o
  cases e1 : fs γ with
  | ok ds =>
    simp only [e1, R.bind] at o
    intro vs F' H' m q
    refine ⟨F', ds, ?_, m.emb, q, ?_⟩
    · rw [← q.length]; exact hn γ ds e1
    · cases e2 : g ds with
      | ok d => rw [e2] at o; exact PV.next (Q := Q) o m
      | ex c => rw [e2] at o; exact fun F2 H2 m2 => ⟨c, rfl, rfl, o F2 H2 (m.trans m2)⟩
      | no => rw [e2] at o; exact o
  | ex c => simp only [e1, R.bind] at o; exact o
  | no => simp only [e1, R.bind] at o; exact o
theorem bNil_len : ∀ γ ds, bNil γ = .ok ds → ds.length = 0 := fun γ ds h => by cases h; rfl
theorem bCons_len {fa : Ga → R D} {n : Nat} (h : ∀ γ ds, fs γ = .ok ds → ds.length = n) : ∀ γ ds, bCons fa fs γ = .ok ds → ds.length = n + 1 := fun γ ds e => by
  unfold bCons at e
  cases e1 : fa γ <;> simp only [e1, R.bind] at e
  · cases e2 : fs γ <;> simp only [e2] at e
    · cases e; simp [h γ _ e2]
    · cases e
    · cases e
  · cases e
  · cases e
theorem j_call (F : FnOk X.prog X.w X.K X.mg X.base (L2.CX X.prog X.w) k f fd ps (spD X.K cl n g)) (hr : Room k X.A) (hm : X.mg x = some (.ref f)) (hk : PySem.W.keepIn X.K (.ref f) = true) (hb : Binds X.K fd ps []) (tk : Takes X (VW cl W))
    (ha : JA X W fs (e :: es)) (hn : ∀ γ ds, fs γ = .ok ds → ds.length = n) (hg : Gl X x := by rfl) (hdb : (x == ("__debug__" : Str)) = false := by decide) (he : starEach (e :: es) X.env = (false, eval e X.env) :: starEach es X.env := by rfl) (hpl : (backTo pos (starEach es X.env)).any (·.1) = false := by rfl) :
    J X W (bCall g fs) (.Call (.Name x p) (e :: es) [] pos) :=
  ⟨PE.imp (pe_callS F hr hg hm hk hb (fun σ => passAt tk σ) ha.pa hdb he hpl) fun σ H Q ⟨F, γ, r, o⟩ => tCall_of hn r o⟩
end
end
end KN
/-! KnE: statements, loops, defs -/
namespace KN
open PySem PySem.Spec PyProof.Rows L2
/-! ### the base of a def's run: what stood at its entry; what is locked -/
structure Bs where
  F0 : Hp
  H0 : Hp
  S : List (Addr × HO)
structure Fin (B : Bs) (F H : Hp) : Prop where
  f0 : Same B.F0 F
  fn : ∀ a o, F a = some o → B.F0 a = some o ∨ B.H0 a = none
  emb : Emb F H
  h0 : ∀ b o, B.H0 b = some o → H b = some o ∨ ∃ ob kvs, o = .dK kvs ∧ (b, HO.frz ob (.dK kvs)) ∈ B.S
  sS : ∀ p ∈ B.S, H p.1 = some p.2 ∧ ∃ ob kvs, p.2 = .frz ob (.dK kvs) ∧ F p.1 = some (.dK kvs)
theorem Fin.free {B : Bs} {F H : Hp} (f : Fin B F H) {a : Addr} (h : H a = none) : B.H0 a = none := by
  cases q : B.H0 a with
  | none => rfl
  | some u =>
    rcases f.h0 a u q with y | ⟨ob, kvs, e, y⟩
    · rw [h] at y; cases y
    · have := (f.sS _ y).1; rw [h] at this; cases this
theorem Fin.next {B : Bs} {F H F' H' : Hp} (f : Fin B F H) (n : Nxt F H F' H') : Fin B F' H' := by
  refine ⟨f.f0.trans n.f, fun a o h => ?_, n.emb, fun b o h => ?_, fun p hp => ?_⟩
  · rcases n.fn a o h with z | z
    · exact f.fn a o z
    · exact .inr (f.free z)
  · rcases f.h0 b o h with y | y
    · exact .inl (n.h _ _ y)
    · exact .inr y
  · obtain ⟨h1, ob, u, h2, h3⟩ := f.sS p hp
    exact ⟨n.h _ _ h1, ob, u, h2, n.f _ _ h3⟩
theorem Fin.start {F H : Hp} (e : Emb F H) : Fin ⟨F, H, []⟩ F H := ⟨.refl _, fun _ _ h => .inl h, e, fun _ _ h => .inl h, fun _ h => nomatch h⟩
theorem Fin.nxt {F0 H0 F H : Hp} (f : Fin ⟨F0, H0, []⟩ F H) : Nxt F0 H0 F H := ⟨f.f0, f.fn, f.emb, fun b o h => by
  rcases f.h0 b o h with y | ⟨_, _, _, y⟩
  · exact y
  · cases y⟩
structure RB (K : PySem.W.Frag) (B : Bs) (F : Hp) (γ : Ga) (σ : L2.St) (H : Hp) : Prop where
  rs : RS K F γ σ H
  fi : Fin B F H
  ow : ∀ (i : Nat) (s : Sl) (b : Addr), γ[i]? = some s → Inn H s σ[i]? b → B.H0 b = none
theorem RB.next {K : PySem.W.Frag} {B : Bs} {F H F' H' : Hp} {γ : Ga} {σ : L2.St} (r : RB K B F γ σ H) (n : Nxt F H F' H') : RB K B F' γ σ H' := ⟨r.rs.next n, r.fi.next n, fun i s b e h => r.ow i s b e (h.back (r.rs.sl i s e) fun b u _ z => n.h _ _ z)⟩
inductive Fl where
  | nx (γ : Ga) | rt (d : D) | bk (γ : Ga) | ct (γ : Ga)
def OutS (K : PySem.W.Frag) (W : WN) (B : Bs) (r : R Fl) (E : Ends) : Prop := match r with
  | .ok (.nx γ) => ∀ F σ H, RB K B F γ σ H → E.nx σ H
  | .ok (.bk γ) => ∀ F σ H, RB K B F γ σ H → E.bk σ H
  | .ok (.ct γ) => ∀ F σ H, RB K B F γ σ H → E.ct σ H
  | .ok (.rt d) => ∀ v F H, Fin B F H → Rep K F d v → E.rt v H
  | .ex c => ∀ σ F H, Fin B F H → W c σ H
  | .no => False
def rdS (K : PySem.W.Frag) (W : WN) (f : Ga → R Fl) : TS := fun E σ H => ∃ B F γ, RB K B F γ σ H ∧ OutS K W B (f γ) E
structure JS (X : Cx) (W : WN) (f : Ga → R Fl) (s : Stmt) : Prop where
  ps : PS X s (rdS X.K W f)
structure JSs (X : Cx) (W : WN) (f : Ga → R Fl) (s : List Stmt) : Prop where
  pss : PSs X s (rdS X.K W f)
theorem PS.imp {X : Cx} {e : Stmt} {t t' : TS} (h : PS X e t) (i : ∀ E σ H, t' E σ H → t E σ H) : PS X e t' := ⟨fun pins s σ H E I q => h.run pins s σ H E I (i E σ H q)⟩
theorem PSs.imp {X : Cx} {e : List Stmt} {t t' : TS} (h : PSs X e t) (i : ∀ E σ H, t' E σ H → t E σ H) : PSs X e t' := ⟨fun pins s σ H E I q => h.run pins s σ H E I (i E σ H q)⟩
/-! ### slots stored -/
theorem get_set {α : Type} {γ : List α} {i j : Nat} {s0 s : α} (e : (γ.set i s0)[j]? = some s) : (j = i ∧ s = s0 ∧ i < γ.length) ∨ (j ≠ i ∧ γ[j]? = some s) := by
  by_cases q : j = i
  · subst q
    by_cases l : j < γ.length
    · rw [List.getElem?_set_self l] at e; cases e; exact .inl ⟨rfl, rfl, l⟩
    · rw [List.getElem?_eq_none (by simpa using l)] at e; cases e
  · rw [List.getElem?_set_ne (Ne.symm q)] at e; exact .inr ⟨q, e⟩
theorem RS.put {K : PySem.W.Frag} {F H : Hp} {γ : Ga} {σ : L2.St} (r : RS K F γ σ H) (i : Nat) {s0 : Sl} {x0 : Option V} (k : SlOk K F H s0 (some x0))
    (ap : ∀ j s b, j ≠ i → γ[j]? = some s → Inn H s σ[j]? b → Inn H s0 (some x0) b → False) : RS K F (γ.set i s0) (σ.set i x0) H := by
  refine ⟨r.emb, by simp [r.len], fun j s e => ?_, fun j k s1 s2 b e1 e2 h1 h2 => ?_⟩
  · rcases get_set e with ⟨rfl, rfl, l⟩ | ⟨n, e⟩
    · rw [List.getElem?_set_self (r.len ▸ l)]; exact k
    · rw [List.getElem?_set_ne (Ne.symm n)]; exact r.sl j s e
  · rcases get_set e1 with ⟨rfl, rfl, l⟩ | ⟨n1, y1⟩ <;> rcases get_set e2 with ⟨rfl, rfl, l2⟩ | ⟨n2, y2⟩
    · rfl
    · rw [List.getElem?_set_self (r.len ▸ l)] at h1
      rw [List.getElem?_set_ne (Ne.symm n2)] at h2
      exact (ap _ _ b n2 y2 h2 h1).elim
    · rw [List.getElem?_set_self (r.len ▸ l2)] at h2
      rw [List.getElem?_set_ne (Ne.symm n1)] at h1
      exact (ap _ _ b n1 y1 h1 h2).elim
    · rw [List.getElem?_set_ne (Ne.symm n1)] at h1
      rw [List.getElem?_set_ne (Ne.symm n2)] at h2
      exact r.apart j k s1 s2 b y1 y2 h1 h2
theorem RB.put {K : PySem.W.Frag} {B : Bs} {F H : Hp} {γ : Ga} {σ : L2.St} (r : RB K B F γ σ H) (i : Nat) {s0 : Sl} {x0 : Option V} (k : SlOk K F H s0 (some x0))
    (ap : ∀ j s b, j ≠ i → γ[j]? = some s → Inn H s σ[j]? b → Inn H s0 (some x0) b → False) (fr : ∀ b, Inn H s0 (some x0) b → B.H0 b = none) : RB K B F (γ.set i s0) (σ.set i x0) H := by
  refine ⟨r.rs.put i k ap, r.fi, fun j s b e h => ?_⟩
  rcases get_set e with ⟨rfl, rfl, l⟩ | ⟨n, e⟩
  · rw [List.getElem?_set_self (r.rs.len ▸ l)] at h; exact fr b h
  · rw [List.getElem?_set_ne (Ne.symm n)] at h; exact r.ow j s b e h
theorem RS.set {K : PySem.W.Frag} {F H : Hp} {γ : Ga} {σ : L2.St} (r : RS K F γ σ H) (i : Nat) {d : D} {v : V} (p : Rep K F d v) : RS K F (γ.set i (.va d)) (σ.set i (some v)) H :=
  r.put i (s0 := .va d) (x0 := some v) ⟨v, rfl, p⟩ fun _ _ _ _ _ _ h => h
theorem RB.set {K : PySem.W.Frag} {B : Bs} {F H : Hp} {γ : Ga} {σ : L2.St} (r : RB K B F γ σ H) (i : Nat) {d : D} {v : V} (p : Rep K F d v) : RB K B F (γ.set i (.va d)) (σ.set i (some v)) H :=
  r.put i (s0 := .va d) (x0 := some v) ⟨v, rfl, p⟩ (fun _ _ _ _ _ _ h => h) fun _ h => h.elim
/-- a slot that is known no more -/
theorem RB.un {K : PySem.W.Frag} {B : Bs} {F H : Hp} {γ : Ga} {σ : L2.St} (r : RB K B F γ σ H) (i : Nat) (x : Option V) : RB K B F (γ.set i .un) (σ.set i x) H :=
  r.put i (s0 := .un) (x0 := x) trivial (fun _ _ _ _ _ _ h => h) fun _ h => h.elim
/-- a new thing of one's own -/
theorem RB.own {K : PySem.W.Frag} {B : Bs} {F H F' H' : Hp} {γ : Ga} {σ : L2.St} (r : RB K B F γ σ H) (n : Nxt F H F' H') (i : Nat) {d : D} {a : Addr} (ha : H a = none) (fa : F' a = none) (o : Own K F' H' d a) : RB K B F' (γ.set i (.ow d)) (σ.set i (some (.ref a))) H' := by
  have r' := r.next n
  refine r'.put i (s0 := .ow d) (x0 := some (.ref a)) ⟨a, rfl, fa, o⟩ (fun j s b nj e h1 h2 => ?_) fun b h => ?_
  · have q := h1.back (r.rs.sl j s e) fun b u _ z => n.h _ _ z
    obtain ⟨_, u, hu⟩ := q.have (r.rs.sl j s e)
    cases h2
    rw [ha] at hu; cases hu
  · cases h; exact r.fi.free ha
/-- what the slot i owns is changed -/
theorem RB.chg {K : PySem.W.Frag} {B : Bs} {F H F' H' : Hp} {γ : Ga} {σ : L2.St} (r : RB K B F γ σ H) {i : Nat} {s0 s1 : Sl} (hi : γ[i]? = some s0) (k : SlOk K F' H' s1 σ[i]?) (fi : Fin B F' H') (f : Same F F')
    (keep : ∀ b u, H b = some u → F b = none → ¬ Inn H s0 σ[i]? b → H' b = some u ∧ F' b = none) (inn : ∀ b, Inn H' s1 σ[i]? b → Inn H s0 σ[i]? b ∨ H b = none) : RB K B F' (γ.set i s1) σ H' := by
  have ks : ∀ j s, j ≠ i → γ[j]? = some s → ∀ b u, Inn H s σ[j]? b → F b = none → H b = some u → H' b = some u ∧ F' b = none := fun j s nj e b u h1 h2 h3 =>
    keep b u h3 h2 fun h4 => nj (r.rs.apart j i s s0 b e hi h1 h4)
  have bk : ∀ j s b, j ≠ i → γ[j]? = some s → Inn H' s σ[j]? b → Inn H s σ[j]? b := fun j s b nj e h => h.back (r.rs.sl j s e) fun b u h1 h2 => (ks j s nj e b u h1 (h1.have (r.rs.sl j s e)).1 h2).1
  refine ⟨⟨fi.emb, by simp [r.rs.len], fun j s e => ?_, fun j k s1 s2 b e1 e2 h1 h2 => ?_⟩, fi, fun j s b e h => ?_⟩
  · rcases get_set e with ⟨rfl, rfl, l⟩ | ⟨n, e⟩
    · exact k
    · exact (r.rs.sl j s e).keep f (ks j s n e)
  · rcases get_set e1 with ⟨rfl, rfl, l⟩ | ⟨n1, y1⟩ <;> rcases get_set e2 with ⟨rfl, rfl, l2⟩ | ⟨n2, y2⟩
    · rfl
    · have h2 := bk _ _ b n2 y2 h2
      rcases inn b h1 with h1 | h1
      · exact r.rs.apart _ _ _ _ b hi y2 h1 h2
      · obtain ⟨_, u, hu⟩ := h2.have (r.rs.sl _ _ y2)
        rw [h1] at hu; cases hu
    · have h1 := bk _ _ b n1 y1 h1
      rcases inn b h2 with h2 | h2
      · exact r.rs.apart _ _ _ _ b y1 hi h1 h2
      · obtain ⟨_, u, hu⟩ := h1.have (r.rs.sl _ _ y1)
        rw [h2] at hu; cases hu
    · exact r.rs.apart j k s1 s2 b y1 y2 (bk _ _ b n1 y1 h1) (bk _ _ b n2 y2 h2)
  · rcases get_set e with ⟨rfl, rfl, l⟩ | ⟨n, e⟩
    · rcases inn b h with h | h
      · exact r.ow _ _ b hi h
      · exact r.fi.free h
    · exact r.ow j s b e (bk j s b n e h)
theorem Fin.frz {B : Bs} {F H : Hp} (f : Fin B F H) {a : Addr} {u : HO} (hu : H a = some u) (fa : F a = none) (h0 : B.H0 a = none) : Fin B (upd F a u) H :=
  ⟨f.f0.trans (same_upd fa), fun b w z => by
    by_cases q : b = a
    · subst q; exact .inr h0
    · rw [upd_ne q] at z; exact f.fn b w z, f.emb.freeze hu, f.h0, fun p hp => by
    obtain ⟨y1, ob, u, y2, y3⟩ := f.sS p hp
    exact ⟨y1, ob, u, y2, same_upd fa _ _ y3⟩⟩
theorem Fin.chg {B : Bs} {F H : Hp} (f : Fin B F H) {a : Addr} {u : HO} (fa : F a = none) (h0 : B.H0 a = none) : Fin B F (upd H a u) :=
  ⟨f.f0, f.fn, fun b w z => by rw [upd_ne (ne_of_none z fa)]; exact f.emb b w z, fun b w z => by rw [upd_ne (ne_of_none z h0)]; exact f.h0 b w z, fun p hp => by
    obtain ⟨y1, ob, u, y2, y3⟩ := f.sS p hp
    rw [upd_ne (ne_of_none y3 fa)]; exact ⟨y1, ob, u, y2, y3⟩⟩
/-- one's own thing is frozen -/
theorem RB.freeze {K : PySem.W.Frag} {B : Bs} {F H : Hp} {γ : Ga} {σ : L2.St} (r : RB K B F γ σ H) {i : Nat} {d : D} (e : γ[i]? = some (.ow d)) : ∃ F', RB K B F' (γ.set i (.va d)) σ H := by
  obtain ⟨a, h1, fa, o⟩ := r.rs.sl i _ e
  obtain ⟨u, hu, e1, s1, p⟩ := o.freeze r.rs.emb fa
  refine ⟨upd F a u, r.chg e (s1 := .va d) ⟨_, h1, p⟩ (r.fi.frz hu fa (r.ow i _ a e h1)) s1 (fun b w z1 z2 z3 => ⟨z1, ?_⟩) fun b h => h.elim⟩
  rw [upd_ne]
  · exact z2
  · rintro rfl; exact z3 h1
/-- one's own thing is changed -/
theorem RB.change {K : PySem.W.Frag} {B : Bs} {F H : Hp} {γ : Ga} {σ : L2.St} (r : RB K B F γ σ H) {i : Nat} {d d' : D} {a : Addr} {o : HO} (e : γ[i]? = some (.ow d)) (h1 : σ[i]? = some (some (.ref a))) (ow : Own K F (upd H a o) d' a) :
    RB K B F (γ.set i (.ow d')) σ (upd H a o) := by
  obtain ⟨a', h1', fa, o1⟩ := r.rs.sl i _ e
  rw [h1] at h1'; cases h1'
  refine r.chg e (s1 := .ow d') ⟨a, h1, fa, ow⟩ (r.fi.chg fa (r.ow i _ a e h1)) (.refl _) (fun b w z1 z2 z3 => ⟨?_, z2⟩) fun b h => .inl h
  rw [upd_ne]
  · exact z1
  · rintro rfl; exact z3 h1
/-! ### blocks and small statements -/
def fNil : Ga → R Fl := fun γ => .ok (.nx γ)
def fSeq (f g : Ga → R Fl) : Ga → R Fl := fun γ => match f γ with
  | .ok (.nx γ') => g γ'
  | r => r
def fSet (i : Nat) (fe : Ga → R D) : Ga → R Fl := fun γ => (fe γ).bind fun d => .ok (.nx (γ.set i (.va d)))
def fOwn (i : Nat) (fe : Ga → R D) : Ga → R Fl := fun γ => (fe γ).bind fun d => .ok (.nx (γ.set i (.ow d)))
def fExpr (fe : Ga → R D) : Ga → R Fl := fun γ => (fe γ).bind fun _ => .ok (.nx γ)
def fRet (fe : Ga → R D) : Ga → R Fl := fun γ => (fe γ).bind fun d => .ok (.rt d)
def fRetN : Ga → R Fl := fun _ => .ok (.rt .non)
def fIf (c : Ga → R Bool) (f g : Ga → R Fl) : Ga → R Fl := fun γ => (c γ).bind fun b => if b = true then f γ else g γ
def fFz (i : Nat) (f : Ga → R Fl) : Ga → R Fl := fun γ => match γ[i]? with
  | some (.ow d) => f (γ.set i (.va d))
  | some (.nd es) => f (γ.set i (.va (.dic (es.map fun e => (e.1, .dic e.2)))))
  | _ => .no
section
variable {X : Cx} {W : WN} {f g : Ga → R Fl} {fa fb fe : Ga → R D} {st : Stmt} {rest sts : List Stmt} {e : Expr} {pos pos' : Pos} {p : Ga → R Bool}
theorem js_nil : JSs X W fNil [] := ⟨PSs.imp pss_nil fun E σ H ⟨B, F, γ, r, o⟩ => o F σ H r⟩
theorem js_cons (h : JS X W f st) (h2 : JSs X W g rest) : JSs X W (fSeq f g) (st :: rest) := ⟨PSs.imp (pss_cons h.ps h2.pss) fun E σ H ⟨B, F, γ, r, o⟩ => by
  refine ⟨B, F, γ, r, ?_⟩
  unfold fSeq at o
  cases e1 : f γ with
  | ok fl =>
    rw [e1] at o
    cases fl with
    | nx γ' => exact fun F' σ' H' r' => ⟨B, F', γ', r', o⟩
    | rt d => exact o
    | bk γ' => exact o
    | ct γ' => exact o
  | ex c => rw [e1] at o; exact o
  | no => rw [e1] at o; exact o⟩
theorem js_one (h : JS X W f st) : JSs X W f [st] := ⟨pss_one h.ps⟩
/-- from an expression's end to a statement's -/
theorem ex_of {K : PySem.W.Frag} {B : Bs} {F H : Hp} {γ : Ga} {σ : L2.St} {E : Ends} {k : D → R Fl} {Q : VK} (r : RB K B F γ σ H) (o : OutS K W B ((fe γ).bind k) E)
    (h : ∀ d v F' H', Nxt F H F' H' → RB K B F' γ σ H' → Rep K F' d v → OutS K W B (k d) E → Q v H') : rdV K W fe σ H Q := by
  refine ⟨F, γ, r.rs, ?_⟩
  cases e1 : fe γ with
  | ok d => rw [e1] at o; exact fun v F' H' n p => h d v F' H' n (r.next n) p o
  | ex c => rw [e1] at o; exact fun F' H' n => o σ F' H' (r.fi.next n)
  | no => rw [e1] at o; exact o
theorem js_set {i : Nat} {x : Str} (hN : X.N.Nodup) (he : J X W fe e) (hi : X.N[i]? = some x := by rfl) (hx : Loc X.env.scope x := by first | exact .inl rfl | exact .inr rfl) (hs : swapsWith e (some (.Name x pos')) pos.line X.env = pure false := by rfl) (hf : X.fn x = true ∨ X.env.scope.names.lookup x = some .local := by first | exact .inl rfl | exact .inr rfl) :
    JS X W (fSet i fe) (.Assign [.Name x pos'] e pos) := ⟨PS.imp (ps_set hN hi hx he.pe hs hf) fun E σ H ⟨B, F, γ, r, o⟩ =>
  ex_of r o fun d v F' H' _ r' p o' => o' F' _ H' (r'.set i p)⟩
theorem js_own {i : Nat} {x : Str} (hN : X.N.Nodup) (he : JF X W fe e) (hi : X.N[i]? = some x := by rfl) (hx : Loc X.env.scope x := by first | exact .inl rfl | exact .inr rfl) (hs : swapsWith e (some (.Name x pos')) pos.line X.env = pure false := by rfl) (hf : X.fn x = true ∨ X.env.scope.names.lookup x = some .local := by first | exact .inl rfl | exact .inr rfl) :
    JS X W (fOwn i fe) (.Assign [.Name x pos'] e pos) := ⟨PS.imp (ps_set hN hi hx he.pe hs hf) fun E σ H ⟨B, F, γ, r, o⟩ => by
  refine ⟨F, γ, r.rs, ?_⟩
  unfold fOwn at o
  cases e1 : fe γ with
  | ok d => rw [e1] at o; exact fun a F' H' n ha fa ow => o F' _ H' (r.own n i ha fa ow)
  | ex c => rw [e1] at o; exact fun F' H' n => o σ F' H' (r.fi.next n)
  | no => rw [e1] at o; exact o⟩
theorem js_expr (he : J X W fe e) (hs : swapsWith e none pos.line X.env = pure false := by rfl) : JS X W (fExpr fe) (.Expr e pos) := ⟨PS.imp (ps_expr he.pe hs) fun E σ H ⟨B, F, γ, r, o⟩ =>
  ex_of r o fun d v F' H' _ r' p o' => o' F' _ H' r'⟩
theorem js_ret (he : J X W fe e) : JS X W (fRet fe) (.Return (some e) pos) := ⟨PS.imp (ps_ret he.pe) fun E σ H ⟨B, F, γ, r, o⟩ =>
  ex_of r o fun d v F' H' _ r' p o' => o' v F' H' r'.fi p⟩
theorem js_if {c : Expr} {a b : List Stmt} (hc : JT X W p c) (ha : JSs X W f a) (hb : JSs X W g b) : JS X W (fIf p f g) (.If c a b pos) := ⟨PS.imp (ps_if hc.pt ha.pss hb.pss) fun E σ H ⟨B, F, γ, r, o⟩ => by
  refine ⟨F, γ, r.rs, ?_⟩
  unfold fIf at o
  cases e1 : p γ with
  | ok b =>
    simp only [e1, R.bind] at o
    intro F' H' n
    cases b with
    | true => exact ⟨B, F', γ, r.next n, o⟩
    | false => exact ⟨B, F', γ, r.next n, o⟩
  | ex c => simp only [e1, R.bind] at o; exact fun F' H' n => o σ F' H' (r.fi.next n)
  | no => simp only [e1, R.bind] at o; exact o⟩
/-! a, b = e1, e2 -/
end
end KN
/-! KnF: targets, what is walked, loops, comprehensions, defs -/
namespace KN
open PySem PySem.Spec PyProof.Rows L2
/-! ### targets -/
/-- the slots but those at is are as they were; those of one's own too -/
structure Kp (is : List Nat) (γ : Ga) (σ : L2.St) (γ' : Ga) (σ' : L2.St) : Prop where
  len : σ'.length = σ.length
  out : ∀ j, j ∉ is → σ'[j]? = σ[j]?
  ow : ∀ (j : Nat) (s : Sl), γ'[j]? = some s → (∃ d, s = .va d) ∨ (γ[j]? = some s ∧ σ'[j]? = σ[j]?)
theorem Kp.refl {is : List Nat} {γ : Ga} {σ : L2.St} : Kp is γ σ γ σ := ⟨rfl, fun _ _ => rfl, fun _ _ h => .inr ⟨h, rfl⟩⟩
theorem Kp.set {is : List Nat} {γ : Ga} {σ : L2.St} {γ' : Ga} {σ' : L2.St} (k : Kp is γ σ γ' σ') {i : Nat} (hi : i ∈ is) (d : D) (v : V) : Kp is γ σ (γ'.set i (.va d)) (σ'.set i (some v)) :=
  ⟨by simp [k.len], fun j hj => by
    have : j ≠ i := fun q => hj (q ▸ hi)
    rw [List.getElem?_set_ne (Ne.symm this)]; exact k.out j hj, fun j d' e => by
    rcases get_set e with ⟨rfl, rfl, l⟩ | ⟨n, e⟩
    · exact .inl ⟨d, rfl⟩
    · rw [List.getElem?_set_ne (Ne.symm n)]
      exact k.ow j d' e⟩
structure JG (X : Cx) (is : List Nat) (bd : D → Ga → R Ga) (t : TG) (tg : Expr) : Prop where
  pg : PG X tg t
  go : ∀ {F : Hp} {γ γ' : Ga} {σ : L2.St} {H : Hp} {d : D} {v : V} {Q : L2.St → Hp → Prop}, RS X.K F γ σ H → Rep X.K F d v → bd d γ = .ok γ' → (∀ σ', RS X.K F γ' σ' H → Kp is γ σ γ' σ' → Q σ' H) → t v σ H Q
def bdN (i : Nat) : D → Ga → R Ga := fun d γ => .ok (γ.set i (.va d))
def setAll : List Nat → List D → Ga → R Ga
  | [], [], γ => .ok γ
  | i :: is, d :: ds, γ => setAll is ds (γ.set i (.va d))
  | _, _, _ => .no
def bdT (is : List Nat) : D → Ga → R Ga
  | .tup ds, γ => setAll is ds γ
  | _, _ => .no
theorem bd_ne (is : List Nat) : ∀ ds γ c, setAll is ds γ ≠ .ex c := by
  induction is with
  | nil => intro ds γ c; cases ds <;> simp [setAll]
  | cons i is ih =>
    intro ds γ c
    cases ds with
    | nil => simp [setAll]
    | cons d ds => exact ih ds _ c
section
variable {X : Cx} {pos : Pos}
theorem jg_n {i : Nat} {x : Str} (hN : X.N.Nodup) (hi : X.N[i]? = some x := by rfl) (hx : Loc X.env.scope x := by first | exact .inl rfl | exact .inr rfl) (hf : X.fn x = true ∨ X.env.scope.names.lookup x = some .local := by first | exact .inl rfl | exact .inr rfl) : JG X [i] (bdN i) (gName i) (.Name x pos) :=
  ⟨pg_name hN hi hx hf, fun {F γ γ' σ H d v Q} r p e q => by
    cases e
    exact q _ (r.set i p) (Kp.refl.set (by simp) d v)⟩
structure JGs (X : Cx) (is js : List Nat) (t : TGs) (es : List Expr) : Prop where
  pgs : PGs X es t
  len : is.length = es.length
  go : ∀ {F : Hp} {γ₀ γ γ' : Ga} {σ₀ σ : L2.St} {H : Hp} {ds : List D} {vs : List V} {Q : L2.St → Hp → Prop}, RS X.K F γ σ H → Kp js γ₀ σ₀ γ σ → Reps X.K F ds vs → setAll is ds γ = .ok γ' → (∀ σ', RS X.K F γ' σ' H → Kp js γ₀ σ₀ γ' σ' → Q σ' H) → t vs σ H Q
theorem jgs_nil {js : List Nat} : JGs X [] js gNil [] := ⟨pgs_nil, rfl, fun {F γ₀ γ γ' σ₀ σ H ds vs Q} r k p e q => by
  cases p with
  | nil => cases e; exact ⟨rfl, q _ r k⟩
  | cons _ _ => cases e⟩
theorem jgs_cons {i : Nat} {is js : List Nat} {x : Str} {t : TGs} {es : List Expr} (hN : X.N.Nodup) (hr : JGs X is js t es) (hij : i ∈ js := by simp) (hi : X.N[i]? = some x := by rfl) (hx : Loc X.env.scope x := by first | exact .inl rfl | exact .inr rfl) (hf : X.fn x = true ∨ X.env.scope.names.lookup x = some .local := by first | exact .inl rfl | exact .inr rfl)
    (hs : (assignEach (.Name x pos :: es) X.env).map (·.2) = assign (.Name x pos) X.env :: (assignEach es X.env).map (·.2) := by rfl) : JGs X (i :: is) js (gCons (gName i) t) (.Name x pos :: es) :=
  ⟨pgs_cons (pg_name hN hi hx hf) hr.pgs hs, by simp [hr.len], fun {F γ₀ γ γ' σ₀ σ H ds vs Q} r k p e q => by
    cases p with
    | nil => cases e
    | cons p1 p2 => exact ⟨_, _, rfl, hr.go (r.set i p1) (k.set hij _ _) p2 e q⟩⟩
theorem jg_t {is : List Nat} {t : TGs} {es : List Expr} {k n : Nat} (hc : X.calm = true) (h : JGs X is is t es) (hn : (assignEach es X.env).length = n := by rfl) (hst : (assignEach es X.env).findIdx? (·.1) = none := by rfl) (hl : n = is.length := by rfl) : JG X is (bdT is) (gTup X.K n t) (.Tuple es k pos) :=
  ⟨pg_tup hc h.pgs hn hst, fun {F γ γ' σ H d v Q} r p e q => by
    cases d <;> first | (cases e; done) | skip
    rename_i ds
    cases p with
    | tup h1 h2 =>
      refine ⟨_, _, rfl, r.emb.sqt h1, ?_, h.go r .refl h2 e q⟩
      have : ∀ (is : List Nat) (ds : List D) (γ : Ga), setAll is ds γ = .ok γ' → ds.length = is.length := by
        intro is
        induction is with
        | nil => intro ds γ e; cases ds with | nil => rfl | cons _ _ => cases e
        | cons i is ih =>
          intro ds γ e
          cases ds with
          | nil => cases e
          | cons d ds => simp [ih ds _ e]
      rw [← h2.length, this _ _ _ e, hl]⟩
theorem jg_tK {K : PySem.W.Frag} {is : List Nat} {t : TGs} {es : List Expr} {k : Nat} (hK : X.K = K) (hc : X.calm = true) (h : JGs X is is t es) (hn : (assignEach es X.env).length = is.length := by rfl) (hst : (assignEach es X.env).findIdx? (·.1) = none := by rfl) : JG X is (bdT is) (gTup K is.length t) (.Tuple es k pos) := by
  subst hK
  exact jg_t hc h hn hst rfl
theorem RB.kp {K : PySem.W.Frag} {B : Bs} {F H : Hp} {γ γ' : Ga} {σ σ' : L2.St} {is : List Nat} (r : RB K B F γ σ H) (r' : RS K F γ' σ' H) (k : Kp is γ σ γ' σ') : RB K B F γ' σ' H :=
  ⟨r', r.fi, fun j d a e1 e2 => by
    rcases k.ow j d e1 with ⟨x, rfl⟩ | ⟨z1, z2⟩
    · exact e2.elim
    · exact r.ow j d a z1 (z2 ▸ e2)⟩
end
/-- a target that is assigned -/
def fBd (bd : D → Ga → R Ga) (fe : Ga → R D) : Ga → R Fl := fun γ => (fe γ).bind fun d => (bd d γ).bind fun γ' => .ok (.nx γ')
section
variable {X : Cx} {W : WN} {fe : Ga → R D} {tg e : Expr} {pos : Pos}
theorem js_unp {is : List Nat} {t : TG} (he : J X W fe e) (hg : JG X is (bdT is) t tg) (hs : swapsWithSole [tg] e pos.line X.env = pure false := by rfl) (hw : swappedStores [tg] e X.env = pure none := by rfl)
    (h1 : (assignEach [tg] X.env).map (·.2) = [assign tg X.env] := by rfl) : JS X W (fBd (bdT is) fe) (.Assign [tg] e pos) := ⟨PS.imp (ps_asg he.pe hg.pg hs hw h1) fun E σ H ⟨B, F, γ, r, o⟩ => by
  refine ex_of r o fun d v F1 H1 n1 r1 p1 o1 => ?_
  cases e1 : bdT is d γ with
  | ok γ' => simp only [e1, R.bind] at o1; exact hg.go r1.rs p1 e1 fun σ' r' k => o1 F1 σ' H1 (r1.kp r' k)
  | ex c =>
    cases d <;> first | (cases e1; done) | exact absurd e1 (bd_ne _ _ _ _)
  | no => simp only [e1, R.bind] at o1; exact o1.elim⟩
end
/-! ### what is walked -/
def Goes (K : PySem.W.Frag) (J : It) (F : Hp) (S : List (Addr × HO)) (ds : List D) : Prop := ∀ F' H' i, Same F F' → Emb F' H' → (∀ p ∈ S, H' p.1 = some p.2) →
  (i = ds.length → J.stop i H') ∧ ∀ d, ds[i]? = some d → J.go i H' ∧ ∀ x H'', J.yld i H' x H'' → ∃ F'', Nxt F' H' F'' H'' ∧ Rep K F'' d x
theorem goes_list {K : PySem.W.Frag} {F : Hp} {a : Addr} {ds : List D} {vs : List V} (h : SqL K F a vs) (r : Reps K F ds vs) : Goes K (Itl K a) F [] ds := fun F' H' i f e _ => by
  have q := e.sql (f.seq h)
  refine ⟨fun hi => ⟨vs, q, by rw [← r.length]; omega⟩, fun d hd => ?_⟩
  obtain ⟨v, hv, p⟩ := r.get hd
  refine ⟨⟨vs, v, q, hv⟩, fun x H'' ⟨e1, e2⟩ => ?_⟩
  subst e1
  have : v = x := Option.some.inj (hv.symm.trans (e2 vs q))
  subst this
  exact ⟨F', .refl e, p.mono f⟩
theorem goes_tup {K : PySem.W.Frag} {F : Hp} {a : Addr} {ds : List D} {vs : List V} (h : SqT K F a vs) (r : Reps K F ds vs) : Goes K (Itt K a) F [] ds := fun F' H' i f e _ => by
  have q := e.sqt (same_sqt f h)
  refine ⟨fun hi => ⟨vs, q, by rw [← r.length]; omega⟩, fun d hd => ?_⟩
  obtain ⟨v, hv, p⟩ := r.get hd
  refine ⟨⟨vs, v, q, hv⟩, fun x H'' ⟨e1, e2⟩ => ?_⟩
  subst e1
  have : v = x := Option.some.inj (hv.symm.trans (e2 vs q))
  subst this
  exact ⟨F', .refl e, p.mono f⟩
def sgn (s : Tx) : List D := s.map fun c => .str [c]
theorem goes_str {K : PySem.W.Frag} {F : Hp} {s : Tx} : Goes K (Its (toS s)) F [] (sgn s) := fun F' H' i f e _ => by
  refine ⟨fun hi => ?_, fun d hd => ?_⟩
  · show (toS s).cps.size ≤ i
    simp [toS, sgn] at hi ⊢; omega
  · have l : i < s.length := by
      have := (List.getElem?_eq_some_iff.mp hd).1
      simpa [sgn] using this
    refine ⟨by show i < (toS s).cps.size; simpa [toS] using l, fun x H'' ⟨e1, c, e2, e3⟩ => ?_⟩
    subst e1
    have hc : s[i]? = some c := by simpa [toS] using e2
    have : d = .str [c] := by simp [sgn, hc] at hd; exact hd.symm
    subst this
    subst e3
    exact ⟨F', .refl e, .str [c]⟩
theorem RepK.get {K : PySem.W.Frag} {F : Hp} {es : List (Tx × D)} {kvs : List (Key × V)} (h : RepK K F es kvs) {i : Nat} {k : Tx} {d : D} (e : es[i]? = some (k, d)) : ∃ v, kvs[i]? = some (Sum.inr (toS k), v) ∧ Rep K F d v := by
  induction es generalizing kvs i with
  | nil => simp at e
  | cons e' es ih =>
    cases h with
    | cons h1 h2 =>
      cases i with
      | zero => simp at e; obtain ⟨rfl, rfl⟩ := e; exact ⟨_, rfl, h1⟩
      | succ i => simp at e; simpa using ih h2 e
def keysD (es : List (Tx × D)) : List D := es.map fun e => .str e.1
theorem goes_dic {K : PySem.W.Frag} {F : Hp} {a : Addr} {od : Obj} {es : List (Tx × D)} {kvs : List (Key × V)} (r : RepK K F es kvs) : Goes K (Itk a od kvs) F [(a, .frz od (.dK kvs))] (keysD es) := fun F' H' i f e hS => by
  have q := hS _ (List.mem_singleton.mpr rfl)
  refine ⟨fun hi => ⟨q, ?_⟩, fun d hd => ?_⟩
  · rw [← r.length]; simp [keysD] at hi; omega
  · have l : i < es.length := by
      have := (List.getElem?_eq_some_iff.mp hd).1
      simpa [keysD] using this
    refine ⟨⟨q, by rw [← r.length]; exact l⟩, fun x H'' ⟨e1, k, v, e2, e3⟩ => ?_⟩
    subst e1
    have he : es[i]? = some es[i] := List.getElem?_eq_getElem l
    obtain ⟨w, h1, h2⟩ := r.get (k := es[i].1) (d := es[i].2) he
    rw [h1] at e2
    cases e2
    have : d = .str es[i].1 := by simp [keysD, he] at hd; exact hd.symm
    subst this
    subst e3
    exact ⟨F', .refl e, .str _⟩
def rngD (lo : Int) (n : Nat) : List D := (List.range n).map fun i => .int (lo + (i : Nat))
theorem goes_rng {K : PySem.W.Frag} {F : Hp} {lo : Int} {n : Nat} : Goes K (Itr lo n) F [] (rngD lo n) := fun F' H' i f e _ => by
  refine ⟨fun hi => ?_, fun d hd => ?_⟩
  · show n ≤ i
    simp [rngD] at hi; omega
  · have l : i < n := by
      have := (List.getElem?_eq_some_iff.mp hd).1
      simpa [rngD] using this
    refine ⟨l, fun x H'' ⟨e1, e2⟩ => ?_⟩
    subst e1
    have : d = .int (lo + (i : Nat)) := by simp [rngD, l] at hd; exact hd.symm
    subst this
    subst e2
    exact ⟨F', .refl e, .int _⟩
def enuD (ds : List D) : List D := ds.zipIdx.map fun p => .tup [.int (p.2 : Nat), p.1]
theorem enuD_get {ds : List D} {i : Nat} {d : D} (h : (enuD ds)[i]? = some d) : ∃ e, ds[i]? = some e ∧ d = .tup [.int (i : Nat), e] := by
  simp only [enuD, List.getElem?_map, List.getElem?_zipIdx, Option.map_eq_some_iff] at h
  obtain ⟨p, ⟨e, h1, h2⟩, h3⟩ := h
  subst h2
  exact ⟨e, h1, by rw [← h3]; simp⟩
theorem goes_enu {K : PySem.W.Frag} {F : Hp} {a : Addr} {ds : List D} {vs : List V} (h : SqL K F a vs) (r : Reps K F ds vs) : Goes K (Ite K a) F [] (enuD ds) := fun F' H' i f e _ => by
  have q := e.sql (f.seq h)
  refine ⟨fun hi => ⟨vs, q, by rw [← r.length]; simp [enuD] at hi; omega⟩, fun d hd => ?_⟩
  obtain ⟨d', hd', rfl⟩ := enuD_get hd
  obtain ⟨v, hv, p⟩ := r.get hd'
  refine ⟨⟨vs, v, q, hv⟩, fun x H'' ⟨T, y, e1, nT, e2, e3⟩ => ?_⟩
  subst e1 e2
  have : v = y := Option.some.inj (hv.symm.trans (e3 vs q))
  subst this
  exact ⟨_, .new e nT _, .tup (.inl (.inl upd_same)) (.cons (.int _) (.cons ((p.mono f).mono (same_upd (e.free nT))) .nil))⟩
def zipD (ds es : List D) : List D := (ds.zip es).map fun p => .tup [p.1, p.2]
theorem goes_zip {K : PySem.W.Frag} {F : Hp} {a b : Addr} {ds es : List D} {vs us : List V} (h : SqL K F a vs) (r : Reps K F ds vs) (h2 : SqL K F b us) (r2 : Reps K F es us) : Goes K (Itz K a b) F [] (zipD ds es) := fun F' H' i f e _ => by
  have q := e.sql (f.seq h)
  have q2 := e.sql (f.seq h2)
  refine ⟨fun hi => ⟨vs, us, q, q2, by rw [← r.length, ← r2.length]; simp [zipD, List.length_zip] at hi; omega⟩, fun d hd => ?_⟩
  simp only [zipD, List.getElem?_map, Option.map_eq_some_iff, List.getElem?_zip_eq_some] at hd
  obtain ⟨p, ⟨h3, h4⟩, rfl⟩ := hd
  obtain ⟨v, hv, p1⟩ := r.get h3
  obtain ⟨u, hu, p2⟩ := r2.get h4
  refine ⟨⟨vs, us, v, u, q, q2, hv, hu⟩, fun x H'' ⟨T, y, z, e1, nT, e2, e3, e4⟩ => ?_⟩
  subst e1 e2
  have : v = y := Option.some.inj (hv.symm.trans (e3 vs q))
  subst this
  have : u = z := Option.some.inj (hu.symm.trans (e4 us q2))
  subst this
  have s := same_upd (F := F') (o := .tup [v, u]) (e.free nT)
  exact ⟨_, .new e nT _, .tup (.inl (.inl upd_same)) (.cons ((p1.mono f).mono s) (.cons ((p2.mono f).mono s) .nil))⟩
def rdI (K : PySem.W.Frag) (W : WN) (f : Ga → R (List D)) : TI := fun σ H Rr => ∃ F γ, RS K F γ σ H ∧ (match f γ with
  | .ok ds => ∀ J F' H', Nxt F H F' H' → Goes K J F' [] ds → Rr J H'
  | .ex c => ∀ F' H', Nxt F H F' H' → W c σ H'
  | .no => False)
structure JI (X : Cx) (W : WN) (f : Ga → R (List D)) (tg it : Expr) : Prop where
  pi : PI X tg it (rdI X.K W f)
theorem PI.imp {X : Cx} {tg e : Expr} {t t' : TI} (h : PI X tg e t) (i : ∀ σ H Q, t' σ H Q → t σ H Q) : PI X tg e t' := ⟨fun pins s σ H Q I q => h.run pins s σ H Q I (i σ H Q q)⟩
/-- any value: list, tuple, text; a dict is locked meanwhile -/
def items : D → R (List D)
  | .lst xs => .ok xs
  | .tup xs => .ok xs
  | .str s => .ok (sgn s)
  | .dic es => .ok (keysD es)
  | _ => .no
def rdE (X : Cx) (W : WN) (f : Ga → R D) : TI := fun σ H Rr => ∃ F γ, RS X.K F γ σ H ∧ (match f γ with
  | .ok (.dic es) => ∀ J F' H' d od kvs, Nxt F H F' H' → F' d = some (.dK kvs) → Goes X.K J F' [(d, .frz od (.dK kvs))] (keysD es) →
      ((H' d = some (.dK kvs) → (∀ o' u', X.H_0 d ≠ some (.frz o' u')) → Rr J (upd H' d (.frz od (.dK kvs)))) ∧ (H' d = some (.frz od (.dK kvs)) → Rr J H'))
  | .ok d => ∃ ds, items d = .ok ds ∧ ∀ J F' H', Nxt F H F' H' → Goes X.K J F' [] ds → Rr J H'
  | .ex c => ∀ F' H', Nxt F H F' H' → W c σ H'
  | .no => False)
section
variable {X : Cx} {W : WN} {fe fa fb : Ga → R D} {tg e a b : Expr} {pos p : Pos}
theorem pi_any (he : J X W fe e) : PI X tg e (rdE X W fe) := ⟨fun pins s σ H Rr I h => by
  obtain ⟨F, γ, r, o⟩ := h
  cases e1 : fe γ with
  | ok d =>
    rw [e1] at o
    cases d
    case non => obtain ⟨_, z, _⟩ := o; cases z
    case bl _ => obtain ⟨_, z, _⟩ := o; cases z
    case int _ => obtain ⟨_, z, _⟩ := o; cases z
    case str z =>
      obtain ⟨ds, z1, o⟩ := o
      cases z1
      refine (pi_str he.pe).run pins s σ H Rr I ⟨F, γ, r, ?_⟩
      rw [e1]
      intro v F' H' n p
      cases p
      exact ⟨toS z, rfl, o _ F' H' n goes_str⟩
    case lst xs =>
      obtain ⟨ds, z1, o⟩ := o
      cases z1
      refine (pi_list he.pe).run pins s σ H Rr I ⟨F, γ, r, ?_⟩
      rw [e1]
      intro v F' H' n p
      cases p with | lst h1 h2 => exact ⟨_, rfl, ⟨_, n.emb.sql h1⟩, o _ F' H' n (goes_list h1 h2)⟩
    case tup xs =>
      obtain ⟨ds, z1, o⟩ := o
      cases z1
      refine (pi_tup he.pe).run pins s σ H Rr I ⟨F, γ, r, ?_⟩
      rw [e1]
      intro v F' H' n p
      cases p with | tup h1 h2 => exact ⟨_, rfl, ⟨_, n.emb.sqt h1⟩, o _ F' H' n (goes_tup h1 h2)⟩
    case dic es =>
      have h0 : rdV X.K W fe σ H (fun x H1 => ∃ d kvs F', x = .ref d ∧ Nxt F H F' H1 ∧ F' d = some (.dK kvs) ∧ RepK X.K F' es kvs) := by
        refine ⟨F, γ, r, ?_⟩
        rw [e1]
        intro v F' H' n p
        cases p with | dic h1 h2 => exact ⟨_, _, F', rfl, n, h1, h2⟩
      refine thn (he.pe.run pins s σ H _ I h0) fun u s1 ⟨x, H1, I1, rx, d, kvs, F', ex, n, hd, hk⟩ => ?_
      subst ex
      obtain rfl : u = Value.ref d := rx
      have fin : ∀ {od : Obj} {H2 : Hp}, Inv X pins σ H2 s1 → H2 d = some (.frz od (.dK kvs)) → Rr (Itk d od kvs) H2 → wpAny (model X.prog X.w) X.A (pyIter (.ref d)) (PIE X pins σ tg Rr) X.xe s1 := fun {od H2} I2 hd2 q => by
        obtain ⟨hs, hgd, hx, es, ep, vs, hdt, hsz, kv, hm⟩ := I2.frzK hd2
        refine iter_keys hs hgd hx hdt (pi_one (tk := s1.toks) I2 _ (turn_keys _ hdt) ⟨_, Heap.get?_push_size _ rfl, rfl, ?_⟩ q)
        rw [hsz] <;> rfl
      rcases n.emb d _ hd with z | ⟨ob, kvs', e2, z⟩
      · obtain ⟨od, I2⟩ := I1.lock z trivial
        exact fin I2 upd_same ((o _ F' H1 d od kvs n hd (goes_dic hk)).1 z (I1.nofrz z trivial))
      · cases e2
        exact fin I1 z ((o _ F' H1 d ob kvs n hd (goes_dic hk)).2 z)
  | ex c =>
    rw [e1] at o
    refine (pi_list he.pe).run pins s σ H Rr I ⟨F, γ, r, ?_⟩
    rw [e1]
    exact o
  | no => rw [e1] at o; exact o.elim⟩
def i2n : D → R Int
  | .int i => if i.natAbs < 2 ^ 62 then .ok i else .no
  | _ => .no
def iR1 (fa : Ga → R D) : Ga → R (List D) := fun γ => (fa γ).bind fun d => (i2n d).bind fun j => .ok (rngD 0 j.toNat)
theorem i2n_ok {d : D} {i : Int} (h : i2n d = .ok i) : d = .int i ∧ -(2 ^ 62) ≤ i ∧ i < 2 ^ 62 := by
  cases d <;> simp only [i2n] at h <;> first | (cases h; done) | skip
  split at h
  · cases h; exact ⟨rfl, by omega, by omega⟩
  · cases h
theorem i2n_ne {d : D} {c : Nat} : i2n d ≠ .ex c := by
  cases d <;> simp only [i2n] <;> first | (intro h; cases h; done) | (split <;> intro h <;> cases h)
theorem ji_r1 (hm : X.mg "range" = none) (ha : J X W fa a) (hg : Gl X "range" := by rfl) (hs : starEach [a] X.env = [(false, eval a X.env)] := by rfl) (hs1 : starEach [a] X.env = (false, eval a X.env) :: starEach [] X.env := by rfl) : JI X W (iR1 fa) tg (.Call (.Name "range" p) [a] [] pos) :=
  ⟨PI.imp (pi_range1 hg hm (pa_cons ha.pe pa_nil hs1) hs) fun σ H Rr ⟨F, γ, r, o⟩ => by
    refine ⟨F, γ, r, ?_⟩
    unfold iR1 at o
    cases e1 : fa γ with
    | ok d =>
      simp only [e1, R.bind] at o
      intro v F' H' n p
      cases e2 : i2n d with
      | ok j =>
        obtain ⟨rfl, h1, h2⟩ := i2n_ok e2
        cases p
        simp only [e2] at o
        exact ⟨j, rfl, h1, h2, o _ F' H' n goes_rng⟩
      | ex c => exact absurd e2 i2n_ne
      | no => simp only [e2] at o
    | ex c => simp only [e1, R.bind] at o; exact o
    | no => simp only [e1, R.bind] at o⟩
def asL : D → R (List D)
  | .lst xs => .ok xs
  | _ => .no
def iEn (fa : Ga → R D) : Ga → R (List D) := fun γ => (fa γ).bind fun d => (asL d).bind fun xs => .ok (enuD xs)
theorem ji_en {elts : List Expr} {kk : Nat} {tpos : Pos} (hm : X.mg "enumerate" = none) (ha : J X W fa a) (hg : Gl X "enumerate" := by rfl) (hs : starEach [a] X.env = [(false, eval a X.env)] := by rfl) (hs1 : starEach [a] X.env = (false, eval a X.env) :: starEach [] X.env := by rfl) :
    JI X W (iEn fa) (.Tuple elts kk tpos) (.Call (.Name "enumerate" p) [a] [] pos) :=
  ⟨PI.imp (pi_enum hg hm (pa_cons ha.pe pa_nil hs1) hs) fun σ H Rr ⟨F, γ, r, o⟩ => by
    refine ⟨F, γ, r, ?_⟩
    unfold iEn at o
    cases e1 : fa γ with
    | ok d =>
      simp only [e1, R.bind] at o
      intro v F' H' n p
      cases d <;> simp only [asL] at o
      cases p with | lst h1 h2 => exact ⟨_, _, rfl, n.emb.sql h1, o _ F' H' n (goes_enu h1 h2)⟩
    | ex c => simp only [e1, R.bind] at o; exact o
    | no => simp only [e1, R.bind] at o⟩
end
end KN
/-! KnG: loops, comprehensions, defs -/
namespace KN
open PySem PySem.Spec PyProof.Rows L2
/-! ### unlocking -/
def Ul (X : Cx) (Q : Hp → Prop) (H : Hp) : Prop := Q H ∨ ∃ d od u, H d = some (.frz od u) ∧ (∀ o' u', X.H_0 d ≠ some (.frz o' u')) ∧ Q (upd H d u)
def unlE (X : Cx) (E : Ends) : Ends := ⟨fun σ => Ul X (E.nx σ), fun v => Ul X (E.rt v), fun σ => Ul X (E.bk σ), fun σ => Ul X (E.ct σ)⟩
section
variable {X : Cx} {pins : List (Addr × Obj)} {σ : L2.St} {H : Hp} {s : Shared}
theorem Ul.run {Q : Hp → Prop} (I : Inv X pins σ H s) (u : Ul X Q H) : ∃ H', Inv X pins σ H' s ∧ Q H' := by
  rcases u with q | ⟨d, od, u, h, hn, q⟩
  · exact ⟨H, I, q⟩
  · exact ⟨_, I.unlock h hn, q⟩
theorem ps_unl {st : Stmt} {t : TS} (h : PS X st t) : PS X st (fun E => t (unlE X E)) := ⟨fun pins s σ H E I hw => by
  refine thn (h.run pins s σ H _ I hw) fun f s1 q => ?_
  cases f with
  | next => obtain ⟨σ', H', I2, q⟩ := q; obtain ⟨H2, I3, q⟩ := Ul.run I2 q; exact ⟨σ', H2, I3, q⟩
  | brk => obtain ⟨σ', H', I2, q⟩ := q; obtain ⟨H2, I3, q⟩ := Ul.run I2 q; exact ⟨σ', H2, I3, q⟩
  | cont => obtain ⟨σ', H', I2, q⟩ := q; obtain ⟨H2, I3, q⟩ := Ul.run I2 q; exact ⟨σ', H2, I3, q⟩
  | ret v => obtain ⟨x, σ', H', I2, r, q⟩ := q; obtain ⟨H2, I3, q⟩ := Ul.run I2 q; exact ⟨x, σ', H2, I3, r, q⟩⟩
theorem pe_unl {e : Expr} {t : TE} (h : PE X e t) : PE X e (fun σ H Q => t σ H fun v => Ul X (Q v)) := ⟨fun pins s σ H Q I hw => by
  refine thn (h.run pins s σ H _ I hw) fun v s1 ⟨x, H1, I2, r, q⟩ => ?_
  obtain ⟨H2, I3, q⟩ := Ul.run I2 q
  exact ⟨x, H2, I3, r, q⟩⟩
end
/-! ### for -/
def forGo (bd : D → Ga → R Ga) (body : Ga → R Fl) : List D → Ga → R Fl
  | [], γ => .ok (.nx γ)
  | x :: xs, γ => (bd x γ).bind fun γ1 => match body γ1 with
    | .ok (.nx γ2) => forGo bd body xs γ2
    | .ok (.ct γ2) => forGo bd body xs γ2
    | .ok (.bk γ2) => .ok (.nx γ2)
    | .ok (.rt d) => .ok (.rt d)
    | .ex c => .ex c
    | .no => .no
/-- bd raises nothing -/
def BdOk (bd : D → Ga → R Ga) : Prop := ∀ d γ c, bd d γ ≠ .ex c
theorem bdN_ok {i : Nat} : BdOk (bdN i) := fun d γ c h => by cases h
theorem bdT_ok {is : List Nat} : BdOk (bdT is) := fun d γ c => by
  cases d <;> first | (intro h; cases h; done) | exact bd_ne _ _ _ _
theorem Fin.weak {B : Bs} {F1 F H : Hp} {h : Same B.F0 F1} {hn : ∀ a o, F1 a = some o → B.F0 a = some o ∨ B.H0 a = none} (f : Fin { B with F0 := F1 } F H) : Fin B F H :=
  ⟨h.trans f.f0, fun a o e => by
    rcases f.fn a o e with z | z
    · exact hn a o z
    · exact .inr z, f.emb, f.h0, f.sS⟩
theorem RB.weak {K : PySem.W.Frag} {B : Bs} {F1 F H : Hp} {γ : Ga} {σ : L2.St} (h : Same B.F0 F1) (hn : ∀ a o, F1 a = some o → B.F0 a = some o ∨ B.H0 a = none) (r : RB K { B with F0 := F1 } F γ σ H) : RB K B F γ σ H := ⟨r.rs, Fin.weak (h := h) (hn := hn) r.fi, r.ow⟩
theorem RB.strong {K : PySem.W.Frag} {B : Bs} {F H : Hp} {γ : Ga} {σ : L2.St} (r : RB K B F γ σ H) : RB K { B with F0 := F } F γ σ H := ⟨r.rs, ⟨.refl _, fun _ _ e => .inl e, r.fi.emb, r.fi.h0, r.fi.sS⟩, r.ow⟩
/-- the loop from a turn on -/
theorem for_core {X : Cx} {W : WN} {bd : D → Ga → R Ga} {body : Ga → R Fl} {is : List Nat} {t : TG} {tg : Expr} {J : It} {F0 H0 : Hp} {S : List (Addr × HO)} {ds : List D} {B : Bs} {E : Ends} {γ : Ga} {σ : L2.St} {tb : TS} (hbd : BdOk bd) (hg : JG X is bd t tg)
    (htb : ∀ D σ H, rdS X.K W body D σ H → tb D σ H) (gs : Goes X.K J F0 S ds) (hS : ∀ p ∈ S, p ∈ B.S) (r : RB X.K B F0 γ σ H0) (o : OutS X.K W B (forGo bd body ds γ) E) :
    ∃ Wi : Nat → Nat → L2.St → Hp → Prop, (∃ m, Wi 0 m σ H0) ∧ ∀ i m σ H, Wi i m σ H → (J.stop i H ∧ E.nx σ H) ∨
      (J.go i H ∧ ∃ N : L2.St → Hp → Prop, (∀ σ' H', N σ' H' → ∃ m', m' < m ∧ Wi (i + 1) m' σ' H') ∧ ∀ x H', J.yld i H x H' → t x σ H' fun σ2 H2 => tb { E with nx := N, ct := N, bk := E.nx } σ2 H2) := by
  refine ⟨fun i m σ H => ∃ F γ, Same F0 F ∧ RB X.K B F γ σ H ∧ OutS X.K W B (forGo bd body (ds.drop i) γ) E ∧ m = ds.length - i ∧ i ≤ ds.length, ⟨ds.length, F0, γ, .refl _, r, o, rfl, Nat.zero_le _⟩, ?_⟩
  rintro i m σ1 H1 ⟨F1, γ1, f1, r1, o1, rfl, hi⟩
  obtain ⟨g1, g2⟩ := gs F1 H1 i f1 r1.rs.emb fun p hp => (r1.fi.sS p (hS p hp)).1
  by_cases hl : i < ds.length
  · have hd : ds[i]? = some ds[i] := List.getElem?_eq_getElem hl
    obtain ⟨go, gy⟩ := g2 _ hd
    refine .inr ⟨go, fun σ' H' => ∃ F γ, Same F0 F ∧ RB X.K B F γ σ' H' ∧ OutS X.K W B (forGo bd body (ds.drop (i + 1)) γ) E, fun σ' H' ⟨F, γ', a, b, c⟩ => ⟨ds.length - (i + 1), by omega, F, γ', a, b, c, rfl, hl⟩, fun x H' hy => ?_⟩
    obtain ⟨F2, n2, p2⟩ := gy x H' hy
    have r2 := r1.next n2
    rw [List.drop_eq_getElem_cons hl] at o1
    simp only [forGo] at o1
    cases e1 : bd ds[i] γ1 with
    | ok γ2 =>
      simp only [e1, R.bind] at o1
      refine hg.go r2.rs p2 e1 fun σ2 rs2 k => ?_
      have r3 := r2.kp rs2 k
      refine htb _ _ _ ⟨{ B with F0 := F2 }, F2, γ2, r3.strong, ?_⟩
      have back : ∀ {F γ σ H}, RB X.K { B with F0 := F2 } F γ σ H → RB X.K B F γ σ H := fun q => q.weak r2.fi.f0 r2.fi.fn
      cases e2 : body γ2 with
      | ok fl =>
        rw [e2] at o1
        cases fl with
        | nx γ3 => exact fun F σ H q => ⟨F, γ3, (f1.trans n2.f).trans q.fi.f0, back q, o1⟩
        | ct γ3 => exact fun F σ H q => ⟨F, γ3, (f1.trans n2.f).trans q.fi.f0, back q, o1⟩
        | bk γ3 => exact fun F σ H q => o1 F σ H (back q)
        | rt d => exact fun v F H q p => o1 v F H (Fin.weak (h := r2.fi.f0) (hn := r2.fi.fn) q) p
      | ex c => rw [e2] at o1; exact fun σ F H q => o1 σ F H (Fin.weak (h := r2.fi.f0) (hn := r2.fi.fn) q)
      | no => rw [e2] at o1; exact o1
    | ex c => exact absurd e1 (hbd _ _ _)
    | no => simp only [e1, R.bind] at o1; exact o1.elim
  · have hi' : i = ds.length := by omega
    refine .inl ⟨g1 hi', ?_⟩
    rw [List.drop_eq_nil_of_le (by omega)] at o1
    exact o1 F1 σ1 H1 r1
def fForI (it : Ga → R (List D)) (bd : D → Ga → R Ga) (body : Ga → R Fl) : Ga → R Fl := fun γ => (it γ).bind fun ds => forGo bd body ds γ
def fForE (fe : Ga → R D) (bd : D → Ga → R Ga) (body : Ga → R Fl) : Ga → R Fl := fun γ => (fe γ).bind fun d => match d with
  | .dic es => (forGo bd body (keysD es) γ).noex
  | d => (items d).bind fun ds => forGo bd body ds γ
section
variable {X : Cx} {W : WN} {bd : D → Ga → R Ga} {body : Ga → R Fl} {is : List Nat} {t : TG} {tg iter : Expr} {it : Ga → R (List D)} {fe : Ga → R D} {sts : List Stmt} {pos : Pos}
theorem js_forI (hp : PassesOwn (model X.prog X.w) X.A X.env X.xe) (hc : X.calm = true) (hbd : BdOk bd) (hi : JI X W it tg iter) (hg : JG X is bd t tg) (hb : JSs X W body sts) (hs : ∀ x, foldedSetIterable iter X.env x = pure x := by intro _; rfl) :
    JS X W (fForI it bd body) (.For tg iter sts [] pos) := ⟨PS.imp (ps_for hp hc hi.pi hg.pg hb.pss hs) fun E σ H ⟨B, F, γ, r, o⟩ => by
  refine ⟨F, γ, r.rs, ?_⟩
  unfold fForI at o
  cases e1 : it γ with
  | ok ds =>
    simp only [e1, R.bind] at o
    exact fun J F' H' n gs => for_core hbd hg (fun _ _ _ h => h) gs (fun _ h => nomatch h) (r.next n) o
  | ex c => simp only [e1, R.bind] at o; exact fun F' H' n => o σ F' H' (r.fi.next n)
  | no => simp only [e1, R.bind] at o; exact o⟩
/-- locked, unlocked -/
theorem RB.lock {K : PySem.W.Frag} {B : Bs} {F H : Hp} {γ : Ga} {σ : L2.St} (r : RB K B F γ σ H) {d : Addr} {od : Obj} {kvs : List (Key × V)} (hF : F d = some (.dK kvs)) (hH : H d = some (.dK kvs)) :
    RB K { B with S := (d, .frz od (.dK kvs)) :: B.S } F γ σ (upd H d (.frz od (.dK kvs))) := by
  have em : Emb F (upd H d (.frz od (.dK kvs))) := fun a o e => by
    by_cases q : a = d
    · subst q; rw [hF] at e; cases e; exact .inr ⟨od, kvs, rfl, upd_same⟩
    · rw [upd_ne q]; exact r.rs.emb a o e
  have ks : ∀ b u, F b = none → H b = some u → upd H d (.frz od (.dK kvs)) b = some u := fun b u h1 h2 => by
    rw [upd_ne]
    · exact h2
    · rintro rfl; rw [h1] at hF; cases hF
  have bk : ∀ i s b, γ[i]? = some s → Inn (upd H d (.frz od (.dK kvs))) s σ[i]? b → Inn H s σ[i]? b := fun i s b e h => h.back (r.rs.sl i s e) fun b u h1 h2 => ks b u (h1.have (r.rs.sl i s e)).1 h2
  refine ⟨⟨em, r.rs.len, fun i s e => (r.rs.sl i s e).keep (.refl _) fun b u _ h1 h2 => ⟨ks b u h1 h2, h1⟩, fun i j s s' b e1 e2 h1 h2 => r.rs.apart i j s s' b e1 e2 (bk _ _ b e1 h1) (bk _ _ b e2 h2)⟩, ⟨r.fi.f0, r.fi.fn, em, fun b o e => ?_, fun p hp => ?_⟩, fun i s b e h => r.ow i s b e (bk i s b e h)⟩
  · by_cases q : b = d
    · subst q
      rcases r.fi.h0 b o e with z | ⟨ob, k2, z1, z2⟩
      · rw [hH] at z; cases z; exact .inr ⟨od, kvs, rfl, List.mem_cons_self⟩
      · have := (r.fi.sS _ z2).1; rw [hH] at this; cases this
    · rw [upd_ne q]
      rcases r.fi.h0 b o e with z | ⟨ob, k2, z1, z2⟩
      · exact .inl z
      · exact .inr ⟨ob, k2, z1, List.mem_cons_of_mem _ z2⟩
  · rcases List.mem_cons.mp hp with e | hp
    · subst e; exact ⟨upd_same, od, kvs, rfl, hF⟩
    · obtain ⟨y1, ob, u, y2, y3⟩ := r.fi.sS p hp
      have q : p.1 ≠ d := by
        intro z
        rw [z, hH] at y1
        rw [y2] at y1
        cases y1
      rw [upd_ne q]; exact ⟨y1, ob, u, y2, y3⟩
theorem Fin.unlock {B : Bs} {F H : Hp} {d : Addr} {od : Obj} {kvs : List (Key × V)} (f : Fin { B with S := (d, .frz od (.dK kvs)) :: B.S } F H) (hd : ∀ p ∈ B.S, p.1 ≠ d) (h0 : ∀ o' u', B.H0 d ≠ some (.frz o' u')) : Fin B F (upd H d (.dK kvs)) := by
  obtain ⟨y1, ob, u, y2, y3⟩ := f.sS _ List.mem_cons_self
  cases y2
  refine ⟨f.f0, f.fn, fun a o e => ?_, fun b o e => ?_, fun p hp => ?_⟩
  · by_cases q : a = d
    · subst q; rw [y3] at e; cases e; exact .inl upd_same
    · rw [upd_ne q]; exact f.emb a o e
  · by_cases q : b = d
    · subst q
      rcases f.h0 b o e with z | ⟨ob, k2, z1, z2⟩
      · rw [y1] at z; cases z; exact absurd e (h0 _ _)
      · have := (f.sS _ z2).1
        rw [y1] at this
        cases this
        exact .inl (by rw [z1]; exact upd_same)
    · rw [upd_ne q]
      rcases f.h0 b o e with z | ⟨ob, k2, z1, z2⟩
      · exact .inl z
      · rcases List.mem_cons.mp z2 with w | w
        · exact absurd (Prod.mk.inj w).1 q
        · exact .inr ⟨ob, k2, z1, w⟩
  · obtain ⟨z1, z2⟩ := f.sS p (List.mem_cons_of_mem _ hp)
    rw [upd_ne (hd p hp)]; exact ⟨z1, z2⟩
theorem RB.unlock {K : PySem.W.Frag} {B : Bs} {F H : Hp} {γ : Ga} {σ : L2.St} {d : Addr} {od : Obj} {kvs : List (Key × V)} (r : RB K { B with S := (d, .frz od (.dK kvs)) :: B.S } F γ σ H) (hd : ∀ p ∈ B.S, p.1 ≠ d) (h0 : ∀ o' u', B.H0 d ≠ some (.frz o' u')) :
    RB K B F γ σ (upd H d (.dK kvs)) := by
  have f := r.fi.unlock hd h0
  obtain ⟨y1, ob, u, y2, y3⟩ := r.fi.sS _ List.mem_cons_self
  cases y2
  have ks : ∀ b u, F b = none → H b = some u → upd H d (.dK kvs) b = some u := fun b u h1 h2 => by
    rw [upd_ne]
    · exact h2
    · rintro rfl; rw [h1] at y3; cases y3
  have bk : ∀ i s b, γ[i]? = some s → Inn (upd H d (.dK kvs)) s σ[i]? b → Inn H s σ[i]? b := fun i s b e h => h.back (r.rs.sl i s e) fun b u h1 h2 => ks b u (h1.have (r.rs.sl i s e)).1 h2
  exact ⟨⟨f.emb, r.rs.len, fun i s e => (r.rs.sl i s e).keep (.refl _) fun b u _ h1 h2 => ⟨ks b u h1 h2, h1⟩, fun i j s s' b e1 e2 h1 h2 => r.rs.apart i j s s' b e1 e2 (bk _ _ b e1 h1) (bk _ _ b e2 h2)⟩, f, fun i s b e h => r.ow i s b e (bk i s b e h)⟩
theorem RB.pin {K : PySem.W.Frag} {B : Bs} {F H : Hp} {γ : Ga} {σ : L2.St} (r : RB K B F γ σ H) {d : Addr} {od : Obj} {kvs : List (Key × V)} (hF : F d = some (.dK kvs)) (hH : H d = some (.frz od (.dK kvs))) :
    RB K { B with S := (d, .frz od (.dK kvs)) :: B.S } F γ σ H :=
  ⟨r.rs, ⟨r.fi.f0, r.fi.fn, r.fi.emb, fun b o e => by
    rcases r.fi.h0 b o e with z | ⟨ob, k2, z1, z2⟩
    · exact .inl z
    · exact .inr ⟨ob, k2, z1, List.mem_cons_of_mem _ z2⟩, fun p hp => by
    rcases List.mem_cons.mp hp with e | hp
    · subst e; exact ⟨hH, od, kvs, rfl, hF⟩
    · exact r.fi.sS p hp⟩, r.ow⟩
theorem Fin.unpin {B : Bs} {F H : Hp} {d : Addr} {od : Obj} {kvs : List (Key × V)} (f : Fin { B with S := (d, .frz od (.dK kvs)) :: B.S } F H)
    (hq : ∀ o, B.H0 d = some o → o = .frz od (.dK kvs) ∨ ∃ ob kvs, o = .dK kvs ∧ (d, HO.frz ob (.dK kvs)) ∈ B.S) : Fin B F H :=
  ⟨f.f0, f.fn, f.emb, fun b o e => by
    rcases f.h0 b o e with z | ⟨ob, k2, z1, z2⟩
    · exact .inl z
    · rcases List.mem_cons.mp z2 with w | w
      · have e1 := (Prod.mk.inj w).1
        subst e1
        rcases hq o e with y | y
        · exact .inl (by rw [y]; exact (f.sS _ List.mem_cons_self).1)
        · exact .inr y
      · exact .inr ⟨ob, k2, z1, w⟩, fun p hp => f.sS p (List.mem_cons_of_mem _ hp)⟩
theorem js_forE (hp : PassesOwn (model X.prog X.w) X.A X.env X.xe) (hc : X.calm = true) (hbd : BdOk bd) (he : J X W fe iter) (hg : JG X is bd t tg) (hb : JSs X W body sts) (hs : ∀ x, foldedSetIterable iter X.env x = pure x := by intro _; rfl) :
    JS X W (fForE fe bd body) (.For tg iter sts [] pos) := ⟨PS.imp (ps_unl (ps_for hp hc (pi_any he) hg.pg hb.pss hs)) fun E σ H ⟨B, F, γ, r, o⟩ => by
  refine ⟨F, γ, r.rs, ?_⟩
  unfold fForE at o
  have up : ∀ {B : Bs} {x : R Fl}, OutS X.K W B x E → OutS X.K W B x (unlE X E) := fun {B x} o => by
    cases x with
    | ok fl => cases fl with
      | nx γ => exact fun F σ H q => .inl (o F σ H q)
      | bk γ => exact fun F σ H q => .inl (o F σ H q)
      | ct γ => exact fun F σ H q => .inl (o F σ H q)
      | rt d => exact fun v F H q p => .inl (o v F H q p)
    | ex c => exact o
    | no => exact o
  cases e1 : fe γ with
  | ok d =>
    simp only [e1, R.bind] at o
    cases d
    case dic es =>
      intro J F' H' d od kvs n hd gs
      have r' := r.next n
      have o : OutS X.K W B (forGo bd body (keysD es) γ).noex E := o
      have cv : ∀ {S' : List (Addr × HO)}, (∀ F γ σ H, RB X.K { B with S := S' } F γ σ H → ∀ {T : L2.St → Hp → Prop}, (∀ F σ H, RB X.K B F γ σ H → T σ H) → Ul X (T σ) H) →
          (∀ F H, Fin { B with S := S' } F H → ∀ {x : D} {T : V → Hp → Prop} {v : V}, (∀ v F H, Fin B F H → Rep X.K F x v → T v H) → Rep X.K F x v → Ul X (T v) H) → OutS X.K W { B with S := S' } (forGo bd body (keysD es) γ) (unlE X E) := fun {S'} c1 c2 => by
        cases e2 : forGo bd body (keysD es) γ with
        | ok fl =>
          rw [e2] at o
          cases fl with
          | nx γ => exact fun F σ H q => c1 F γ σ H q o
          | bk γ => exact fun F σ H q => c1 F γ σ H q o
          | ct γ => exact fun F σ H q => c1 F γ σ H q o
          | rt x => exact fun v F H q p => c2 F H q o p
        | ex c => rw [e2] at o; exact o.elim
        | no => rw [e2] at o; exact o.elim
      refine ⟨fun z hn => ?_, fun z => ?_⟩
      · have hS : ∀ p ∈ B.S, p.1 ≠ d := fun p hp q => by
          obtain ⟨y1, ob, u, y2, y3⟩ := r'.fi.sS p hp
          rw [q, z, y2] at y1; cases y1
        have h0 : ∀ o' u', B.H0 d ≠ some (.frz o' u') := fun o' u' e => by
          rcases r'.fi.h0 d _ e with y | ⟨_, _, y, _⟩
          · rw [z] at y; cases y
          · cases y
        have hit : ∀ {F H : Hp}, Fin { B with S := (d, .frz od (.dK kvs)) :: B.S } F H → H d = some (.frz od (.dK kvs)) := fun f => (f.sS _ List.mem_cons_self).1
        refine for_core hbd hg (fun _ _ _ h => h) gs (fun p hp => ?_) (r'.lock (od := od) hd z) (cv (fun F γ σ H q T f => .inr ⟨d, od, _, hit q.fi, hn, f F σ _ (q.unlock hS h0)⟩) fun F H q x T v f p => .inr ⟨d, od, _, hit q, hn, f v F _ (q.unlock hS h0) p⟩)
        rw [List.mem_singleton.mp hp]; exact List.mem_cons_self
      · have hq : ∀ o, B.H0 d = some o → o = .frz od (.dK kvs) ∨ ∃ ob kvs, o = .dK kvs ∧ (d, HO.frz ob (.dK kvs)) ∈ B.S := fun o e => by
          rcases r'.fi.h0 d o e with y | y
          · rw [z] at y; cases y; exact .inl rfl
          · exact .inr y
        refine for_core hbd hg (fun _ _ _ h => h) gs (fun p hp => ?_) (r'.pin (od := od) hd z) (cv (fun F γ σ H q T f => .inl (f F σ _ ⟨q.rs, q.fi.unpin hq, q.ow⟩)) fun F H q x T v f p => .inl (f v F _ (q.unpin hq) p))
        rw [List.mem_singleton.mp hp]; exact List.mem_cons_self
    case non => exact o.elim
    case bl _ => exact o.elim
    case int _ => exact o.elim
    case str s =>
      refine ⟨sgn s, rfl, fun J F' H' n gs => for_core hbd hg (fun _ _ _ h => h) gs (fun _ h => nomatch h) (r.next n) (up o)⟩
    case lst xs =>
      refine ⟨xs, rfl, fun J F' H' n gs => for_core hbd hg (fun _ _ _ h => h) gs (fun _ h => nomatch h) (r.next n) (up o)⟩
    case tup xs =>
      refine ⟨xs, rfl, fun J F' H' n gs => for_core hbd hg (fun _ _ _ h => h) gs (fun _ h => nomatch h) (r.next n) (up o)⟩
  | ex c => simp only [e1, R.bind] at o; exact fun F' H' n => o σ F' H' (r.fi.next n)
  | no => simp only [e1, R.bind] at o; exact o⟩
/-! ### while -/
/-! ### defs -/
def fnD (n : Nat) (body : Ga → R Fl) (ds : List D) : R D := match body (ds.map .va ++ List.replicate (n - ds.length) .un) with
  | .ok (.rt d) => .ok d
  | .ok (.nx _) => .ok .non
  | .ex c => .ex c
  | _ => .no
theorem start_ow {ds : List D} {k i : Nat} {s : Sl} {H : Hp} {x : Option (Option V)} {b : Addr} (h : (ds.map Sl.va ++ List.replicate k .un)[i]? = some s) : ¬ Inn H s x b := fun z => by
  by_cases l : i < ds.length
  · rw [List.getElem?_append_left (by simpa using l), List.getElem?_map, List.getElem?_eq_getElem l] at h
    cases h; exact z
  · rw [List.getElem?_append_right (by simpa using l), List.getElem?_replicate] at h
    split at h <;> cases h
    exact z
theorem rs_start {K : PySem.W.Frag} {F H : Hp} {N : List Str} {ds : List D} {vs : List V} (e : Emb F H) (r : Reps K F ds vs) : RS K F (ds.map .va ++ List.replicate (N.length - ds.length) .un) (L2.start N vs) H := by
  refine ⟨e, by simp [L2.start, r.length], fun i s h => ?_, fun i j d d' a h => ?_⟩
  · by_cases l : i < ds.length
    · rw [List.getElem?_append_left (by simpa using l)] at h
      rw [List.getElem?_map, List.getElem?_eq_getElem l] at h
      cases h
      obtain ⟨v, hv, p⟩ := r.get (List.getElem?_eq_getElem l)
      refine ⟨v, ?_, p⟩
      unfold L2.start
      rw [List.getElem?_append_left (by simpa [r.length] using (List.getElem?_eq_some_iff.mp hv).1), List.getElem?_map, hv]
      rfl
    · rw [List.getElem?_append_right (by simpa using l), List.getElem?_replicate] at h
      split at h
      · cases h; trivial
      · cases h
  · exact fun _ h2 _ => absurd h2 (start_ow h)
section
variable {P : Program} {w : World} {K : PySem.W.Frag} {mg : Str → Option Value} {base : Heap}
abbrev cxD (P : Program) (w : World) (K : PySem.W.Frag) (mg : Str → Option Value) (base : Heap) (N : List Str) (qual : Str) (st : Stmt) (f : Addr) (cdv : Value) (A : Around) (outer : List Env) (s : Shared) (H : Hp) (E : XK) : Cx :=
  cxOf (L2.CX P w) P w K mg base N qual (defScope st) f cdv A outer s H E
abbrev wnD (cl : Cl) (E : XK) : WN := fun c _ H => E (cl c) none H
theorem takes_D {cl : Cl} {N : List Str} {qual : Str} {st : Stmt} {f : Addr} {cdv : Value} {A : Around} {outer : List Env} {s : Shared} {H : Hp} {E : XK} : Takes (cxD P w K mg base N qual st f cdv A outer s H E) (VW cl (wnD cl E)) :=
  (takes_of (E := E) rfl rfl rfl rfl).imp fun c d σ H ⟨c', e1, e2, h⟩ => by subst e1 e2; exact h
theorem passes_D {N : List Str} {qual : Str} {st : Stmt} {f : Addr} {cdv : Value} {A : Around} {outer : List Env} {s : Shared} {H : Hp} {E : XK} : PassesOwn (model P w) (cxD P w K mg base N qual st f cdv A outer s H E).A (cxD P w K mg base N qual st f cdv A outer s H E).env (cxD P w K mg base N qual st f cdv A outer s H E).xe :=
  passes_of rfl
theorem fok {x qual : Str} {st : Stmt} {f : Addr} {fd : FuncData} {N ps : List Str} {k n m : Nat} {cl : Cl} {body : Ga → R Fl} (Fu : Fun K x qual st f fd) (S : FnScope N ps (defScope st)) (hn : N.length = n) (hm : ps.length = m)
    (hb : ∀ (cdv : Value) (A : Around) (outer : List Env) (s : Shared) (H : Hp) (E : XK), Room k (A.deeper (envOfC qual (defScope st) s.heap.objs.size f cdv)) → JSs (cxD P w K mg base N qual st f cdv A outer s H E) (wnD cl E) body (defBody st)) :
    FnOk P w K mg base (L2.CX P w) (k + 1) f fd ps (spD K cl m (fnD n body)) := by
  refine Fu.okX S (fun vs H Q E h => ?_) fun cdv A outer s H vs Q E hr h => ?_
  · obtain ⟨F, ds, h1, _⟩ := h
    rw [h1, hm]
  · refine ⟨_, (hb cdv A outer s H E hr).pss, ?_⟩
    obtain ⟨F, ds, h1, em, rp, o⟩ := h
    subst hn
    have r := rs_start (N := N) em rp
    refine ⟨⟨F, H, []⟩, F, _, ⟨r, .start em, fun i d a e1 e2 => absurd e2 (start_ow e1)⟩, ?_⟩
    · unfold fnD at o
      cases e : body (ds.map .va ++ List.replicate (N.length - ds.length) .un) with
      | ok fl =>
        rw [e] at o
        cases fl with
        | nx γ => exact fun F' σ' H' q => o _ F' H' q.fi.nxt .non
        | rt d => exact fun v F' H' q p => o v F' H' q.nxt p
        | bk γ => exact o.elim
        | ct γ => exact o.elim
      | ex c => rw [e] at o; exact fun σ' F' H' q => o F' H' q.nxt
      | no => rw [e] at o; exact o.elim
end
end
end KN
/-! KnH: comprehensions, own things changed, dicts, texts -/
namespace KN
open PySem PySem.Spec PyProof.Rows L2
/-! ### comprehensions -/
def wipeG (γ : Ga) : List Nat → Ga
  | [] => γ
  | v :: vs => (wipeG γ vs).set v .un
theorem wipeG_len (γ : Ga) : ∀ vs, (wipeG γ vs).length = γ.length
  | [] => rfl
  | v :: vs => by simp [wipeG, wipeG_len γ vs]
theorem wipeG_get {γ : Ga} {i : Nat} {s : Sl} : ∀ {vs : List Nat}, (wipeG γ vs)[i]? = some s → s = .un ∨ (i ∉ vs ∧ γ[i]? = some s)
  | [], h => .inr ⟨by simp, h⟩
  | v :: vs, h => by
    unfold wipeG at h
    by_cases hi : v = i
    · subst hi
      by_cases hv : v < (wipeG γ vs).length
      · rw [List.getElem?_set_self hv] at h; cases h; exact .inl rfl
      · rw [List.getElem?_eq_none (by simpa using hv)] at h; cases h
    · rw [List.getElem?_set_ne hi] at h
      rcases wipeG_get h with h | ⟨h1, h2⟩
      · exact .inl h
      · exact .inr ⟨by simp only [List.mem_cons, not_or]; exact ⟨fun e => hi e.symm, h1⟩, h2⟩
theorem wipe_out {σ : L2.St} {i : Nat} : ∀ {vs : List Nat}, i ∉ vs → (wipe σ vs)[i]? = σ[i]?
  | [], _ => rfl
  | v :: vs, h => by
    unfold wipe
    simp only [List.mem_cons, not_or] at h
    rw [List.getElem?_set_ne (fun e => h.1 e.symm)]
    exact wipe_out h.2
theorem wipe_in {σ : L2.St} {i : Nat} : ∀ {vs : List Nat}, i ∈ vs → i < σ.length → (wipe σ vs)[i]? = some none
  | [], h, _ => nomatch h
  | v :: vs, h, hl => by
    unfold wipe
    by_cases hi : v = i
    · subst hi; rw [List.getElem?_set_self (by rw [wipe_length]; exact hl)]
    · rw [List.getElem?_set_ne hi]
      rcases List.mem_cons.mp h with e | h
      · exact absurd e.symm hi
      · exact wipe_in h hl
theorem wipe_same {σ σ' : L2.St} {vs : List Nat} (hl : σ'.length = σ.length) (ho : ∀ j, j ∉ vs → σ'[j]? = σ[j]?) : wipe σ' vs = wipe σ vs := by
  apply List.ext_getElem?
  intro i
  by_cases h : i ∈ vs
  · by_cases l : i < σ.length
    · rw [wipe_in h l, wipe_in h (by rw [hl]; exact l)]
    · rw [List.getElem?_eq_none (by rw [wipe_length, hl]; omega), List.getElem?_eq_none (by rw [wipe_length]; omega)]
  · rw [wipe_out h, wipe_out h, ho i h]
theorem wipe_wipe {σ : L2.St} {vs : List Nat} : wipe (wipe σ vs) vs = wipe σ vs := wipe_same (wipe_length _ _) fun j h => wipe_out h
theorem RS.wipe {K : PySem.W.Frag} {F H : Hp} {γ : Ga} {σ : L2.St} (r : RS K F γ σ H) (vs : List Nat) : RS K F (wipeG γ vs) (L2.wipe σ vs) H := by
  refine ⟨r.emb, by rw [wipeG_len, wipe_length, r.len], fun i s e => ?_, fun i j d d' a e1 e2 h1 h2 => ?_⟩
  · rcases wipeG_get e with rfl | ⟨h1, h2⟩
    · trivial
    · rw [wipe_out h1]; exact r.sl i s h2
  · rcases wipeG_get e1 with z | ⟨z1, z2⟩
    · subst z; exact h1.elim
    · rcases wipeG_get e2 with y | ⟨y1, y2⟩
      · subst y; exact h2.elim
      · rw [wipe_out z1] at h1
        rw [wipe_out y1] at h2
        exact r.apart i j d d' a z2 y2 h1 h2
def lcGo (bd : D → Ga → R Ga) (ifs : Ga → R Bool) (elt : Ga → R D) (γ : Ga) : List D → R (List D)
  | [] => .ok []
  | x :: xs => (bd x γ).noex.bind fun γ1 => (ifs γ1).noex.bind fun b => if b = true then (elt γ1).noex.bind fun y => (lcGo bd ifs elt γ xs).bind fun ys => .ok (y :: ys) else lcGo bd ifs elt γ xs
theorem lcGo_ne {bd : D → Ga → R Ga} {ifs : Ga → R Bool} {elt : Ga → R D} {γ : Ga} : ∀ xs c, lcGo bd ifs elt γ xs ≠ .ex c := by
  intro xs
  induction xs with
  | nil => intro c h; cases h
  | cons x xs ih =>
    intro c h
    unfold lcGo at h
    cases e1 : bd x γ <;> simp only [e1, R.noex, R.bind] at h <;> try (cases h; done)
    rename_i γ1
    cases e2 : ifs γ1 <;> simp only [e2, R.noex, R.bind] at h <;> try (cases h; done)
    rename_i b
    cases b <;> simp only [Bool.false_eq_true, if_false, if_true] at h
    · exact ih c h
    · cases e3 : elt γ1 <;> simp only [e3, R.noex, R.bind] at h <;> try (cases h; done)
      cases e4 : lcGo bd ifs elt γ xs <;> simp only [e4, R.bind] at h <;> try (cases h; done)
      exact ih _ e4
abbrev W0 : WN := fun _ _ _ => False
/-- the tests of a comprehension: none, or one -/
def yes : Ga → R Bool := fun _ => .ok true
structure JIfs (X : Cx) (f : Ga → R Bool) (t : TT) (es : List Expr) : Prop where
  pts : PTs X es t
  go : ∀ {σ : L2.St} {H F : Hp} {γ : Ga} {Q : Bool → Hp → Prop}, RS X.K F γ σ H → OutT F H (fun _ _ => False) (f γ) Q → t σ H Q
theorem jifs_nil {X : Cx} : JIfs X yes tYes [] := ⟨pts_nil, fun {σ H F γ Q} r o => o F H (.refl r.emb)⟩
theorem jifs_one {X : Cx} {f : Ga → R Bool} {e : Expr} (h : JT X W0 f e) : JIfs X f (rdT X.K W0 f) [e] := ⟨pts_one h.pt, fun {σ H F γ Q} r o => ⟨F, γ, r, o⟩⟩
theorem jifs_oneK {X : Cx} {K : PySem.W.Frag} {f : Ga → R Bool} {e : Expr} (hK : X.K = K) (h : JT X W0 f e) : JIfs X f (rdT K W0 f) [e] := by
  subst hK
  exact jifs_one h
/-- the walk of a comprehension -/
theorem lc_core {K : PySem.W.Frag} {bd : D → Ga → R Ga} {ifs : Ga → R Bool} {elt : Ga → R D} {vs : List Nat} {g : TG} {tt : TT} {te : TE} {J : It} {F0 H0 : Hp} {S : List (Addr × HO)} {ds ys : List D} {γ : Ga} {σ : L2.St} {D0 : Addr} {Q : Hp → Prop}
    (hg : ∀ {F : Hp} {γ γ' : Ga} {σ : L2.St} {H : Hp} {d : D} {v : V} {Q : L2.St → Hp → Prop}, RS K F γ σ H → Rep K F d v → bd d γ = .ok γ' → (∀ σ', RS K F γ' σ' H → Kp vs γ σ γ' σ' → Q σ' H) → g v σ H Q)
    (ht : ∀ {σ : L2.St} {H F : Hp} {γ : Ga} {Q : Bool → Hp → Prop}, RS K F γ σ H → OutT F H (fun _ _ => False) (ifs γ) Q → tt σ H Q)
    (he : ∀ {σ : L2.St} {H F : Hp} {γ : Ga} {Q : VK}, RS K F γ σ H → Out (PV K F H) F H (fun _ _ => False) (elt γ) Q → te σ H Q)
    (gs : Goes K J F0 S ds) (hS : ∀ p ∈ S, H0 p.1 = some p.2) (r : RS K F0 γ σ H0) (o : lcGo bd ifs elt (wipeG γ vs) ds = .ok ys) (hz : ys.length < sizeLine) (hD : H0 D0 = none)
    (fin : ∀ F' H', Nxt F0 H0 F' H' → F' D0 = none → (∃ us, H' D0 = some (.lst us) ∧ Reps K F' ys us) → Q H') :
    ∃ Wi : Nat → Nat → Hp → Prop, (∃ m, Wi 0 m (upd H0 D0 (.lst []))) ∧ ∀ i m H, Wi i m H → (J.stop i H ∧ Q H) ∨
      (J.go i H ∧ ∃ Nx : Hp → Prop, (∀ H', Nx H' → ∃ m', m' < m ∧ Wi (i + 1) m' H') ∧ ∀ x H', J.yld i H x H' → g x (wipe σ vs) H' fun σ2 H2 => wipe σ2 vs = wipe σ vs ∧ tt σ2 H2 fun b H3 =>
        if b = true then te σ2 H3 fun y H4 => ∃ acc, H4 D0 = some (.lst acc) ∧ acc.length < sizeLine ∧ Nx (upd H4 D0 (.lst (acc ++ [y]))) else Nx H3) := by
  have dS : ∀ p ∈ S, p.1 ≠ D0 := fun p hp q => by have := hS p hp; rw [q, hD] at this; cases this
  -- the state: what was made so far, what is left to make
  refine ⟨fun i m H => ∃ F zs rest us, Nxt F0 H0 F H ∧ F D0 = none ∧ H D0 = some (.lst us) ∧ Reps K F zs us ∧ lcGo bd ifs elt (wipeG γ vs) (ds.drop i) = .ok rest ∧ ys = zs ++ rest ∧ (∀ p ∈ S, H p.1 = some p.2) ∧ m = ds.length - i ∧ i ≤ ds.length,
    ⟨ds.length, F0, [], ys, [], .laid r.emb hD _, r.emb.free hD, upd_same, .nil, o, rfl, fun p hp => by rw [upd_ne (dS p hp)]; exact hS p hp, rfl, Nat.zero_le _⟩, ?_⟩
  rintro i m H1 ⟨F1, zs, rest, us, n1, fD, hus, rp, o1, ey, hS1, rfl, hi⟩
  obtain ⟨g1, g2⟩ := gs F1 H1 i n1.f n1.emb hS1
  by_cases hl : i < ds.length
  · have hd : ds[i]? = some ds[i] := List.getElem?_eq_getElem hl
    obtain ⟨go, gy⟩ := g2 _ hd
    rw [List.drop_eq_getElem_cons hl] at o1
    unfold lcGo at o1
    cases e1 : bd ds[i] (wipeG γ vs) with
    | ok γ2 =>
      simp only [e1, R.noex, R.bind] at o1
      refine .inr ⟨go, fun H' => ∃ F zs rest us, Nxt F0 H0 F H' ∧ F D0 = none ∧ H' D0 = some (.lst us) ∧ Reps K F zs us ∧ lcGo bd ifs elt (wipeG γ vs) (ds.drop (i + 1)) = .ok rest ∧ ys = zs ++ rest ∧ (∀ p ∈ S, H' p.1 = some p.2),
        fun H' ⟨F, zs, rest, us, a⟩ => ⟨ds.length - (i + 1), by omega, F, zs, rest, us, a.1, a.2.1, a.2.2.1, a.2.2.2.1, a.2.2.2.2.1, a.2.2.2.2.2.1, a.2.2.2.2.2.2, rfl, hl⟩, fun x H' hy => ?_⟩
      obtain ⟨F2, n2, p2⟩ := gy x H' hy
      have n02 := n1.trans n2
      have r2 := (r.next n02).wipe vs
      refine hg r2 p2 e1 fun σ2 rs2 k => ⟨(wipe_same k.len k.out).trans wipe_wipe, ht rs2 ?_⟩
      have keep : ∀ {F3 H3 : Hp}, Nxt F2 H' F3 H3 → Nxt F1 H1 F3 H3 ∧ F3 D0 = none ∧ H3 D0 = some (.lst us) ∧ Reps K F3 zs us ∧ ∀ p ∈ S, H3 p.1 = some p.2 := fun {F3 H3} n3 => by
        have n13 := n2.trans n3
        refine ⟨n13, ?_, n13.h _ _ hus, rp.mono n13.f, fun p hp => n13.h _ _ (hS1 p hp)⟩
        cases q : F3 D0 with
        | none => rfl
        | some u =>
          rcases n13.fn _ _ q with z | z
          · rw [fD] at z; cases z
          · rw [hus] at z; cases z
      cases e2 : ifs γ2 with
      | ok b =>
        simp only [e2] at o1
        intro F3 H3 n3
        obtain ⟨k1, k2, k3, k4, k5⟩ := keep n3
        cases b with
        | false =>
          simp only [Bool.false_eq_true, if_false] at o1 ⊢
          exact ⟨F3, zs, rest, us, n1.trans k1, k2, k3, k4, o1, ey, k5⟩
        | true =>
          simp only [if_true] at o1 ⊢
          refine he (rs2.next n3) ?_
          cases e3 : elt γ2 with
          | ok y =>
            simp only [e3] at o1
            intro v F4 H4 n4 p4
            obtain ⟨l1, l2, l3, l4, l5⟩ := keep (n3.trans n4)
            cases e4 : lcGo bd ifs elt (wipeG γ vs) (ds.drop (i + 1)) with
            | ok rest' =>
              simp only [e4] at o1
              cases o1
              have hlen : us.length < sizeLine := by
                rw [← rp.length]
                have : ys.length = zs.length + (rest'.length + 1) := by rw [ey]; simp
                omega
              have n04 := n1.trans l1
              refine ⟨us, l3, hlen, F4, zs ++ [y], rest', us ++ [v], ⟨n04.f, n04.fn, fun a u z => ?_, fun b u z => ?_⟩, l2, upd_same, l4.append (.cons p4 .nil), rfl, by rw [ey]; simp, fun p hp => by rw [upd_ne (dS p hp)]; exact l5 p hp⟩
              · rw [upd_ne (ne_of_none z l2)]; exact n04.emb a u z
              · rw [upd_ne (ne_of_none z hD)]; exact n04.h b u z
            | ex c => exact absurd e4 (lcGo_ne _ _)
            | no => simp only [e4] at o1; cases o1
          | ex c => simp only [e3] at o1; cases o1
          | no => simp only [e3] at o1; cases o1
      | ex c => simp only [e2] at o1; cases o1
      | no => simp only [e2] at o1; cases o1
    | ex c => simp only [e1, R.noex, R.bind] at o1; cases o1
    | no => simp only [e1, R.noex, R.bind] at o1; cases o1
  · have hi' : i = ds.length := by omega
    refine .inl ⟨g1 hi', fin F1 H1 n1 fD ⟨us, hus, ?_⟩⟩
    rw [List.drop_eq_nil_of_le (by omega)] at o1
    cases o1
    rw [ey, List.append_nil]
    exact rp
def lcOut (bd : D → Ga → R Ga) (ifs : Ga → R Bool) (elt : Ga → R D) (vs : List Nat) (γ : Ga) (ds : List D) : R D := (lcGo bd ifs elt (wipeG γ vs) ds).bind fun ys => if ys.length ≤ lim then .ok (.lst ys) else .no
def bLcI (it : Ga → R (List D)) (vs : List Nat) (bd : D → Ga → R Ga) (ifs : Ga → R Bool) (elt : Ga → R D) : Ga → R D := fun γ => (it γ).bind fun ds => lcOut bd ifs elt vs γ ds
def bLcE (fe : Ga → R D) (vs : List Nat) (bd : D → Ga → R Ga) (ifs : Ga → R Bool) (elt : Ga → R D) : Ga → R D := fun γ => (fe γ).bind fun d => (items d).bind fun ds => lcOut bd ifs elt vs γ ds
theorem lcOut_ne {bd : D → Ga → R Ga} {ifs : Ga → R Bool} {elt : Ga → R D} {vs : List Nat} {γ : Ga} {ds : List D} {c : Nat} : lcOut bd ifs elt vs γ ds ≠ .ex c := by
  unfold lcOut
  cases e : lcGo bd ifs elt (wipeG γ vs) ds with
  | ok ys => simp only [R.bind]; split <;> intro h <;> cases h
  | ex c => exact absurd e (lcGo_ne _ _)
  | no => intro h; cases h
theorem lcOut_ok {bd : D → Ga → R Ga} {ifs : Ga → R Bool} {elt : Ga → R D} {vs : List Nat} {γ : Ga} {ds : List D} {d : D} (h : lcOut bd ifs elt vs γ ds = .ok d) : ∃ ys, d = .lst ys ∧ lcGo bd ifs elt (wipeG γ vs) ds = .ok ys ∧ ys.length < sizeLine := by
  unfold lcOut at h
  cases e : lcGo bd ifs elt (wipeG γ vs) ds with
  | ok ys =>
    rw [e] at h
    simp only [R.bind] at h
    split at h
    · cases h; exact ⟨ys, rfl, rfl, by have : lim < sizeLine := by (rw [sizeLine_eq]; decide)
                                       omega⟩
    · cases h
  | ex c => exact absurd e (lcGo_ne _ _)
  | no => rw [e] at h; cases h
section
variable {X : Cx} {W : WN} {bd : D → Ga → R Ga} {ifs : Ga → R Bool} {elt fe : Ga → R D} {it : Ga → R (List D)} {own : List (Str × Nat)} {g : TG} {tt : TT} {tg iter e : Expr} {es : List Expr} {scope : Scope} {pos : Pos}
/-- the block's parts -/
structure Blk (X : Cx) (scope : Scope) (own : List (Str × Nat)) (bd : D → Ga → R Ga) (ifs : Ga → R Bool) (elt : Ga → R D) (g : TG) (tt : TT) (tg : Expr) (es : List Expr) (e : Expr) : Prop where
  ok : BlkOk X.N X.env.scope scope own
  hg : ∀ (s : Shared) (H : Hp) (C : Addr) (cl : List (Str × Addr)) (fp : List Addr), JG (X.blk s H scope (compEnvC scope cl C X.env) fp) (own.map (·.2)) bd g tg
  ht : ∀ (s : Shared) (H : Hp) (C : Addr) (cl : List (Str × Addr)) (fp : List Addr), JIfs (X.blk s H scope (compEnvC scope cl C X.env) fp) ifs tt es
  he : ∀ (s : Shared) (H : Hp) (C : Addr) (cl : List (Str × Addr)) (fp : List Addr), J (X.blk s H scope (compEnvC scope cl C X.env) fp) W0 elt e
theorem tLc_of {σ : L2.St} {H F : Hp} {γ : Ga} {ds ys : List D} {J : It} {S : List (Addr × HO)} {Q : VK} (b : Blk X scope own bd ifs elt g tt tg es e) (r : RS X.K F γ σ H) (gs : Goes X.K J F S ds) (hS : ∀ p ∈ S, H p.1 = some p.2)
    (o : lcGo bd ifs elt (wipeG γ (own.map (·.2))) ds = .ok ys) (hz : ys.length < sizeLine)
    (fin : ∀ a F' H', Nxt F H F' H' → H a = none → F' a = none → Own X.K F' H' (.lst ys) a → Q (.ref a) H') : ∀ D0, H D0 = none → ∃ Wi : Nat → Nat → Hp → Prop, (∃ m, Wi 0 m (upd H D0 (.lst []))) ∧ ∀ i m H, Wi i m H →
      (J.stop i H ∧ Q (.ref D0) H) ∨ (J.go i H ∧ ∃ Nx : Hp → Prop, (∀ H', Nx H' → ∃ m', m' < m ∧ Wi (i + 1) m' H') ∧ ∀ x H', J.yld i H x H' → g x (wipe σ (own.map (·.2))) H' fun σ2 H2 => wipe σ2 (own.map (·.2)) = wipe σ (own.map (·.2)) ∧ tt σ2 H2 fun b H3 =>
        if b = true then rdV X.K W0 elt σ2 H3 fun y H4 => ∃ acc, H4 D0 = some (.lst acc) ∧ acc.length < sizeLine ∧ Nx (upd H4 D0 (.lst (acc ++ [y]))) else Nx H3) := fun D0 hD =>
  lc_core (K := X.K) (fun {F γ γ' σ H d v Q} r p e q => (b.hg X.s_0 X.H_0 X.env.locals [] []).go r p e q) (fun {σ H F γ Q} r o => (b.ht X.s_0 X.H_0 X.env.locals [] []).go r o)
    (fun {σ H F γ Q} r o => ⟨F, γ, r, o⟩) gs hS r o hz hD fun F' H' n f0 ow => fin D0 F' H' n hD f0 ow
theorem jf_lcI (hc : X.calm = true) (hN : X.N.Nodup) (hi : JI X W it tg iter) (b : Blk X scope own bd ifs elt g tt tg es e) (hs : ∀ x, foldedSetIterable iter X.env x = pure x := by intro _; rfl) :
    JF X W (bLcI it (own.map (·.2)) bd ifs elt) (.ListComp e [⟨tg, iter, es, 0⟩] scope pos) := ⟨PE.imp (pe_lc hc hN hi.pi b.ok (fun s H C cl fp => (b.hg s H C cl fp).pg) (fun s H C cl fp => (b.ht s H C cl fp).pts) (fun s H C cl fp => (b.he s H C cl fp).pe) hs) fun σ H Q ⟨F, γ, r, o⟩ => by
  refine ⟨F, γ, r, ?_⟩
  unfold bLcI at o
  cases e1 : it γ with
  | ok ds =>
    simp only [e1, R.bind] at o
    intro J F' H' n gs
    cases e2 : lcOut bd ifs elt (own.map (·.2)) γ ds with
    | ok d =>
      rw [e2] at o
      obtain ⟨ys, rfl, h1, h2⟩ := lcOut_ok e2
      exact tLc_of b (r.next n) gs (fun _ h => nomatch h) h1 h2 fun a F2 H2 n2 ha f0 ow => PF.next (Q := Q) o n a F2 H2 n2 ha f0 ow
    | ex c => exact absurd e2 lcOut_ne
    | no => rw [e2] at o; exact o.elim
  | ex c => simp only [e1, R.bind] at o; exact o
  | no => simp only [e1, R.bind] at o; exact o⟩
/-- what a walked value asks, in an expression: unlocked at the end -/
theorem lcE_of {σ : L2.St} {H F : Hp} {γ : Ga} {Q : VK} (b : Blk X scope own bd ifs elt g tt tg es e) (r : RS X.K F γ σ H) (o : Out (PF X.K F H) F H (fun c H' => W c σ H') (bLcE fe (own.map (·.2)) bd ifs elt γ) Q) :
    tLc (rdE X W fe) g tt (rdV X.K W0 elt) (own.map (·.2)) σ H fun v => Ul X (Q v) := by
  refine ⟨F, γ, r, ?_⟩
  unfold bLcE at o
  cases e1 : fe γ with
  | ok d =>
    simp only [e1, R.bind] at o
    have simple : ∀ {ds : List D}, Out (PF X.K F H) F H (fun c H' => W c σ H') (lcOut bd ifs elt (own.map (·.2)) γ ds) Q → ∀ J F' H', Nxt F H F' H' → Goes X.K J F' [] ds → ∀ D0, H' D0 = none → ∃ Wi : Nat → Nat → Hp → Prop, (∃ m, Wi 0 m (upd H' D0 (.lst []))) ∧ ∀ i m H, Wi i m H →
      (J.stop i H ∧ Ul X (Q (.ref D0)) H) ∨ (J.go i H ∧ ∃ Nx : Hp → Prop, (∀ H', Nx H' → ∃ m', m' < m ∧ Wi (i + 1) m' H') ∧ ∀ x H', J.yld i H x H' → g x (wipe σ (own.map (·.2))) H' fun σ2 H2 => wipe σ2 (own.map (·.2)) = wipe σ (own.map (·.2)) ∧ tt σ2 H2 fun b H3 =>
        if b = true then rdV X.K W0 elt σ2 H3 fun y H4 => ∃ acc, H4 D0 = some (.lst acc) ∧ acc.length < sizeLine ∧ Nx (upd H4 D0 (.lst (acc ++ [y]))) else Nx H3) := fun {ds} o J F' H' n gs => by
      cases e2 : lcOut bd ifs elt (own.map (·.2)) γ ds with
      | ok d =>
        rw [e2] at o
        obtain ⟨ys, rfl, h1, h2⟩ := lcOut_ok e2
        exact tLc_of (Q := fun v => Ul X (Q v)) b (r.next n) gs (fun _ h => nomatch h) h1 h2 fun a F2 H2 n2 ha f0 ow => .inl (PF.next (Q := Q) o n a F2 H2 n2 ha f0 ow)
      | ex c => exact absurd e2 lcOut_ne
      | no => rw [e2] at o; exact o.elim
    cases d
    case non => exact o.elim
    case bl _ => exact o.elim
    case int _ => exact o.elim
    case str s => exact ⟨sgn s, rfl, simple o⟩
    case lst xs => exact ⟨xs, rfl, simple o⟩
    case tup xs => exact ⟨xs, rfl, simple o⟩
    case dic ks =>
      intro J F' H' d od kvs n hd gs
      have o : Out (PF X.K F H) F H (fun c H' => W c σ H') (lcOut bd ifs elt (own.map (·.2)) γ (keysD ks)) Q := o
      cases e2 : lcOut bd ifs elt (own.map (·.2)) γ (keysD ks) with
      | ok x =>
        rw [e2] at o
        obtain ⟨ys, rfl, h1, h2⟩ := lcOut_ok e2
        have r' := r.next n
        refine ⟨fun z hn => ?_, fun z => ?_⟩
        · -- locked by us
          have em : Emb F' (upd H' d (.frz od (.dK kvs))) := fun a o e => by
            by_cases q : a = d
            · subst q; rw [hd] at e; cases e; exact .inr ⟨od, kvs, rfl, upd_same⟩
            · rw [upd_ne q]; exact n.emb a o e
          have rl : RS X.K F' γ σ (upd H' d (.frz od (.dK kvs))) := by
            have ks : ∀ b u, F' b = none → H' b = some u → upd H' d (.frz od (.dK kvs)) b = some u := fun b u h1 h2 => by
              rw [upd_ne]
              · exact h2
              · rintro rfl; rw [h1] at hd; cases hd
            have bk : ∀ i s b, γ[i]? = some s → Inn (upd H' d (.frz od (.dK kvs))) s σ[i]? b → Inn H' s σ[i]? b := fun i s b e h => h.back (r'.sl i s e) fun b u h1 h2 => ks b u (h1.have (r'.sl i s e)).1 h2
            exact ⟨em, r'.len, fun i s e => (r'.sl i s e).keep (.refl _) fun b u _ h1 h2 => ⟨ks b u h1 h2, h1⟩, fun i j s s' b e1 e2 h1 h2 => r'.apart i j s s' b e1 e2 (bk _ _ b e1 h1) (bk _ _ b e2 h2)⟩
          refine tLc_of (Q := fun v => Ul X (Q v)) b rl gs (fun p hp => by rw [List.mem_singleton.mp hp]; exact upd_same) h1 h2 fun a F2 H2 n2 ha f0 ow => ?_
          have had : a ≠ d := fun q => by rw [q, upd_same] at ha; cases ha
          have hd2 : F2 d = some (.dK kvs) := n2.f _ _ hd
          refine .inr ⟨d, od, .dK kvs, n2.h _ _ upd_same, hn, ?_⟩
          rw [upd_ne had] at ha
          refine o a F2 _ ⟨n.f.trans n2.f, fun c u q => ?_, fun c u q => ?_, fun c u q => ?_⟩ (n.h.free ha) f0 (ow.next (.refl _) fun u q => by rw [upd_ne had]; exact q)
          · rcases n2.fn c u q with y | y
            · exact n.fn c u y
            · by_cases w : c = d
              · subst w; rw [upd_same] at y; cases y
              · rw [upd_ne w] at y; exact .inr (n.h.free y)
          · by_cases w : c = d
            · subst w; rw [hd2] at q; cases q; exact .inl upd_same
            · rw [upd_ne w]; exact n2.emb c u q
          · by_cases w : c = d
            · subst w
              have := n.h _ _ q
              rw [z] at this; cases this; exact upd_same
            · rw [upd_ne w]
              exact n2.h _ _ (by rw [upd_ne w]; exact n.h _ _ q)
        · exact tLc_of (Q := fun v => Ul X (Q v)) b r' gs (fun p hp => by rw [List.mem_singleton.mp hp]; exact z) h1 h2 fun a F2 H2 n2 ha f0 ow => .inl (PF.next (Q := Q) o n a F2 H2 n2 ha f0 ow)
      | ex c => exact absurd e2 lcOut_ne
      | no => rw [e2] at o; exact o.elim
  | ex c => simp only [e1, R.bind] at o; exact o
  | no => simp only [e1, R.bind] at o; exact o
theorem jf_lcE (hc : X.calm = true) (hN : X.N.Nodup) (he : J X W fe iter) (b : Blk X scope own bd ifs elt g tt tg es e) (hs : ∀ x, foldedSetIterable iter X.env x = pure x := by intro _; rfl) :
    JF X W (bLcE fe (own.map (·.2)) bd ifs elt) (.ListComp e [⟨tg, iter, es, 0⟩] scope pos) := ⟨PE.imp (pe_unl (pe_lc hc hN (pi_any he) b.ok (fun s H C cl fp => (b.hg s H C cl fp).pg) (fun s H C cl fp => (b.ht s H C cl fp).pts) (fun s H C cl fp => (b.he s H C cl fp).pe) hs)) fun σ H Q ⟨F, γ, r, o⟩ => lcE_of b r o⟩
end
/-! ### own things changed -/
def putD (es : List (Tx × D)) (k : Tx) (d : D) : List (Tx × D) := if (es.any fun e => e.1 == k) = true then es.map (fun e => if (e.1 == k) = true then (e.1, d) else e) else es ++ [(k, d)]
theorem keyS_iff {k k' : Tx} : ((Sum.inr (toS k') : Key) = Sum.inr (toS k)) ↔ k' = k := ⟨fun z => toS_inj.mp (Sum.inr.inj z), fun z => by rw [z]⟩
theorem RepK.any_eq {K : PySem.W.Frag} {F : Hp} (k : Tx) {es : List (Tx × D)} {kvs : List (Key × V)} (h : RepK K F es kvs) : (kvs.any fun kv => decide (kv.1 = (Sum.inr (toS k) : Key))) = es.any fun e => e.1 == k := by
  induction es generalizing kvs with
  | nil => cases h; rfl
  | cons e es ih =>
    cases h with
    | cons h1 h2 =>
      rw [List.any_cons, List.any_cons, ih h2]
      congr 1
      rw [Bool.eq_iff_iff]
      simp [toS_inj]
theorem RepK.repl {K : PySem.W.Frag} {F : Hp} (k : Tx) {d : D} {v : V} (p : Rep K F d v) {es : List (Tx × D)} {kvs : List (Key × V)} (h : RepK K F es kvs) :
    RepK K F (es.map (fun e => if (e.1 == k) = true then (e.1, d) else e)) (kvs.map (fun kv => if kv.1 = (Sum.inr (toS k) : Key) then (kv.1, v) else kv)) := by
  induction es generalizing kvs with
  | nil => cases h; exact .nil
  | cons e es ih =>
    obtain ⟨k', d'⟩ := e
    cases h with
    | cons h1 h2 =>
      simp only [List.map_cons]
      by_cases q : k' = k
      · rw [if_pos (keyS_iff.mpr q), if_pos (by simpa using q)]; exact .cons p (ih h2)
      · rw [if_neg (fun z => q (keyS_iff.mp z)), if_neg (by simpa using q)]; exact .cons h1 (ih h2)
theorem RepK.snoc {K : PySem.W.Frag} {F : Hp} (k : Tx) {d : D} {v : V} (p : Rep K F d v) {es : List (Tx × D)} {kvs : List (Key × V)} (h : RepK K F es kvs) : RepK K F (es ++ [(k, d)]) (kvs ++ [(Sum.inr (toS k), v)]) := by
  induction es generalizing kvs with
  | nil => cases h; exact .cons p .nil
  | cons e es ih =>
    obtain ⟨k', d'⟩ := e
    cases h with
    | cons h1 h2 => exact .cons h1 (ih h2)
theorem RepK.put {K : PySem.W.Frag} {F : Hp} {es : List (Tx × D)} {kvs : List (Key × V)} (h : RepK K F es kvs) (k : Tx) {d : D} {v : V} (p : Rep K F d v) : RepK K F (putD es k d) (putK kvs (Sum.inr (toS k)) v) := by
  unfold putD putK
  rw [h.any_eq k]
  split
  · exact h.repl k p
  · exact h.snoc k p
theorem lim_lt : lim < sizeLine := by rw [sizeLine_eq]; decide
def owL (γ : Ga) (i : Nat) : Option (List D) := match γ[i]? with | some (.ow (.lst xs)) => some xs | _ => none
theorem owL_some {γ : Ga} {i : Nat} {xs : List D} (h : owL γ i = some xs) : γ[i]? = some (.ow (.lst xs)) := by
  unfold owL at h
  split at h
  · cases h; assumption
  · cases h
def fApp (i : Nat) (fe : Ga → R D) : Ga → R Fl := fun γ => match owL γ i with
  | some xs => (fe γ).bind fun d => if xs.length < lim then .ok (.nx (γ.set i (.ow (.lst (xs ++ [d]))))) else .no
  | none => .no
section
variable {X : Cx} {W : WN} {fe fk fv fa fb : Ga → R D} {e k a b : Expr} {pos apos cpos p1 p2 tpos : Pos}
theorem own_at {K : PySem.W.Frag} {B : Bs} {F H : Hp} {γ : Ga} {σ : L2.St} (r : RB K B F γ σ H) {i : Nat} {d : D} (e : γ[i]? = some (.ow d)) : ∃ a, σ[i]? = some (some (.ref a)) ∧ Own K F H d a := by
  obtain ⟨a, h1, _, h2⟩ := r.rs.sl i _ e
  exact ⟨a, h1, h2⟩
theorem js_app (i : Nat) {x : Str} (he : J X W fe e) (hN : X.N[i]? = some x := by rfl) (hv : Vis X.env.scope x := by first | exact Or.inl rfl | exact Or.inr (Or.inl rfl) | exact Or.inr (Or.inr rfl))
    (hb : attributeBase (.Name x p1) "append" X.env (eval (.Name x p1) X.env) = eval (.Name x p1) X.env := by rfl)
    (hfew : ((backTo cpos (starEach [e] X.env)).all (fun x => !x.1) && (backToKw cpos (keywordEach [] X.env)).all (fun x => x.1.isSome) && decide (([e] : List Expr).length + ([] : List Keyword).length + (if ([] : List Keyword).isEmpty then 0 else 1) < 30)) = true := by rfl)
    (hline : (apos.endLine == cpos.line) = true := by rfl) (hs : starEach [e] X.env = (false, eval e X.env) :: starEach [] X.env := by rfl)
    (hw : swapsWith (.Call (.Attribute (.Name x p1) "append" apos) [e] [] cpos) none pos.line X.env = pure false := by rfl)
    (hd : (x == ("__debug__" : Str)) = false := by decide) (hcd : (x == ("__classdict__" : Str)) = false := by decide) :
    JS X W (fApp i fe) (.Expr (.Call (.Attribute (.Name x p1) "append" apos) [e] [] cpos) pos) :=
  ⟨PS.imp (ps_expr (pe_bm PySem.F.plainAttrs_list PySem.F.slot_list_append PySem.F.type_list_append mt_append (pe_var hN hv hd hcd) (pa_cons he.pe pa_nil hs) hb hfew hline hs rfl) hw) fun E σ H ⟨B, F, γ, r, o⟩ => by
    unfold fApp at o
    cases e0 : owL γ i with
    | none => rw [e0] at o; exact o.elim
    | some xs =>
      rw [e0] at o
      have e1 := owL_some e0
      obtain ⟨a, h1, vs, h2, rp⟩ := own_at r e1
      refine ⟨_, h1, .inl ⟨rfl, _, .inl (.inl h2)⟩, ?_⟩
      refine ex_of r o fun d v F1 H1 n1 r1 p1 o1 => ?_
      split at o1
      · rename_i hl
        have h3 := n1.h _ _ h2
        have rp1 := rp.mono n1.f
        exact ⟨a, vs, v, rfl, rfl, h3, by rw [← rp.length]; exact Nat.lt_trans hl lim_lt, o1 F1 σ _ (r1.change e1 h1 ⟨_, upd_same, rp1.append (.cons p1 .nil)⟩)⟩
      · exact o1.elim⟩
end
/-! ### dicts -/
/-! ### in -/
/-- s stands somewhere in t -/
def subT (s t : Tx) : Bool := (List.range (t.length + 1)).any fun i => decide (i + s.length ≤ t.length) && ((t.drop i).take s.length == s)
theorem sub_occ (s t : Tx) : (!(Builtin.Str.occurrences (toS t) (toS s) 0 (toS t).length 1).isEmpty) = subT s t := by
  rw [Bool.eq_iff_iff, PySem.StrLaws.found_iff]
  unfold subT
  rw [List.any_eq_true]
  simp only [toS_len, PySem.StrLaws.subAt_eq]
  constructor
  · rintro ⟨i, h1, h2⟩
    exact ⟨i, List.mem_range.mpr (by omega), by simpa using ⟨h1, by simpa [toS] using h2⟩⟩
  · rintro ⟨i, _, h⟩
    rw [Bool.and_eq_true, decide_eq_true_iff] at h
    exact ⟨i, h.1, by simpa [toS] using h.2⟩
def flatD : D → Bool
  | .non => true
  | .bl _ => true
  | .int _ => true
  | .str s => s.all (· < 0x110000)
  | _ => false
def dInB : D → D → R Bool
  | .str s, .str t => .ok (subT s t)
  | .str k, .dic es => .ok (lookK es k).isSome
  | x, .lst xs => if pl 20 x = true ∧ pl 20 (.lst xs) = true then .ok (xs.any fun z => eqv 20 z x) else .no
  | x, .tup xs => if flatD x = true ∧ xs.all flatD = true then .ok (xs.any fun z => eqv 20 z x) else .no
  | _, _ => .no
def dIn (x y : D) : R D := (dInB x y).bind fun b => .ok (.bl b)
def dNotIn (x y : D) : R D := (dInB x y).bind fun b => .ok (.bl (!b))
theorem dInB_ne : ∀ x y c, dInB x y ≠ .ex c := fun x y c => by
  unfold dInB
  split <;> first | (intro h; cases h; done) | (split <;> intro h <;> cases h)
theorem toP_succ : ∀ (n : Nat) (d : D), pl n d = true → toP (n + 1) d = toP n d := by
  intro n
  induction n with
  | zero => intro d h; cases d <;> first | rfl | (cases h; done)
  | succ n ih =>
    intro d h
    cases d <;> first | rfl | (cases h; done) | skip
    · simp only [toP, PyData.list.injEq]
      refine List.map_congr_left fun x hx => ih x (List.all_eq_true.mp h x hx)
    · simp only [toP, PyData.tuple.injEq]
      refine List.map_congr_left fun x hx => ih x (List.all_eq_true.mp h x hx)
theorem pl_succ : ∀ (n : Nat) (d : D), pl n d = true → pl (n + 1) d = true := by
  intro n
  induction n with
  | zero => intro d h; cases d <;> first | rfl | exact h | (cases h; done)
  | succ n ih =>
    intro d h
    cases d <;> first | rfl | exact h | (cases h; done) | skip
    · exact List.all_eq_true.mpr fun x hx => ih x (List.all_eq_true.mp h x hx)
    · exact List.all_eq_true.mpr fun x hx => ih x (List.all_eq_true.mp h x hx)
theorem flat_v {K : PySem.W.Frag} {F H : Hp} {d : D} {v : V} (h : flatD d = true) (r : Rep1 K F H d v) : flatV v = true := by
  cases d <;> first | (cases h; done) | skip
  · cases r.non; rfl
  · cases r.bl; rfl
  · cases r.int; rfl
  · cases r.str; rfl
theorem eqV_of {K : PySem.W.Frag} {F H : Hp} {d e : D} {v u : V} (h : flatD d = true) (h2 : flatD e = true) (r : Rep1 K F H d v) (r2 : Rep1 K F H e u) : eqV v u = eqv 20 d e := by
  cases d <;> first | (cases h; done) | skip
  · cases r.non
    cases e <;> first | (cases h2; done) | skip
    · cases r2.non; rfl
    · cases r2.bl; rfl
    · cases r2.int; rfl
    · cases r2.str; rfl
  · cases r.bl
    cases e <;> first | (cases h2; done) | skip
    · cases r2.non; rfl
    · cases r2.bl; rfl
    · cases r2.int; rfl
    · cases r2.str; rfl
  · cases r.int
    cases e <;> first | (cases h2; done) | skip
    · cases r2.non; rfl
    · cases r2.bl; rfl
    · cases r2.int; rfl
    · cases r2.str; rfl
  · cases r.str
    cases e <;> first | (cases h2; done) | skip
    · cases r2.non; rfl
    · cases r2.bl; rfl
    · cases r2.int; rfl
    · cases r2.str; exact toS_beq _ _
theorem inV_of {K : PySem.W.Frag} {F H : Hp} {x : D} {v : V} (h : flatD x = true) (r : Rep1 K F H x v) : ∀ {xs : List D} {vs : List V}, xs.all flatD = true → Reps K F xs vs → inV v vs = xs.any (fun z => eqv 20 z x) ∧ vs.all flatV = true := by
  intro xs
  induction xs with
  | nil => intro vs _ q; cases q; exact ⟨rfl, rfl⟩
  | cons y ys ih =>
    intro vs ha q
    rw [List.all_cons, Bool.and_eq_true] at ha
    cases q with
    | cons q1 q2 =>
      obtain ⟨a, b⟩ := ih ha.2 q2
      refine ⟨?_, by rw [List.all_cons, flat_v (H := H) ha.1 (.inl q1), b]; rfl⟩
      unfold inV at a ⊢
      rw [List.any_cons, List.any_cons, a, eqV_of ha.1 h (.inl q1) r]
theorem in_run {X : Cx} {pins : List (Addr × Obj)} {s : Shared} {σ : L2.St} {H : Hp} {x y : V} {v u : Value} {F : Hp} {dx dy : D} {b : Bool} (hu : X.A.units + 65 < cLine) (neg : Bool) {Q : VK} (I : Inv X pins σ H s) (rx : RelV x v) (ry : RelV y u) (e : Emb F H) (r1 : Rep1 X.K F H dx x) (r2 : Rep1 X.K F H dy y)
    (hg : dInB dx dy = .ok b) (q : Q (.bl (if neg then !b else b)) H) : wpAny (model X.prog X.w) X.A (compareOp (if neg then .NotIn else .In) v u) (EP X pins σ Q) X.xe s := by
  unfold dInB at hg
  split at hg
  · rename_i s1 t1
    cases hg
    rw [← sub_occ] at q
    cases neg with
    | true => exact op_notin_str pins s σ H x y v u Q I rx ry ⟨_, _, r1.str, r2.str, q⟩
    | false => exact op_in_str pins s σ H x y v u Q I rx ry ⟨_, _, r1.str, r2.str, q⟩
  · rename_i k es
    cases hg
    obtain ⟨a, kvs, rfl, s1, p1⟩ := r2.dic e
    cases ry
    have ex := r1.str
    subst ex
    have hl : (lookK es k).isSome = (valV kvs (Sum.inr (toS k) : Key)).isSome := by
      rcases p1.look k with ⟨z1, z2⟩ | ⟨d1, v1, z1, z2, z3⟩
      · rw [z1, z2]; rfl
      · rw [z1, z2]; rfl
    rw [hl] at q
    have g : DGet H a (.str (toS k)) (valV kvs (Sum.inr (toS k) : Key)) := .inl ⟨kvs, .inr (toS k), s1, rfl, rfl⟩
    cases neg with
    | true => exact d_notIn (by omega) I g rx fun s3 I3 => ⟨.bl (!(valV kvs (Sum.inr (toS k) : Key)).isSome), H, I3, rfl, q⟩
    | false => exact d_in (by omega) I g rx fun s3 I3 => ⟨.bl (valV kvs (Sum.inr (toS k) : Key)).isSome, H, I3, rfl, q⟩
  · rename_i _ _ xs
    split at hg
    · rename_i hp
      cases hg
      have ha : xs.all (pl 19) = true := hp.2
      have e1 : ∀ z ∈ xs, PyData.eqv (toP 19 z) (toP 20 dx) = eqv 20 z dx := fun z hz => by
        have hz' := List.all_eq_true.mp ha z hz
        rw [← toP_succ 19 z hz', eqv_toP 20 z dx (pl_succ 19 z hz') hp.1]
      have e2 : ((xs.map (toP 19)).any fun z => PyData.eqv z (toP 20 dx)) = xs.any fun z => eqv 20 z dx := by
        rw [List.any_map]
        clear q r2 hp ha
        induction xs with
        | nil => rfl
        | cons z zs ih =>
          rw [List.any_cons, List.any_cons, ih (fun z hz => e1 z (List.mem_cons_of_mem _ hz))]
          congr 1
          exact e1 z List.mem_cons_self
      have d1 := dp_of1 e hp.1 r1
      have d2 := dp_of1 e hp.2 r2
      rw [← e2] at q
      cases neg with
      | true => exact op_notInD hu pins s σ H x y v u Q I rx ry ⟨_, _, d1, d2, toP_shaped hp.1, toP_shaped hp.2, q⟩
      | false => exact op_inD hu pins s σ H x y v u Q I rx ry ⟨_, _, d1, d2, toP_shaped hp.1, toP_shaped hp.2, q⟩
    · cases hg
  · rename_i _ _ xs
    split at hg
    · rename_i hp
      cases hg
      obtain ⟨a, vs, rfl, s1, p1⟩ := r2.tup e
      obtain ⟨i1, i2⟩ := inV_of hp.1 r1 hp.2 p1
      rw [← i1] at q
      cases neg with
      | true => exact op_notIn_seq pins s σ H x _ v u Q I rx ry ⟨a, vs, rfl, .inr s1, flat_v hp.1 r1, i2, q⟩
      | false => exact op_in_seq pins s σ H x _ v u Q I rx ry ⟨a, vs, rfl, .inr s1, flat_v hp.1 r1, i2, q⟩
    · cases hg
  · cases hg
theorem o_in {X : Cx} (hu : X.A.units + 65 < cLine) : OpD X (compareOp .In) dIn := by
  refine ⟨fun pins s σ H x y v u Q I rx ry ⟨F, dx, dy, d, e, r1, r2, hg, q⟩ => ?_, fun x y c => ?_⟩
  · unfold dIn at hg
    cases e1 : dInB dx dy with
    | ok b => rw [e1] at hg; cases hg; exact in_run hu false I rx ry e r1 r2 e1 (q.here e (.bl _))
    | ex c => exact absurd e1 (dInB_ne _ _ _)
    | no => rw [e1] at hg; cases hg
  · unfold dIn
    cases e1 : dInB x y with
    | ok b => intro h; cases h
    | ex c => exact absurd e1 (dInB_ne _ _ _)
    | no => intro h; cases h
theorem o_notin {X : Cx} (hu : X.A.units + 65 < cLine) : OpD X (compareOp .NotIn) dNotIn := by
  refine ⟨fun pins s σ H x y v u Q I rx ry ⟨F, dx, dy, d, e, r1, r2, hg, q⟩ => ?_, fun x y c => ?_⟩
  · unfold dNotIn at hg
    cases e1 : dInB dx dy with
    | ok b => rw [e1] at hg; cases hg; exact in_run hu true I rx ry e r1 r2 e1 (q.here e (.bl _))
    | ex c => exact absurd e1 (dInB_ne _ _ _)
    | no => rw [e1] at hg; cases hg
  · unfold dNotIn
    cases e1 : dInB x y with
    | ok b => intro h; cases h
    | ex c => exact absurd e1 (dInB_ne _ _ _)
    | no => intro h; cases h
/-! ### methods of texts -/
section
variable {X : Cx} {W : WN} {fa fb : Ga → R D} {a b : Expr} {cpos apos : Pos}
def b2s (g : Tx → D → R D) (fa fb : Ga → R D) : Ga → R D := fun γ => (fa γ).bind fun x => match x with
  | .str s => (fb γ).bind fun y => g s y
  | _ => .no
theorem j_m1 {id : String} {name : Str} {g : Tx → D → R D} (slot : Slot "str" name id) (ty : typeOf (.builtin id) = pure (.type "method_descriptor"))
    (rule : MtR X id (fun x xs H Q => ∃ F s dy y d, x = .str (toS s) ∧ xs = [y] ∧ Emb F H ∧ Rep1 X.K F H dy y ∧ g s dy = .ok d ∧ PV X.K F H d Q)) (ne : ∀ s y c, g s y ≠ .ex c) (ha : JR X W fa a) (hb : JR X W fb b)
    (hs : starEach [b] X.env = [(false, eval b X.env)] := by rfl) (hbase : attributeBase a name X.env (eval a X.env) = eval a X.env := by rfl) (hline : (apos.endLine == cpos.line) = true := by rfl) : J X W (b2s g fa fb) (.Call (.Attribute a name apos) [b] [] cpos) :=
  ⟨PE.imp (pe_m1 slot ty rule ha.pe hb.pe hs hbase hline) fun σ H Q ⟨F, γ, r, o⟩ => by
    refine go1 (Z := fun z => Out (PV X.K F H) F H (fun c H' => W c σ H') z Q) r o (fun _ z => z) (fun z => z) fun dx x F1 H1 n1 r1 p1 o1 => ?_
    cases dx <;> first | exact o1.elim | skip
    rename_i z
    refine ⟨⟨_, p1.str⟩, ?_⟩
    refine go1 (Z := fun z => Out (PV X.K F H) F H (fun c H' => W c σ H') z Q) r1 o1 (fun _ z F' H' n => z F' H' (n1.trans n)) (fun z => z) fun dy y F2 H2 n2 r2 p2 o2 => ?_
    cases e : g z dy with
    | ok d => rw [e] at o2; exact ⟨F2, z, dy, y, d, p1.str, rfl, r2.emb, p2, e, PV.next (Q := Q) o2 (n1.trans n2)⟩
    | ex c => exact absurd e (ne _ _ _)
    | no => rw [e] at o2; exact o2.elim⟩
def dSw : Tx → D → R D
  | s, .str t => .ok (.bl (decide (t.length ≤ s.length) && (s.take t.length == t)))
  | _, _ => .no
def dEw : Tx → D → R D
  | s, .str t => .ok (.bl (decide (t.length ≤ s.length) && (s.drop (s.length - t.length) == t)))
  | _, _ => .no
theorem j_sw (ha : JR X W fa a) (hb : JR X W fb b) (hs : starEach [b] X.env = [(false, eval b X.env)] := by rfl) (hbase : attributeBase a "startswith" X.env (eval a X.env) = eval a X.env := by rfl) (hline : (apos.endLine == cpos.line) = true := by rfl) :
    J X W (b2s dSw fa fb) (.Call (.Attribute a "startswith" apos) [b] [] cpos) :=
  j_m1 PySem.F.slot_str_startswith PySem.F.type_str_startswith (fun pins s σ H x xs v us Q I rx rs ⟨F, z, dy, y, d, e1, e2, e, r2, hg, q⟩ => by
    cases dy <;> first | (cases hg; done) | skip
    cases hg
    refine mt_startswith pins s σ H x xs v us Q I rx rs ⟨_, _, e1, by rw [e2, r2.str], ?_⟩
    have : Txt.startswith (toS z) (toS ‹Tx›) = (decide ((‹Tx› : Tx).length ≤ z.length) && (z.take (‹Tx› : Tx).length == ‹Tx›)) := by
      unfold Txt.startswith
      rw [PySem.StrLaws.subAt_eq, toS_len, toS_len, Nat.zero_add]
      rfl
    rw [this]
    exact q.here e (.bl _)) (fun s y c => by cases y <;> intro h <;> cases h) ha hb hs hbase hline
theorem j_ew (ha : JR X W fa a) (hb : JR X W fb b) (hs : starEach [b] X.env = [(false, eval b X.env)] := by rfl) (hbase : attributeBase a "endswith" X.env (eval a X.env) = eval a X.env := by rfl) (hline : (apos.endLine == cpos.line) = true := by rfl) :
    J X W (b2s dEw fa fb) (.Call (.Attribute a "endswith" apos) [b] [] cpos) :=
  j_m1 PySem.F.slot_str_endswith PySem.F.type_str_endswith (fun pins s σ H x xs v us Q I rx rs ⟨F, z, dy, y, d, e1, e2, e, r2, hg, q⟩ => by
    cases dy <;> first | (cases hg; done) | skip
    rename_i t
    cases hg
    refine mt_endswith pins s σ H x xs v us Q I rx rs ⟨_, _, e1, by rw [e2, r2.str], ?_⟩
    have : Txt.endswith (toS z) (toS t) = (decide (t.length ≤ z.length) && (z.drop (z.length - t.length) == t)) := by
      unfold Txt.endswith
      rw [PySem.StrLaws.subAt_eq, toS_len, toS_len, Nat.zero_add]
      by_cases h : t.length ≤ z.length
      · congr 2
        show ((z.drop (z.length - t.length)).take t.length) = _
        rw [List.take_of_length_le]
        rw [List.length_drop]; omega
      · simp [h]
    rw [this]
    exact q.here e (.bl _)) (fun s y c => by cases y <;> intro h <;> cases h) ha hb hs hbase hline
/-- sep.join -/
def joinT (s : Tx) : List Tx → Tx
  | [] => []
  | [x] => x
  | x :: y :: r => x ++ (s ++ joinT s (y :: r))
def dJoin : Tx → D → R D
  | s, .lst xs => (o2r (asTxs xs)).bind fun ts => if (ts.map (·.length)).sum + ts.length * s.length ≤ lim then .ok (.str (joinT s ts)) else .no
  | _, _ => .no
theorem joinT_eq (s : Tx) : ∀ ts : List Tx, Str.join (toS s) (ts.map toS) = toS (joinT s ts) := by
  intro ts
  apply TL.ext_tl
  rw [TL.tl_join]
  have e : (ts.map toS).map TL.tl = ts := by
    rw [List.map_map]
    have : (TL.tl ∘ toS) = id := by funext y; simp [TL.tl, toS]
    rw [this, List.map_id]
  rw [e]
  show TL.joinL s ts = joinT s ts
  clear e
  induction ts with
  | nil => rfl
  | cons x r ih =>
    cases r with
    | nil => simp [TL.joinL, joinT]
    | cons y r => simp only [TL.joinL, joinT] at ih ⊢; rw [ih]
theorem j_join (ha : JR X W fa a) (hb : JR X W fb b) (hs : starEach [b] X.env = [(false, eval b X.env)] := by rfl) (hbase : attributeBase a "join" X.env (eval a X.env) = eval a X.env := by rfl) (hline : (apos.endLine == cpos.line) = true := by rfl) :
    J X W (b2s dJoin fa fb) (.Call (.Attribute a "join" apos) [b] [] cpos) :=
  j_m1 PySem.F.slot_str_join PySem.F.type_str_join (fun pins s σ H x xs v us Q I rx rs ⟨F, z, dy, y, d, e1, e2, e, r2, hg, q⟩ => by
    cases dy <;> first | (cases hg; done) | skip
    rename_i ts
    simp only [dJoin, o2r] at hg
    split at hg
    · rename_i ks hk
      have := asTxs_of hk
      subst this
      simp only [R.bind] at hg
      split at hg
      · rename_i hl
        cases hg
        obtain ⟨p, vs, rfl, s1, p1⟩ := r2.lst e
        rw [p1.txs] at s1
        refine mt_join pins s σ H x xs v us Q I rx rs ⟨_, p, _, e1, e2, .inl s1, ?_, ?_⟩
        · have hm : (List.map (fun x => x.length) (ks.map toS)) = ks.map (·.length) := by rw [List.map_map]; exact List.map_congr_left fun k _ => toS_len k
          rw [hm, List.length_map, toS_len]
          unfold lim at hl; omega
        · rw [TL.join_eq, joinT_eq]; exact q.here e (.str _)
      · cases hg
    · cases hg) (fun s y c => by
      cases y <;> simp only [dJoin, o2r] <;> first | (intro h; cases h; done) | skip
      split <;> simp only [R.bind] <;> first | (intro h; cases h; done) | (split <;> intro h <;> cases h)) ha hb hs hbase hline
end
end KN
/-! KnI: constants of the module, dict(), tuples backwards -/
namespace KN
open PySem PySem.Spec PyProof.Rows L2
theorem hu65_of {A : Around} {k : Nat} (hr : Room k A) : A.units + 65 < cLine := by have := hr.un; omega
theorem takes_W0 {X : Cx} {cl : Cl} : Takes X (VW cl W0) := takes0.imp fun c d σ H ⟨_, _, _, h⟩ => h
section
variable {X : Cx} {W : WN} {f fa fb fc : Ga → R D} {a b c e : Expr} {pos : Pos}
theorem j_globI {x : Str} {i : Int} (hm : ∃ t, X.mg x = some (.int i t)) (hg : Gl X x := by rfl) (hd : (x == ("__debug__" : Str)) = false := by decide) : J X W (bC (.int i)) (.Name x pos) := by
  obtain ⟨t, hm⟩ := hm
  exact j_glob (v := .int i) hg hm ⟨t, rfl⟩ (fun _ => .int i) hd
theorem j_globS {x : Str} {s : Tx} (hm : ∃ t, X.mg x = some (.str (toS s) t)) (hg : Gl X x := by rfl) (hd : (x == ("__debug__" : Str)) = false := by decide) : J X W (bC (.str s)) (.Name x pos) := by
  obtain ⟨t, hm⟩ := hm
  exact j_glob (v := .str (toS s)) hg hm ⟨t, rfl⟩ (fun _ => .str s) hd
end
/-! ### dict of a list of pairs -/
def asPrs : List D → Option (List (Tx × D))
  | [] => some []
  | .tup [.str k, d] :: xs => (asPrs xs).map ((k, d) :: ·)
  | _ :: _ => none
@[simp] theorem asPrs_map (ps : List (Tx × D)) : asPrs (ps.map fun p => D.tup [.str p.1, p.2]) = some ps := by
  induction ps with
  | nil => rfl
  | cons p ps ih => simp [asPrs, ih]
/-! ### t[::-1] -/
end KN
/-! KnJ: dicts of dicts -/
namespace KN
open PySem PySem.Spec PyProof.Rows L2
abbrev Tb := List (Tx × List (Tx × D))
def lookN : Tb → Tx → Option (List (Tx × D))
  | [], _ => none
  | (k, r) :: es, x => if k = x then some r else lookN es x
def putN : Tb → Tx → List (Tx × D) → Tb
  | [], x, r => [(x, r)]
  | (k, r0) :: es, x, r => if k = x then (k, r) :: es else (k, r0) :: putN es x r
theorem putK_mem {kvs : List (Key × V)} {k : Key} {v : V} {p : Key × V} (h : p ∈ putK kvs k v) : p ∈ kvs ∨ p = (k, v) := by
  unfold putK at h
  split at h
  · obtain ⟨q, hq, e⟩ := List.mem_map.mp h
    split at e
    · rename_i z; subst e; right; rw [← z]
    · subst e; exact .inl hq
  · rcases List.mem_append.mp h with h | h
    · exact .inl h
    · exact .inr (List.mem_singleton.mp h)
theorem putK_pos {kvs : List (Key × V)} {k : Key} {v v0 : V} (h : ∀ p ∈ kvs, p.1 ≠ k) : putK ((k, v0) :: kvs) k v = (k, v) :: kvs := by
  unfold putK
  have : (((k, v0) :: kvs).any fun kv => decide (kv.1 = k)) = true := by simp
  rw [if_pos this, List.map_cons, if_pos rfl]
  congr 1
  conv => rhs; rw [← List.map_id kvs]
  exact List.map_congr_left fun p hp => by rw [if_neg (h p hp)]; rfl
theorem putK_neg {kvs : List (Key × V)} {k k' : Key} {v v0 : V} (h : k' ≠ k) : putK ((k', v0) :: kvs) k v = (k', v0) :: putK kvs k v := by
  unfold putK
  rw [List.any_cons]
  have : decide (k' = k) = false := decide_eq_false h
  simp only [this, Bool.false_or]
  split
  · rw [List.map_cons, if_neg h]
  · rfl
section
variable {K : PySem.W.Frag} {F H : Hp} {a : Addr}
theorem OwK.look (c : Tx) : ∀ {es : Tb} {kvs : List (Key × V)}, OwK K F H a es kvs →
    (lookN es c = none ∧ valV kvs (Sum.inr (toS c)) = none) ∨ ∃ row r kv, lookN es c = some row ∧ valV kvs (Sum.inr (toS c)) = some (.ref r) ∧ r ≠ a ∧ F r = none ∧ H r = some (.dK kv) ∧ RepK K F row kv ∧ ((Sum.inr (toS c) : Key), V.ref r) ∈ kvs
  | [], [], _ => .inl ⟨rfl, rfl⟩
  | (k, row) :: es, (k', v) :: kvs, ⟨e, ⟨r, kv, e1, e2, e3, e4, e5, e6⟩, o⟩ => by
    subst e1
    subst e
    by_cases q : k = c
    · subst q
      exact .inr ⟨row, r, kv, by simp [lookN], valV_pos rfl, e2, e3, e4, e5, List.mem_cons_self⟩
    · have q' : ¬ (Sum.inr (toS k) : Key) = Sum.inr (toS c) := fun z => q (keyS_iff.mp z)
      rcases o.look c with ⟨h1, h2⟩ | ⟨row', r', kv', h1, h2, h3, h4, h5, h6, h7⟩
      · exact .inl ⟨by rw [lookN, if_neg q]; exact h1, by rw [valV_neg q']; exact h2⟩
      · exact .inr ⟨row', r', kv', by rw [lookN, if_neg q]; exact h1, by rw [valV_neg q']; exact h2, h3, h4, h5, h6, List.mem_cons_of_mem _ h7⟩
  | [], _ :: _, h => h.elim
  | _ :: _, [], h => h.elim
theorem OwK.len : ∀ {es : Tb} {kvs : List (Key × V)}, OwK K F H a es kvs → es.length = kvs.length
  | [], [], _ => rfl
  | (k, row) :: es, (k', v) :: kvs, ⟨e, _, o⟩ => by simp [o.len]
  | [], _ :: _, h => h.elim
  | _ :: _, [], h => h.elim
theorem mem_of_val {kvs : List (Key × V)} {k : Key} {v : V} (h : valV kvs k = some v) : ∃ p ∈ kvs, p.2 = v := by
  unfold valV at h
  cases e : kvs.find? fun kv => decide (kv.1 = k) with
  | none => rw [e] at h; cases h
  | some p => rw [e] at h; cases h; exact ⟨p, List.mem_of_find?_eq_some e, rfl⟩
theorem OwK.put {F2 H2 : Hp} (c : Tx) {row : List (Tx × D)} {q : Addr} {kv : List (Key × V)} (f : Same F F2) (q1 : q ≠ a) (q2 : F2 q = none) (q3 : H2 q = some (.dK kv)) (q4 : RepK K F2 row kv) : ∀ {es : Tb} {kvs : List (Key × V)}, OwK K F H a es kvs →
    (∀ k b u, (k, V.ref b) ∈ kvs → b ≠ q → F b = none → H b = some u → H2 b = some u ∧ F2 b = none) →
    (valV kvs (Sum.inr (toS c)) = some (.ref q) ∨ (valV kvs (Sum.inr (toS c)) = none ∧ ∀ p ∈ kvs, p.2 ≠ .ref q)) → OwK K F2 H2 a (putN es c row) (putK kvs (Sum.inr (toS c)) (.ref q))
  | [], [], _, _, h => ⟨rfl, ⟨q, kv, rfl, q1, q2, q3, q4, fun p hp => nomatch hp⟩, trivial⟩
  | (k, row0) :: es, (k', v) :: kvs, ⟨e, ⟨r, kv0, e1, e2, e3, e4, e5, e6⟩, o⟩, keep, h => by
    subst e1
    subst e
    by_cases z : k = c
    · subst z
      have hv : valV ((Sum.inr (toS k), V.ref r) :: kvs) (Sum.inr (toS k)) = some (.ref r) := valV_pos rfl
      have hq : r = q := by
        rcases h with h | ⟨h, _⟩
        · rw [hv] at h; cases h; rfl
        · rw [hv] at h; cases h
      subst hq
      rw [putK_pos fun p hp => (e6 p hp).1]
      have : putN ((k, row0) :: es) k row = (k, row) :: es := by simp [putN]
      rw [this]
      refine ⟨rfl, ⟨r, kv, rfl, q1, q2, q3, q4, e6⟩, o.next f fun k' b u m h1 h2 => keep k' b u (List.mem_cons_of_mem _ m) ?_ h1 h2⟩
      rintro rfl
      exact (e6 _ m).2 rfl
    · have z' : ¬ (Sum.inr (toS k) : Key) = Sum.inr (toS c) := fun y => z (keyS_iff.mp y)
      rw [putK_neg z']
      have : putN ((k, row0) :: es) c row = (k, row0) :: putN es c row := by simp [putN, z]
      rw [this]
      rw [valV_neg z'] at h
      have rq : r ≠ q := by
        rintro rfl
        rcases h with h | ⟨_, h⟩
        · obtain ⟨i, hi, he⟩ := mem_of_val h
          exact (e6 _ hi).2 he
        · exact h _ List.mem_cons_self rfl
      obtain ⟨y1, y2⟩ := keep _ r _ List.mem_cons_self rq e3 e4
      refine ⟨rfl, ⟨r, kv0, rfl, e2, y2, y1, e5.mono f, fun p hp => ?_⟩, o.put c f q1 q2 q3 q4 (fun k' b u m => keep k' b u (List.mem_cons_of_mem _ m)) ?_⟩
      · rcases putK_mem hp with hp | rfl
        · exact e6 p hp
        · exact ⟨fun y => z' y.symm, fun y => by cases y; exact rq rfl⟩
      · rcases h with h | ⟨h1, h2⟩
        · exact .inl h
        · exact .inr ⟨h1, fun p hp => h2 p (List.mem_cons_of_mem _ hp)⟩
  | [], _ :: _, h, _, _ => h.elim
  | _ :: _, [], h, _, _ => h.elim
end
def fNd0 (i : Nat) : Ga → R Fl := fun γ => .ok (.nx (γ.set i (.nd [])))
def fBump (i r c l : Nat) : Ga → R Fl := fun γ => match γ[i]?, γ[c]?, γ[l]? with
  | some (.nd es), some (.va (.str ck)), some (.va (.str lk)) => match (lookK ((lookN es ck).getD []) lk).getD (.int 0) with
    | .int n => if (es.length < lim ∧ ((lookN es ck).getD []).length < lim) ∧ r < γ.length then .ok (.nx ((γ.set i (.nd (putN es ck (putD ((lookN es ck).getD []) lk (.int (n + 1)))))).set r .un)) else .no
    | _ => .no
  | _, _, _ => .no
end KN
/-! KnK: sorted lists of tuples -/
namespace KN
open PySem PySem.Spec PyProof.Rows L2
open PyProof.Rows.G (tupKeyC tupKindC isTupObj)
abbrev Ik := Int ⊕ Tx
def unI : Ik → D
  | .inl i => .int i
  | .inr s => .str s
def unT (k : List Ik) : D := .tup (k.map unI)
def asI : List D → Option (List Ik)
  | [] => some []
  | .int i :: xs => (asI xs).map (.inl i :: ·)
  | .str s :: xs => (asI xs).map (.inr s :: ·)
  | _ :: _ => none
def asTs : List D → Option (List (List Ik))
  | [] => some []
  | .tup ys :: xs => (asI ys).bind fun k => (asTs xs).map (k :: ·)
  | _ :: _ => none
@[simp] theorem asI_map (k : List Ik) : asI (k.map unI) = some k := by
  induction k with
  | nil => rfl
  | cons x k ih => cases x <;> simp [asI, unI, ih]
@[simp] theorem asTs_map (ks : List (List Ik)) : asTs (ks.map unT) = some ks := by
  induction ks with
  | nil => rfl
  | cons k ks ih => simp [asTs, unT, ih]
def leK (a b : List Ik) : Bool := !(lexLt itemOrd b a)
def sortK (l : List (List Ik)) : List (List Ik) := l.mergeSort leK
/-- all of one shape, and not empty -/
def okK : List (List Ik) → Bool
  | [] => true
  | k :: ks => !k.isEmpty && ks.all fun k' => (k'.map Sum.isRight) == k.map Sum.isRight
def vIt : Ik → V
  | .inl i => .int i
  | .inr s => .str (toS s)
theorem items_of {shape : Nat → Bool} : ∀ (k : List Ik) (i : Nat) (its : List Value), Vals (k.map vIt) its → (∀ j x, k[j]? = some x → shape (i + j) = x.isRight) → tupItems shape i its = some k
  | [], _, _, r, _ => by cases r; rfl
  | x :: k, i, _, r, h => by
    cases r with
    | cons r1 r2 =>
      have h0 := h 0 x rfl
      have ih := items_of k (i + 1) _ r2 fun j y e => by
        have := h (j + 1) y (by simpa using e)
        rw [show i + 1 + j = i + (j + 1) by omega]; exact this
      cases x with
      | inl n =>
        obtain ⟨t, rfl⟩ := r1
        have h0 : shape i = false := by simpa using h0
        simp [tupItems, h0, ih]
      | inr s =>
        obtain ⟨t, rfl⟩ := r1
        have h0 : shape i = true := by simpa using h0
        simp [tupItems, h0, ih, toS]
def dSort : List D → R D
  | [.lst xs] => match asTs xs with
    | some ks => if okK ks = true then .ok (.lst ((sortK ks).map unT)) else dSorted [.lst xs]
    | none => dSorted [.lst xs]
  | ds => dSorted ds
end KN
/-! KnL: more meanings -/
/-! KnS: sets of ints, of texts, made of a list or tuple; their members sorted; their number -/
namespace KN
open PySem PySem.Spec PyProof.Rows L2
section
variable {κ : Type} [DecidableEq κ] {P : Program} {w : World}
structure GTab (knd : PySem.KeyKind P w κ) (es : Array (Int × Value)) (t : SetTable) (ks : List κ) : Prop where
  el : ElemsOf knd es.toList
  nd : es.toList.Pairwise fun e f => ∀ k, knd.is k e.2 = true → ¬ knd.is k f.2 = true
  mem : ∀ k, k ∈ ks ↔ ∃ e ∈ es.toList, knd.is k e.2 = true
  few : es.size ≤ ks.length
  fit : t.fits es.size = true
  ris : Ris t.place.toList
  led : w.params.followText "set-order" = true ∨ t.led = true
/-- the set at a, its members are those of ks -/
def GSet (knd : PySem.KeyKind P w κ) (h : Heap) (a : Addr) (ks : List κ) : Prop := ∃ o es ep t, h.get? a = some o ∧ o.ExactSet ∧ o.data = .set es ep t ∧ GTab knd es t ks
variable {knd : PySem.KeyKind P w κ} {es es' : Array (Int × Value)} {t t' : SetTable} {ks ks' : List κ} {h h' : Heap} {a : Addr}
theorem GSet.at (G : GSet knd h a ks) (q : ∀ o, h.get? a = some o → h'.get? a = some o) : GSet knd h' a ks := by
  obtain ⟨o, es, ep, t, g1, g2⟩ := G
  exact ⟨o, es, ep, t, q o g1, g2⟩
theorem GTab.congr (G : GTab knd es t ks) (q : ∀ k, k ∈ ks' ↔ k ∈ ks) (l : es.size ≤ ks'.length) : GTab knd es t ks' := ⟨G.el, G.nd, fun k => (q k).trans (G.mem k), l, G.fit, G.ris, G.led⟩
theorem GSet.congr (G : GSet knd h a ks) (q : ∀ k, k ∈ ks' ↔ k ∈ ks) (l : ks.length ≤ ks'.length) : GSet knd h a ks' := by
  obtain ⟨o, es, ep, t, g1, g2, g3, G⟩ := G
  exact ⟨o, es, ep, t, g1, g2, g3, G.congr q (Nat.le_trans G.few l)⟩
theorem nd_perm {l m : List (Int × Value)} (p : l.Perm m) (n : m.Pairwise fun e f => ∀ k, knd.is k e.2 = true → ¬ knd.is k f.2 = true) : l.Pairwise fun e f => ∀ k, knd.is k e.2 = true → ¬ knd.is k f.2 = true :=
  (p.pairwise_iff (fun hxy k h1 h2 => hxy k h2 h1)).mpr n
theorem GTab.perm (G : GTab knd es t ks) (p : es'.toList.Perm es.toList) (f : t'.fits es'.size = true) (r : Ris t'.place.toList) (l : t'.led = t.led) : GTab knd es' t' ks := by
  have sz : es'.size = es.size := by rw [← Array.length_toList, p.length_eq, Array.length_toList]
  refine ⟨fun e he => G.el e (p.mem_iff.mp he), nd_perm p G.nd, fun k => (G.mem k).trans ⟨fun ⟨e, he, q⟩ => ⟨e, p.mem_iff.mpr he, q⟩, fun ⟨e, he, q⟩ => ⟨e, p.mem_iff.mp he, q⟩⟩, by rw [sz]; exact G.few, f, r, ?_⟩
  rw [l]; exact G.led
theorem GTab.add (G : GTab knd es t ks) {k : κ} {x : Value} (hx : knd.is k x = true) (hs : x.scannable = true) (new : k ∉ ks) (p : es'.toList.Perm ((knd.hash k, x) :: es.toList)) (f : t'.fits es'.size = true) (r : Ris t'.place.toList)
    (l : t'.led = t.led) : GTab knd es' t' (k :: ks) := by
  have sz : es'.size = es.size + 1 := by rw [← Array.length_toList, p.length_eq, List.length_cons, Array.length_toList]
  refine ⟨fun e he => ?_, nd_perm p (List.pairwise_cons.mpr ⟨fun e he k' h1 h2 => ?_, G.nd⟩), fun k' => ⟨fun hk => ?_, fun ⟨e, he, q⟩ => ?_⟩, by rw [sz, List.length_cons]; have := G.few; omega, f, r, by rw [l]; exact G.led⟩
  · rcases List.mem_cons.mp (p.mem_iff.mp he) with rfl | he
    · exact ⟨⟨k, hx, rfl⟩, hs⟩
    · exact G.el e he
  · have : k' = k := knd.inj x k' k h1 hx
    subst this
    exact new ((G.mem k').mpr ⟨e, he, h2⟩)
  · rcases List.mem_cons.mp hk with rfl | hk
    · exact ⟨_, p.mem_iff.mpr List.mem_cons_self, hx⟩
    · obtain ⟨e, he, q⟩ := (G.mem k').mp hk
      exact ⟨e, p.mem_iff.mpr (List.mem_cons_of_mem _ he), q⟩
  · rcases List.mem_cons.mp (p.mem_iff.mp he) with rfl | he
    · rw [knd.inj x k' k q hx]; exact List.mem_cons_self
    · exact List.mem_cons_of_mem _ ((G.mem k').mpr ⟨e, he, q⟩)
/-! ### add -/
variable {A : Around} {E : Value → Shared → Prop} {s : Shared}
theorem gTail {g : Bool → Sem Unit} (hg : ∀ (b : Bool) (s₁ : Shared) (Q' : Unit → Shared → Prop), Q' () s₁ → wpAny (model P w) A (g b) Q' E s₁) {o : Obj} {ep : Nat} (ho : s.heap.get? a = some o) (hex : o.ExactSet)
    (hd : o.data = .set es ep t') (G : GTab knd es' t ks) (few : es'.size < scanBound) {wd : Bool} {R : Option Bool → Shared → Prop} (hR : ∀ h', Heap.SameBut a s.heap h' → GSet knd h' a ks → R (some true) { s with heap := h' }) :
    wpAny (model P w) A (do
        storeSet a es' t
        if (!wd && t.tooFull) = true then do
            g (relayAll t es' (SetTable.grown es'.size)).2.2
            storeSet a (relayAll t es' (SetTable.grown es'.size)).1 (relayAll t es' (SetTable.grown es'.size)).2.1
            pure (some true)
          else pure (some true)) R E s := by
  refine wpAny_bind (wpAny_storeSet_of ho hd ?_ (fits_of_scanBound few))
  have o1 := L2.store_at (es' := es') (t' := t) ho hd
  have b1 := Heap.SameBut.update s.heap a (Obj.putSet es' t)
  split
  · have p2 := relayAll_perm t es' (SetTable.grown es'.size)
    have f2 := relayAll_fits t es' (SetTable.grown es'.size)
    have r2 := relayAll_ris t es' (SetTable.grown es'.size)
    have l2 := relayAll_led t es' (SetTable.grown es'.size)
    generalize relayAll t es' (SetTable.grown es'.size) = Z at p2 f2 r2 l2 ⊢
    obtain ⟨e2, t2, gv⟩ := Z
    dsimp only at p2 f2 r2 l2 ⊢
    have few2 : e2.size < scanBound := by
      have : e2.size = es'.size := by rw [← Array.length_toList, p2.length_eq, Array.length_toList]
      omega
    refine wpAny_bind (hg _ _ _ (wpAny_bind (wpAny_storeSet_of o1 rfl ?_ (fits_of_scanBound few2))))
    exact wpAny_pure (hR _ (b1.trans (Heap.SameBut.update _ a _)) ⟨_, e2, _, t2, L2.store_at o1 rfl, hex, rfl, G.perm p2 f2 r2 l2⟩)
  · exact wpAny_pure (hR _ b1 ⟨_, es', _, t, o1, hex, rfl, G⟩)
theorem gAdd {k : κ} {x : Value} {Q : Bool → Shared → Prop} (hx : knd.is k x = true) (hs : x.scannable = true) (G : GSet knd s.heap a ks) (room : ks.length + 1 < scanBound)
    (hQ : ∀ b h', Heap.SameBut a s.heap h' → GSet knd h' a (k :: ks) → Q b { s with heap := h' }) : wpAny (model P w) A (setAddHashed a x (knd.hash k)) Q E s := by
  obtain ⟨o, es, ep, t, ho, hex, hd, G⟩ := G
  have few := G.few
  have bnd : es.size < scanBound := by omega
  unfold setAddHashed setAddHashedIn
  refine wpAny_holding (wpAny_bind (wpAny_setState_of ho hd G.fit (show _ from ?_)))
  dsimp only
  rw [byScan_of hs bnd G.el]
  simp only [↓reduceIte]
  unfold setAddByScan
  refine wpAny_bind (wpAny_bind (wpAny_rule (wpAny_bind (wpAny_setScan_of hx ho hd G.fit G.el ?_))))
  cases e1 : List.findIdx? (fun e => knd.is k e.2) es.toList with
  | some j =>
    obtain ⟨j1, j2, _⟩ := List.findIdx?_eq_some_iff_getElem.mp e1
    have hk : k ∈ ks := (G.mem k).mpr ⟨es.toList[j], List.getElem_mem j1, j2⟩
    exact wpAny_pure (wpAny_pure (hQ false s.heap (Heap.SameBut.refl a s.heap) ⟨o, es, ep, t, ho, hex, hd, G.congr (fun k' => ⟨fun z => (List.mem_cons.mp z).elim (fun e => e ▸ hk) id, List.mem_cons_of_mem _⟩) (by rw [List.length_cons]; omega)⟩))
  | none =>
    dsimp only
    have new : k ∉ ks := fun z => by
      obtain ⟨e, he, q⟩ := (G.mem k).mp z
      have c := List.findIdx?_eq_none_iff.mp e1 e he
      rw [q] at c; cases c
    have gv : ∀ (b : Bool) {s₁ : Shared} {Q' : Unit → Shared → Prop}, Q' () s₁ → wpAny (model P w) A (match b with | true => rule "set.scan.the-table-gave-way" | false => pure ()) Q' E s₁ := by
      intro b s₁ Q' q
      cases b
      · exact wpAny_pure q
      · exact wpAny_rule q
    have p1 := layNew_perm t es (knd.hash k) x
    have f1 := layNew_fits t es (knd.hash k) x
    have r1 := layNew_ris t es (knd.hash k) x G.ris
    have l1 := layNew_led t es (knd.hash k) x
    generalize layNew t es (knd.hash k) x = Z at p1 f1 r1 l1 ⊢
    obtain ⟨e2, t2, wd, gave⟩ := Z
    dsimp only at p1 f1 r1 l1 ⊢
    rw [Array.toList_push] at p1
    have p2 : e2.toList.Perm ((knd.hash k, x) :: es.toList) := p1.trans (List.perm_append_singleton _ _)
    have few2 : e2.size < scanBound := by
      have : e2.size = es.size + 1 := by rw [← Array.length_toList, p2.length_eq, List.length_cons, Array.length_toList]
      omega
    have G2 := G.add hx hs new p2 f1 r1 l1
    have G3 := G.add (t' := { t2 with plain := false }) hx hs new p2 (SetTable.fits_plain_off f1) r1 l1
    refine wpAny_bind (gv _ ?_)
    have g0 : ∀ (b : Bool) (s₁ : Shared) (Q' : Unit → Shared → Prop), Q' () s₁ → wpAny (model P w) A (match b with | true => rule "set.scan.the-table-gave-way" | false => pure ()) Q' E s₁ := fun b s₁ Q' q => gv b q
    split
    · refine wpAny_bind ?_
      rw [hashByValue_scannable 8 hs]
      refine wpAny_pure ?_
      split
      · exact gTail (fun b s₁ Q' q => by cases b <;> first | exact wpAny_pure q | exact wpAny_rule q) ho hex hd G2 few2 fun h' sb g => wpAny_pure (hQ true h' sb g)
      · exact gTail (fun b s₁ Q' q => by cases b <;> first | exact wpAny_pure q | exact wpAny_rule q) ho hex hd G3 few2 fun h' sb g => wpAny_pure (hQ true h' sb g)
    · refine wpAny_bind (wpAny_pure (show _ from ?_))
      simp only [↓reduceIte]
      exact gTail (fun b s₁ Q' q => by cases b <;> first | exact wpAny_pure q | exact wpAny_rule q) ho hex hd G2 few2 fun h' sb g => wpAny_pure (hQ true h' sb g)
/-! ### set.update over what is walked -/
theorem gUpdate {I : Addr} {fp wr : List Addr} {Gn : Array GenState → Array GenState → Prop} {n : Nat} {Pv : Nat → Value → Prop} {St : Nat → Shared → Prop} {R : Result → Shared → Prop} (Wk : WalksS P w A.in1 I fp wr Gn n Pv St) (S : Addr) (out : S ∉ fp)
    (ks : List κ) (hn : n = ks.length) (room : ks.length + 1 < scanBound) (hv : ∀ i v, Pv i v → ∃ k, ks[i]? = some k ∧ knd.is k v = true ∧ v.scannable = true) :
    ∀ (m i : Nat) (s : Shared), n - i = m → i ≤ n → St i s → GSet knd s.heap S (ks.take i) → (∀ s', Moved (S :: wr) Gn s s' → GSet knd s'.heap S ks → R (.ok (.ret .none)) s') →
      codeAny (model P w) A (.builtin "set.update.loop" ⟨[.ref S, .ref I], []⟩) R s := by
  have nw : S ∉ wr := fun z => out (Wk.sub _ z)
  have up : ∀ b ∈ wr, b ∈ S :: wr := fun b z => List.mem_cons_of_mem _ z
  intro m
  induction m with
  | zero =>
    intro i s hm hi st G hR
    have : i = n := by omega
    subst this
    refine codeAny_builtin F.entry_set_update_loop (show _ from ?_)
    rw [Around.under_plainId F.plain_set_update_loop _]
    refine wpAny_bind (m := pyNext (.ref I)) (Wk.done s _ _ st fun s' mv => ?_)
    have e : ks.take i = ks := List.take_of_length_le (by omega)
    rw [e] at G
    exact wpAny_pure (hR s' (mv.mono up) (G.at fun o z => mv.heap S o nw z))
  | succ m ih =>
    intro i s hm hi st G hR
    have lt : i < n := by omega
    refine codeAny_builtin F.entry_set_update_loop (show _ from ?_)
    rw [Around.under_plainId F.plain_set_update_loop _]
    refine wpAny_bind (m := pyNext (.ref I)) (Wk.item i s _ _ lt st fun v s' hP st' mv => ?_)
    obtain ⟨k, ek, hx, hs⟩ := hv i v hP
    have G' : GSet knd s'.heap S (ks.take i) := G.at fun o z => mv.heap S o nw z
    have tl : (ks.take i).length ≤ ks.length := by rw [List.length_take]; omega
    refine wpAny_bind (m := holding [v] (setAdd S v)) (wpAny_holding (show wpAny _ _ (setAdd S v) _ _ _ from ?_))
    unfold setAdd
    refine wpAny_holding (wpAny_bind (knd.pyHash hx (gAdd (s := { s' with toks := s'.toks + 1 }) hx hs G' (by omega) fun b h' sb G2 => ?_)))
    have G3 : GSet knd h' S (ks.take (i + 1)) := G2.congr (fun j => by rw [List.take_add_one, ek]; simp [List.mem_append, or_comm]) (by
      rw [List.take_add_one, ek]; simp)
    refine wpAny_pure ⟨plainId_quiet F.plain_set_update_loop _, ih (i + 1) _ (by omega) lt (Wk.frame _ s' _ _ st' (Nat.le_succ _) fun b hb o e => ?_) G3 fun s'' mv2 G4 => hR s'' (Moved.trans Wk.gtrans ((mv.mono up).then_heap (Nat.le_succ _) fun b o hb e => ?_) mv2) G4⟩
    · rw [sb.2 b (fun z : b = S => out (by rw [← z]; exact hb))]; exact e
    · rw [sb.2 b (fun z : b = S => hb (by rw [z]; exact List.mem_cons_self))]; exact e
theorem gNew {h : Heap} {a : Addr} (ho : h.get? a = some { cls := .type "set", dict := none, data := .set #[] 0 (.fresh 0 0 (!w.params.followText "set-order")) }) : GSet knd h a ([] : List κ) := by
  refine ⟨_, #[], 0, _, ho, ⟨rfl, rfl, rfl⟩, rfl, fun e he => absurd he (by simp), by simp, by simp, Nat.le_refl _, by rfl, List.Pairwise.nil, ?_⟩
  show _ ∨ (!w.params.followText "set-order") = true
  cases w.params.followText "set-order"
  · exact .inr rfl
  · exact .inl rfl
set_option maxRecDepth 100000 in
set_option maxHeartbeats 3200000 in
theorem gCall_list {l : Addr} {its : Array Value} (ks : List κ) {Q : Value → Shared → Prop} (cl : A.handled = none) (hl : s.heap.IsList l its) (hn : its.size = ks.length) (hv : ∀ (i : Nat) (v : Value), its[i]? = some v → ∃ k, ks[i]? = some k ∧ knd.is k v = true ∧ v.scannable = true)
    (room : ks.length + 1 < scanBound) (hQ : ∀ (h' : Heap) (tk : Nat), GSet knd h' s.heap.objs.size ks → (∀ b o, s.heap.get? b = some o → h'.get? b = some o) → Q (.ref s.heap.objs.size) { s with heap := h', toks := tk }) :
    wpAny (model P w) A (call (.type "set") [.ref l]) Q E s := by
  obtain ⟨mc, mt, em⟩ := F.called_set.mro
  have c1 := F.called_set.made
  have c2 := F.called_set.sub
  refine wpAny_call (codeAny_of_tree (show wpAny _ _ (callAny (.type "set") _) _ _ _ from wpAny_pure ⟨Code.quiet_builtin _ (by decide +kernel), codeAny_builtin F.entry_type_call ?_⟩))
  rw [Around.under_plain (weight_type_call_type "set" [.ref l] []) rfl]
  have c3 := F.called_set.notType
  have c4 := F.called_set.canCreate
  have c5 := F.typeCall_set_1 (.ref l)
  repeat (any_goals (first | assumption | wp_step))
  let o0 : Obj := { cls := .type "set", dict := none, data := .set #[] 0 (.fresh 0 0 (!w.params.followText "set-order")) }
  refine codeAny_mono (code_set_led1 (.ref l) (E := E) (Q₁ := fun obj s₁ => obj = .ref s.heap.objs.size ∧ s₁ = { s with heap := s.heap.push o0 }) ⟨rfl, rfl⟩) fun r s₁ hr => ?_
  cases r with
  | error e => exact hr
  | ok fl =>
   cases fl with
   | ret ob =>
    obtain ⟨rfl, rfl⟩ := hr
    have g0 : (s.heap.push o0).get? s.heap.objs.size = some o0 := Heap.get?_push_size _ rfl
    have ty : Shared.TypeIs { s with heap := s.heap.push o0 } (.ref s.heap.objs.size) "set" := ⟨_, g0, rfl⟩
    have c6 := F.called_set.init.lookup
    have c7 := F.called_set.init.bind (.ref s.heap.objs.size)
    repeat (any_goals (first | assumption | wp_step))
    refine codeAny_mono (codeAny_call_builtin (R := wants (fun r s₂ => r = .none ∧ ∃ h' tk, s₂ = { s with heap := h', toks := tk } ∧ GSet knd h' s.heap.objs.size ks ∧ (∀ b o, s.heap.get? b = some o → h'.get? b = some o)) E) F.called_set.init.plain F.entry_set_init (check_set_init_1 ty ?_)) fun r₂ s₂ h2 => ?_
    · obtain ⟨ol, gl, cl1, nl, dl⟩ := hl
      obtain ⟨oc, od, oa, os1⟩ := ol
      simp only at cl1 dl
      subst cl1 dl
      have gl1 : (s.heap.push o0).get? l = some { cls := .type "list", dict := od, data := .seq its nl, slots := os1 } := Heap.get?_push_of_some _ gl
      have c8 := F.sub_list_set
      have c9 := F.sub_list_frozenset
      have c10 : (Value.type "list" == Value.type "dict") = false := (by decide)
      have is1 : (s.heap.push o0).IsList l its := ⟨_, gl1, rfl, nl, rfl⟩
      unfold Builtin.«set.__init__» noKeywords Builtin.Frozenset.updateFrom
      generalize ePI : pyIter = PI
      wp_walk
      subst ePI
      refine wpAny_pyIter_list is1 (wpAny_bind (wpAny_runValue ?_))
      have lt : l < s.heap.objs.size := Heap.lt_size gl
      have cl3 : A.in1.in1.in1.handled = none := (by simp [cl])
      have ne1 : l ≠ (s.heap.push o0).objs.size := (by rw [Heap.size_push]; exact Nat.ne_of_lt (Nat.lt_succ_of_lt lt))
      have out : s.heap.objs.size ∉ [(s.heap.push o0).objs.size, l] := by
        rw [Heap.size_push]
        intro z
        rcases List.mem_cons.mp z with z | z
        · exact absurd z (Nat.ne_of_lt (Nat.lt_succ_self _))
        · exact absurd (List.mem_singleton.mp z).symm (Nat.ne_of_lt lt)
      refine gUpdate (knd := knd) ((Walks.list cl3 _ l ne1 its).toS) s.heap.objs.size out ks hn room hv (its.size - 0) 0 _ (by omega) (Nat.zero_le _) ⟨⟨_, Heap.get?_push_size _ rfl, rfl, rfl⟩, is1.push _⟩ ?h0 ?hR
      case h0 => exact gNew (Heap.get?_push_of_some _ g0)
      case hR =>
        intro s' mv G
        obtain ⟨h', g2, d', tk', os'⟩ := s'
        have e1 : g2 = s.gens := mv.gens
        have e2 : d' = s.drawn := mv.drawn
        have e3 : os' = s.os := mv.os
        subst e1 e2 e3
        refine (show wpAny _ _ _ _ _ _ from wpAny_pure (show wpAny _ _ (ret Value.none) _ _ _ from wpAny_pure ⟨rfl, h', tk', rfl, G, fun b o e => ?_⟩))
        have lb : b < s.heap.objs.size := Heap.lt_size e
        refine mv.heap b o (fun z => ?_) (Heap.get?_push_of_some _ (Heap.get?_push_of_some _ e))
        rw [Heap.size_push] at z
        rcases List.mem_cons.mp z with z | z
        · exact absurd z (Nat.ne_of_lt lb)
        · exact absurd (List.mem_singleton.mp z) (Nat.ne_of_lt (Nat.lt_succ_of_lt lb))
    · cases r₂ with
      | error e => exact h2
      | ok f2 =>
       cases f2 with
       | ret v =>
        obtain ⟨rfl, h', tk, rfl, G, kp⟩ := h2
        repeat (any_goals (first | assumption | wp_step))
        exact hQ _ _ G kp
       | _ => exact h2.elim
   | _ => exact hr.elim
set_option maxRecDepth 100000 in
set_option maxHeartbeats 3200000 in
theorem gCall_tuple {l : Addr} {its : Array Value} (ks : List κ) {Q : Value → Shared → Prop} (cl : A.handled = none) (hl : s.heap.IsTuple l its) (hn : its.size = ks.length) (hv : ∀ (i : Nat) (v : Value), its[i]? = some v → ∃ k, ks[i]? = some k ∧ knd.is k v = true ∧ v.scannable = true)
    (room : ks.length + 1 < scanBound) (hQ : ∀ (h' : Heap) (tk : Nat), GSet knd h' s.heap.objs.size ks → (∀ b o, s.heap.get? b = some o → h'.get? b = some o) → Q (.ref s.heap.objs.size) { s with heap := h', toks := tk }) :
    wpAny (model P w) A (call (.type "set") [.ref l]) Q E s := by
  obtain ⟨mc, mt, em⟩ := F.called_set.mro
  have c1 := F.called_set.made
  have c2 := F.called_set.sub
  refine wpAny_call (codeAny_of_tree (show wpAny _ _ (callAny (.type "set") _) _ _ _ from wpAny_pure ⟨Code.quiet_builtin _ (by decide +kernel), codeAny_builtin F.entry_type_call ?_⟩))
  rw [Around.under_plain (weight_type_call_type "set" [.ref l] []) rfl]
  have c3 := F.called_set.notType
  have c4 := F.called_set.canCreate
  have c5 := F.typeCall_set_1 (.ref l)
  repeat (any_goals (first | assumption | wp_step))
  let o0 : Obj := { cls := .type "set", dict := none, data := .set #[] 0 (.fresh 0 0 (!w.params.followText "set-order")) }
  refine codeAny_mono (code_set_led1 (.ref l) (E := E) (Q₁ := fun obj s₁ => obj = .ref s.heap.objs.size ∧ s₁ = { s with heap := s.heap.push o0 }) ⟨rfl, rfl⟩) fun r s₁ hr => ?_
  cases r with
  | error e => exact hr
  | ok fl =>
   cases fl with
   | ret ob =>
    obtain ⟨rfl, rfl⟩ := hr
    have g0 : (s.heap.push o0).get? s.heap.objs.size = some o0 := Heap.get?_push_size _ rfl
    have ty : Shared.TypeIs { s with heap := s.heap.push o0 } (.ref s.heap.objs.size) "set" := ⟨_, g0, rfl⟩
    have c6 := F.called_set.init.lookup
    have c7 := F.called_set.init.bind (.ref s.heap.objs.size)
    repeat (any_goals (first | assumption | wp_step))
    refine codeAny_mono (codeAny_call_builtin (R := wants (fun r s₂ => r = .none ∧ ∃ h' tk, s₂ = { s with heap := h', toks := tk } ∧ GSet knd h' s.heap.objs.size ks ∧ (∀ b o, s.heap.get? b = some o → h'.get? b = some o)) E) F.called_set.init.plain F.entry_set_init (check_set_init_1 ty ?_)) fun r₂ s₂ h2 => ?_
    · obtain ⟨ol, gl, cl1, nl, dl⟩ := hl
      obtain ⟨oc, od, oa, os1⟩ := ol
      simp only at cl1 dl
      subst cl1 dl
      have gl1 : (s.heap.push o0).get? l = some { cls := .type "tuple", dict := od, data := .seq its nl, slots := os1 } := Heap.get?_push_of_some _ gl
      have c8 := F.sub_tuple_set
      have c9 := F.sub_tuple_frozenset
      have c10 : (Value.type "tuple" == Value.type "dict") = false := (by decide)
      have is1 : (s.heap.push o0).IsTuple l its := ⟨_, gl1, rfl, nl, rfl⟩
      unfold Builtin.«set.__init__» noKeywords Builtin.Frozenset.updateFrom
      generalize ePI : pyIter = PI
      wp_walk
      subst ePI
      refine wpAny_pyIter_tuple is1 (wpAny_bind (wpAny_runValue ?_))
      have lt : l < s.heap.objs.size := Heap.lt_size gl
      have cl3 : A.in1.in1.in1.handled = none := (by simp [cl])
      have ne1 : l ≠ (s.heap.push o0).objs.size := (by rw [Heap.size_push]; exact Nat.ne_of_lt (Nat.lt_succ_of_lt lt))
      have out : s.heap.objs.size ∉ [(s.heap.push o0).objs.size, l] := by
        rw [Heap.size_push]
        intro z
        rcases List.mem_cons.mp z with z | z
        · exact absurd z (Nat.ne_of_lt (Nat.lt_succ_self _))
        · exact absurd (List.mem_singleton.mp z).symm (Nat.ne_of_lt lt)
      refine gUpdate (knd := knd) ((Walks.tuple cl3 _ l ne1 its).toS) s.heap.objs.size out ks hn room hv (its.size - 0) 0 _ (by omega) (Nat.zero_le _) ⟨⟨_, Heap.get?_push_size _ rfl, rfl, rfl⟩, is1.push _⟩ ?h0 ?hR
      case h0 => exact gNew (Heap.get?_push_of_some _ g0)
      case hR =>
        intro s' mv G
        obtain ⟨h', g2, d', tk', os'⟩ := s'
        have e1 : g2 = s.gens := mv.gens
        have e2 : d' = s.drawn := mv.drawn
        have e3 : os' = s.os := mv.os
        subst e1 e2 e3
        refine (show wpAny _ _ _ _ _ _ from wpAny_pure (show wpAny _ _ (ret Value.none) _ _ _ from wpAny_pure ⟨rfl, h', tk', rfl, G, fun b o e => ?_⟩))
        have lb : b < s.heap.objs.size := Heap.lt_size e
        refine mv.heap b o (fun z => ?_) (Heap.get?_push_of_some _ (Heap.get?_push_of_some _ e))
        rw [Heap.size_push] at z
        rcases List.mem_cons.mp z with z | z
        · exact absurd z (Nat.ne_of_lt lb)
        · exact absurd (List.mem_singleton.mp z) (Nat.ne_of_lt (Nat.lt_succ_of_lt lb))
    · cases r₂ with
      | error e => exact h2
      | ok f2 =>
       cases f2 with
       | ret v =>
        obtain ⟨rfl, h', tk, rfl, G, kp⟩ := h2
        repeat (any_goals (first | assumption | wp_step))
        exact hQ _ _ G kp
       | _ => exact h2.elim
   | _ => exact hr.elim
/-! ### sorted -/
theorem gVals (G : GTab knd es t ks) {vs : List Value} (p : vs.Perm (es.toList.map (·.2))) : (∀ v ∈ vs, ∃ k, knd.is k v = true) ∧ vs.Pairwise (fun u v => ∀ k, knd.is k u = true → ¬ knd.is k v = true) ∧ (∀ k, k ∈ ks ↔ ∃ v ∈ vs, knd.is k v = true) ∧ vs.length = es.size := by
  refine ⟨fun v hv => ?_, (p.pairwise_iff (fun hxy k h1 h2 => hxy k h2 h1)).mpr (List.pairwise_map.mpr G.nd), fun k => (G.mem k).trans ⟨fun ⟨e, he, q⟩ => ⟨e.2, p.mem_iff.mpr (List.mem_map.mpr ⟨e, he, rfl⟩), q⟩, fun ⟨v, hv, q⟩ => ?_⟩, by rw [p.length_eq, List.length_map, Array.length_toList]⟩
  · obtain ⟨e, he, rfl⟩ := List.mem_map.mp (p.mem_iff.mp hv)
    obtain ⟨⟨k, q, _⟩, _⟩ := G.el e he
    exact ⟨k, q⟩
  · obtain ⟨e, he, rfl⟩ := List.mem_map.mp (p.mem_iff.mp hv)
    exact ⟨e, he, q⟩
end
section
variable {P : Program} {w : World} {A : Around} {E : Value → Shared → Prop} {s : Shared} {a : Addr}
theorem gAreS {vs : List Value} (h : ∀ v ∈ vs, ∃ k, (PySem.strKind P w).is k v = true) : ∃ ks, StrsAre vs ks ∧ ∀ (i : Nat) (v : Value), vs[i]? = some v → ∃ k, ks[i]? = some k ∧ (PySem.strKind P w).is k v = true := by
  induction vs with
  | nil => exact ⟨[], .nil, fun i v z => by simp at z⟩
  | cons v vs ih =>
    obtain ⟨ks, h1, h2⟩ := ih fun u hu => h u (List.mem_cons_of_mem _ hu)
    obtain ⟨k, q⟩ := h v List.mem_cons_self
    obtain ⟨tk, rfl⟩ := Value.isStrOf_shape q
    exact ⟨k :: ks, .cons k tk h1, fun i v z => by
      cases i with
      | zero => simp at z; subst z; exact ⟨k, rfl, q⟩
      | succ i => simp at z ⊢; exact h2 i v z⟩
theorem gSortedS {ks : List Str} {Q : Value → Shared → Prop} (G : GSet (PySem.strKind P w) s.heap a ks) (cl : A.handled = none) (room : ks.length < scanBound)
    (hQ : ∀ s' p (out : Array Value) (c : Nat) (ms : List Str), (∀ b o, s.heap.get? b = some o → s'.heap.get? b = some o) → s'.gens = s.gens → s'.os = s.os → s.heap.objs.size ≤ p → s'.heap.get? p = some (seqObj "list" out c) → StrsAre out.toList ms → ms.Nodup → (∀ k, k ∈ ms ↔ k ∈ ks) → sortedS ms = true → Q (.ref p) s') :
    wpAny (model P w) A (call (.builtin "sorted") [.ref a]) Q E s := by
  obtain ⟨o, es, ep, t, ho, hex, hd, G⟩ := G
  have few := G.few
  refine Calls.call_function_entry kind_sorted plain_sorted entry_sorted (args_sorted1 _) (show _ from ?_)
  unfold Builtin.«sorted»
  refine wpAny_bind (m := checkCount "sorted" 1 1 _) (wpAny_pure (wpAny_bind (collect_set (A := A.in1) cl ⟨o, ho, hex.1, hd⟩ G.fit (by omega) G.ris G.led fun s1 vs kp sz g1 o1 pm => ?_)))
  obtain ⟨v1, v2, v3, v4⟩ := gVals G pm
  obtain ⟨ns, v5, v6⟩ := gAreS v1
  have len : vs.length ≤ sizeLine := by rw [v4]; exact fits_of_scanBound (show es.size < scanBound by omega)
  refine wpAny_bind (wpAny_newList (show _ from ?_) len)
  have g2 : (s1.heap.push (seqObj "list" vs.toArray 0)).get? s1.heap.objs.size = some (seqObj "list" vs.toArray 0) := Heap.get?_push_size _ rfl
  refine wpAny_bind (wpAny_holding (wpAny_call_entry slot_list_sort ⟨_, g2, rfl⟩ entry_list_sort (list_sort_treeKAny strKind_oneLt g2 v5.keysOf (fun x y r e => keyKind_strs (by rw [← e]; exact v5)) len fun st' a1 a2 => ⟨_, rfl, ?_⟩) (args_list_sort _)))
  obtain ⟨ms, m1, m2, m3⟩ := sorted_out_str v5 a1 a2
  obtain ⟨c, hc⟩ := sortedHeap_at (vs := vs) (out := (arrOf st').map (·.2)) g2
  have nn : ns.Nodup := by
    refine List.pairwise_iff_getElem.mpr fun i j hi hj ij e => ?_
    have li : ns.length = vs.length := by have := v5.len_eq; omega
    obtain ⟨k, e1, q1⟩ := v6 i vs[i] (List.getElem?_eq_getElem (by omega))
    obtain ⟨k2, e2, q2⟩ := v6 j vs[j] (List.getElem?_eq_getElem (by omega))
    rw [List.getElem?_eq_getElem hi] at e1
    rw [List.getElem?_eq_getElem hj] at e2
    cases e1
    cases e2
    rw [← e] at q2
    exact List.pairwise_iff_getElem.mp v2 i j (by omega) (by omega) ij _ q1 q2
  have nm : ∀ k, k ∈ ns ↔ k ∈ ks := fun k => by
    rw [v3 k]
    have li : ns.length = vs.length := by have := v5.len_eq; omega
    constructor
    · intro hk
      obtain ⟨i, hi, rfl⟩ := List.mem_iff_getElem.mp hk
      obtain ⟨k, e1, q1⟩ := v6 i vs[i] (List.getElem?_eq_getElem (by omega))
      rw [List.getElem?_eq_getElem hi] at e1
      cases e1
      exact ⟨vs[i], List.getElem_mem _, q1⟩
    · rintro ⟨v, hv, q⟩
      obtain ⟨i, hi, rfl⟩ := List.mem_iff_getElem.mp hv
      obtain ⟨k', e1, q1⟩ := v6 i vs[i] (List.getElem?_eq_getElem (by omega))
      have : k = k' := (PySem.strKind P w).inj _ _ _ q q1
      subst this
      exact List.mem_of_getElem? e1
  refine wpAny_pure ⟨_, rfl, hQ _ s1.heap.objs.size _ c ms (fun b u e => ?_) g1 o1 sz hc m1 (m2.nodup_iff.mpr nn) (fun k => m2.mem_iff.trans (nm k)) m3⟩
  have q := kp b u e
  have lt := Heap.lt_size q
  show (sortedHeap _ s1.heap.objs.size vs _).get? b = some u
  rw [sortedHeap_old (Nat.ne_of_lt lt) (by rw [size_push']; exact Nat.lt_succ_of_lt lt)]
  exact Heap.get?_push_of_some _ q
end
section
variable {P : Program} {w : World} {A : Around} {E : Value → Shared → Prop} {s : Shared} {a : Addr}
theorem gAreI {vs : List Value} (h : ∀ v ∈ vs, ∃ k, (PySem.intKind P w).is k v = true) : ∃ ks, IntsAre vs ks ∧ ∀ (i : Nat) (v : Value), vs[i]? = some v → ∃ k, ks[i]? = some k ∧ (PySem.intKind P w).is k v = true := by
  induction vs with
  | nil => exact ⟨[], .nil, fun i v z => by simp at z⟩
  | cons v vs ih =>
    obtain ⟨ks, h1, h2⟩ := ih fun u hu => h u (List.mem_cons_of_mem _ hu)
    obtain ⟨k, q⟩ := h v List.mem_cons_self
    obtain ⟨tk, rfl⟩ := Value.isInt_shape q
    exact ⟨k :: ks, .cons k tk h1, fun i v z => by
      cases i with
      | zero => simp at z; subst z; exact ⟨k, rfl, q⟩
      | succ i => simp at z ⊢; exact h2 i v z⟩
theorem gSortedI {ks : List Int} {Q : Value → Shared → Prop} (G : GSet (PySem.intKind P w) s.heap a ks) (cl : A.handled = none) (room : ks.length < scanBound)
    (hQ : ∀ s' p (out : Array Value) (c : Nat) (ms : List Int), (∀ b o, s.heap.get? b = some o → s'.heap.get? b = some o) → s'.gens = s.gens → s'.os = s.os → s.heap.objs.size ≤ p → s'.heap.get? p = some (seqObj "list" out c) → IntsAre out.toList ms → ms.Nodup → (∀ k, k ∈ ms ↔ k ∈ ks) → ms.Pairwise (· ≤ ·) → Q (.ref p) s') :
    wpAny (model P w) A (call (.builtin "sorted") [.ref a]) Q E s := by
  obtain ⟨o, es, ep, t, ho, hex, hd, G⟩ := G
  have few := G.few
  refine Calls.call_function_entry kind_sorted plain_sorted entry_sorted (args_sorted1 _) (show _ from ?_)
  unfold Builtin.«sorted»
  refine wpAny_bind (m := checkCount "sorted" 1 1 _) (wpAny_pure (wpAny_bind (collect_set (A := A.in1) cl ⟨o, ho, hex.1, hd⟩ G.fit (by omega) G.ris G.led fun s1 vs kp sz g1 o1 pm => ?_)))
  obtain ⟨v1, v2, v3, v4⟩ := gVals G pm
  obtain ⟨ns, v5, v6⟩ := gAreI v1
  have len : vs.length ≤ sizeLine := by rw [v4]; exact fits_of_scanBound (show es.size < scanBound by omega)
  refine wpAny_bind (wpAny_newList (show _ from ?_) len)
  have g2 : (s1.heap.push (seqObj "list" vs.toArray 0)).get? s1.heap.objs.size = some (seqObj "list" vs.toArray 0) := Heap.get?_push_size _ rfl
  refine wpAny_bind (wpAny_holding (wpAny_call_entry slot_list_sort ⟨_, g2, rfl⟩ entry_list_sort (list_sort_treeKAny intKind_oneLt g2 v5.keysOfInt (fun x y r e => keyKind_ints (by rw [← e]; exact v5)) len fun st' a1 a2 => ⟨_, rfl, ?_⟩) (args_list_sort _)))
  obtain ⟨ms, m1, m2, m3⟩ := sorted_out v5 a1 (sortedTo_of_int a2)
  obtain ⟨c, hc⟩ := sortedHeap_at (vs := vs) (out := (arrOf st').map (·.2)) g2
  have nn : ns.Nodup := by
    refine List.pairwise_iff_getElem.mpr fun i j hi hj ij e => ?_
    have li : ns.length = vs.length := by have := v5.length; omega
    obtain ⟨k, e1, q1⟩ := v6 i vs[i] (List.getElem?_eq_getElem (by omega))
    obtain ⟨k2, e2, q2⟩ := v6 j vs[j] (List.getElem?_eq_getElem (by omega))
    rw [List.getElem?_eq_getElem hi] at e1
    rw [List.getElem?_eq_getElem hj] at e2
    cases e1
    cases e2
    rw [← e] at q2
    exact List.pairwise_iff_getElem.mp v2 i j (by omega) (by omega) ij _ q1 q2
  have nm : ∀ k, k ∈ ns ↔ k ∈ ks := fun k => by
    rw [v3 k]
    have li : ns.length = vs.length := by have := v5.length; omega
    constructor
    · intro hk
      obtain ⟨i, hi, rfl⟩ := List.mem_iff_getElem.mp hk
      obtain ⟨k, e1, q1⟩ := v6 i vs[i] (List.getElem?_eq_getElem (by omega))
      rw [List.getElem?_eq_getElem hi] at e1
      cases e1
      exact ⟨vs[i], List.getElem_mem _, q1⟩
    · rintro ⟨v, hv, q⟩
      obtain ⟨i, hi, rfl⟩ := List.mem_iff_getElem.mp hv
      obtain ⟨k', e1, q1⟩ := v6 i vs[i] (List.getElem?_eq_getElem (by omega))
      have : k = k' := (PySem.intKind P w).inj _ _ _ q q1
      subst this
      exact List.mem_of_getElem? e1
  refine wpAny_pure ⟨_, rfl, hQ _ s1.heap.objs.size _ c ms (fun b u e => ?_) g1 o1 sz hc m1 (m2.nodup_iff.mpr nn) (fun k => m2.mem_iff.trans (nm k)) m3⟩
  have q := kp b u e
  have lt := Heap.lt_size q
  show (sortedHeap _ s1.heap.objs.size vs _).get? b = some u
  rw [sortedHeap_old (Nat.ne_of_lt lt) (by rw [size_push']; exact Nat.lt_succ_of_lt lt)]
  exact Heap.get?_push_of_some _ q
end
/-! ### sorted(set(xs)), len(set(xs)) -/
def asSeq : D → Option (List D)
  | .lst xs => some xs
  | .tup xs => some xs
  | _ => none
def setOr (f : List Tx → D) (g : List Int → D) (d : D) : R D := match asSeq d with
  | none => .no
  | some xs => if xs.length < 4000 then match asTxs xs with
    | some ks => .ok (f ks.eraseDups)
    | none => match asInts xs with
      | some ns => .ok (g ns.eraseDups)
      | none => .no
    else .no
def dSortSet : D → R D := setOr (fun ks => .lst ((sortT ks).map D.str)) (fun ns => .lst ((sortI ns).map D.int))
def SqE (K : PySem.W.Frag) (H : Hp) (l : Addr) (vs : List V) : Prop := SqL K H l vs ∨ SqT K H l vs
def tSS (K : PySem.W.Frag) (q1 : List Str → Hp → VK → Prop) (q2 : List Int → Hp → VK → Prop) (ta : TE) : TE := fun σ H Q => ta σ H fun x H1 => ∃ l, x = .ref l ∧
  ((∃ ks : List Str, SqE K H1 l (ks.map V.str) ∧ ks.length < 4000 ∧ q1 ks H1 Q) ∨ ∃ ns : List Int, SqE K H1 l (ns.map V.int) ∧ ns.length < 4000 ∧ q2 ns H1 Q)
def q1S : List Str → Hp → VK → Prop := fun ks H Q => ∀ (ms : List Str) (p : Addr), ms.Nodup → (∀ k, k ∈ ms ↔ k ∈ ks) → sortedS ms = true → H p = none → Q (.ref p) (upd H p (.lst (ms.map V.str)))
def q2S : List Int → Hp → VK → Prop := fun ks H Q => ∀ (ms : List Int) (p : Addr), ms.Nodup → (∀ k, k ∈ ms ↔ k ∈ ks) → ms.Pairwise (· ≤ ·) → H p = none → Q (.ref p) (upd H p (.lst (ms.map V.int)))
section
variable {X : Cx} {a : Expr} {ta : TE} {p p2 q pos : Pos}
theorem str_at {ks : List Str} {us : List Value} (r : Vals (ks.map V.str) us) (i : Nat) (v : Value) (h : us[i]? = some v) : ∃ k, ks[i]? = some k ∧ (PySem.strKind X.prog X.w).is k v = true ∧ v.scannable = true := by
  induction ks generalizing us i with
  | nil => cases r; simp at h
  | cons k ks ih =>
    cases r with
    | cons r1 r2 =>
      cases i with
      | zero =>
        simp at h; subst h
        obtain ⟨tk, rfl⟩ := r1
        refine ⟨k, rfl, ?_, rfl⟩
        show Value.isStrOf k (.str k tk) = true
        simp [Value.isStrOf]
      | succ i => simp at h ⊢; exact ih r2 i h
theorem int_at {ks : List Int} {us : List Value} (r : Vals (ks.map V.int) us) (i : Nat) (v : Value) (h : us[i]? = some v) : ∃ k, ks[i]? = some k ∧ (PySem.intKind X.prog X.w).is k v = true ∧ v.scannable = true := by
  induction ks generalizing us i with
  | nil => cases r; simp at h
  | cons k ks ih =>
    cases r with
    | cons r1 r2 =>
      cases i with
      | zero =>
        simp at h; subst h
        obtain ⟨tk, rfl⟩ := r1
        refine ⟨k, rfl, ?_, rfl⟩
        show Value.isInt k (.int k tk) = true
        simp [Value.isInt]
      | succ i => simp at h ⊢; exact ih r2 i h
theorem made_set {pins : List (Addr × Obj)} {σ : L2.St} {H : Hp} {s : Shared} {l : Addr} {E : Value → Shared → Prop} {Q : Value → Shared → Prop} (hc : X.calm = true) (I : Inv X pins σ H s) {κ : Type} [DecidableEq κ] {knd : PySem.KeyKind X.prog X.w κ} {ks : List κ} {f : κ → V}
    (hl : SqE X.K H l (ks.map f)) (room : ks.length < 4000) (at_ : ∀ (us : List Value), Vals (ks.map f) us → ∀ (i : Nat) (v : Value), us[i]? = some v → ∃ k, ks[i]? = some k ∧ knd.is k v = true ∧ v.scannable = true)
    (hQ : ∀ h' tk, GSet knd h' s.heap.objs.size ks → Inv X pins σ H { s with heap := h', toks := tk } → Q (.ref s.heap.objs.size) { s with heap := h', toks := tk }) : wpAny (model X.prog X.w) X.A (call (.type "set") [.ref l]) Q E s := by
  have sb : ks.length + 1 < scanBound := by unfold scanBound; omega
  rcases hl with hl | hl
  · obtain ⟨its, r, pl, hz⟩ := I.list hl
    exact gCall_list (knd := knd) ks (I.ok.hd hc) pl.isList (by rw [List.size_toArray, ← r.length, List.length_map]) (fun i v e => at_ its r i v (by simpa using e)) sb fun h' tk G kp => hQ h' tk G (I.kept kp)
  · obtain ⟨its, r, pl, hz⟩ := I.tuple hl
    exact gCall_tuple (knd := knd) ks (I.ok.hd hc) pl (by rw [List.size_toArray, ← r.length, List.length_map]) (fun i v e => at_ its r i v (by simpa using e)) sb fun h' tk G kp => hQ h' tk G (I.kept kp)
theorem laid_list {pins : List (Addr × Obj)} {σ : L2.St} {H : Hp} {s s' : Shared} {p : Addr} {vs : List V} {out : Array Value} {c : Nat} (I : Inv X pins σ H s) (k : ∀ b o, s.heap.get? b = some o → s'.heap.get? b = some o) (g : s'.gens = s.gens) (o : s'.os = s.os)
    (hp : s.heap.objs.size ≤ p) (at_ : s'.heap.get? p = some (seqObj "list" out c)) (r : Vals vs out.toList) (len : vs.length ≤ sizeLine) : Inv X pins σ (upd H p (.lst vs)) s' ∧ H p = none :=
  ⟨I.call' (ch := []) o (Un.laid k hp (I.hok.fresh hp)) (I.hok.laid k hp ⟨len, out.toList, c, r, at_⟩) (by rw [g]; exact I.bare) (fun _ z => nomatch z), I.hok.fresh hp⟩
theorem nd_len {κ : Type} {ms ks : List κ} (nd : ms.Nodup) (h : ∀ k, k ∈ ms ↔ k ∈ ks) : ms.length ≤ ks.length := List.Nodup.length_le_of_subset nd fun k hk => (h k).mp hk
theorem pe_sortset (hc : X.calm = true) (hm : X.mg "sorted" = none) (hm2 : X.mg "set" = none) (ha : PE X a ta) (hg : Gl X "sorted" := by rfl) (hg2 : Gl X "set" := by rfl)
    (na : starEach [a] X.env = (false, eval a X.env) :: starEach [] X.env := by rfl) : PE X (.Call (.Name "sorted" p) [.Call (.Name "set" p2) [a] [] q] [] pos) (tSS X.K q1S q2S ta) := by
  refine ⟨fun pins s σ H Q I h => Call_ (ld_blt I hg hm PyProof.Rows.boot_sorted (PyProof.Rows.callWith_builtin1 (PyProof.Rows.args_cons (Call_ (ld_blt I hg2 hm2 PyProof.Rows.boot_set
    (PyProof.Rows.callWith_type1 (PyProof.Rows.args_cons (thn (ha.run pins s σ H _ I h) fun v s1 ⟨x, H1, I1, r1, q1⟩ => PyProof.Rows.args_nil ?_) na) na rfl))) rfl) rfl rfl))⟩
  obtain ⟨l, rfl, q1⟩ := q1
  cases r1
  rcases q1 with ⟨ks, hl, room, q1⟩ | ⟨ks, hl, room, q1⟩
  · refine made_set (knd := PySem.strKind X.prog X.w) hc I1 hl room (fun us r => str_at r) fun h' tk G I2 => PyProof.Rows.args_nil (gSortedS G (I2.ok.hd hc) (by unfold scanBound; omega) fun s' p out c ms k g o hp hg r nd mem so => ?_)
    obtain ⟨I3, hn⟩ := laid_list I2 k g o hp hg (vals_of_strs r) (by rw [List.length_map]; exact Nat.le_trans (nd_len nd mem) (fits_of_scanBound (by unfold scanBound; omega)))
    exact ⟨.ref p, _, I3, rfl, q1 ms p nd mem so hn⟩
  · refine made_set (knd := PySem.intKind X.prog X.w) hc I1 hl room (fun us r => int_at r) fun h' tk G I2 => PyProof.Rows.args_nil (gSortedI G (I2.ok.hd hc) (by unfold scanBound; omega) fun s' p out c ms k g o hp hg r nd mem so => ?_)
    obtain ⟨I3, hn⟩ := laid_list I2 k g o hp hg (vals_of_ints r) (by rw [List.length_map]; exact Nat.le_trans (nd_len nd mem) (fits_of_scanBound (by unfold scanBound; omega)))
    exact ⟨.ref p, _, I3, rfl, q1 ms p nd mem so hn⟩
theorem asSeq_of {K : PySem.W.Frag} {F H : Hp} (e : Emb F H) {d : D} {xs : List D} (h : asSeq d = some xs) {v : V} (r : Rep1 K F H d v) : ∃ l vs, v = .ref l ∧ SqE K H l vs ∧ Reps K F xs vs := by
  cases d <;> simp only [asSeq] at h <;> first | (cases h; done) | skip
  · cases h
    obtain ⟨a, vs, rfl, s, p⟩ := r.lst e
    exact ⟨a, vs, rfl, .inl s, p⟩
  · cases h
    obtain ⟨a, vs, rfl, s, p⟩ := r.tup e
    exact ⟨a, vs, rfl, .inr s, p⟩
theorem erase_nd {κ : Type} [BEq κ] [LawfulBEq κ] : ∀ (n : Nat) (ks : List κ), ks.length ≤ n → ks.eraseDups.Nodup
  | _, [], _ => by simp
  | n + 1, a :: ks, h => by
    rw [List.eraseDups_cons, List.nodup_cons]
    refine ⟨fun z => ?_, erase_nd n _ (Nat.le_trans (List.length_filter_le _ _) (by simpa using h))⟩
    have := (List.mem_filter.mp (List.mem_eraseDups.mp z)).2
    simp at this
theorem nd_erase {κ : Type} [BEq κ] [LawfulBEq κ] {ms ks : List κ} (nd : ms.Nodup) (h : ∀ k, k ∈ ms ↔ k ∈ ks) : ms.Perm ks.eraseDups := by
  refine (List.perm_ext_iff_of_nodup nd (erase_nd _ ks (Nat.le_refl _))).mpr fun k => ?_
  rw [h k, List.mem_eraseDups]
theorem of_set {K : PySem.W.Frag} {W : WN} {fa : Ga → R D} {f : List Tx → D} {g : List Int → D} {q1 : List Str → Hp → VK → Prop} {q2 : List Int → Hp → VK → Prop} {P : Hp → Hp → D → VK → Prop} {σ : L2.St} {H F : Hp} {γ : Ga} {Q : VK} (r : RS K F γ σ H)
    (o : Out (P F H) F H (fun c H' => W c σ H') (b1 (setOr f g) fa γ) Q)
    (h1 : ∀ (ks : List Tx) F1 H1, Nxt F H F1 H1 → P F H (f ks.eraseDups) Q → q1 (ks.map toS) H1 Q) (h2 : ∀ (ns : List Int) F1 H1, Nxt F H F1 H1 → P F H (g ns.eraseDups) Q → q2 ns H1 Q) : tSS K q1 q2 (rdR K W fa) σ H Q := by
  refine go1 (Z := fun z => Out (P F H) F H (fun c H' => W c σ H') z Q) r o (fun _ z => z) (fun z => z) fun dx x F1 H1 n1 r1 p1 o1 => ?_
  unfold setOr at o1
  split at o1
  · exact o1.elim
  · rename_i xs hxs
    obtain ⟨l, vs, rfl, s, rp⟩ := asSeq_of r1.emb hxs p1
    refine ⟨l, rfl, ?_⟩
    split at o1
    · rename_i hl
      split at o1
      · rename_i ks hk
        have := asTxs_of hk
        subst this
        rw [rp.txs] at s
        exact .inl ⟨ks.map toS, s, by simpa using hl, h1 ks F1 H1 n1 o1⟩
      · split at o1
        · rename_i ns hn
          have := asInts_of hn
          subst this
          rw [rp.ints] at s
          exact .inr ⟨ns, s, by simpa using hl, h2 ns F1 H1 n1 o1⟩
        · exact o1.elim
    · exact o1.elim
theorem back_toS {ms : List Str} {ks : List Tx} (h : ∀ k, k ∈ ms ↔ k ∈ ks.map toS) (nd : ms.Nodup) : ∃ zs : List Tx, ms = zs.map toS ∧ zs.Perm ks.eraseDups := by
  have e : (ms.map fun y => y.cps.toList).map toS = ms := by
    rw [List.map_map]
    have : (toS ∘ fun y : Str => y.cps.toList) = id := by funext y; exact toS_tl y
    rw [this, List.map_id]
  refine ⟨ms.map fun y => y.cps.toList, e.symm, nd_erase ?_ fun k => ?_⟩
  · rw [← e] at nd
    exact (List.pairwise_map.mp nd).imp fun h z => h (by rw [z])
  · constructor
    · intro hk
      obtain ⟨y, hy, rfl⟩ := List.mem_map.mp hk
      obtain ⟨z, hz, q⟩ := List.mem_map.mp ((h y).mp hy)
      subst q
      simpa [toS] using hz
    · intro hk
      exact List.mem_map.mpr ⟨toS k, (h _).mpr (List.mem_map.mpr ⟨k, hk, rfl⟩), by simp [toS]⟩
variable {W : WN} {fa : Ga → R D}
theorem jf_sortset (hc : X.calm = true) (hm : X.mg "sorted" = none) (hm2 : X.mg "set" = none) (ha : JR X W fa a) (hg : Gl X "sorted" := by rfl) (hg2 : Gl X "set" := by rfl)
    (na : starEach [a] X.env = (false, eval a X.env) :: starEach [] X.env := by rfl) : JF X W (b1 dSortSet fa) (.Call (.Name "sorted" p) [.Call (.Name "set" p2) [a] [] q] [] pos) :=
  ⟨PE.imp (pe_sortset hc hm hm2 ha.pe hg hg2 na) fun σ H Q ⟨F, γ, r, o⟩ => of_set (P := PF X.K) r o (fun ks F1 H1 n1 o1 ms p nd mem so hn => by
    obtain ⟨zs, rfl, pz⟩ := back_toS mem nd
    rw [sortT_of pz so]
    exact (PF.next (Q := Q) o1 n1).newTx n1.emb p hn) fun ns F1 H1 n1 o1 ms p nd mem so hn => by
    rw [sortI_of (nd_erase nd mem) so]
    exact (PF.next (Q := Q) o1 n1).newL n1.emb (reps_ints _) p hn⟩
end
end KN
/-! KnT: a list display told over -/
/-! KnN: dicts of dicts, filled and counted in place -/
/-! KnX: raise, try, what is told of a caught error -/
namespace KN
open PySem PySem.Spec PyProof.Rows L2
/-! ### raise -/
/-- an error class of the program's own, over ValueError -/
structure ExR (K : PySem.W.Frag) (mg : Str → Option Value) (x : Str) (C : Addr) : Prop where
  g : mg x = some (.ref C)
  q : PySem.W.excIn K C [.type "ValueError", .type "Exception", .type "BaseException", .type "object"] "ValueError.__new__" = true
  k : PySem.W.keepIn K (.ref C) = true
  b : PySem.W.subIn K (.ref C) (.type "BaseException") = some true
  t : PySem.W.typeIn K (.ref C) = some (.type "type")
def fRaise (c : Nat) : Ga → R Fl := fun _ => .ex c
theorem js_raise {X : Cx} {W : WN} {cl : Cl} {c : Nat} {C : Addr} {x m : Str} {j : Nat} {p p2 pos pos' : Pos} (hcl : cl c = .ref C) (E : ExR X.K X.mg x C) (hc : X.calm = true) (tk : Takes X (VW cl W)) (hg : Gl X x := by rfl)
    (hdb : (x == ("__debug__" : Str)) = false := by decide) : JS X W (fRaise c) (.Raise (some (.Call (.Name x p) [.Constant (.str m) j p2] [] pos)) none pos') :=
  ⟨PS.imp (ps_raise hc tk (pmk_own PySem.F.excBase_ValueError E.q E.g E.k (raises_own E.b E.t) hg hdb)) fun E' σ H ⟨B, F, γ, r, o⟩ => ⟨c, hcl.symm, rfl, o σ F H r.fi⟩⟩
/-! ### a def that is told a caught error -/
structure FnE (P : Program) (w : World) (K : PySem.W.Frag) (mg : Str → Option Value) (base : Heap) (CX : CXT) (k : Nat) (f : Addr) (fd : FuncData) (ps : List Str) (sp : Addr × Obj → Sp) : Prop where
  len : ∀ p vs H Q E, sp p vs H Q E → vs.length = ps.length
  run : ∀ (A : Around) (outer : List Env) (s : Shared) (H : Hp) (args : Args) (us : List Value) (vs : List V) (Q : VK) (E : XK) (p : Addr × Obj), L2H.RoomH k A → L2H.PinOk outer H s p → Env0 P w K mg base A outer s H →
    BindsTo s fd args (ps.zip us) → Vals vs us → sp p vs H Q E → codeAny (model P w) A (.call (.ref f) args) (CR CX outer P w H s Q E) s
theorem fnE_of {CX : CXT} {P : Program} {w : World} {K : PySem.W.Frag} {mg : Str → Option Value} {base : Heap} {k : Nat} {x qual : Str} {st : Stmt} {f : Addr} {fd : FuncData} {N ps : List Str} {sp : Addr × Obj → Sp} (Fu : Fun K x qual st f fd) (S : FnScope N ps (defScope st))
    (len : ∀ p vs H Q E, sp p vs H Q E → vs.length = ps.length)
    (hb : ∀ (cdv : Value) (A : Around) (outer : List Env) (s : Shared) (H : Hp) (vs : List V) (Q : VK) (E : XK) (p : Addr × Obj), L2H.RoomH k (A.deeper (envOfC qual (defScope st) s.heap.objs.size f cdv)) → sp p vs H Q E →
      ∃ t, PSs (L2H.cxH CX P w K mg base N qual (defScope st) f cdv A outer s H E p) (defBody st) t ∧ t { nx := fun _ H' => Q .non H', rt := Q } (L2.start N vs) H) : FnE P w K mg base CX (k + 1) f fd ps sp := by
  obtain ⟨oc, od, kV, dc, pm, an, cd, ct, osl, rfl, lk, hcd⟩ := Fu.ex
  refine ⟨len, fun A outer s H args us vs Q E p hr hpin e0 bd r hsp => ?_⟩
  have ln := len _ _ _ _ _ hsp
  have kin : K.In s.heap := e0.mod.kin.keeps fun b o e => (e0.bs b o e).1
  have nl : s.heap.NoLimit := e0.mod.nolimit.keeps fun b o e => (e0.bs b o e).1
  have kd : ∀ y ∈ ps.zip us, (defScope st).names.lookup y.1 = some .local ∨ ((defScope st).names.lookup y.1 = some .cell ∧ ((cellsFrom (s.heap.objs.size + 1) (defScope st).names []).lookup y.1).isSome = true) := by
    rintro ⟨n, v⟩ hy
    exact (S.par n (List.of_mem_zip hy).1).imp id fun q => ⟨q, PySem.W.cellsFrom_some _ _ _ (.inl q)⟩
  refine codeAny_call_function hr.depth (kin _ _ lk) rfl S.co S.gen rfl (PySem.W.codeRec_of kin hcd) (bd _ _ _ _ (wpAny_newFunctionEnv_cells S.kind kd fun env he s1 y => ?_))
  subst he
  obtain ⟨t, h1, h2⟩ := hb cd A outer s H vs Q E p (hr.deeper _) hsp
  have I : Inv (L2H.cxH CX P w K mg base N qual (defScope st) f cd A outer s H E p) [] (L2.start N vs) H s1 := L2H.inv_startH S hpin e0 ln r y
  refine ⟨nl.keeps y.toInCall.keep, codeAny_func (wpAny_mono (h1.run [] s1 (L2.start N vs) H _ I h2) (fun fl s' hs => ?_) fun e s' hs => hs)⟩
  have fin : ∀ {σ' : L2.St} {H' : Hp} {v : V} {u : Value}, Inv (L2H.cxH CX P w K mg base N qual (defScope st) f cd A outer s H E p) [] σ' H' s' → RelV v u → Q v H' → CE outer P w H s Q u s' := fun {σ' H' v u} J rv q => ⟨v, H', J.os, J.bare, J.base, J.hok, rv, q⟩
  cases fl with
  | ret u =>
    obtain ⟨v, σ', H', J, rv, q⟩ := hs
    exact fin J rv q
  | next =>
    obtain ⟨σ', H', J, q⟩ := hs
    exact fin (v := .non) (u := .none) J rfl q
  | brk => exact hs.choose_spec.choose_spec.2.elim
  | cont => exact hs.choose_spec.choose_spec.2.elim
section
variable {X : Cx} {CX : CXT} {k : Nat} {f : Addr} {fd : FuncData} {ps : List Str} {sp : Addr × Obj → Sp} {E : L2.St → XK} {x : Str} {q pos : Pos} {e : Expr} {es : List Expr} {t : TA} {p : Addr × Obj}
theorem pe_callE (F : FnE X.prog X.w X.K X.mg X.base CX k f fd ps sp) (hr : L2H.RoomH k X.A) (hp : p ∈ X.pn) (hg : Gl X x) (hm : X.mg x = some (.ref f)) (hk : PySem.W.keepIn X.K (.ref f) = true) (hb : Binds X.K fd ps []) (hx : ∀ σ, PassesAt CX X σ (E σ))
    (ha : PA X (e :: es) t) (hdb : (x == ("__debug__" : Str)) = false := by decide) (he : starEach (e :: es) X.env = (false, eval e X.env) :: starEach es X.env := by rfl) (hpl : (backTo pos (starEach es X.env)).any (·.1) = false := by rfl) :
    PE X (.Call (.Name x q) (e :: es) [] pos) (tCallS (sp p) E t) := by
  refine ⟨fun pins s σ H Q I h => wpAny_Call_Name_kw (ld_glob I hg hm (PySem.W.callWith_K (h₀ := X.base) I.ok.mod.kin hk (thn (ha.run pos pins s σ H _ I h) fun us s1 ⟨vs, H1, I1, r, w⟩ => ⟨I1.kIn, ?_⟩) he hpl) hdb)⟩
  have ln : us.length = ps.length := by rw [← r.length]; exact F.len _ _ _ _ _ w
  have bd := hb s1 us I1.kIn (by rw [List.append_nil]; exact ln)
  rw [List.append_nil] at bd
  have pn := I1.pin p (List.mem_append_left _ hp)
  have po : L2H.PinOk X.stack H1 s1 p := ⟨pn.1, pn.2.1, fun hm => (List.mem_cons.mp (I1.stkSub p.1 hm)).elim pn.2.2.1 pn.2.2.2.1, pn.2.2.2.2⟩
  refine wpAny_call (codeAny_mono (F.run X.A X.stack s1 H1 ⟨us, []⟩ us vs Q (E σ) p hr po I1.env0 bd r w) fun r s' hq => ?_)
  cases r with
  | error e => exact hx σ pins H1 s1 e s' I1 hq
  | ok fl =>
    cases fl with
    | ret u => exact I1.after hq
    | next => exact hq.elim
    | brk => exact hq.elim
    | cont => exact hq.elim
end
/-- the promise: what is told is h's word of the error's class -/
def spE (cl : Cl) (K : PySem.W.Frag) (h : Nat → R D) : Addr × Obj → Sp := fun p vs H Q E => vs = [.ref p.1] ∧ ∃ c d F, Zc (cl c) none p.2 ∧ (∃ ws, p.2.data = .fields ws) ∧ h c = .ok d ∧ Emb F H ∧ PV K F H d Q
def startE (n : Nat) (a : Addr) : Ga := .xc a :: List.replicate (n - 1) .un
theorem rs_startE {K : PySem.W.Frag} {F H : Hp} {N : List Str} {a : Addr} (e : Emb F H) (h : 0 < N.length) : RS K F (startE N.length a) (L2.start N [.ref a]) H := by
  have no : ∀ (i : Nat) (s : Sl) (x : Option (Option V)) (b : Addr), (startE N.length a)[i]? = some s → ¬ Inn H s x b := fun i s x b q => by
    unfold startE at q
    cases i with
    | zero => simp at q; subst q; exact id
    | succ i =>
      simp only [List.getElem?_cons_succ, List.getElem?_replicate] at q
      split at q <;> cases q
      exact id
  refine ⟨e, by simp [startE, L2.start], fun i s q => ?_, fun i j d d' b h1 h2 i1 _ => absurd i1 (no i d _ b h1)⟩
  unfold startE at q
  cases i with
  | zero => simp at q; subst q; rfl
  | succ i =>
    simp only [List.getElem?_cons_succ, List.getElem?_replicate] at q
    split at q <;> cases q
    trivial
section
variable {P : Program} {w : World} {K : PySem.W.Frag} {mg : Str → Option Value} {base : Heap}
theorem fokE {x qual : Str} {st : Stmt} {f : Addr} {fd : FuncData} {N : List Str} {y : Str} {k : Nat} {cl : Cl} {h : Nat → R D} {body : Addr → Nat → Ga → R Fl} (Fu : Fun K x qual st f fd) (S : FnScope N [y] (defScope st))
    (hv : ∀ a c d, h c = .ok d → body a c (startE N.length a) = .ok (.rt d))
    (hb : ∀ (cdv : Value) (A : Around) (outer : List Env) (s : Shared) (H : Hp) (E : XK) (p : Addr × Obj) (c : Nat) (d : D), h c = .ok d → Zc (cl c) none p.2 → (∃ ws, p.2.data = .fields ws) → L2H.RoomH k (A.deeper (envOfC qual (defScope st) s.heap.objs.size f cdv)) →
      JSs (L2H.cxH (L2.CX P w) P w K mg base N qual (defScope st) f cdv A outer s H E p) W0 (body p.1 c) (defBody st)) :
    FnE P w K mg base (L2.CX P w) (k + 1) f fd [y] (spE cl K h) := by
  refine fnE_of Fu S (fun p vs H Q E hs => by rw [hs.1]; rfl) fun cdv A outer s H vs Q E p hr hs => ?_
  obtain ⟨rfl, c, d, F, hz, hf, hd, em, q⟩ := hs
  refine ⟨_, (hb cdv A outer s H E p c d hd hz hf hr).pss, ⟨F, H, []⟩, F, startE N.length p.1, ⟨rs_startE em ?_, .start em, fun i s b e1 e2 => ?_⟩, ?_⟩
  · have := congrArg List.length S.pre
    simp at this
    omega
  · unfold startE at e1
    cases i with
    | zero => simp at e1; subst e1; exact e2.elim
    | succ i =>
      simp only [List.getElem?_cons_succ, List.getElem?_replicate] at e1
      split at e1 <;> cases e1
      exact e2.elim
  · rw [hv _ _ _ hd]
    exact fun v F' H' fi p => q v F' H' fi.nxt p
end
/-! ### isinstance of the error -/
def bE (i : Nat) (a : Addr) (b : Bool) : Ga → R D := fun γ => match γ[i]? with
  | some (.xc a') => if a' = a then .ok (.bl b) else .no
  | _ => .no
theorem call_isP {X : Cx} {D : Addr} {p : Addr × Obj} (C : ExcC X.K D) (hp : p ∈ X.pn) (hz : Zc (.ref D) none p.2) (hf : ∃ vs, p.2.data = .fields vs) : CallR X (.builtin "isinstance") (rIsE X.K D p.1) := by
  intro pins s σ H xs us Q I r h
  obtain ⟨c, cv, b, rfl, hcv, e, q⟩ := h
  cases r with
  | cons r1 r2 =>
    cases r2 with
    | cons r3 r4 =>
      cases r4
      cases r1
      cases hcv _ r3
      obtain ⟨g1, _⟩ := I.pin p (List.mem_append_left _ hp)
      obtain ⟨vs, hv⟩ := hf
      obtain ⟨a, oe⟩ := p
      have J : PySem.W.InstAt s.heap a oe D none := by
        obtain ⟨oc, od, oda, osl⟩ := oe
        obtain ⟨h1, h2⟩ := hz
        simp only at h1 h2 hv
        subst h1 h2 hv
        exact ⟨g1, rfl, rfl, trivial⟩
      exact PySem.W.kia_one (PySem.W.handS_kitx_exc C.hg C.hk C.hs C.hd C.ha C.hn C.ht C.hm) I.kIn J e (fun z => nomatch z) fun tk => ⟨.bl b, H, I.kept (t' := tk) fun _ _ z => z, rfl, q⟩
section
variable {X : Cx} {W : WN} {D : Addr} {p : Addr × Obj} {c : V} {cv : Value} {b : Bool} {i : Nat} {x y : Str} {q1 q2 q3 pos : Pos}
theorem j_isE (C : ExcC X.K D) (hp : p ∈ X.pn) (hz : Zc (.ref D) none p.2) (hf : ∃ vs, p.2.data = .fields vs) (hc : PE X (.Name y q3) (tC c)) (hcv : ∀ u, RelV c u → u = cv) (hk : PySem.W.kitOne X.K (.ref D) cv = some b) (hm : X.mg "isinstance" = none) (hg : Gl X "isinstance" := by rfl)
    (hN : X.N[i]? = some x := by rfl) (hv : Vis X.env.scope x := by first | exact Or.inl rfl | exact Or.inr (Or.inl rfl) | exact Or.inr (Or.inr rfl)) (hd : (x == ("__debug__" : Str)) = false := by decide) (hcd : (x == ("__classdict__" : Str)) = false := by decide)
    (he : starEach [.Name x q2, .Name y q3] X.env = (false, eval (.Name x q2) X.env) :: starEach [.Name y q3] X.env := by rfl) (he2 : starEach [.Name y q3] X.env = (false, eval (.Name y q3) X.env) :: starEach [] X.env := by rfl)
    (hpl : (backTo pos (starEach [.Name y q3] X.env)).any (·.1) = false := by rfl) : J X W (bE i p.1 b) (.Call (.Name "isinstance" q1) [.Name x q2, .Name y q3] [] pos) := by
  refine ⟨PE.imp (pe_callB (call_isP C hp hz hf) hg hm boot_isinstance (pa_cons (pe_var hN hv hd hcd) (pa_cons hc pa_nil he2) he) (by decide) (by decide) he hpl) fun σ H Q ⟨F, γ, r, o⟩ => ?_⟩
  unfold bE at o
  cases e1 : γ[i]? with
  | none => rw [e1] at o; exact o.elim
  | some s =>
    rw [e1] at o
    cases s with
    | un => exact o.elim
    | va d => exact o.elim
    | ow d => exact o.elim
    | nd d => exact o.elim
    | xc a =>
      simp only at o
      split at o
      · rename_i ea
        subst ea
        exact ⟨_, r.sl i _ e1, c, cv, b, rfl, hcv, hk, PV.here (Q := Q) o r.emb (.bl _)⟩
      · exact o.elim
/-- a class of the program by its name -/
theorem pe_cls {C : Addr} (hm : X.mg y = some (.ref C)) (hg : Gl X y := by rfl) (hd : (y == ("__debug__" : Str)) = false := by decide) : PE X (.Name y q3) (tC (.ref C)) :=
  ⟨fun pins s σ H Q I h => ld_glob I hg hm ⟨.ref C, H, I, rfl, h⟩ hd⟩
theorem rel_ref {C : Addr} : ∀ u, RelV (.ref C) u → u = .ref C := fun u h => by cases h; rfl
theorem rel_ty {n : String} : ∀ u, RelV (.ty n) u → u = .type n := fun u h => by cases h; rfl
end
/-! ### xs.count(b), xs.index(b), of truths -/
def bM1 (g : D → D → R D) (fa fb : Ga → R D) : Ga → R D := fun γ => (fa γ).bind fun x => match x with
  | .lst _ => (fb γ).bind fun y => g x y
  | _ => .no
def dCount : D → D → R D
  | .lst xs, .bl b => (o2r (asBls xs)).bind fun bs => .ok (.int (bs.count b : Nat))
  | _, _ => .no
def dIndex : D → D → R D
  | .lst xs, .bl b => (o2r (asBls xs)).bind fun bs => if b ∈ bs then .ok (.int (bs.idxOf b : Nat)) else .no
  | _, _ => .no
theorem dCount_ne : ∀ x y c, dCount x y ≠ .ex c := fun x y c => by
  cases x <;> cases y <;> simp only [dCount, o2r] <;> first | (intro h; cases h; done) | skip
  split <;> intro h <;> cases h
theorem dIndex_ne : ∀ x y c, dIndex x y ≠ .ex c := fun x y c => by
  cases x <;> cases y <;> simp only [dIndex, o2r] <;> first | (intro h; cases h; done) | skip
  split
  · simp only [R.bind]
    split <;> intro h <;> cases h
  · intro h; cases h
theorem flat_bls (bs : List Bool) : (bs.map V.bl).all flatV = true := by
  rw [List.all_eq_true]
  intro v hv
  obtain ⟨b, _, rfl⟩ := List.mem_map.mp hv
  rfl
theorem eqV_bl (a b : Bool) : eqV (.bl a) (.bl b) = (a == b) := by cases a <;> cases b <;> rfl
section
variable {X : Cx}
theorem mt_countB : MtR X "list.count" (fun x xs H Q => ∃ (p : Addr) (bs : List Bool) (b : Bool), x = .ref p ∧ xs = [.bl b] ∧ SqL X.K H p (bs.map V.bl) ∧ Q (.int (bs.count b : Nat)) H) := by
  intro pins s σ H x xs v us Q I rx rxs h
  obtain ⟨p, bs, b, rfl, rfl, hs, q⟩ := h
  cases rx
  obtain ⟨u, rfl, ru⟩ := rxs.one
  obtain ⟨its, rv, ⟨⟨cls, dd, data, sl⟩, n, ho, hc, hdn, hd⟩, hlen⟩ := I.list hs
  simp only at hc hd
  subst hc hd
  refine call_meets PySem.F.slot_list_count ⟨_, ho, rfl⟩ PySem.F.entry_list_count (PySem.F.args_list_count_2 _ _) (SeqAt.list_countAt p its.toArray n dd sl u (eqU (.bl b))) ⟨ho, fun y hy => mem_eqAt ru rfl rv (flat_bls bs) y (by simpa using hy), ?_⟩
  have e : ∀ (bs : List Bool) (its : List Value), Vals (bs.map V.bl) its → its.countP (eqU (.bl b)) = bs.count b := by
    intro bs
    induction bs with
    | nil => intro its r; cases r; rfl
    | cons a bs ih =>
      intro its r
      cases r with
      | cons r1 r2 =>
        rw [List.countP_cons, ih _ r2, List.count_cons, eqU_of r1 rfl, eqV_bl]
  refine ⟨.int (bs.count b : Nat), H, I.tok _, ⟨s.toks, ?_⟩, q⟩
  show Value.int ((its.toArray.toList.countP (eqU (.bl b)) : Nat) : Int) s.toks = _
  rw [show its.toArray.toList = its from rfl, e bs its rv]
variable {W : WN} {fa fb : Ga → R D} {a b : Expr} {apos cpos : Pos}
theorem j_meth1 {id : String} {name : Str} {g : D → D → R D} {r : V → List V → Hp → VK → Prop} (slot : Slot "list" name id) (ty : typeOf (.builtin id) = pure (.type "method_descriptor")) (rule : MtR X id r)
    (hr : ∀ F H dx dy d x y Q, Emb F H → Rep1 X.K F H dx x → Rep1 X.K F H dy y → g dx dy = .ok d → PV X.K F H d Q → r x [y] H Q) (ne : ∀ x y c, g x y ≠ .ex c) (ha : JR X W fa a) (hb : JR X W fb b)
    (hbase : attributeBase a name X.env (eval a X.env) = eval a X.env := by rfl)
    (hfew : ((backTo cpos (starEach [b] X.env)).all (fun x => !x.1) && (backToKw cpos (keywordEach [] X.env)).all (fun x => x.1.isSome) && decide ([b].length + ([] : List Keyword).length + (if ([] : List Keyword).isEmpty then 0 else 1) < 30)) = true := by rfl)
    (hline : (apos.endLine == cpos.line) = true := by rfl) (hs : starEach [b] X.env = (false, eval b X.env) :: starEach [] X.env := by rfl) (hplain : (backTo cpos (starEach [] X.env)).any (·.1) = false := by rfl) :
    J X W (bM1 g fa fb) (.Call (.Attribute a name apos) [b] [] cpos) := ⟨PE.imp (pe_bm PySem.F.plainAttrs_list slot ty rule ha.pe (pa_cons hb.pe pa_nil hs) hbase hfew hline hs hplain) fun σ H Q ⟨F, γ, r0, o⟩ => by
  refine ⟨F, γ, r0, ?_⟩
  unfold bM1 at o
  cases e1 : fa γ with
  | ok dx =>
    simp only [e1, R.bind] at o
    intro x F1 H1 n1 p1
    cases dx with
    | lst xs =>
      simp only at o
      obtain ⟨l, vs, rfl, s1, _⟩ := p1.lst n1.emb
      refine ⟨.inl ⟨rfl, _, s1⟩, F1, γ, r0.next n1, ?_⟩
      cases e2 : fb γ with
      | ok dy =>
        simp only [e2] at o
        cases e3 : g (.lst xs) dy with
        | ok d =>
          rw [e3] at o
          exact fun y F2 H2 n2 p2 => hr F2 H2 _ dy d _ y Q n2.emb (p1.next n2) p2 e3 (PV.next (Q := Q) o (n1.trans n2))
        | ex c => exact absurd e3 (ne _ _ _)
        | no => rw [e3] at o; exact o.elim
      | ex c => simp only [e2] at o; exact fun F2 H2 n2 => o F2 H2 (n1.trans n2)
      | no => simp only [e2] at o; exact o.elim
    | _ => exact o.elim
  | ex c => simp only [e1, R.bind] at o; exact o
  | no => simp only [e1, R.bind] at o; exact o⟩
end
end KN
namespace KN
open PySem PySem.Spec PyProof.Rows L2
theorem j_countB {X : Cx} {W : WN} {fa fb : Ga → R D} {a b : Expr} {apos cpos : Pos} (ha : JR X W fa a) (hb : JR X W fb b)
    (hbase : attributeBase a "count" X.env (eval a X.env) = eval a X.env := by rfl)
    (hfew : ((backTo cpos (starEach [b] X.env)).all (fun x => !x.1) && (backToKw cpos (keywordEach [] X.env)).all (fun x => x.1.isSome) && decide ([b].length + ([] : List Keyword).length + (if ([] : List Keyword).isEmpty then 0 else 1) < 30)) = true := by rfl)
    (hline : (apos.endLine == cpos.line) = true := by rfl) (hs : starEach [b] X.env = (false, eval b X.env) :: starEach [] X.env := by rfl) (hplain : (backTo cpos (starEach [] X.env)).any (·.1) = false := by rfl) :
    J X W (bM1 dCount fa fb) (.Call (.Attribute a "count" apos) [b] [] cpos) :=
  j_meth1 (name := "count") PySem.F.slot_list_count (by rfl) mt_countB (fun F H dx dy d x y Q em p1 p2 e q => by
    cases dx <;> cases dy <;> simp only [dCount] at e <;> first | (cases e; done) | skip
    rename_i xs bb
    cases e2 : asBls xs with
    | none => rw [e2] at e; cases e
    | some bs =>
      rw [e2] at e
      cases e
      have := asBls_of e2
      subst this
      obtain ⟨l, vs, rfl, s1, r1⟩ := p1.lst em
      have := r1.bls
      subst this
      have hy : y = .bl bb := by
        rcases p2 with p2 | p2
        · cases p2; rfl
        · obtain ⟨_, _, z⟩ := p2
          exact z.elim
      subst hy
      exact ⟨l, bs, bb, rfl, rfl, s1, PV.here (Q := Q) q em (.int _)⟩) dCount_ne ha hb hbase hfew hline hs hplain
theorem j_indexB {X : Cx} {W : WN} {fa fb : Ga → R D} {a b : Expr} {apos cpos : Pos} (ha : JR X W fa a) (hb : JR X W fb b)
    (hbase : attributeBase a "index" X.env (eval a X.env) = eval a X.env := by rfl)
    (hfew : ((backTo cpos (starEach [b] X.env)).all (fun x => !x.1) && (backToKw cpos (keywordEach [] X.env)).all (fun x => x.1.isSome) && decide ([b].length + ([] : List Keyword).length + (if ([] : List Keyword).isEmpty then 0 else 1) < 30)) = true := by rfl)
    (hline : (apos.endLine == cpos.line) = true := by rfl) (hs : starEach [b] X.env = (false, eval b X.env) :: starEach [] X.env := by rfl) (hplain : (backTo cpos (starEach [] X.env)).any (·.1) = false := by rfl) :
    J X W (bM1 dIndex fa fb) (.Call (.Attribute a "index" apos) [b] [] cpos) :=
  j_meth1 (name := "index") PySem.F.slot_list_index (by rfl) mt_index (fun F H dx dy d x y Q em p1 p2 e q => by
    cases dx <;> cases dy <;> simp only [dIndex] at e <;> first | (cases e; done) | skip
    rename_i xs bb
    cases e2 : asBls xs with
    | none => rw [e2] at e; cases e
    | some bs =>
      rw [e2] at e
      simp only [o2r, R.bind] at e
      split at e
      · rename_i hin
        cases e
        have := asBls_of e2
        subst this
        obtain ⟨l, vs, rfl, s1, r1⟩ := p1.lst em
        have := r1.bls
        subst this
        have hy : y = .bl bb := by
          rcases p2 with p2 | p2
          · cases p2; rfl
          · obtain ⟨_, _, z⟩ := p2
            exact z.elim
        subst hy
        have lt : bs.idxOf bb < bs.length := List.idxOf_lt_length_iff.mpr hin
        refine ⟨l, _, .bl bb, bs.idxOf bb, .bl bb, rfl, rfl, s1, rfl, flat_bls bs, ?_, ?_, ?_, PV.here (Q := Q) q em (.int _)⟩
        · rw [List.getElem?_map, List.getElem?_eq_getElem lt, List.getElem_idxOf]; rfl
        · rw [eqV_bl]; simp
        · intro m z' hm hz
          rw [List.getElem?_map] at hz
          obtain ⟨c, hc, rfl⟩ := Option.map_eq_some_iff.mp hz
          rw [eqV_bl]
          have hml : m < bs.length := by omega
          rw [List.getElem?_eq_getElem hml] at hc
          cases hc
          have := List.not_of_lt_findIdx (p := (· == bb)) (xs := bs) (i := m) (by simpa [List.idxOf] using hm)
          simpa using this
      · cases e) dIndex_ne ha hb hbase hfew hline hs hplain
/-! ### try: .. except X as n: return f(n) -/
def fTryR (fb : Ga → R Fl) (h : Nat → R D) : Ga → R Fl := fun γ => match fb γ with
  | .ex c => (match h c with | .ok d => .ok (.rt d) | _ => .no)
  | r => r
def wnL (X : Cx) (cl : Cl) (W : WX) : WN := fun c σ H => σ.length = X.N.length → W (cl c) none σ H
theorem takesL {X : Cx} {cl : Cl} {W : WX} (t : Takes X W) : Takes X (VW cl (wnL X cl W)) := fun u s' ⟨a, B, sI, pins, σ, H, cls, d, e, I, nb, up, sky, na, os, ag, c, e1, e2, w⟩ =>
  t u s' ⟨a, B, sI, pins, σ, H, cls, d, e, I, nb, up, sky, na, os, ag, by subst e1 e2; exact w I.len⟩
/-- what the suite wishes -/
def tsR (K : PySem.W.Frag) (cl : Cl) (h : Nat → R D) (i : Nat) : Addr → Value → Option Addr → TS := fun a cls d D' σ H => σ[i]? = some (some (.ref a)) ∧ ∃ c dd F, cls = cl c ∧ d = none ∧ h c = .ok dd ∧ Emb F H ∧ PV K F H dd D'.rt
theorem js_tryR {X : Cx} {W : WN} {cl : Cl} {k i : Nat} {f C : Addr} {fd : FuncData} {y fn x n : Str} {h : Nat → R D} {fb : Ga → R Fl} {body : List Stmt} {np q q2 cpos rpos pos' pos : Pos}
    (Fe : FnE X.prog X.w X.K X.mg X.base (L2.CX X.prog X.w) k f fd [y] (spE cl X.K h)) (hr : L2H.RoomH k X.A) (hm : X.mg fn = some (.ref f)) (hk : PySem.W.keepIn X.K (.ref f) = true) (hb : Binds X.K fd [y] [])
    (hx : ∀ c d, h c = .ok d → PySem.W.exmOne X.K (cl c) (.ref C) = some true) (hmx : X.mg x = some (.ref C))
    (hbody : ∀ (pn : List (Addr × Obj)) (xe : Value → Shared → Prop) (Wn : WN), Takes (X.tr pn xe) (VW cl Wn) → PassesOwn (model X.prog X.w) X.A X.env xe → JSs (X.tr pn xe) Wn fb body)
    (hs : X.stack = X.env :: X.outer := by rfl) (hf : X.env.frame = some X.env.locals := by rfl) (hN : X.N.Nodup := by decide) (hi : X.N[i]? = some n := by rfl) (hln : X.env.kindOf n = some .local := by rfl)
    (hg : Gl X fn := by rfl) (hgx : Gl X x := by rfl) (hdb : (fn == ("__debug__" : Str)) = false := by decide) (hdx : (x == ("__debug__" : Str)) = false := by decide) (hdn : (n == ("__debug__" : Str)) = false := by decide) (hcn : (n == ("__classdict__" : Str)) = false := by decide)
    (he : starEach [.Name n q2] X.env = (false, eval (.Name n q2) X.env) :: starEach [] X.env := by rfl) (hpl : (backTo cpos (starEach [] X.env)).any (·.1) = false := by rfl) :
    JS X W (fTryR fb h) (.Try body [.ExceptHandler (some (.Name x np)) (some n) [.Return (some (.Call (.Name fn q) [.Name n q2] [] cpos)) rpos] pos'] [] [] pos) := by
  refine ⟨PS.imp (ps_try_as (Wout := fun _ _ _ _ => False) (tb := fun W => rdS X.K (wnL X cl W) fb) (ts := tsR X.K cl h i) hs hf hN hi hln ⟨hgx, hdx, .inl hmx⟩ takes0 (fun W pn xe tk hp => (hbody pn xe _ (takesL tk) hp).pss) fun a oe cls d pn hz hfd =>
    PSs.imp (pss_one (ps_ret (pe_callE (X := X.suite a ((a, oe) :: pn)) (E := fun _ _ _ _ => False) (p := (a, oe)) Fe ⟨hr.dp, hr.un⟩ List.mem_cons_self hg hm hk hb (fun σ => passAt (W := fun _ _ _ _ => False) takes0 σ) (pa_cons (pe_var hi (.inl hln) hdn hcn) pa_nil he) hdb he hpl))) ?_) fun E σ H ⟨B, F, γ, r, o⟩ => ?_⟩
  · rintro E σ H ⟨h1, c, dd, F, rfl, rfl, h2, em, p⟩
    exact ⟨_, h1, rfl, c, dd, F, hz, hfd, h2, em, p⟩
  · refine ⟨B, F, γ, r, ?_⟩
    unfold fTryR at o
    cases e : fb γ with
    | ok fl => rw [e] at o; cases fl <;> exact o
    | no => rw [e] at o; exact o.elim
    | ex c =>
      simp only [e] at o
      intro σ' F' H' fi hl
      cases e2 : h c with
      | ex c' => simp only [e2] at o; exact o.elim
      | no => simp only [e2] at o; exact o.elim
      | ok dd =>
        simp only [e2] at o
        refine ⟨true, hx c dd e2, fun _ a ha => ⟨?_, c, dd, F', rfl, rfl, e2, fi.emb, fun v F2 H2 n2 p2 => o v F2 H2 (fi.next n2) p2⟩, fun z => nomatch z⟩
        rw [List.getElem?_set_self]
        rw [hl]
        exact (List.getElem?_eq_some_iff.mp hi).1
end KN
namespace KN
open PySem PySem.Spec PyProof.Rows L2
/-! ### the program's errors -/
structure ErrOne (K : PySem.W.Frag) (x : Str) (C L : Addr) : Prop where
  n : PySem.W.nsIn K mainGlobals x = some (some (.ref C))
  q : PySem.W.excIn K C [.type "ValueError", .type "Exception", .type "BaseException", .type "object"] "ValueError.__new__" = true
  k : PySem.W.keepIn K (.ref C) = true
  b : PySem.W.subIn K (.ref C) (.type "BaseException") = some true
  v : PySem.W.subIn K (.ref C) (.type "ValueError") = some true
  l : PySem.W.subIn K (.ref C) (.ref L) = some true
  t : PySem.W.typeIn K (.ref C) = some (.type "type")
  hg : PySem.W.findIn K (.ref C) "__getattribute__" = some (some (.builtin "BaseException.__getattribute__"))
  hk : PySem.W.findIn K (.ref C) "__getattr__" = some none
  hd : PySem.W.hasDictIn K C = true
  ha : PySem.W.findIn K (.ref C) "__class__" = some (some (.builtin "object.__class__"))
  hn : PySem.W.specialIn K (.builtin "object.__class__") "__get__" = some (some (.builtin "getset_descriptor.__get__"))
  ht : PySem.W.takesIn K (.builtin "object.__class__") = some true
  hm : PySem.W.mroIn K C (.type "object") = some true
structure ErrL (K : PySem.W.Frag) (L : Addr) : Prop where
  n : PySem.W.nsIn K mainGlobals "LikeError" = some (some (.ref L))
  b : PySem.W.subIn K (.ref L) (.type "BaseException") = some true
  t : PySem.W.typeIn K (.ref L) = some (.type "type")
  hd : PySem.W.hasDictIn K L = true
def errName : Nat → Str
  | 0 => "NoBook"
  | 1 => "NoOrder"
  | 2 => "NoName"
  | 3 => "NoWish"
  | 4 => "NoNumber"
  | 5 => "NotMade"
  | 6 => "TooShort"
  | 7 => "Nothing"
  | 8 => "NoText"
  | _ => "LikeError"
theorem ErrOne.x {K : PySem.W.Frag} {x : Str} {C L : Addr} {h : Heap} {mg : Str → Option Value} (E : ErrOne K x C L) (X : K.In h) (G : h.Ns mainGlobals mg) : ExR K mg x C := ⟨PySem.W.mg_of X G E.n, E.q, E.k, E.b, E.t⟩
theorem ErrOne.c {K : PySem.W.Frag} {x : Str} {C L : Addr} (E : ErrOne K x C L) : ExcC K C := ⟨E.hg, E.hk, E.b, E.hd, E.ha, E.hn, E.ht, E.hm⟩
theorem isSome_cls {K : PySem.W.Frag} {C : Addr} (h : PySem.W.hasDictIn K C = true) : (PySem.W.clsIn K C).isSome = true := by
  obtain ⟨cd, hc, _⟩ := PySem.W.any_some h
  rw [hc]; rfl
theorem kit_cls {K : PySem.W.Frag} {C D : Addr} {b : Bool} (hd : PySem.W.hasDictIn K D = true) (ht : PySem.W.typeIn K (.ref D) = some (.type "type")) (s : PySem.W.subIn K (.ref C) (.ref D) = some b) (s2 : PySem.W.subIn K (.ref D) (.ref D) = some true) :
    PySem.W.kitOne K (.ref C) (.ref D) = some b := by
  unfold PySem.W.kitOne
  split
  · rename_i h
    have e : C = D := Value.ref.inj (beq_iff_eq.mp h)
    subst e
    rw [s2] at s
    exact s
  · unfold PySem.W.kitCls
    have e2 : ((PySem.W.clsIn K D).isSome && PySem.W.typeIn K (.ref D) == some (.type "type")) = true := by rw [isSome_cls hd, ht]; rfl
    simp only [e2, if_true]
    exact s
theorem kit_val {K : PySem.W.Frag} {C : Addr} (s : PySem.W.subIn K (.ref C) (.type "ValueError") = some true) : PySem.W.kitOne K (.ref C) (.type "ValueError") = some true := by
  unfold PySem.W.kitOne
  split
  · rfl
  · unfold PySem.W.kitCls
    have e2 : PySem.W.kitMeta "ValueError" = true := by decide
    simp only [e2, if_true]
    exact s
structure Errs (hs : List Nat) (K : PySem.W.Frag) (mg : Str → Option Value) where
  e : Nat → Addr
  L : Addr
  g : mg "LikeError" = some (.ref L)
  x : ∀ c, c ∈ hs → ExR K mg (errName c) (e c)
  c : ∀ c, c ∈ hs → ExcC K (e c)
  kit : ∀ c i, c ∈ hs → i ∈ hs → PySem.W.kitOne K (.ref (e c)) (.ref (e i)) = some (decide (c = i))
  val : ∀ c, c ∈ hs → PySem.W.kitOne K (.ref (e c)) (.type "ValueError") = some true
  exm : ∀ c, c ∈ hs → PySem.W.exmOne K (.ref (e c)) (.ref L) = some true
  exo : ∀ c i, c ∈ hs → i ∈ hs → PySem.W.exmOne K (.ref (e c)) (.ref (e i)) = some (decide (c = i))
/-- the classes by their numbers -/
def clE {hs : List Nat} {K : PySem.W.Frag} {mg : Str → Option Value} (T : Errs hs K mg) : Cl := fun c => .ref (T.e c)
def hRef (hs fl : List Nat) (c : Nat) : R D := if c ∈ hs then .ok (.tup [.str [114, 101, 102, 117, 115, 101, 100], .int (if c ∈ fl then (fl.idxOf c : Nat) else -1)]) else .no
theorem hRef_lt {hs fl : List Nat} {c : Nat} {d : D} (h : hRef hs fl c = .ok d) : c ∈ hs := by
  unfold hRef at h
  split at h
  · assumption
  · cases h
/-- what is promised of a law: it tells, and raises nothing -/
def spOk (K : PySem.W.Frag) (n : Nat) (g : List D → R D) : Sp := fun vs H Q E => ∃ F ds d, vs.length = n ∧ Emb F H ∧ Reps K F ds vs ∧ g ds = .ok d ∧ PV K F H d Q
theorem spOk_D {K : PySem.W.Frag} {cl : Cl} {n : Nat} {g : List D → R D} : ∀ vs H Q E, spOk K n g vs H Q E → spD K cl n g vs H Q E := fun vs H Q E ⟨F, ds, d, a, b, c, e, q⟩ => ⟨F, ds, a, b, c, by rw [e]; exact q⟩
theorem law_endX {K : PySem.W.Frag} {H : Hp} {a : Addr} {ns : List Int} {n : Nat} {g : List D → R D} (h : ∀ ns : List Int, ns.length ≤ n → g [.lst (ns.map .int)] = .ok (.bl true)) (hl : ns.length ≤ n) (hS : SqL K H a (ns.map V.int)) :
    spOk K 1 g [.ref a] H (fun v _ => v = .bl true) fun _ _ _ => False := by
  have gen : ∀ F : Hp, Emb F H → SqL K F a (ns.map V.int) → spOk K 1 g [.ref a] H (fun v _ => v = .bl true) fun _ _ _ => False := fun F e s => by
    refine ⟨F, [.lst (ns.map .int)], _, rfl, e, .cons (.lst s (reps_ints ns)) .nil, h ns hl, ?_⟩
    intro v F' H' _ r
    cases r; rfl
  rcases hS with (h1 | ⟨o, h1⟩) | h1
  · exact gen (upd (fun _ => none) a (.lst (ns.map V.int))) (fun b o z => by
      by_cases q : b = a
      · subst q; rw [upd_same] at z; cases z; exact .inl h1
      · rw [upd_ne q] at z; cases z) (.inl (.inl upd_same))
  · exact gen (upd (fun _ => none) a (.frz o (.lst (ns.map V.int)))) (fun b o z => by
      by_cases q : b = a
      · subst q; rw [upd_same] at z; cases z; exact .inl h1
      · rw [upd_ne q] at z; cases z) (.inl (.inr ⟨o, upd_same⟩))
  · exact gen _ Emb.none (.inr h1)
theorem bE_here {a : Addr} {b : Bool} {r : Ga} : bE 0 a b (.xc a :: r) = .ok (.bl b) := by simp [bE]
theorem hvR {hs fl : List Nat} {m : Addr → Nat → Ga → R Fl} (h : ∀ a c, c ∈ hs → m a c (startE 2 a) = .ok (.rt (.tup [.str [114, 101, 102, 117, 115, 101, 100], .int (if c ∈ fl then (fl.idxOf c : Nat) else -1)]))) : ∀ a c d, hRef hs fl c = .ok d → m a c (startE 2 a) = .ok (.rt d) := fun a c d e => by
  have q := hRef_lt e
  rw [h a c q]
  unfold hRef at e
  rw [if_pos q] at e
  cases e
  rfl
theorem hu_of_H {A : Around} {k : Nat} (r : L2H.RoomH k A) : A.units + 64 < cLine ∧ A.units + 65 < cLine ∧ A.units + 1 < cLine := ⟨by have := r.un; omega, by have := r.un; omega, by have := r.un; omega⟩
end KN
/-! KnU: a text or a tuple times a number -/
/-! KnV: sorted(d.items()) -/
namespace KN
open PySem PySem.Spec PyProof.Rows L2
open PyProof.Rows.G (tupKeyC tupKindC isTupObj)
abbrev itK (e : Tx × Int) : List Ik := [.inr e.1, .inl e.2]
def shI (i : Nat) : Bool := i == 0
def TI (h : Heap) (Z : Addr → List V → Prop) (k : List Ik) (u : Value) : Prop := ∃ (a : Addr) (e : Tx × Int) (x y : Value), u = .ref a ∧ Z a [.str (toS e.1), .int e.2] ∧ k = itK e ∧ RelV (.str (toS e.1)) x ∧ RelV (.int e.2) y ∧ h.get? a = some { cls := .type "tuple", data := .seq #[x, y] }
theorem TI.key {h : Heap} {Z : Addr → List V → Prop} {k : List Ik} {u : Value} (t : TI h Z k u) : tupKeyC h shI u = some k := by
  obtain ⟨a, e, x, y, rfl, _, rfl, r1, r2, hg⟩ := t
  unfold tupKeyC
  have e1 : isTupObj h (.ref a) = true := by simp [isTupObj, hg]
  rw [if_pos e1]
  simp only [tupKey, hg]
  refine items_of (itK e) 0 _ (by
    show Vals [V.str (toS e.1), V.int e.2] [x, y]
    exact .cons r1 (.cons r2 .nil)) fun j z hz => ?_
  cases j with
  | zero => cases hz; rfl
  | succ j =>
    cases j with
    | zero => cases hz; rfl
    | succ j => simp [itK] at hz
theorem TI.tup {h : Heap} {Z : Addr → List V → Prop} {k : List Ik} {u : Value} (t : TI h Z k u) : ∃ f, TupOf h shI u f := by
  obtain ⟨a, e, x, y, rfl, _, rfl, r1, r2, hg⟩ := t
  refine ⟨x, a, _, _, _, rfl, hg, rfl, rfl, rfl, (fun z => nomatch z), fun _ => ?_⟩
  obtain ⟨tk, rfl⟩ := r1
  exact ⟨_, _, rfl⟩
theorem TI.keep {h h' : Heap} {Z : Addr → List V → Prop} {k : List Ik} {u : Value} (t : TI h Z k u) (q : ∀ b o, h.get? b = some o → h'.get? b = some o) : TI h' Z k u := by
  obtain ⟨a, e, x, y, e1, e2, e3, r1, r2, hg⟩ := t
  exact ⟨a, e, x, y, e1, e2, e3, r1, r2, q _ _ hg⟩
end KN
/-! KnW: [f, g, ..][i](..) -/
/-! KnY: sorted lists of pairs of an int and a list of ints -/
/-! KnO: calls without arguments -/
namespace KN
open PySem PySem.Spec PyProof.Rows L2
/-! ### numbers as texts -/
def dStrI : List D → R D
  | [.int (.ofNat n)] => if n.log2 < 1900 then .ok (.str (TL.numL n)) else .no
  | _ => .no
/-! ### split, partition, index -/
/-! ### isinstance with a tuple of types -/
/-! ### zip of two lists or of two tuples -/
theorem goes_zipT {K : PySem.W.Frag} {F : Hp} {a b : Addr} {ds es : List D} {vs us : List V} (h : SqT K F a vs) (r : Reps K F ds vs) (h2 : SqT K F b us) (r2 : Reps K F es us) : Goes K (RZ.ItzT K a b) F [] (zipD ds es) := fun F' H' i f e _ => by
  have q := e.sqt (same_sqt f h)
  have q2 := e.sqt (same_sqt f h2)
  refine ⟨fun hi => ⟨vs, us, q, q2, by rw [← r.length, ← r2.length]; simp [zipD, List.length_zip] at hi; omega⟩, fun d hd => ?_⟩
  simp only [zipD, List.getElem?_map, Option.map_eq_some_iff, List.getElem?_zip_eq_some] at hd
  obtain ⟨p, ⟨h3, h4⟩, rfl⟩ := hd
  obtain ⟨v, hv, p1⟩ := r.get h3
  obtain ⟨u, hu, p2⟩ := r2.get h4
  refine ⟨⟨vs, us, v, u, q, q2, hv, hu⟩, fun x H'' ⟨T, y, z, e1, nT, e2, e3, e4⟩ => ?_⟩
  subst e1 e2
  have : v = y := Option.some.inj (hv.symm.trans (e3 vs q))
  subst this
  have : u = z := Option.some.inj (hu.symm.trans (e4 us q2))
  subst this
  have s := same_upd (F := F') (o := .tup [v, u]) (e.free nT)
  exact ⟨_, .new e nT _, .tup (.inl (.inl upd_same)) (.cons ((p1.mono f).mono s) (.cons ((p2.mono f).mono s) .nil))⟩
def zipA : D → D → R (List D)
  | .lst xs, .lst ys => .ok (zipD xs ys)
  | .tup xs, .tup ys => .ok (zipD xs ys)
  | _, _ => .no
def iZpA (fa fb : Ga → R D) : Ga → R (List D) := fun γ => (fa γ).bind fun d => (fb γ).bind fun d' => zipA d d'
section
variable {X : Cx} {W : WN} {fa fb : Ga → R D} {a b : Expr} {p pos tpos : Pos}
theorem ji_zpA {elts : List Expr} {kk : Nat} (hm : X.mg "zip" = none) (ha : J X W fa a) (hb : J X W fb b) (hg : Gl X "zip" := by rfl) (hs : starEach [a, b] X.env = (false, eval a X.env) :: starEach [b] X.env := by rfl) (hpl : (backTo pos (starEach [b] X.env)).any (·.1) = false := by rfl)
    (hs4 : starEach [b] X.env = (false, eval b X.env) :: starEach [] X.env := by rfl) : JI X W (iZpA fa fb) (.Tuple elts kk tpos) (.Call (.Name "zip" p) [a, b] [] pos) :=
  ⟨PI.imp (RZ.pi_zipA hg hm (pa_cons ha.pe (pa_cons hb.pe pa_nil hs4) hs) hs hpl) fun σ H Rr ⟨F, γ, r, o⟩ => by
    refine ⟨F, γ, r, ?_⟩
    unfold iZpA at o
    cases e1 : fa γ with
    | ok d =>
      simp only [e1, R.bind] at o
      intro v F1 H1 n1 p1
      refine ⟨F1, γ, r.next n1, ?_⟩
      cases e2 : fb γ with
      | ok d' =>
        simp only [e2] at o
        intro u F2 H2 n2 p2
        cases d <;> cases d' <;> simp only [zipA] at o
        · cases p1 with
          | lst h1 h2 =>
            cases p2 with
            | lst h3 h4 => exact ⟨_, _, _, _, rfl, .inl ⟨n2.emb.sql (n2.f.seq h1), n2.emb.sql h3, o _ F2 H2 (n1.trans n2) (goes_zip (n2.f.seq h1) (h2.mono n2.f) h3 h4)⟩⟩
        · cases p1 with
          | tup h1 h2 =>
            cases p2 with
            | tup h3 h4 => exact ⟨_, _, _, _, rfl, .inr ⟨n2.emb.sqt (same_sqt n2.f h1), n2.emb.sqt h3, o _ F2 H2 (n1.trans n2) (goes_zipT (same_sqt n2.f h1) (h2.mono n2.f) h3 h4)⟩⟩
      | ex c => simp only [e2] at o; exact fun F' H' m => o F' H' (n1.trans m)
      | no => simp only [e2] at o
    | ex c => simp only [e1, R.bind] at o; exact o
    | no => simp only [e1, R.bind] at o⟩
end
/-! ### try .. except X: return None -/
/-! ### xs.count(t), of texts -/
end KN
set_option maxHeartbeats 1000000
/-! KnQ: chains of three comparisons, as tests -/
namespace KN
open PySem PySem.Spec PyProof.Rows L2
def tCh3 (r r' r'' : R2) (ta tb tc td : TE) : TE := fun σ H Q => ta σ H fun x H1 => tb σ H1 fun y H2 => r x y H2 fun z H3 => ∃ k, z = .bl k ∧
  (if k = true then tc σ H3 fun w' H4 => r' y w' H4 fun z' H5 => ∃ k', z' = .bl k' ∧ (if k' = true then td σ H5 fun v H6 => r'' w' v H6 Q else Q (.bl false) H5) else Q (.bl false) H3)
section
variable {X : Cx} {ta tb tc td : TE} {a b c d : Expr} {pos : Pos}
theorem pt_chain3 {op op' op'' : CmpOp} {r r' r'' : R2} (ho : OpR X (compareOp op) r) (ho' : OpR X (compareOp op') r') (ho'' : OpR X (compareOp op'') r'') (ha : PE X a ta) (hb : PE X b tb) (hc : PE X c tc) (hd : PE X d td)
    (hm : lastMarks [op, op', op''] [b, c, d] = false := by with_unfolding_all rfl) : PT X (.Compare a [op, op', op''] [b, c, d] pos) (tTest (tCh3 r r' r'' ta tb tc td)) := by
  refine ⟨fun pins s σ H Q I h => ?_⟩
  refine isTrue_chain (thn (ha.run pins s σ H _ I h) fun v s1 ⟨x, H1, I1, r1, q1⟩ => test_link (thn (hb.run pins s1 σ H1 _ I1 q1) fun u s2 ⟨y, H2, I2, r2, q2⟩ =>
    thn (ho pins s2 σ H2 x y v u _ I2 r1 r2 q2) fun d s3 ⟨z, H3, I3, r3, k, e, q3⟩ => ?_)) hm
  subst e
  cases r3
  refine wpAny_truthy_bool ?_
  cases k with
  | false =>
    obtain ⟨k', e', q'⟩ := q3
    cases e'
    exact ite_ff ⟨H3, I3, q'⟩
  | true =>
    refine ite_tt (test_link (thn (hc.run pins s3 σ H3 _ I3 q3) fun w' s4 ⟨z', H4, I4, r4, q4⟩ => thn (ho' pins s4 σ H4 y z' u w' _ I4 r2 r4 q4) fun d' s5 ⟨z2, H5, I5, r5, k2, e2, q5⟩ => ?_))
    subst e2
    cases r5
    refine wpAny_truthy_bool ?_
    cases k2 with
    | false =>
      obtain ⟨k', e', q'⟩ := q5
      cases e'
      exact ite_ff ⟨H5, I5, q'⟩
    | true =>
      refine ite_tt (test_last (thn (hd.run pins s5 σ H5 _ I5 q5) fun w2 s6 ⟨z6, H6, I6, r6, q6⟩ => thn (ho'' pins s6 σ H6 z' z6 w' w2 _ I6 r4 r6 q6) fun d7 s7 ⟨z7, H7, I7, r7, k7, e7, q7⟩ => ?_))
      subst e7
      cases r7
      exact wpAny_truthy_bool ⟨H7, I7, q7⟩
end
/-! ### the meaning -/
def bLk (g' g'' : D → D → R D) (y : D) (fc fd : Ga → R D) : Ga → R D := fun γ => (fc γ).bind fun w => (g' y w).bind fun z => match z with
  | .bl true => (fd γ).bind fun v => g'' w v
  | .bl false => .ok (.bl false)
  | _ => .no
def bCh3 (g g' g'' : D → D → R D) (fa fb fc fd : Ga → R D) : Ga → R D := fun γ => (fa γ).bind fun x => (fb γ).bind fun y => (g x y).bind fun z => match z with
  | .bl true => bLk g' g'' y fc fd γ
  | .bl false => .ok (.bl false)
  | _ => .no
section
variable {X : Cx} {W : WN} {fa fb fc fd : Ga → R D} {a b c d : Expr} {pos : Pos}
theorem tCh3_of {g g' g'' : D → D → R D} {K : PySem.W.Frag} {F H : Hp} {γ : Ga} {σ : L2.St} {Q : VK} (ne : ∀ x y c, g x y ≠ .ex c) (ne' : ∀ x y c, g' x y ≠ .ex c) (ne'' : ∀ x y c, g'' x y ≠ .ex c) (r : RS K F γ σ H)
    (o : Out (PV K F H) F H (fun c H' => W c σ H') (bCh3 g g' g'' fa fb fc fd γ) Q) :
    tCh3 (RD2 K g) (RD2 K g') (RD2 K g'') (rdR K W fa) (rdR K W fb) (rdR K W fc) (rdR K W fd) σ H Q := by
  refine go1 (Z := fun z => Out (PV K F H) F H (fun c H' => W c σ H') z Q) r o (fun _ z => z) (fun z => z) fun dx x F1 H1 n1 r1 p1 o1 => ?_
  refine go1 (Z := fun z => Out (PV K F H) F H (fun c H' => W c σ H') z Q) r1 o1 (fun _ z F' H' n => z F' H' (n1.trans n)) (fun z => z) fun dy y F2 H2 n2 r2 p2 o2 => ?_
  have p1' := p1.next n2
  have n12 := n1.trans n2
  cases e : g dx dy with
  | ok d =>
    rw [e] at o2
    simp only [R.bind] at o2
    cases d <;> first | exact o2.elim | skip
    rename_i k
    refine ⟨F2, dx, dy, _, r2.emb, p1', p2, e, fun v F' H' n p => ?_⟩
    cases p
    refine ⟨k, rfl, ?_⟩
    cases k with
    | true =>
      have n13 := n12.trans n
      have o2 : Out (PV K F H) F H (fun c H' => W c σ H') (bLk g' g'' dy fc fd γ) Q := o2
      refine go1 (Z := fun z => Out (PV K F H) F H (fun c H' => W c σ H') z Q) (r2.next n) o2 (fun _ z F'' H'' m => z F'' H'' (n13.trans m)) (fun z => z) fun dw w F3 H3 n3 r3 p3 o3 => ?_
      have n14 := n13.trans n3
      cases e3 : g' dy dw with
      | ok d =>
        rw [e3] at o3
        simp only [R.bind] at o3
        cases d <;> first | exact o3.elim | skip
        rename_i k3
        refine ⟨F3, dy, dw, _, r3.emb, (p2.next n).next n3, p3, e3, fun v F' H' m p => ?_⟩
        cases p
        refine ⟨k3, rfl, ?_⟩
        cases k3 with
        | true =>
          have n15 := n14.trans m
          refine go1 (Z := fun z => Out (PV K F H) F H (fun c H' => W c σ H') z Q) (r3.next m) o3 (fun _ z F'' H'' mm => z F'' H'' (n15.trans mm)) (fun z => z) fun du u F5 H5 n5 r5 p5 o5 => ?_
          cases e5 : g'' dw du with
          | ok d => rw [e5] at o5; exact ⟨F5, dw, du, d, r5.emb, (p3.next m).next n5, p5, e5, PV.next (Q := Q) o5 (n15.trans n5)⟩
          | ex c => exact absurd e5 (ne'' _ _ _)
          | no => rw [e5] at o5; exact o5.elim
        | false => exact PV.here (PV.next (Q := Q) o3 (n14.trans m)) m.emb (.bl _)
      | ex c => exact absurd e3 (ne' _ _ _)
      | no => rw [e3] at o3; exact o3.elim
    | false => exact PV.here (PV.next (Q := Q) o2 (n12.trans n)) n.emb (.bl _)
  | ex c => exact absurd e (ne _ _ _)
  | no => rw [e] at o2; exact o2.elim
theorem jt_chain3 {op op' op'' : CmpOp} {g g' g'' : D → D → R D} (ho : OpD X (compareOp op) g) (ho' : OpD X (compareOp op') g') (ho'' : OpD X (compareOp op'') g'') (ha : JR X W fa a) (hb : JR X W fb b) (hc : JR X W fc c) (hd : JR X W fd d)
    (h1 : lastMarks [op, op', op''] [b, c, d] = false := by with_unfolding_all rfl) : JT X W (tVal (bCh3 g g' g'' fa fb fc fd)) (.Compare a [op, op', op''] [b, c, d] pos) :=
  ⟨PT.imp (pt_chain3 ho.run ho'.run ho''.run ha.pe hb.pe hc.pe hd.pe h1) fun σ H Q ⟨F, γ, r, o⟩ => by
    refine tCh3_of (Q := fun x H' => ∃ k, x = .bl k ∧ Q k H') ho.ne ho'.ne ho''.ne r ?_
    unfold tVal at o
    cases e : bCh3 g g' g'' fa fb fc fd γ with
    | ok d =>
      rw [e] at o
      cases d <;> first | exact o.elim | skip
      intro v F' H' n p
      cases p
      exact ⟨_, rfl, o F' H' n⟩
    | ex c => rw [e] at o; exact o
    | no => rw [e] at o; exact o⟩
end
end KN
/-! KnM: the meanings of the defs that stand in more than one law (printed by wip/shared.py) -/
namespace KN
open PySem PySem.Spec PyProof.Rows L2
noncomputable section
def m_is_number : Ga → R Fl := fRet (bAnd (b1 (dIsi .int) (bVar 0)) (bAnd (b1 dNot (b1 (dIsi .bool) (bVar 0))) (bCh dLe dLe (bVar 1) (bVar 0) (bVar 2))))
def g_is_number : List D → R D := fnD 3 m_is_number
def m_is_name : Ga → R Fl := fRet (bAnd (b1 (dIsi .str) (bVar 0)) (bAnd (bCh dLe dLe (bC (.int 1)) (bN dLen (bCons (bVar 0) (bNil))) (bC (.int 8))) (bN dAll (bCons (bLcE (bVar 0) [1] (bdN 1) yes (b2 dIn (bVar 1) (bC (.str [97, 98, 99, 100, 101, 102, 103, 104, 105, 106, 107, 108, 109, 110, 111, 112, 113, 114, 115, 116, 117, 118, 119, 120, 121, 122])))) (bNil)))))
def g_is_name : List D → R D := fnD 2 m_is_name
def m_is_book : Ga → R Fl := fRet (bAnd (b1 (dIsi .tup) (bVar 0)) (bAnd (bCh dLe dLe (bC (.int 1)) (bN dLen (bCons (bVar 0) (bNil))) (bC (.int 8))) (bN dAll (bCons (bLcE (bVar 0) [1] (bdN 1) yes (bCall g_is_name (bCons (bVar 1) (bNil)))) (bNil)))))
def g_is_book : List D → R D := fnD 2 m_is_book
def m_need_book : Ga → R Fl := fIf (tNot (tVal (bCall g_is_book (bCons (bVar 0) (bNil))))) (fRaise 0) (fNil)
def g_need_book : List D → R D := fnD 1 m_need_book
def m_need_order : Ga → R Fl := fIf (tNot (tVal (bCall g_is_number (bCons (bVar 0) (bCons (bC (.int 1)) (bCons (bC (.int 3)) (bNil))))))) (fRaise 1) (fNil)
def g_need_order : List D → R D := fnD 1 m_need_order
def m_need_name : Ga → R Fl := fIf (tNot (tVal (bCall g_is_name (bCons (bVar 0) (bNil))))) (fRaise 2) (fNil)
def g_need_name : List D → R D := fnD 1 m_need_name
def m_end_of : Ga → R Fl := fRet (bSl (bVar 1) (pSo (bN dMax (bCons (bC (.int 0)) (bCons (b2 dSub (bN dLen (bCons (bVar 1) (bNil))) (bVar 0)) (bNil))))) (pNo))
def g_end_of : List D → R D := fnD 2 m_end_of
def m_counted : Ga → R Fl := fSeq (fNd0 2) (fSeq (fForE (bVar 0) (bdN 3) (fForI (iR1 (b2 dAdd (bN dLen (bCons (bVar 3) (bNil))) (bC (.int 1)))) (bdN 4) (fSeq (fSet 5 (bCall g_end_of (bCons (bVar 1) (bCons (bSl (bVar 3) (pNo) (pSo (bVar 4))) (bNil))))) (fSeq (fSet 6 (bSl (bVar 3) (pSo (bVar 4)) (pSo (b2 dAdd (bVar 4) (bC (.int 1)))))) (fBump 2 7 5 6))))) (fFz 2 (fRet (bVar 2))))
def g_counted : List D → R D := fnD 8 m_counted
def m_listed : Ga → R Fl := fRet (bN dTuple (bCons (bLcE (bN dSort (bCons (bVar 0) (bNil))) [1] (bdN 1) yes (bTup (bCons (bVar 1) (bCons (b2 dIx (bVar 0) (bVar 1)) (bNil))))) (bNil)))
def g_listed : List D → R D := fnD 2 m_listed
def m_table : Ga → R Fl := fSeq (fExpr (bCall g_need_book (bCons (bVar 0) (bNil)))) (fSeq (fExpr (bCall g_need_order (bCons (bVar 1) (bNil)))) (fSeq (fSet 2 (bCall g_counted (bCons (bVar 0) (bCons (bVar 1) (bNil))))) (fRet (bLcE (bN dSort (bCons (bVar 2) (bNil))) [3] (bdN 3) yes (bTup (bCons (bVar 3) (bCons (bCall g_listed (bCons (b2 dIx (bVar 2) (bVar 3)) (bNil))) (bNil))))))))
def g_table : List D → R D := fnD 4 m_table
def m__law_cell : Ga → R Fl := fSeq (fIf (tVal (b2 dEq (bVar 0) (bLst (bNil)))) (fRet (b2 dMul (bC (.int 7)) (bVar 1))) (fNil)) (fRet (b2 dAdd (b2 dIx (bVar 0) (b2 dMod (bVar 1) (bN dLen (bCons (bVar 0) (bNil))))) (b2 dMul (bC (.int 6553)) (b2 dDiv (bVar 1) (bN dLen (bCons (bVar 0) (bNil)))))))
def g__law_cell : List D → R D := fnD 2 m__law_cell
def m__law_drawn : Ga → R Fl := fSeq (fSet 3 (b2 dMod (b2 dAdd (b2 dMul (b2 dMod (bCall g__law_cell (bCons (bVar 0) (bCons (bVar 1) (bNil)))) (bC (.int 2147483563))) (bC (.int 69069))) (b2 dMul (bC (.int 104723)) (b2 dAdd (bVar 1) (bC (.int 1))))) (bC (.int 2147483563)))) (fSeq (fSet 3 (b2 dMod (b2 dAdd (b2 dMul (bVar 3) (bVar 3)) (b2 dDiv (bVar 3) (bC (.int 3)))) (bC (.int 2147483399)))) (fRet (b2 dMod (b2 dDiv (b2 dMod (b2 dAdd (b2 dMul (bVar 3) (bVar 3)) (b2 dDiv (bVar 3) (bC (.int 7)))) (bC (.int 2147483647))) (bC (.int 11))) (bVar 2))))
def g__law_drawn : List D → R D := fnD 4 m__law_drawn
def m__law_name : Ga → R Fl := fSeq (fSet 3 (b2 dAdd (bC (.int 1)) (bCall g__law_drawn (bCons (bVar 0) (bCons (bVar 1) (bCons (bVar 2) (bNil))))))) (fSeq (fSet 4 (b2 dIx (bLst (bCons (bC (.str [97, 98])) (bCons (bC (.str [97, 98])) (bCons (bC (.str [97, 98, 122])) (bNil))))) (bCall g__law_drawn (bCons (bVar 0) (bCons (b2 dAdd (bVar 1) (bC (.int 9))) (bCons (bC (.int 3)) (bNil))))))) (fRet (b2s dJoin (bC (.str [])) (bLcI (iR1 (bVar 3)) [5] (bdN 5) yes (b2 dIx (bVar 4) (bCall g__law_drawn (bCons (bVar 0) (bCons (b2 dAdd (b2 dAdd (bVar 1) (bC (.int 1))) (bVar 5)) (bCons (bN dLen (bCons (bVar 4) (bNil))) (bNil))))))))))
def g__law_name : List D → R D := fnD 6 m__law_name
def m__law_book : Ga → R Fl := fSeq (fSet 4 (bTup (bNil))) (fSeq (fForI (iR1 (b2 dAdd (bC (.int 1)) (bCall g__law_drawn (bCons (bVar 0) (bCons (bVar 1) (bCons (bVar 2) (bNil))))))) (bdN 5) (fSet 4 (b2 dAdd (bVar 4) (bTup (bCons (bCall g__law_name (bCons (bVar 0) (bCons (b2 dAdd (b2 dAdd (bVar 1) (bC (.int 1))) (b2 dMul (bC (.int 10)) (bVar 5))) (bCons (bVar 3) (bNil))))) (bNil)))))) (fRet (bVar 4)))
def g__law_book : List D → R D := fnD 6 m__law_book
def m_is_end : Ga → R Fl := fRet (bAnd (b1 (dIsi .str) (bVar 0)) (bAnd (b2 dLe (bN dLen (bCons (bVar 0) (bNil))) (bC (.int 3))) (bN dAll (bCons (bLcE (bVar 0) [1] (bdN 1) yes (b2 dIn (bVar 1) (bC (.str [97, 98, 99, 100, 101, 102, 103, 104, 105, 106, 107, 108, 109, 110, 111, 112, 113, 114, 115, 116, 117, 118, 119, 120, 121, 122])))) (bNil)))))
def g_is_end : List D → R D := fnD 2 m_is_end
def m_is_wish : Ga → R Fl := fSeq (fIf (tOr (tNot (tVal (b1 (dIsi .tup) (bVar 0)))) (tOr (tVal (b2 dNe (bN dLen (bCons (bVar 0) (bNil))) (bC (.int 6)))) (tNot (tVal (bCall g_is_number (bCons (b2 dIx (bVar 0) (bC (.int 0))) (bCons (bC (.int 1)) (bCons (bC (.int 8)) (bNil))))))))) (fRet (bC (.bl false))) (fNil)) (fSeq (fIf (tOr (tNot (tVal (bCall g_is_number (bCons (b2 dIx (bVar 0) (bC (.int 1))) (bCons (b2 dIx (bVar 0) (bC (.int 0))) (bCons (bC (.int 8)) (bNil))))))) (tOr (tNot (tVal (bCall g_is_end (bCons (b2 dIx (bVar 0) (bC (.int 2))) (bNil))))) (tNot (tVal (bCall g_is_end (bCons (b2 dIx (bVar 0) (bC (.int 3))) (bNil))))))) (fRet (bC (.bl false))) (fNil)) (fSeq (fIf (tOr (tNot (tVal (b1 (dIsi .tup) (b2 dIx (bVar 0) (bC (.int 4)))))) (tOr (tVal (b2 dGt (bN dLen (bCons (b2 dIx (bVar 0) (bC (.int 4))) (bNil))) (bC (.int 6)))) (tNot (tVal (bN dAll (bCons (bLcE (b2 dIx (bVar 0) (bC (.int 4))) [1] (bdN 1) yes (bCall g_is_name (bCons (bVar 1) (bNil)))) (bNil))))))) (fRet (bC (.bl false))) (fNil)) (fRet (bAnd (bN dAll (bCons (bLcI (iZpA (b2 dIx (bVar 0) (bC (.int 4))) (bSl (b2 dIx (bVar 0) (bC (.int 4))) (pSo (bC (.int 1))) (pNo))) [1, 2] (bdT [1, 2]) yes (b2 dLt (bVar 1) (bVar 2))) (bNil))) (b1 (dIsi .bool) (b2 dIx (bVar 0) (bC (.int 5))))))))
def g_is_wish : List D → R D := fnD 3 m_is_wish
def m_need_wish : Ga → R Fl := fIf (tNot (tVal (bCall g_is_wish (bCons (bVar 0) (bNil))))) (fRaise 3) (fNil)
def g_need_wish : List D → R D := fnD 1 m_need_wish
def m_is_fit : Ga → R Fl := fSeq (fBd (bdT [3, 4, 5, 6, 7, 8]) (bVar 1)) (fSeq (fIf (tOr (tNot (tVal (bCh dLe dLe (bVar 3) (bN dLen (bCons (bVar 2) (bNil))) (bVar 4)))) (tOr (tNot (tVal (b2s dSw (bVar 2) (bVar 5)))) (tNot (tVal (b2s dEw (bVar 2) (bVar 6)))))) (fRet (bC (.bl false))) (fNil)) (fRet (bAnd (b2 dNotIn (bVar 2) (bVar 7)) (bOr (bVar 8) (b2 dNotIn (bVar 2) (bVar 0))))))
def g_is_fit : List D → R D := fnD 9 m_is_fit
def m_fits : Ga → R Fl := fSeq (fExpr (bCall g_need_book (bCons (bVar 0) (bNil)))) (fSeq (fExpr (bCall g_need_wish (bCons (bVar 1) (bNil)))) (fSeq (fExpr (bCall g_need_name (bCons (bVar 2) (bNil)))) (fRet (bCall g_is_fit (bCons (bVar 0) (bCons (bVar 1) (bCons (bVar 2) (bNil))))))))
def g_fits : List D → R D := fnD 3 m_fits
def m__law_wish : Ga → R Fl := fSeq (fSet 2 (b2 dAdd (bC (.int 1)) (bCall g__law_drawn (bCons (bVar 0) (bCons (bVar 1) (bCons (bC (.int 3)) (bNil))))))) (fSeq (fSet 3 (b2 dAdd (bVar 2) (bCall g__law_drawn (bCons (bVar 0) (bCons (b2 dAdd (bVar 1) (bC (.int 1))) (bCons (b2 dSub (bC (.int 5)) (bVar 2)) (bNil))))))) (fSeq (fSet 4 (bLst (bCons (bC (.str [])) (bCons (bC (.str [])) (bCons (bC (.str [97])) (bCons (bC (.str [98])) (bCons (bC (.str [97, 98])) (bCons (bC (.str [97, 98, 97])) (bCons (bC (.str [122])) (bNil)))))))))) (fSeq (fOwn 5 (bLst (bNil))) (fSeq (fForI (iEn (bLst (bCons (bC (.str [97])) (bCons (bC (.str [97, 97])) (bCons (bC (.str [97, 98])) (bCons (bC (.str [98])) (bCons (bC (.str [98, 97])) (bCons (bC (.str [122])) (bNil))))))))) (bdT [7, 8]) (fIf (tVal (b2 dEq (bCall g__law_drawn (bCons (bVar 0) (bCons (b2 dAdd (b2 dAdd (bVar 1) (bC (.int 4))) (bVar 7)) (bCons (bC (.int 3)) (bNil))))) (bC (.int 0)))) (fApp 5 (bVar 8)) (fNil))) (fSeq (fSet 6 (b2 dIx (bVar 4) (bCall g__law_drawn (bCons (bVar 0) (bCons (b2 dAdd (bVar 1) (bC (.int 2))) (bCons (bC (.int 7)) (bNil))))))) (fRet (bTup (bCons (bVar 2) (bCons (bVar 3) (bCons (bVar 6) (bCons (b2 dIx (bVar 4) (bCall g__law_drawn (bCons (bVar 0) (bCons (b2 dAdd (bVar 1) (bC (.int 3))) (bCons (bC (.int 7)) (bNil)))))) (bCons (bN dTuple (bCons (bRd 5) (bNil))) (bCons (b2 dEq (bCall g__law_drawn (bCons (bVar 0) (bCons (b2 dAdd (bVar 1) (bC (.int 10))) (bCons (bC (.int 2)) (bNil))))) (bC (.int 0))) (bNil))))))))))))))
def g__law_wish : List D → R D := fnD 9 m__law_wish
def m__law_fits : Ga → R Fl := fSeq (fIf (tOr (tNot (tVal (bCh dLe dLe (b2 dIx (bVar 1) (bC (.int 0))) (bN dLen (bCons (bVar 2) (bNil))) (b2 dIx (bVar 1) (bC (.int 1)))))) (tVal (b2 dNe (bSl (bVar 2) (pNo) (pSo (bN dLen (bCons (b2 dIx (bVar 1) (bC (.int 2))) (bNil))))) (b2 dIx (bVar 1) (bC (.int 2)))))) (fRet (bC (.bl false))) (fNil)) (fSeq (fIf (tOr (tVal (b2 dNe (bSl (bVar 2) (pSo (bN dMax (bCons (bC (.int 0)) (bCons (b2 dSub (bN dLen (bCons (bVar 2) (bNil))) (bN dLen (bCons (b2 dIx (bVar 1) (bC (.int 3))) (bNil)))) (bNil))))) (pNo)) (b2 dIx (bVar 1) (bC (.int 3))))) (tVal (b2 dIn (bVar 2) (b2 dIx (bVar 1) (bC (.int 4)))))) (fRet (bC (.bl false))) (fNil)) (fRet (bOr (b2 dIx (bVar 1) (bC (.int 5))) (b2 dNotIn (bVar 2) (bVar 0)))))
def g__law_fits : List D → R D := fnD 3 m__law_fits
def m_letter_text : Ga → R Fl := fRet (b2 dAdd (bIf (tVal (b2 dEq (bVar 0) (bC (.str [])))) (bC (.str [46])) (bVar 0)) (bN dStrI (bCons (bVar 1) (bNil))))
def g_letter_text : List D → R D := fnD 2 m_letter_text
end
end KN
/-! KnZ: a law's end -/
namespace KN
open PySem PySem.Spec PyProof.Rows L2
theorem cx_end {P : Program} {w : World} {outer : List Env} {H : Hp} {s s' : Shared} {e : Value} (h : L2.CX P w outer H s (fun _ _ _ => False) e s') : False := by
  obtain ⟨_, _, _, _, _, _, _, _, _, _, _, _, h⟩ := h
  exact h
end KN
/-! PA: how meanings are computed; the small defs of every law -/
namespace KN
open PySem PySem.Spec PyProof.Rows L2
noncomputable section
section
variable {f g : Ga → R Fl} {fa fb fc : Ga → R D} {γ : Ga} {p q : Ga → R Bool}
@[simp] theorem fSeq_e : fSeq f g γ = match f γ with | .ok (.nx γ') => g γ' | r => r := rfl
@[simp] theorem fSet_e {i} : fSet i fa γ = (fa γ).bind fun d => .ok (.nx (γ.set i (.va d))) := rfl
@[simp] theorem fOwn_e {i} : fOwn i fa γ = (fa γ).bind fun d => .ok (.nx (γ.set i (.ow d))) := rfl
@[simp] theorem fNd0_e {i} : fNd0 i γ = .ok (.nx (γ.set i (.nd []))) := rfl
@[simp] theorem fExpr_e : fExpr fa γ = (fa γ).bind fun _ => .ok (.nx γ) := rfl
@[simp] theorem fRet_e : fRet fa γ = (fa γ).bind fun d => .ok (.rt d) := rfl
@[simp] theorem fRetN_e : fRetN γ = .ok (.rt .non) := rfl
@[simp] theorem fNil_e : fNil γ = .ok (.nx γ) := rfl
@[simp] theorem fIf_e : fIf p f g γ = (p γ).bind fun b => if b = true then f γ else g γ := rfl
@[simp] theorem fFz_e {i} : fFz i f γ = match γ[i]? with
  | some (.ow d) => f (γ.set i (.va d))
  | some (.nd es) => f (γ.set i (.va (.dic (es.map fun e => (e.1, .dic e.2)))))
  | _ => .no := rfl
@[simp] theorem bVar_e {i} : bVar i γ = match γ[i]? with | some (.va d) => .ok d | _ => .no := rfl
@[simp] theorem bRd_e {i} : bRd i γ = match γ[i]? with | some (.ow d) => .ok d | _ => .no := rfl
@[simp] theorem bC_e {d} : bC d γ = .ok d := rfl
@[simp] theorem b1_e {h} : b1 h fa γ = (fa γ).bind h := rfl
@[simp] theorem b2_e {h} : b2 h fa fb γ = (fa γ).bind fun x => (fb γ).bind fun y => h x y := rfl
@[simp] theorem bNil_e : bNil γ = .ok [] := rfl
@[simp] theorem bCons_e {fs} : bCons fa fs γ = (fa γ).bind fun x => (fs γ).bind fun xs => .ok (x :: xs) := rfl
@[simp] theorem bN_e {h fs} : bN h fs γ = (fs γ).bind h := rfl
@[simp] theorem bCall_e {h fs} : bCall h fs γ = (fs γ).bind h := rfl
@[simp] theorem bIf_e : bIf p fa fb γ = (p γ).bind fun b => if b = true then fa γ else fb γ := rfl
@[simp] theorem tVal_e : tVal fa γ = (fa γ).bind tB := rfl
@[simp] theorem tB_e {b} : tB (.bl b) = .ok b := rfl
@[simp] theorem tAnd_e : tAnd p q γ = (p γ).bind fun b => if b = true then q γ else .ok false := rfl
@[simp] theorem tOr_e : tOr p q γ = (p γ).bind fun b => if b = true then .ok true else q γ := rfl
@[simp] theorem tNot_e : tNot p γ = (p γ).bind fun b => .ok (!b) := rfl
@[simp] theorem bTup_e {fs} : bTup fs γ = (fs γ).bind fun xs => if xs.length ≤ lim then .ok (.tup xs) else .no := rfl
@[simp] theorem bLst_e {fs} : bLst fs γ = (fs γ).bind fun xs => if xs.length ≤ lim then .ok (.lst xs) else .no := rfl
@[simp] theorem fnD_e {n body ds} : fnD n body ds = match body (ds.map .va ++ List.replicate (n - ds.length) .un) with
  | .ok (.rt d) => .ok d
  | .ok (.nx _) => .ok .non
  | .ex c => .ex c
  | _ => .no := rfl
end
@[simp] theorem dAdd_i {i j} : dAdd (.int i) (.int j) = .ok (.int (i + j)) := rfl
@[simp] theorem dSub_i {i j} : dSub (.int i) (.int j) = .ok (.int (i - j)) := rfl
@[simp] theorem dLt_i {i j} : dLt (.int i) (.int j) = .ok (.bl (decide (i < j))) := rfl
@[simp] theorem dLe_i {i j} : dLe (.int i) (.int j) = .ok (.bl (decide (i ≤ j))) := rfl
@[simp] theorem dGt_i {i j} : dGt (.int i) (.int j) = .ok (.bl (decide (j < i))) := rfl
@[simp] theorem dGe_i {i j} : dGe (.int i) (.int j) = .ok (.bl (decide (j ≤ i))) := rfl
@[simp] theorem dLen_l {xs} : dLen [.lst xs] = .ok (.int xs.length) := rfl
@[simp] theorem dLen_t {xs} : dLen [.tup xs] = .ok (.int xs.length) := rfl
@[simp] theorem dLen_d {xs} : dLen [.dic xs] = .ok (.int xs.length) := rfl
theorem lim_val : lim = 1000000 := rfl
theorem log_s {n : Nat} (hn : n < 2 ^ 100) : n.log2 ≤ 100 := by
  rcases Nat.eq_zero_or_pos n with rfl | hp
  · decide
  · have := (Nat.log2_lt (by omega)).mpr hn; omega
theorem dMul_i {i j : Int} : dMul (.int i) (.int j) = if i.natAbs.log2 + j.natAbs.log2 < 1000000 then .ok (.int (i * j)) else .no := rfl
theorem dDiv_i {i j : Int} : dDiv (.int i) (.int j) = if 0 < j ∧ j.natAbs.log2 < 9000 then .ok (.int (i / j)) else .no := rfl
theorem dMod_i {i j : Int} : dMod (.int i) (.int j) = if 0 < j then .ok (.int (i % j)) else .no := rfl
theorem dMul_s {i j : Int} (h : i.natAbs < 2 ^ 100) (k : j.natAbs < 2 ^ 100) : dMul (.int i) (.int j) = .ok (.int (i * j)) := by
  have h1 := log_s h
  have h2 := log_s k
  rw [dMul_i, if_pos (by omega)]
theorem dDiv_s {i j : Int} (h : 0 < j) (k : j.natAbs < 2 ^ 100) : dDiv (.int i) (.int j) = .ok (.int (i / j)) := by
  have h2 := log_s k
  rw [dDiv_i, if_pos ⟨h, by omega⟩]
theorem dMod_s {i j : Int} (h : 0 < j) : dMod (.int i) (.int j) = .ok (.int (i % j)) := by rw [dMod_i, if_pos h]
def Lk (ns : List Int) : D := .lst (ns.map .int)
theorem at_nat {α : Type} {xs : List α} {i : Int} (h0 : 0 ≤ i) (h1 : i < xs.length) : ∃ x, atI xs i = some x ∧ xs[i.toNat]? = some x := by
  obtain ⟨n, rfl⟩ := Int.eq_ofNat_of_zero_le h0
  have hn : n < xs.length := by omega
  exact ⟨xs[n], L2.atI_nat (List.getElem?_eq_getElem hn), List.getElem?_eq_getElem hn⟩
@[simp] theorem dIx_l {xs i} : dIx (.lst xs) (.int i) = o2r (L2.atI xs i) := rfl
@[simp] theorem dIx_t {xs i} : dIx (.tup xs) (.int i) = o2r (L2.atI xs i) := rfl
@[simp] theorem dIx_d {es k} : dIx (.dic es) (.str k) = o2r (lookK es k) := rfl
@[simp] theorem o2r_some {α : Type} {a : α} : o2r (some a) = .ok a := rfl
theorem pl_lst (n : Nat) (xs : List D) : pl (n + 1) (.lst xs) = xs.all (pl n) := rfl
theorem pl_tup (n : Nat) (xs : List D) : pl (n + 1) (.tup xs) = xs.all (pl n) := rfl
@[simp] theorem pl_int (n : Nat) (i : Int) : pl n (.int i) = true := by cases n <;> rfl
@[simp] theorem pl_bl (n : Nat) (i : Bool) : pl n (.bl i) = true := by cases n <;> rfl
@[simp] theorem pl_non (n : Nat) : pl n .non = true := by cases n <;> rfl
@[simp] theorem pl_str (n : Nat) (s : Tx) : pl n (.str s) = s.all (· < 0x110000) := by cases n <;> rfl
@[simp] theorem eqv_int (n : Nat) (i j : Int) : eqv n (.int i) (.int j) = (i == j) := by cases n <;> rfl
@[simp] theorem eqv_str (n : Nat) (i j : Tx) : eqv n (.str i) (.str j) = (i == j) := by cases n <;> rfl
theorem eqv_lst (n : Nat) (xs ys : List D) : eqv (n + 1) (.lst xs) (.lst ys) = eqvL (eqv n) xs ys := rfl
theorem eqv_tup (n : Nat) (xs ys : List D) : eqv (n + 1) (.tup xs) (.tup ys) = eqvL (eqv n) xs ys := rfl
theorem dEq_p {d e : D} (h : pl 20 d = true) (k : pl 20 e = true) : dEq d e = .ok (.bl (eqv 20 d e)) := by unfold dEq; rw [if_pos ⟨h, k⟩]
theorem dNe_p {d e : D} (h : pl 20 d = true) (k : pl 20 e = true) : dNe d e = .ok (.bl (!eqv 20 d e)) := by unfold dNe; rw [if_pos ⟨h, k⟩]
theorem i2n_i {i : Int} (h : -(2 ^ 60) ≤ i ∧ i < 2 ^ 60) : i2n (.int i) = .ok i := by simp only [i2n]; rw [if_pos (by omega)]
theorem cell_ok {ns : List Int} (hns : ns.length ≤ 63) {k : Int} (h0 : 0 ≤ k) (h1 : k < 2 ^ 90) : ∃ i, g__law_cell [Lk ns, .int k] = .ok (.int i) := by
  unfold g__law_cell Lk
  rw [fnD_e]
  cases ns with
  | nil =>
    refine ⟨7 * k, ?_⟩
    have e7 : (7 : Int).natAbs < 2 ^ 100 := by decide
    have e : dMul (.int 7) (.int k) = .ok (.int (7 * k)) := dMul_s e7 (by omega)
    simp [m__law_cell, dEq, pl, eqv, eqvL, e]
  | cons n ns =>
    have hl : (0 : Int) < (((n :: ns).length : Nat) : Int) := by simp only [List.length_cons]; omega
    have e1 : dEq (.lst ((n :: ns).map D.int)) (.lst []) = .ok (.bl false) := by
      simp [dEq, pl, eqv, eqvL]
    have hm1 := Int.emod_nonneg k (show (((n :: ns).length : Nat) : Int) ≠ 0 by omega)
    have hm2 := Int.emod_lt_of_pos k hl
    obtain ⟨x, hx, hx1⟩ := at_nat (xs := (n :: ns).map D.int) hm1 (by rw [List.length_map]; exact hm2)
    have hx2 : ∃ j, x = .int j := by
      have := List.mem_of_getElem? hx1
      rw [List.mem_map] at this
      obtain ⟨j, _, rfl⟩ := this
      exact ⟨j, rfl⟩
    obtain ⟨j, rfl⟩ := hx2
    refine ⟨j + 6553 * (k / (((n :: ns).length : Nat) : Int)), ?_⟩
    have e2 : dMod (.int k) (.int (((n :: ns).map D.int).length : Nat)) = .ok (.int (k % (((n :: ns).length : Nat) : Int))) := by rw [List.length_map]; exact dMod_s hl
    have e3 : dDiv (.int k) (.int (((n :: ns).map D.int).length : Nat)) = .ok (.int (k / (((n :: ns).length : Nat) : Int))) := by
      rw [List.length_map]
      exact dDiv_s hl (by omega)
    have hq1 : 0 ≤ k / (((n :: ns).length : Nat) : Int) := Int.ediv_nonneg h0 (by omega)
    have hq2 : k / (((n :: ns).length : Nat) : Int) ≤ k := Int.ediv_le_self _ h0
    have e4 : dMul (.int 6553) (.int (k / (((n :: ns).length : Nat) : Int))) = .ok (.int (6553 * (k / (((n :: ns).length : Nat) : Int)))) := dMul_s (by omega) (by omega)
    generalize (List.map D.int (n :: ns)) = L at *
    generalize (((n :: ns).length : Nat) : Int) = m at *
    simp [m__law_cell, lim_val, e1, e2, e3, e4, hx]
def drawnF (ns : List Int) (k m : Int) : Int := match g__law_drawn [Lk ns, .int k, .int m] with
  | .ok (.int i) => i
  | _ => 0
theorem drawn_ok {ns : List Int} (hns : ns.length ≤ 63) {k m : Int} (h0 : 0 ≤ k) (h1 : k < 2 ^ 60) (hm : 0 < m) : g__law_drawn [Lk ns, .int k, .int m] = .ok (.int (drawnF ns k m)) ∧ 0 ≤ drawnF ns k m ∧ drawnF ns k m < m := by
  have key : ∃ i, g__law_drawn [Lk ns, .int k, .int m] = .ok (.int (i % m)) := by
    obtain ⟨c, hc⟩ := cell_ok hns h0 (show k < 2 ^ 90 by omega)
    have b1 := Int.emod_nonneg c (show (2147483563 : Int) ≠ 0 by decide)
    have b2 := Int.emod_lt_of_pos c (show (0 : Int) < 2147483563 by decide)
    have e1 : dMul (.int (c % 2147483563)) (.int 69069) = .ok (.int (c % 2147483563 * 69069)) := dMul_s (by omega) (by omega)
    have e2 : dMul (.int 104723) (.int (k + 1)) = .ok (.int (104723 * (k + 1))) := dMul_s (by omega) (by omega)
    obtain ⟨x, hx⟩ : ∃ x, x = (c % 2147483563 * 69069 + 104723 * (k + 1)) % 2147483563 := ⟨_, rfl⟩
    have x1 : 0 ≤ x := by rw [hx]; exact Int.emod_nonneg _ (by decide)
    have x2 : x < 2147483563 := by rw [hx]; exact Int.emod_lt_of_pos _ (by decide)
    have e3 : dMul (.int x) (.int x) = .ok (.int (x * x)) := dMul_s (by omega) (by omega)
    obtain ⟨y, hy⟩ : ∃ y, y = (x * x + x / 3) % 2147483399 := ⟨_, rfl⟩
    have y1 : 0 ≤ y := by rw [hy]; exact Int.emod_nonneg _ (by decide)
    have y2 : y < 2147483399 := by rw [hy]; exact Int.emod_lt_of_pos _ (by decide)
    have e4 : dMul (.int y) (.int y) = .ok (.int (y * y)) := dMul_s (by omega) (by omega)
    have md : ∀ {a b : Int}, 0 < b → dMod (.int a) (.int b) = .ok (.int (a % b)) := fun h => dMod_s h
    have dv : ∀ {a b : Int}, 0 < b → b < 1000 → dDiv (.int a) (.int b) = .ok (.int (a / b)) := fun h k => dDiv_s h (by omega)
    refine ⟨(y * y + y / 7) % 2147483647 / 11, ?_⟩
    unfold g__law_drawn
    rw [fnD_e]
    simp [m__law_drawn, hc, md, dv, e1, e2, hm, ← hx, e3, ← hy, e4]
  obtain ⟨i, hi⟩ := key
  have : drawnF ns k m = i % m := by unfold drawnF; rw [hi]
  rw [this]
  exact ⟨hi, Int.emod_nonneg _ (by omega), Int.emod_lt_of_pos _ hm⟩
/-! ### comprehensions, loops -/
section
variable {bd : D → Ga → R Ga} {ifs : Ga → R Bool} {elt : Ga → R D} {γ : Ga}
theorem lcGo_fil {α : Type} {inj : α → D} {p : α → Bool} {f : α → D} : ∀ {l : List α}, (∀ a ∈ l, ∃ γ1, bd (inj a) γ = .ok γ1 ∧ ifs γ1 = .ok (p a) ∧ (p a = true → elt γ1 = .ok (f a))) → lcGo bd ifs elt γ (l.map inj) = .ok ((l.filter p).map f)
  | [], _ => rfl
  | a :: l, h => by
    obtain ⟨γ1, h1, h2, h3⟩ := h a List.mem_cons_self
    have ih := lcGo_fil (l := l) fun b hb => h b (List.mem_cons_of_mem _ hb)
    rw [List.map_cons]
    unfold lcGo
    cases hp : p a with
    | true => simp [h1, h2, hp, h3 hp, ih]
    | false => simp [h1, h2, hp, ih]
theorem lcGo_map {α : Type} {inj f : α → D} {l : List α} (h : ∀ a ∈ l, ∃ γ1, bd (inj a) γ = .ok γ1 ∧ elt γ1 = .ok (f a)) : lcGo bd yes elt γ (l.map inj) = .ok (l.map f) := by
  have := lcGo_fil (bd := bd) (ifs := yes) (elt := elt) (γ := γ) (inj := inj) (p := fun _ => true) (f := f) (l := l) fun a ha => by
    obtain ⟨γ1, h1, h2⟩ := h a ha
    exact ⟨γ1, h1, rfl, fun _ => h2⟩
  rw [this]
  congr 2
  exact List.filter_eq_self.mpr fun _ _ => rfl
theorem lcGo_ex {α : Type} {inj : α → D} {P : D → Prop} : ∀ {l : List α}, (∀ a ∈ l, ∃ γ1 d, bd (inj a) γ = .ok γ1 ∧ elt γ1 = .ok d ∧ P d) → ∃ ds, lcGo bd yes elt γ (l.map inj) = .ok ds ∧ ds.length = l.length ∧ ∀ d ∈ ds, P d
  | [], _ => ⟨[], rfl, rfl, fun _ h => nomatch h⟩
  | a :: l, h => by
    obtain ⟨γ1, d, h1, h2, h3⟩ := h a List.mem_cons_self
    obtain ⟨ds, i1, i2, i3⟩ := lcGo_ex (l := l) fun b hb => h b (List.mem_cons_of_mem _ hb)
    refine ⟨d :: ds, ?_, by simp [i2], fun e he => ?_⟩
    · rw [List.map_cons]
      unfold lcGo
      simp [h1, h2, i1, yes]
    · rcases List.mem_cons.mp he with rfl | he
      · exact h3
      · exact i3 e he
theorem lcOut_e {vs : List Nat} {ds ys : List D} (h : lcGo bd ifs elt (wipeG γ vs) ds = .ok ys) (hl : ys.length ≤ lim) : lcOut bd ifs elt vs γ ds = .ok (.lst ys) := by
  unfold lcOut
  rw [h]
  simp [hl]
variable {body : Ga → R Fl}
/-- a loop that ends well, by an invariant -/
theorem forGo_inv {α : Type} {inj : α → D} {I : List α → Ga → Prop} {l0 : List α} {γ : Ga} (step : ∀ done a rest γ, l0 = done ++ a :: rest → I done γ → ∃ γ1, bd (inj a) γ = .ok γ1 ∧ ∃ γ2, (body γ1 = .ok (.nx γ2) ∨ body γ1 = .ok (.ct γ2)) ∧ I (done ++ [a]) γ2) (h0 : I [] γ) : ∃ γ', forGo bd body (l0.map inj) γ = .ok (.nx γ') ∧ I l0 γ' := by
  have aux : ∀ (l done : List α) (γ : Ga), l0 = done ++ l → I done γ → ∃ γ', forGo bd body (l.map inj) γ = .ok (.nx γ') ∧ I l0 γ' := by
    intro l
    induction l with
    | nil => intro done γ e h; exact ⟨γ, rfl, by rw [e]; simpa using h⟩
    | cons a l ih =>
      intro done γ e h
      obtain ⟨γ1, h1, γ2, h2, h3⟩ := step done a l γ e h
      obtain ⟨γ', i1, i2⟩ := ih (done ++ [a]) γ2 (by rw [e]; simp) h3
      refine ⟨γ', ?_, i2⟩
      rw [List.map_cons]
      unfold forGo
      rcases h2 with h2 | h2 <;> simp [h1, h2, i1]
  exact aux l0 [] γ rfl h0
theorem range_split {n i : Nat} {done rest : List Nat} (h : List.range n = done ++ i :: rest) : i = done.length ∧ done.length < n := by
  have e : (List.range n)[done.length]? = some i := by rw [h]; simp
  have l : done.length < n := by
    have := congrArg List.length h
    simp at this; omega
  rw [List.getElem?_range l] at e
  cases e; exact ⟨rfl, l⟩
end
theorem joinT_nil : ∀ ts : List Tx, joinT [] ts = ts.flatten
  | [] => rfl
  | [x] => by simp [joinT]
  | x :: y :: r => by rw [joinT, joinT_nil (y :: r)]; simp
theorem rng_e {n : Nat} {lo : Int} : rngD lo n = (List.range n).map fun i => .int (lo + (i : Nat)) := rfl
/-- letters of the laws' names -/
def ltr (c : Nat) : Prop := c = 97 ∨ c = 98 ∨ c = 122
def nameF (ns : List Int) (at_ most : Int) : Tx := match g__law_name [Lk ns, .int at_, .int most] with
  | .ok (.str s) => s
  | _ => []
theorem one_letters : ∀ {ds : List D}, (∀ d ∈ ds, ∃ c, ltr c ∧ d = .str [c]) → ∃ cs : List Nat, ds = cs.map (fun c => .str [c]) ∧ ∀ c ∈ cs, ltr c
  | [], _ => ⟨[], rfl, fun _ h => nomatch h⟩
  | d :: ds, h => by
    obtain ⟨c, hc, rfl⟩ := h d List.mem_cons_self
    obtain ⟨cs, rfl, h2⟩ := one_letters (ds := ds) fun e he => h e (List.mem_cons_of_mem _ he)
    exact ⟨c :: cs, rfl, fun e he => by
      rcases List.mem_cons.mp he with rfl | he
      · exact hc
      · exact h2 e he⟩
theorem asTxs_one (cs : List Nat) : asTxs (cs.map fun c => D.str [c]) = some (cs.map fun c => [c]) := by
  induction cs with
  | nil => rfl
  | cons c cs ih => simp [asTxs, ih]
theorem flat_one (cs : List Nat) : (cs.map fun c => [c]).flatten = cs := by
  induction cs with
  | nil => rfl
  | cons c cs ih => simp [ih]
theorem sum_one (cs : List Nat) : ((cs.map fun c => [c]).map List.length).sum = cs.length := by
  induction cs with
  | nil => rfl
  | cons c cs ih => rw [List.map_cons, List.map_cons, List.sum_cons, ih, List.length_cons]; simp; omega
theorem join_one {cs : List Nat} (h : cs.length ≤ lim) : dJoin [] (.lst (cs.map fun c => .str [c])) = .ok (.str cs) := by
  show ((o2r (asTxs (cs.map fun c => D.str [c]))).bind fun ts => if (ts.map (·.length)).sum + ts.length * ([] : Tx).length ≤ lim then R.ok (D.str (joinT [] ts)) else R.no) = _
  rw [asTxs_one, o2r_some]
  show (if ((cs.map fun c => [c]).map List.length).sum + _ ≤ lim then _ else _) = _
  rw [sum_one, joinT_nil, flat_one, if_pos (by simpa using h)]
theorem name_ok {ns : List Int} (hns : ns.length ≤ 63) {k m : Int} (h0 : 0 ≤ k) (h1 : k < 2 ^ 50) (hm : 0 < m) (hm2 : m < 1000) : g__law_name [Lk ns, .int k, .int m] = .ok (.str (nameF ns k m)) ∧ 0 < (nameF ns k m).length ∧ ((nameF ns k m).length : Int) ≤ m ∧ ∀ c ∈ nameF ns k m, ltr c := by
  have key : ∃ cs : Tx, g__law_name [Lk ns, .int k, .int m] = .ok (.str cs) ∧ 0 < cs.length ∧ (cs.length : Int) ≤ m ∧ ∀ c ∈ cs, ltr c := by
    obtain ⟨d1, d2, d3⟩ := drawn_ok hns h0 (show k < 2 ^ 60 by omega) hm
    obtain ⟨e1, e2, e3⟩ := drawn_ok hns (show 0 ≤ k + 9 by omega) (show k + 9 < 2 ^ 60 by omega) (show (0 : Int) < 3 by decide)
    generalize drawnF ns k m = n at *
    generalize drawnF ns (k + 9) 3 = j at *
    obtain ⟨L, hL, hLl, hLc⟩ : ∃ L : Tx, L2.atI [D.str [97, 98], D.str [97, 98], D.str [97, 98, 122]] j = some (.str L) ∧ (L.length = 2 ∨ L.length = 3) ∧ ∀ c ∈ L, ltr c := by
      have : j = 0 ∨ j = 1 ∨ j = 2 := by omega
      rcases this with rfl | rfl | rfl
      · exact ⟨[97, 98], rfl, .inl rfl, by simp [ltr]⟩
      · exact ⟨[97, 98], rfl, .inl rfl, by simp [ltr]⟩
      · exact ⟨[97, 98, 122], rfl, .inr rfl, by simp [ltr]⟩
    have hn : -(2 ^ 60) ≤ 1 + n ∧ 1 + n < 2 ^ 60 := by omega
    have comp : ∃ ds, lcGo (bdN 5) yes (b2 dIx (bVar 4) (bCall g__law_drawn (bCons (bVar 0) (bCons (b2 dAdd (b2 dAdd (bVar 1) (bC (.int 1))) (bVar 5)) (bCons (bN dLen (bCons (bVar 4) (bNil))) (bNil)))))) (wipeG [.va (Lk ns), .va (.int k), .va (.int m), .va (.int (1 + n)), .va (.str L), .un] [5]) ((List.range (1 + n).toNat).map fun i => .int (0 + (i : Nat))) = .ok ds ∧ ds.length = (List.range (1 + n).toNat).length ∧ ∀ d ∈ ds, ∃ c, ltr c ∧ d = .str [c] := by
      refine lcGo_ex fun i hi => ?_
      have hi := List.mem_range.mp hi
      have hLL : ((L.length : Nat) : Int) ≤ 3 := by omega
      obtain ⟨f1, f2, f3⟩ := drawn_ok hns (show 0 ≤ k + 1 + (0 + (i : Nat)) by omega) (show k + 1 + (0 + (i : Nat)) < 2 ^ 60 by omega) (show (0 : Int) < (L.length : Nat) by omega)
      obtain ⟨c, hc1, hc2⟩ := at_nat (xs := L) f2 f3
      refine ⟨_, .str [c], rfl, ?_, c, hLc c (List.mem_of_getElem? hc2), rfl⟩
      have l1 : L.length ≤ lim := by rw [lim_val]; omega
      simp [wipeG, dLen, dIx, l1, f1, hc1] at f1 hc1 ⊢
      simp [f1, hc1]
      exact l1
    obtain ⟨ds, c1, c2, c3⟩ := comp
    obtain ⟨cs, rfl, c4⟩ := one_letters c3
    rw [List.length_map, List.length_range] at c2
    have c5 := lcOut_e c1 (by rw [lim_val, List.length_map]; omega)
    refine ⟨cs, ?_, by omega, by omega, c4⟩
    have j1 : dJoin [] (.lst (cs.map fun c => .str [c])) = .ok (.str cs) := join_one (by rw [lim_val]; omega)
    unfold g__law_name
    rw [fnD_e]
    have c6 : bLcI (iR1 (bVar 3)) [5] (bdN 5) yes (b2 dIx (bVar 4) (bCall g__law_drawn (bCons (bVar 0) (bCons (b2 dAdd (b2 dAdd (bVar 1) (bC (.int 1))) (bVar 5)) (bCons (bN dLen (bCons (bVar 4) (bNil))) (bNil)))))) [.va (Lk ns), .va (.int k), .va (.int m), .va (.int (1 + n)), .va (.str L), .un] = .ok (.lst (cs.map fun c => .str [c])) := by
      unfold bLcI iR1
      simp [i2n_i hn, rng_e]
      simpa using c5
    simp [m__law_name, d1, e1, hL, lim_val, b2s, c6, j1]
  obtain ⟨cs, h⟩ := key
  have : nameF ns k m = cs := by unfold nameF; rw [h.1]
  rw [this]
  exact h
/-- a book -/
def bkD (b : List Tx) : D := .tup (b.map .str)
def goodN (m : Int) (x : Tx) : Prop := 0 < x.length ∧ (x.length : Int) ≤ m ∧ ∀ c ∈ x, ltr c
def bookF (ns : List Int) (at_ many most : Int) : List Tx := match g__law_book [Lk ns, .int at_, .int many, .int most] with
  | .ok (.tup xs) => (asTxs xs).getD []
  | _ => []
theorem book_ok {ns : List Int} (hns : ns.length ≤ 63) {k many m : Int} (h0 : 0 ≤ k) (h1 : k < 2 ^ 40) (hmy : 0 < many) (hmy2 : many < 1000) (hm : 0 < m) (hm2 : m < 1000) :
    g__law_book [Lk ns, .int k, .int many, .int m] = .ok (bkD (bookF ns k many m)) ∧ 0 < (bookF ns k many m).length ∧ ((bookF ns k many m).length : Int) ≤ many ∧ ∀ x ∈ bookF ns k many m, goodN m x := by
  have key : ∃ b : List Tx, g__law_book [Lk ns, .int k, .int many, .int m] = .ok (bkD b) ∧ 0 < b.length ∧ (b.length : Int) ≤ many ∧ ∀ x ∈ b, goodN m x := by
    obtain ⟨d1, d2, d3⟩ := drawn_ok hns h0 (show k < 2 ^ 60 by omega) hmy
    generalize drawnF ns k many = n at *
    have hn : -(2 ^ 60) ≤ 1 + n ∧ 1 + n < 2 ^ 60 := by omega
    have loop := forGo_inv (bd := bdN 5) (body := fSet 4 (b2 dAdd (bVar 4) (bTup (bCons (bCall g__law_name (bCons (bVar 0) (bCons (b2 dAdd (b2 dAdd (bVar 1) (bC (.int 1))) (b2 dMul (bC (.int 10)) (bVar 5))) (bCons (bVar 3) (bNil))))) (bNil)))))
      (inj := fun i : Nat => D.int (0 + (i : Nat))) (l0 := List.range (1 + n).toNat)
      (I := fun done γ => ∃ b s5, γ = [.va (Lk ns), .va (.int k), .va (.int many), .va (.int m), .va (bkD b), s5] ∧ b.length = done.length ∧ ∀ x ∈ b, goodN m x)
      (γ := [.va (Lk ns), .va (.int k), .va (.int many), .va (.int m), .va (.tup []), .un]) (fun done i rest γ hr hI => by
        obtain ⟨hi1, hi⟩ := range_split hr
        obtain ⟨b, s5, rfl, hb, hg⟩ := hI
        have e1 : dMul (.int 10) (.int (i : Nat)) = .ok (.int (10 * (i : Nat))) := dMul_s (by decide) (by omega)
        obtain ⟨f1, f2, f3, f4⟩ := name_ok hns (show 0 ≤ k + 1 + 10 * (i : Nat) by omega) (show k + 1 + 10 * (i : Nat) < 2 ^ 50 by omega) hm hm2
        refine ⟨_, rfl, [.va (Lk ns), .va (.int k), .va (.int many), .va (.int m), .va (bkD (b ++ [nameF ns (k + 1 + 10 * (i : Nat)) m])), .va (.int (i : Nat))], .inl ?_, _, _, rfl, ?_, ?_⟩
        · have e2 : dAdd (bkD b) (.tup [.str (nameF ns (k + 1 + 10 * (i : Nat)) m)]) = .ok (bkD (b ++ [nameF ns (k + 1 + 10 * (i : Nat)) m])) := by
            unfold bkD dAdd
            simp only
            rw [if_pos (by rw [lim_val]; simp; omega)]
            simp
          simp [e1, f1, lim_val, e2]
        · simp [hb]
        · intro x hx
          rcases List.mem_append.mp hx with hx | hx
          · exact hg x hx
          · rw [List.mem_singleton.mp hx]; exact ⟨f2, f3, f4⟩) ⟨[], _, rfl, rfl, fun _ h => nomatch h⟩
    obtain ⟨γ', l1, l2⟩ := loop
    obtain ⟨b, s5, rfl, hb, hg⟩ := l2
    have hb' : b.length = (1 + n).toNat := by simpa using hb
    refine ⟨b, ?_, by omega, by omega, hg⟩
    unfold g__law_book
    rw [fnD_e]
    simp [m__law_book, d1, lim_val, fForI, iR1, i2n_i hn, rng_e]
    simp at l1
    simp [l1]
  obtain ⟨b, h⟩ := key
  have : bookF ns k many m = b := by unfold bookF; rw [h.1]; simp [bkD]
  rw [this]
  exact h
end
end KN
/-! PB: association lists, tables of counts, no program in sight -/
namespace KN
open PySem PySem.Spec PyProof.Rows L2
/-! ### association lists -/
section
variable {α β : Type}
def lk : List (Tx × α) → Tx → Option α
  | [], _ => none
  | (k, r) :: es, x => if k = x then some r else lk es x
def pt : List (Tx × α) → Tx → α → List (Tx × α)
  | [], x, r => [(x, r)]
  | (k, r0) :: es, x, r => if k = x then (k, r) :: es else (k, r0) :: pt es x r
def ks (r : List (Tx × α)) : List Tx := r.map (·.1)
theorem lk_pt (r : List (Tx × α)) (x y : Tx) (v : α) : lk (pt r x v) y = if x = y then some v else lk r y := by
  induction r with
  | nil => simp [pt, lk]
  | cons e r ih =>
    obtain ⟨k, r0⟩ := e
    unfold pt
    by_cases h : k = x
    · subst h
      by_cases h2 : k = y <;> simp [lk, h2]
    · by_cases h2 : k = y
      · subst h2
        have : ¬ x = k := fun z => h z.symm
        simp [h, lk, this]
      · simp [h, lk, h2, ih]
theorem lk_none {r : List (Tx × α)} {x : Tx} : lk r x = none ↔ x ∉ ks r := by
  induction r with
  | nil => simp [lk, ks]
  | cons e r ih =>
    obtain ⟨k, r0⟩ := e
    unfold lk
    by_cases h : k = x
    · subst h; simp [ks]
    · have h' : ¬ x = k := fun z => h z.symm
      simp only [h, if_false, ih, ks, List.map_cons, List.mem_cons, h', false_or]
theorem ks_pt (r : List (Tx × α)) (x : Tx) (v : α) : ks (pt r x v) = if x ∈ ks r then ks r else ks r ++ [x] := by
  induction r with
  | nil => simp [pt, ks]
  | cons e r ih =>
    obtain ⟨k, r0⟩ := e
    unfold pt
    by_cases h : k = x
    · subst h; simp [ks]
    · have h' : ¬ x = k := fun z => h z.symm
      rw [if_neg h]
      show k :: ks (pt r x v) = _
      rw [ih]
      by_cases m : x ∈ ks r
      · have : x ∈ ks ((k, r0) :: r) := List.mem_cons_of_mem _ m
        rw [if_pos m, if_pos this]; rfl
      · have : x ∉ ks ((k, r0) :: r) := fun z => by
          rcases List.mem_cons.mp z with z | z
          · exact h' z
          · exact m z
        rw [if_neg m, if_neg this]; rfl
theorem nd_pt {r : List (Tx × α)} (nd : (ks r).Nodup) (x : Tx) (v : α) : (ks (pt r x v)).Nodup := by
  rw [ks_pt]
  split
  · exact nd
  · rename_i h
    rw [List.nodup_append]
    exact ⟨nd, by simp, fun a ha b hb => by rw [List.mem_singleton.mp hb]; rintro rfl; exact h ha⟩
theorem len_pt (r : List (Tx × α)) (x : Tx) (v : α) : (pt r x v).length ≤ r.length + 1 := by
  have := congrArg List.length (ks_pt r x v)
  have e1 : (pt r x v).length = (ks (pt r x v)).length := by simp [ks]
  have e2 : (ks r).length = r.length := by simp [ks]
  rw [e1, this]
  split <;> simp [e2]
/-- sorted by keys -/
def lst (d : α) (r : List (Tx × α)) : List (Tx × α) := (sortT (ks r)).map fun l => (l, (lk r l).getD d)
/-- strictly rising keys -/
def SS (r : List (Tx × α)) : Prop := (ks r).Pairwise (· < ·)
theorem SS.nd {r : List (Tx × α)} (h : SS r) : (ks r).Nodup := List.Pairwise.imp (R := fun a b : Tx => a < b) (S := fun a b : Tx => a ≠ b) (fun {a b} h e => by subst e; exact List.lt_irrefl _ h) h
theorem le_lt {a b : Tx} (h : leT a b = true) (n : a ≠ b) : a < b := by
  unfold leT at h
  simp only [Bool.not_eq_true', decide_eq_false_iff_not, List.not_lt] at h
  rcases Decidable.em (a < b) with h2 | h2
  · exact h2
  · exact absurd (List.le_antisymm h (List.not_lt.mp h2)) n
theorem lt_le {a b : Tx} (h : a < b) : leT a b = true := by
  unfold leT
  have : ¬ b < a := List.lt_asymm h
  simp [this]
end
/-! ### tables of counts -/
abbrev Rw := List (Tx × Int)
abbrev Tt := List (Tx × Rw)
abbrev Ev := Tx × Tx
def bump (t : Tt) (e : Ev) : Tt := pt t e.1 (pt ((lk t e.1).getD []) e.2 ((lk ((lk t e.1).getD []) e.2).getD 0 + 1))
def rowOf (t : Tt) (c : Tx) : Rw := (lk t c).getD []
def tabOf (es : List Ev) : Tt := es.foldl bump []
/-- the row of what a context was followed by -/
structure TabOk (t : Tt) (es : List Ev) : Prop where
  nd : (ks t).Nodup
  rnd : ∀ c, (ks (rowOf t c)).Nodup
  len : t.length ≤ es.length
  rlen : ∀ c, (rowOf t c).length ≤ es.length
  key : ∀ c, lk t c = none ↔ ∀ l, (c, l) ∉ es
  val : ∀ c l, lk (rowOf t c) l = if es.count (c, l) = 0 then none else some (es.count (c, l) : Int)
theorem rowOf_bump (t : Tt) (e : Ev) (c : Tx) : rowOf (bump t e) c = if e.1 = c then pt (rowOf t c) e.2 ((lk (rowOf t c) e.2).getD 0 + 1) else rowOf t c := by
  unfold rowOf bump
  rw [lk_pt]
  split
  · rename_i h; subst h; rfl
  · rfl
theorem TabOk.step {t : Tt} {es : List Ev} (h : TabOk t es) (e : Ev) : TabOk (bump t e) (es ++ [e]) := by
  refine ⟨nd_pt h.nd _ _, fun c => ?_, ?_, fun c => ?_, fun c => ?_, fun c l => ?_⟩
  · rw [rowOf_bump]
    split
    · exact nd_pt (h.rnd c) _ _
    · exact h.rnd c
  · refine Nat.le_trans (len_pt _ _ _) ?_
    have := h.len; simp; omega
  · rw [rowOf_bump]
    have := h.rlen c
    split
    · refine Nat.le_trans (len_pt _ _ _) ?_
      simp; omega
    · simp; omega
  · unfold bump
    rw [lk_pt]
    by_cases q : e.1 = c
    · subst q
      simp only [if_pos, reduceCtorEq, false_iff]
      intro z
      exact z e.2 (by simp)
    · rw [if_neg q, h.key c]
      constructor
      · intro z l m
        rcases List.mem_append.mp m with m | m
        · exact z l m
        · rw [← List.mem_singleton.mp m] at q; exact q rfl
      · intro z l m
        exact z l (List.mem_append_left _ m)
  · rw [rowOf_bump, List.count_append]
    by_cases q : e.1 = c
    · subst q
      rw [if_pos rfl, lk_pt, h.val]
      by_cases q2 : e.2 = l
      · subst q2
        have : List.count (e.1, e.2) [e] = 1 := by simp
        rw [if_pos rfl, this]
        by_cases z : es.count (e.1, e.2) = 0
        · simp [z]
        · simp [z]
      · have : List.count (e.1, l) [e] = 0 := by
          rw [List.count_eq_zero]
          intro m
          have := List.mem_singleton.mp m
          exact q2 (by rw [← this])
        rw [if_neg q2, this, Nat.add_zero, h.val]
    · have : List.count (c, l) [e] = 0 := by
        rw [List.count_eq_zero]
        intro m
        have := List.mem_singleton.mp m
        exact q (by rw [← this])
      rw [if_neg q, this, Nat.add_zero, h.val]
theorem tabOk (es : List Ev) : TabOk (tabOf es) es := by
  have aux : ∀ (es done : List Ev) (t : Tt), TabOk t done → TabOk (es.foldl bump t) (done ++ es) := by
    intro es
    induction es with
    | nil => intro done t h; simpa using h
    | cons e es ih =>
      intro done t h
      have := ih (done ++ [e]) (bump t e) (h.step e)
      simpa using this
  have := aux es [] [] ⟨by simp [ks], fun c => by simp [rowOf, lk, ks], by simp, fun c => by simp [rowOf, lk], fun c => by simp [lk], fun c l => by simp [rowOf, lk]⟩
  simpa [tabOf] using this
end KN
/-! PC: names, books, contexts, counts: what the defs answer -/
namespace KN
open PySem PySem.Spec PyProof.Rows L2
noncomputable section
def rowD (r : Rw) : List (Tx × D) := r.map fun e => (e.1, .int e.2)
/-! ### contexts -/
def endT (o : Nat) (t : Tx) : Tx := t.drop (t.length - o)
theorem cut_from {α : Type} (xs : List α) (k : Nat) : cutL xs (some (k : Int)) none = xs.drop k := by
  unfold cutL
  rw [HT.sIx_nat, HT.sIx_none]
  rcases Nat.le_total k xs.length with h | h
  · rw [Nat.min_eq_left h]
    exact List.take_of_length_le (by simp)
  · rw [Nat.min_eq_right h, List.drop_eq_nil_of_le h]; simp
theorem cut_to {α : Type} (xs : List α) (k : Nat) : cutL xs none (some (k : Int)) = xs.take k := by
  unfold cutL
  rw [HT.sIx_nat, HT.sIx_none]
  rcases Nat.le_total k xs.length with h | h
  · rw [Nat.min_eq_left h]; simp
  · rw [Nat.min_eq_right h, List.take_of_length_le h]; simp
def tblD (t : Tt) : D := .dic (t.map fun e => (e.1, .dic (rowD e.2)))
/-! ### names and books -/
def nameOk (s : Tx) : Prop := 1 ≤ s.length ∧ s.length ≤ 8 ∧ ∀ c ∈ s, 97 ≤ c ∧ c ≤ 122
def bookOk (b : List Tx) : Prop := 1 ≤ b.length ∧ b.length ≤ 8 ∧ ∀ x ∈ b, nameOk x
theorem letter_in {c : Nat} (h : 97 ≤ c ∧ c ≤ 122) : dIn (.str [c]) (.str [97, 98, 99, 100, 101, 102, 103, 104, 105, 106, 107, 108, 109, 110, 111, 112, 113, 114, 115, 116, 117, 118, 119, 120, 121, 122]) = .ok (.bl true) := by
  have : c ∈ (List.range' 97 26) := by rw [List.mem_range'_1]; omega
  have all : ∀ c ∈ List.range' 97 26, subT [c] [97, 98, 99, 100, 101, 102, 103, 104, 105, 106, 107, 108, 109, 110, 111, 112, 113, 114, 115, 116, 117, 118, 119, 120, 121, 122] = true := by decide
  unfold dIn dInB
  simp [all c this]
theorem all_true {α : Type} (l : List α) : dAll [.lst (l.map fun _ => D.bl true)] = .ok (.bl true) := by
  have e : (l.map fun _ => D.bl true) = (l.map fun _ => true).map D.bl := by rw [List.map_map]; rfl
  rw [e]
  generalize hz : (l.map fun _ => true) = z
  have hz2 : z.all id = true := by rw [← hz]; simp
  show ((o2r (asBls (z.map D.bl))).bind fun ns => R.ok (D.bl (ns.all id))) = _
  rw [asBls_map, o2r_some]
  show R.ok (D.bl (z.all id)) = _
  rw [hz2]
theorem isName_ok {s : Tx} (h : nameOk s) : g_is_name [.str s] = .ok (.bl true) := by
  obtain ⟨h1, h2, h3⟩ := h
  have hl : s.length ≤ lim := by rw [lim_val]; omega
  have h1' : (1 : Int) ≤ s.length := by omega
  have h2' : (s.length : Int) ≤ 8 := by omega
  unfold g_is_name
  rw [fnD_e]
  have comp := lcGo_map (bd := bdN 1) (elt := b2 dIn (bVar 1) (bC (.str [97, 98, 99, 100, 101, 102, 103, 104, 105, 106, 107, 108, 109, 110, 111, 112, 113, 114, 115, 116, 117, 118, 119, 120, 121, 122]))) (γ := wipeG [.va (.str s), .un] [1]) (inj := fun c : Nat => D.str [c]) (f := fun _ => .bl true) (l := s) fun c hc => ⟨_, rfl, by
    have := letter_in (h3 c hc)
    simp [wipeG, this]⟩
  have c2 := lcOut_e comp (by rw [List.length_map]; exact hl)
  have a1 := all_true s
  simp [m_is_name, bAnd, dIsi, isT, bCh, dLen, hl, h1', h2', bLcE, items, sgn, c2, a1]
theorem isBook_ok {b : List Tx} (h : bookOk b) : g_is_book [bkD b] = .ok (.bl true) := by
  obtain ⟨h1, h2, h3⟩ := h
  have hl : b.length ≤ lim := by rw [lim_val]; omega
  have h1' : (1 : Int) ≤ b.length := by omega
  have h2' : (b.length : Int) ≤ 8 := by omega
  unfold g_is_book
  rw [fnD_e]
  have comp := lcGo_map (bd := bdN 1) (elt := bCall g_is_name (bCons (bVar 1) (bNil))) (γ := wipeG [.va (bkD b), .un] [1]) (inj := D.str) (f := fun _ => .bl true) (l := b) fun c hc => ⟨_, rfl, by
    have := isName_ok (h3 c hc)
    simp [wipeG, this]⟩
  have c2 := lcOut_e comp (by rw [List.length_map]; exact hl)
  have a1 := all_true b
  unfold bkD at c2 ⊢
  simp [m_is_book, bAnd, dIsi, isT, bCh, h1', h2', bLcE, items, c2, a1]
theorem needBook_ok {b : List Tx} (h : bookOk b) : g_need_book [bkD b] = .ok .non := by
  have := isBook_ok h
  unfold g_need_book
  rw [fnD_e]
  simp [m_need_book, this]
theorem needName_ok {s : Tx} (h : nameOk s) : g_need_name [.str s] = .ok .non := by
  have := isName_ok h
  unfold g_need_name
  rw [fnD_e]
  simp [m_need_name, this]
theorem isNumber_ok {i lo hi : Int} : g_is_number [.int i, .int lo, .int hi] = .ok (.bl (decide (lo ≤ i ∧ i ≤ hi))) := by
  unfold g_is_number
  rw [fnD_e]
  by_cases h : lo ≤ i <;> simp [m_is_number, bAnd, dIsi, isT, bCh, dNot, h]
/-! ### rows -/
end
end KN
/-! PD: behind and table -/
/-! PE1: laws about rows, contexts, events -/
namespace KN
open PySem PySem.Spec PyProof.Rows L2
noncomputable section
/-! ### equal to itself -/
theorem eqvL_refl {f : D → D → Bool} : ∀ {xs : List D}, (∀ x ∈ xs, f x x = true) → eqvL f xs xs = true
  | [], _ => rfl
  | x :: xs, h => by
    show (f x x && eqvL f xs xs) = true
    rw [h x List.mem_cons_self, eqvL_refl fun y hy => h y (List.mem_cons_of_mem _ hy)]; rfl
theorem eqv_refl : ∀ (n : Nat) (d : D), pl n d = true → eqv n d d = true
  | n, .non, _ => by cases n <;> rfl
  | n, .bl b, _ => by cases n <;> simp [eqv]
  | n, .int i, _ => by simp
  | n, .str s, _ => by simp
  | 0, .lst _, h => nomatch h
  | 0, .tup _, h => nomatch h
  | n + 1, .lst xs, h => by
    rw [eqv_lst]
    rw [pl_lst, List.all_eq_true] at h
    exact eqvL_refl fun x hx => eqv_refl n x (h x hx)
  | n + 1, .tup xs, h => by
    rw [eqv_tup]
    rw [pl_tup, List.all_eq_true] at h
    exact eqvL_refl fun x hx => eqv_refl n x (h x hx)
  | n, .dic _, h => by cases n <;> exact nomatch h
theorem dNe_self {d : D} (h : pl 20 d = true) : dNe d d = .ok (.bl false) := by rw [dNe_p h h, eqv_refl 20 d h]; rfl
theorem dEq_self {d : D} (h : pl 20 d = true) : dEq d d = .ok (.bl true) := by rw [dEq_p h h, eqv_refl 20 d h]
def chs (s : Tx) : Prop := ∀ c ∈ s, c < 0x110000
theorem chs.all {s : Tx} (h : chs s) : s.all (· < 0x110000) = true := by
  rw [List.all_eq_true]; intro c hc; simpa using h c hc
/-! ### contexts -/
/-- nothing, or a name -/
def txtOk (t : Tx) : Prop := t = [] ∨ nameOk t
theorem txtOk.chs {t : Tx} (h : txtOk t) : chs t := by
  intro c hc
  rcases h with rfl | h
  · cases hc
  · have := (h.2.2 c hc).2; omega
theorem txtOk.len {t : Tx} (h : txtOk t) : t.length ≤ 8 := by
  rcases h with rfl | h
  · simp
  · exact h.2.1
/-! ### events -/
/-! ### sorted rows are sorted -/
/-! ### sums -/
end
end KN
/-! PF: fractions -/
namespace KN
open PySem PySem.Spec PyProof.Rows L2
noncomputable section
/-- neither part is long -/
def sz (n : Nat) (q : Rat) : Prop := 0 ≤ q.num ∧ q.num < 2 ^ n ∧ q.den < 2 ^ n
end
end KN
/-! PG: shares of names -/
namespace KN
open PySem PySem.Spec PyProof.Rows L2
noncomputable section
/-! ### steps -/
theorem iR1_s {fa : Ga → R D} {γ : Ga} {n : Nat} (h : fa γ = .ok (.int n)) (hn : n < 2 ^ 60) : iR1 fa γ = .ok ((List.range n).map fun i => .int (0 + (i : Nat))) := by
  have e : i2n (.int n) = .ok (n : Int) := i2n_i (by omega)
  unfold iR1
  simp [h, e, rng_e]
/-! ### shares -/
end
end KN
/-! PH: steps through a body, frames; more about shares -/
namespace KN
open PySem PySem.Spec PyProof.Rows L2
noncomputable section
section
variable {f g : Ga → R Fl} {γ γ' : Ga} {p : Ga → R Bool} {d : D} {i : Nat}
theorem seq_nx (h : f γ = .ok (.nx γ')) : fSeq f g γ = g γ' := by rw [fSeq_e, h]
theorem if_f (h : p γ = .ok false) : fIf p f fNil γ = .ok (.nx γ) := by rw [fIf_e, h]; rfl
theorem fn_rt {n : Nat} {ds : List D} (h : f (ds.map .va ++ List.replicate (n - ds.length) .un) = .ok (.rt d)) : fnD n f ds = .ok d := by rw [fnD_e, h]
theorem set_e {fa : Ga → R D} (h : fa γ = .ok d) : fSet i fa γ = .ok (.nx (γ.set i (.va d))) := by rw [fSet_e, h]; rfl
theorem ret_e {fa : Ga → R D} (h : fa γ = .ok d) : fRet fa γ = .ok (.rt d) := by rw [fRet_e, h]; rfl
theorem forE_e {fe : Ga → R D} {bd : D → Ga → R Ga} {ds : List D} {r : R Fl} (h : fe γ = .ok d) (hd : items d = .ok ds) (hn : ∀ es, d ≠ .dic es) (k : forGo bd g ds γ = r) : fForE fe bd g γ = r := by
  unfold fForE
  rw [h]
  cases d <;> first | exact absurd rfl (hn _) | (simp only [R.bind]; rw [hd]; exact k)
theorem lcE_e {fe elt : Ga → R D} {vs : List Nat} {bd : D → Ga → R Ga} {ifs : Ga → R Bool} {ds ys : List D} (h : fe γ = .ok d) (hd : items d = .ok ds) (k : lcGo bd ifs elt (wipeG γ vs) ds = .ok ys) (hl : ys.length ≤ lim) : bLcE fe vs bd ifs elt γ = .ok (.lst ys) := by
  unfold bLcE
  rw [h]
  simp only [R.bind]
  rw [hd]
  exact lcOut_e k hl
/-- a slot that holds d -/
abbrev At (γ : Ga) (i : Nat) (d : D) : Prop := γ[i]? = some (.va d)
theorem At.v (h : At γ i d) : bVar i γ = .ok d := by
  unfold At at h
  rw [bVar_e, h]
theorem At.set {s : Sl} {j : Nat} (h : At γ i d) (n : j ≠ i) : At (γ.set j s) i d := by
  unfold At at h ⊢
  rw [List.getElem?_set_ne n]; exact h
theorem At.new (h : i < γ.length) : At (γ.set i (.va d)) i d := by
  unfold At
  rw [List.getElem?_set_self h]
theorem At.wipe {vs : List Nat} (h : At γ i d) (n : i ∉ vs) : At (wipeG γ vs) i d := by
  induction vs with
  | nil => exact h
  | cons v vs ih =>
    simp only [List.mem_cons, not_or] at n
    exact (ih n.2).set (fun e => n.1 e.symm)
end
/-! ### shares -/
theorem mk_add {a b : Int} {t : Nat} (h : t ≠ 0) : mkRat a t + mkRat b t = mkRat (a + b) t := by
  rw [Rat.mkRat_add_mkRat _ _ h h, ← Int.add_mul, Rat.mkRat_mul_right h]
end
end KN
/-! PI: small things that many laws ask -/
namespace KN
open PySem PySem.Spec PyProof.Rows L2
noncomputable section
theorem nameOk.chs {x : Tx} (h : nameOk x) : chs x := fun c hc => by have := (h.2.2 c hc).2; omega
theorem goodN.nm {m : Int} (hm : m ≤ 8) {x : Tx} (h : goodN m x) : nameOk x := ⟨by have := h.1; omega, by have := h.2.1; omega, fun c hc => by
  rcases h.2.2 c hc with rfl | rfl | rfl <;> decide⟩
/-! ### products -/
end
end KN
set_option maxHeartbeats 400000
/-! PJ: the best of many books -/
set_option maxHeartbeats 400000
/-! PK: makers, best_maker; laws of the best -/
set_option maxHeartbeats 400000
/-! PL: all that a book makes -/
namespace KN
open PySem PySem.Spec PyProof.Rows L2
noncomputable section
def nxt (es : List Ev) (c : Tx) : List Tx := (sortT (ks (rowOf (tabOf es) c))).filter fun l => !(l == [])
def grow (es : List Ev) (o : Nat) (ts : List Tx) : List Tx := ts.flatMap fun t => (nxt es (endT o t)).map (t ++ ·)
def paths (es : List Ev) (o : Nat) : Nat → List Tx
  | 0 => [[]]
  | n + 1 => grow es o (paths es o n)
theorem row_mem2 {es : List Ev} {c l : Tx} : l ∈ ks (rowOf (tabOf es) c) ↔ (c, l) ∈ es := by
  have h := (tabOk es).val c l
  constructor
  · intro hl
    have : lk (rowOf (tabOf es) c) l ≠ none := fun z => lk_none.mp z hl
    rw [h] at this
    split at this
    · exact absurd rfl this
    · rename_i z
      exact Decidable.byContradiction fun y => z (List.count_eq_zero.mpr y)
  · intro hl
    refine Decidable.byContradiction fun y => ?_
    have := lk_none.mpr y
    rw [h] at this
    split at this
    · rename_i z; exact List.count_eq_zero.mp z hl
    · cases this
/-- the end may stand behind t -/
def ends (es : List Ev) (o : Nat) (t : Tx) : Bool := decide ((endT o t, []) ∈ es)
def made (es : List Ev) (o n : Nat) : List Tx := sortT ((paths es o n).filter (ends es o))
end
end KN
set_option maxHeartbeats 400000
/-! PM: what is made, by its shares -/
set_option maxHeartbeats 400000
/-! PN: ways: numbers and shares by contexts -/
namespace KN
open PySem PySem.Spec PyProof.Rows L2
noncomputable section
/-! ### no denominator is long -/
def fct : Nat → Nat
  | 0 => 1
  | n + 1 => (n + 1) * fct n
theorem fct_pos : ∀ n, 0 < fct n
  | 0 => by decide
  | n + 1 => Nat.mul_pos (by omega) (fct_pos n)
/-- a share of n steps, summed over m -/
def Fr (n m : Nat) (q : Rat) : Prop := ∃ a : Nat, q = mkRat a (fct 72 ^ n) ∧ a ≤ m * fct 72 ^ n
theorem K_ne (n : Nat) : fct 72 ^ n ≠ 0 := Nat.ne_of_gt (Nat.pow_pos (fct_pos 72))
theorem Fr.one : Fr 0 1 1 := ⟨1, rfl, by simp⟩
theorem Fr.add {n m k : Nat} {p q : Rat} (hp : Fr n m p) (hq : Fr n k q) : Fr n (m + k) (p + q) := by
  obtain ⟨a, rfl, h1⟩ := hp
  obtain ⟨b, rfl, h2⟩ := hq
  refine ⟨a + b, by rw [mk_add (K_ne n), Int.natCast_add], ?_⟩
  rw [Nat.add_mul]; omega
end
end KN
set_option maxHeartbeats 400000
/-! PO: ways, evaluated -/
namespace KN
open PySem PySem.Spec PyProof.Rows L2
noncomputable section
structure Wk (es : List Ev) (o : Nat) (n : D) (γ : Ga) : Prop where
  len : γ.length = 13
  t : At γ 0 (tblD (tabOf es))
  o : At γ 1 (.int o)
  n : At γ 2 n
abbrev Ao' (γ : Ga) (i : Nat) (d : D) : Prop := γ[i]? = some (.ow d)
theorem Wk.set {es : List Ev} {o : Nat} {n : D} {γ : Ga} {s : Sl} {j : Nat} (F : Wk es o n γ) (h1 : 3 ≤ j) : Wk es o n (γ.set j s) :=
  ⟨by simp [F.len], F.t.set (by omega), F.o.set (by omega), F.n.set (by omega)⟩
theorem Ao'.set {γ : Ga} {s : Sl} {i j : Nat} {d : D} (h : Ao' γ i d) (n : j ≠ i) : Ao' (γ.set j s) i d := by
  unfold Ao' at h ⊢
  rw [List.getElem?_set_ne n]; exact h
/-! ### the letters behind a context -/
end
end KN
set_option maxHeartbeats 400000
/-! PP: what ways come to, in plain words -/
namespace KN
open PySem PySem.Spec PyProof.Rows L2
noncomputable section
/-! ### sums -/
/-! ### a sum over contexts -/
/-! ### sizes -/
def FrZ (n : Nat) (v : Int × Rat) : Prop := 0 ≤ v.1 ∧ Fr n v.1.toNat v.2
theorem FrZ.add {n : Nat} {u v : Int × Rat} (hu : FrZ n u) (hv : FrZ n v) : FrZ n (u.1 + v.1, u.2 + v.2) := by
  have h1 := hu.1
  have h2 := hv.1
  refine ⟨by show 0 ≤ u.1 + v.1; omega, ?_⟩
  have : (u.1 + v.1).toNat = u.1.toNat + v.1.toNat := by omega
  show Fr n (u.1 + v.1).toNat _
  rw [this]
  exact hu.2.add hv.2
end
end KN
set_option maxHeartbeats 400000
/-! PQ: ways, evaluated; how_many, share_of_length, lengths -/
set_option maxHeartbeats 400000
/-! PR: how_many, share_of_length, lengths -/
set_option maxHeartbeats 400000
/-! PS: guards; lists of texts; what is made is a name -/
namespace KN
open PySem PySem.Spec PyProof.Rows L2
noncomputable section
section
variable {fe fa fb elt : Ga → R D} {vs : List Nat} {bd : D → Ga → R Ga} {ifs : Ga → R Bool} {f : Ga → R Fl} {γ : Ga} {d : D}
theorem nilE : bLst bNil γ = .ok (.lst []) := by rw [bLst_e, bNil_e]; simp [R.bind]
end
/-! ### lists of texts -/
/-! ### what is made is a name -/
end
end KN
set_option maxHeartbeats 400000
/-! PW: what the laws count themselves -/
set_option maxHeartbeats 400000
/-! PX: the laws' own shares -/
set_option maxHeartbeats 400000
/-! PY: what is a name, a book, of whatever thing; refusals; the laws' own rows -/
namespace KN
open PySem PySem.Spec PyProof.Rows L2
noncomputable section
def ltrB (c : Nat) : Bool := decide (97 ≤ c ∧ c ≤ 122)
def isNameD : D → Bool
  | .str s => decide (1 ≤ s.length) && (decide (s.length ≤ 8) && s.all ltrB)
  | _ => false
def isBookD : D → Bool
  | .tup xs => decide (1 ≤ xs.length) && (decide (xs.length ≤ 8) && xs.all isNameD)
  | _ => false
abbrev LET : Tx := [97, 98, 99, 100, 101, 102, 103, 104, 105, 106, 107, 108, 109, 110, 111, 112, 113, 114, 115, 116, 117, 118, 119, 120, 121, 122]
theorem sub_mem {c : Nat} {t : Tx} (h : subT [c] t = true) : c ∈ t := by
  unfold subT at h
  obtain ⟨i, hi, h⟩ := List.any_eq_true.mp h
  rw [Bool.and_eq_true] at h
  have h2 : (t.drop i).take 1 = [c] := by simpa using h.2
  have : c ∈ (t.drop i).take 1 := by rw [h2]; simp
  exact List.mem_of_mem_drop (List.mem_of_mem_take this)
theorem letterIn (c : Nat) : dInB (.str [c]) (.str LET) = .ok (ltrB c) := by
  by_cases h : 97 ≤ c ∧ c ≤ 122
  · have := letter_in h
    have e : ltrB c = true := decide_eq_true h
    rw [e]
    have : (dInB (.str [c]) (.str LET)).bind (fun b => R.ok (D.bl b)) = .ok (.bl true) := this
    show R.ok (subT [c] LET) = _
    have z : R.ok (D.bl (subT [c] LET)) = .ok (.bl true) := this
    injection z with z
    injection z with z
    rw [z]
  · have e : ltrB c = false := decide_eq_false h
    rw [e]
    show R.ok (subT [c] LET) = _
    cases z : subT [c] LET with
    | false => rfl
    | true =>
      have m := sub_mem z
      have e2 : LET = List.range' 97 26 := by decide
      rw [e2, List.mem_range'_1] at m
      omega
theorem all_bl {α : Type} (f : α → Bool) (l : List α) : dAll [.lst (l.map fun a => D.bl (f a))] = .ok (.bl (l.all f)) := by
  have e : (l.map fun a => D.bl (f a)) = (l.map f).map D.bl := by rw [List.map_map]; rfl
  rw [e]
  show ((o2r (asBls ((l.map f).map D.bl))).bind fun ns => R.ok (D.bl (ns.all id))) = _
  rw [asBls_map, o2r_some]
  show R.ok (D.bl ((l.map f).all id)) = _
  rw [List.all_map]
  rfl
theorem isNameG {d : D} (h : ∀ s, d = .str s → s.length ≤ lim) : g_is_name [d] = .ok (.bl (isNameD d)) := by
  unfold g_is_name
  rw [fnD_e]
  cases d with
  | str s =>
    have hl := h s rfl
    have comp := lcGo_map (bd := bdN 1) (elt := b2 dIn (bVar 1) (bC (.str [97, 98, 99, 100, 101, 102, 103, 104, 105, 106, 107, 108, 109, 110, 111, 112, 113, 114, 115, 116, 117, 118, 119, 120, 121, 122]))) (γ := wipeG [.va (.str s), .un] [1]) (inj := fun c : Nat => D.str [c]) (f := fun c => .bl (ltrB c)) (l := s) fun c hc => ⟨_, rfl, by
      have : dIn (.str [c]) (.str LET) = .ok (.bl (ltrB c)) := by unfold dIn; rw [letterIn]; rfl
      simp [wipeG, this]⟩
    have c2 := lcOut_e comp (by rw [List.length_map]; exact hl)
    have a1 := all_bl ltrB s
    by_cases h1 : (1 : Int) ≤ s.length
    · have h1' : 1 ≤ s.length := by omega
      by_cases h2 : (s.length : Int) ≤ 8
      · have h2' : s.length ≤ 8 := by omega
        simp [m_is_name, bAnd, dIsi, isT, bCh, dLen, hl, h1, h2, h1', h2', bLcE, items, sgn, c2, a1, isNameD]
      · have h2' : ¬ s.length ≤ 8 := by omega
        simp [m_is_name, bAnd, dIsi, isT, bCh, dLen, hl, h1, h2, h1', h2', isNameD]
    · have h1' : ¬ 1 ≤ s.length := by omega
      simp [m_is_name, bAnd, dIsi, isT, bCh, dLen, hl, h1, h1', isNameD]
  | _ => simp [m_is_name, bAnd, dIsi, isT, isNameD]
theorem isBookG {d : D} (h : ∀ xs, d = .tup xs → xs.length ≤ lim ∧ ∀ e ∈ xs, ∀ s, e = .str s → s.length ≤ lim) : g_is_book [d] = .ok (.bl (isBookD d)) := by
  unfold g_is_book
  rw [fnD_e]
  cases d with
  | tup xs =>
    obtain ⟨hl, hc⟩ := h xs rfl
    have comp := lcGo_map (bd := bdN 1) (elt := bCall g_is_name (bCons (bVar 1) (bNil))) (γ := wipeG [.va (.tup xs), .un] [1]) (inj := fun e : D => e) (f := fun e => .bl (isNameD e)) (l := xs) fun e he => ⟨_, rfl, by
      have := isNameG (d := e) fun s hs => hc e he s hs
      simp [wipeG, this]⟩
    rw [List.map_id'] at comp
    have c2 := lcOut_e comp (by rw [List.length_map]; exact hl)
    have a1 := all_bl isNameD xs
    by_cases h1 : (1 : Int) ≤ xs.length
    · have h1' : 1 ≤ xs.length := by omega
      by_cases h2 : (xs.length : Int) ≤ 8
      · have h2' : xs.length ≤ 8 := by omega
        simp [m_is_book, bAnd, dIsi, isT, bCh, h1, h2, h1', h2', bLcE, items, c2, a1, isBookD]
      · have h2' : ¬ xs.length ≤ 8 := by omega
        simp [m_is_book, bAnd, dIsi, isT, bCh, h1, h2, h1', h2', isBookD]
    · have h1' : ¬ 1 ≤ xs.length := by omega
      simp [m_is_book, bAnd, dIsi, isT, bCh, h1, h1', isBookD]
  | _ => simp [m_is_book, bAnd, dIsi, isT, isBookD]
theorem needBook_bad {d : D} (h : g_is_book [d] = .ok (.bl false)) : g_need_book [d] = .ex 0 := by
  unfold g_need_book
  rw [fnD_e]
  simp [m_need_book, h, fRaise]
theorem needName_bad {d : D} (h : g_is_name [d] = .ok (.bl false)) : g_need_name [d] = .ex 2 := by
  unfold g_need_name
  rw [fnD_e]
  simp [m_need_name, h, fRaise]
/-! ### the laws' own rows -/
/-! ### what sorted(row.items()) tells -/
end
end KN
set_option maxHeartbeats 400000
/-! PZ: the laws' own shares, name by name; sums -/
set_option maxHeartbeats 400000
/-! QK: books and tables written -/
namespace KN
open PySem PySem.Spec PyProof.Rows L2
noncomputable section
/-! ### letters with how often -/
def ltx (l : Tx) (n : Nat) : Tx := (if l = [] then [46] else l) ++ TL.numL n
theorem num_len {n : Nat} (h : n < 1000) : (TL.numL n).length ≤ 3 := TL.numL_len (by decide) h
theorem ltx_len {l : Tx} {n : Nat} (hl : l.length ≤ 8) (h : n < 1000) : (ltx l n).length ≤ 11 := by
  have := num_len h
  unfold ltx
  rw [List.length_append]
  split
  · show 1 + _ ≤ _; omega
  · omega
/-! ### joining -/
theorem join_len (s : Tx) : ∀ ts : List Tx, (joinT s ts).length ≤ (ts.map (·.length)).sum + ts.length * s.length
  | [] => Nat.zero_le _
  | [x] => by show x.length ≤ _; simp
  | x :: y :: r => by
    have := join_len s (y :: r)
    show (x ++ (s ++ joinT s (y :: r))).length ≤ _
    rw [List.length_append, List.length_append, List.map_cons, List.sum_cons, List.length_cons, Nat.succ_mul]
    omega
theorem sum_le {m : Nat} : ∀ {ts : List Tx}, (∀ t ∈ ts, t.length ≤ m) → (ts.map (·.length)).sum ≤ ts.length * m
  | [], _ => Nat.zero_le _
  | t :: ts, h => by
    have := sum_le (ts := ts) fun t ht => h t (List.mem_cons_of_mem _ ht)
    have := h t List.mem_cons_self
    rw [List.map_cons, List.sum_cons, List.length_cons, Nat.succ_mul]
    omega
/-! ### books -/
/-! ### cutting -/
/-! ### tables -/
def rowN (es : List Ev) (c : Tx) : List (Tx × Nat) := (sortT (ks (rowOf (tabOf es) c))).map fun l => (l, es.count (c, l))
def wordsN (es : List Ev) (c : Tx) : List Tx := (rowN es c).map fun e => ltx e.1 e.2
def headT (c : Tx) : Tx := if c = [] then [45] else c
def lineT (es : List Ev) (c : Tx) : Tx := headT c ++ [58, 32] ++ joinT [32] (wordsN es c) ++ [10]
def ctxL (es : List Ev) : List Tx := sortT (ks (tabOf es))
structure Sm (es : List Ev) : Prop where
  few : es.length < 64
  ok : ∀ e ∈ es, chs e.1 ∧ e.1.length ≤ 8 ∧ chs e.2 ∧ e.2.length ≤ 8
theorem Sm.row {es : List Ev} (h : Sm es) (c : Tx) : ∀ e ∈ rowN es c, chs e.1 ∧ e.1.length ≤ 8 ∧ e.2 < 64 ∧ 0 < e.2 := fun e he => by
  obtain ⟨l, hl, rfl⟩ := List.mem_map.mp he
  have hm := row_mem2.mp ((sortT_perm _).mem_iff.mp hl)
  have o := h.ok _ hm
  have cl : es.count (c, l) ≤ es.length := List.count_le_length
  have := h.few
  exact ⟨o.2.2.1, o.2.2.2, by show es.count (c, l) < 64; omega, List.count_pos_iff.mpr hm⟩
theorem Sm.rowLen {es : List Ev} (h : Sm es) (c : Tx) : (rowN es c).length < 64 := by
  unfold rowN
  rw [List.length_map, (sortT_perm _).length_eq]
  have : (ks (rowOf (tabOf es) c)).length = (rowOf (tabOf es) c).length := by simp [ks]
  have := (tabOk es).rlen c
  have := h.few
  omega
theorem Sm.ctx {es : List Ev} (h : Sm es) : ∀ c ∈ ctxL es, chs c ∧ c.length ≤ 8 ∧ rowN es c ≠ [] := fun c hc => by
  have hm : c ∈ ks (tabOf es) := (sortT_perm _).mem_iff.mp hc
  have hk : ¬ lk (tabOf es) c = none := fun z => (lk_none.mp z) hm
  rw [(tabOk es).key c] at hk
  obtain ⟨l, hl⟩ : ∃ l, (c, l) ∈ es := Classical.byContradiction fun z => hk fun l hl => z ⟨l, hl⟩
  have o := h.ok _ hl
  refine ⟨o.1, o.2.1, fun z => ?_⟩
  have : l ∈ (sortT (ks (rowOf (tabOf es) c))) := (sortT_perm _).mem_iff.mpr (row_mem2.mpr hl)
  unfold rowN at z
  rw [List.map_eq_nil_iff.mp z] at this
  cases this
theorem Sm.words {es : List Ev} (h : Sm es) (c : Tx) : ∀ t ∈ wordsN es c, t.length ≤ 11 := fun t ht => by
  obtain ⟨e, he, rfl⟩ := List.mem_map.mp ht
  have := h.row c e he
  exact ltx_len this.2.1 (by omega)
theorem Sm.jlen {es : List Ev} (h : Sm es) (c : Tx) : (joinT [32] (wordsN es c)).length ≤ 64 * 12 := by
  have h1 := join_len [32] (wordsN es c)
  have h2 := sum_le (h.words c)
  have h3 : (wordsN es c).length < 64 := by unfold wordsN; rw [List.length_map]; exact h.rowLen c
  simp only [List.length_cons, List.length_nil] at h1
  omega
theorem head_len {c : Tx} (h : c.length ≤ 8) : (headT c).length ≤ 8 := by
  unfold headT; split
  · decide
  · exact h
theorem Sm.line {es : List Ev} (h : Sm es) {c : Tx} (hc : c ∈ ctxL es) : (lineT es c).length ≤ 800 := by
  have h1 := h.jlen c
  have h2 := head_len (h.ctx c hc).2.1
  unfold lineT
  simp only [List.length_append, List.length_cons, List.length_nil]
  omega
end
end KN
set_option maxHeartbeats 400000
/-! QL: a table's text -/
namespace KN
open PySem PySem.Spec PyProof.Rows L2
noncomputable section
def tt2b1 : Ga → R Fl := fOwn 5 (bLcE (bVar 4) [6, 7] (bdT [6, 7]) yes (bCall g_letter_text (bCons (bVar 6) (bCons (bVar 7) bNil))))
def tt2b2 : Ga → R Fl := fApp 2 (b2 dAdd (b2 dAdd (b2 dAdd (bIf (tVal (b2 dNe (bVar 3) (bC (.str [])))) (bVar 3) (bC (.str [45]))) (bC (.str [58, 32]))) (b2s dJoin (bC (.str [32])) (bRd 5))) (bC (.str [10])))
def tt2b : Ga → R Fl := fSeq tt2b1 (tt2b2)
def tt2 : Ga → R Fl := fForE (bCall g_table (bCons (bVar 0) (bCons (bVar 1) bNil))) (bdT [3, 4]) tt2b
def tt : Ga → R Fl := fSeq (fOwn 2 (bLst bNil)) (fSeq tt2 ((fRet (b2s dJoin (bC (.str [])) (bRd 2)))))
theorem fApp_e {γ : Ga} {i : Nat} {xs : List D} {fe : Ga → R D} {d : D} (h : γ[i]? = some (.ow (.lst xs))) (h2 : fe γ = .ok d) (hl : xs.length < lim) : fApp i fe γ = .ok (.nx (γ.set i (.ow (.lst (xs ++ [d]))))) := by
  unfold fApp owL
  rw [h]
  simp only [h2, R.bind, hl, if_true]
end
end KN
set_option maxHeartbeats 400000
/-! QM: wishes -/
namespace KN
open PySem PySem.Spec PyProof.Rows L2
noncomputable section
structure Wi where
  lo : Nat
  hi : Nat
  hd : Tx
  tl : Tx
  bar : List Tx
  told : Bool
def wiD (w : Wi) : D := .tup [.int (w.lo : Nat), .int (w.hi : Nat), .str w.hd, .str w.tl, .tup (w.bar.map .str), .bl w.told]
def endOk (t : Tx) : Prop := t.length ≤ 3 ∧ ∀ c ∈ t, 97 ≤ c ∧ c ≤ 122
structure WiOk (w : Wi) : Prop where
  lo1 : 1 ≤ w.lo
  lh : w.lo ≤ w.hi
  hi8 : w.hi ≤ 8
  hd : endOk w.hd
  tl : endOk w.tl
  few : w.bar.length ≤ 6
  names : ∀ x ∈ w.bar, nameOk x
  up : w.bar.Pairwise (· < ·)
theorem endOk.chs {t : Tx} (h : endOk t) : chs t := fun c hc => by have := (h.2 c hc).2; omega
theorem is_end_ok {t : Tx} (h : endOk t) : g_is_end [.str t] = .ok (.bl true) := by
  have ll : dLen [.str t] = .ok (.int (t.length : Nat)) := by
    show (if t.length ≤ lim then R.ok (D.int (t.length : Nat)) else .no) = _
    rw [if_pos (by have := h.1; rw [lim_val]; omega)]
  have le : dLe (.int (t.length : Nat)) (.int 3) = .ok (.bl true) := by
    show R.ok (D.bl (decide _)) = _
    rw [decide_eq_true (by have := h.1; omega)]
  have comp := lcGo_map (bd := bdN 1) (elt := b2 dIn (bVar 1) (bC (.str LET))) (γ := wipeG [.va (.str t), .un] [1]) (inj := fun c : Nat => D.str [c]) (f := fun _ => .bl true) (l := t) fun c hc => ⟨_, rfl, by
    have := letter_in (h.2 c hc)
    simp [wipeG]
    exact this⟩
  have cl := lcE_e (fe := bVar 0) (γ := [.va (.str t), .un]) (d := .str t) rfl rfl comp (by rw [List.length_map, lim_val]; have := h.1; omega)
  have al : dAll [.lst (t.map fun _ => D.bl true)] = .ok (.bl true) := by
    have := all_bl (fun _ : Nat => true) t
    have e : (t.all fun _ => true) = true := by simp
    rw [e] at this
    exact this
  have i1 : dIsi .str (.str t) = .ok (.bl true) := rfl
  unfold g_is_end
  refine fn_rt ?_
  show fRet _ [.va (.str t), .un] = _
  refine ret_e ?_
  have e3 : bN dAll (bCons (bLcE (bVar 0) [1] (bdN 1) yes (b2 dIn (bVar 1) (bC (.str LET)))) bNil) [.va (.str t), .un] = .ok (.bl true) := by
    rw [bN_e, bCons_e, cl, bNil_e]
    exact al
  show bAnd _ (bAnd _ (bN dAll (bCons (bLcE (bVar 0) [1] (bdN 1) yes (b2 dIn (bVar 1) (bC (.str LET)))) bNil))) [.va (.str t), .un] = _
  generalize bN dAll (bCons (bLcE (bVar 0) [1] (bdN 1) yes (b2 dIn (bVar 1) (bC (.str LET)))) bNil) = A at *
  simp [bAnd, i1, ll, le, e3]
section
variable {w : Wi}
theorem wi0 : dIx (wiD w) (.int 0) = .ok (.int (w.lo : Nat)) := rfl
theorem wi1 : dIx (wiD w) (.int 1) = .ok (.int (w.hi : Nat)) := rfl
theorem wi2 : dIx (wiD w) (.int 2) = .ok (.str w.hd) := rfl
theorem wi3 : dIx (wiD w) (.int 3) = .ok (.str w.tl) := rfl
theorem wi4 : dIx (wiD w) (.int 4) = .ok (.tup (w.bar.map .str)) := rfl
theorem wi5 : dIx (wiD w) (.int 5) = .ok (.bl w.told) := rfl
end
def isw1 : Ga → R Fl := fIf (tOr (tNot (tVal (b1 (dIsi .tup) (bVar 0)))) (tOr (tVal (b2 dNe (bN dLen (bCons (bVar 0) (bNil))) (bC (.int 6)))) (tNot (tVal (bCall g_is_number (bCons (b2 dIx (bVar 0) (bC (.int 0))) (bCons (bC (.int 1)) (bCons (bC (.int 8)) (bNil))))))))) (fRet (bC (.bl false))) (fNil)
def isw2 : Ga → R Fl := fIf (tOr (tNot (tVal (bCall g_is_number (bCons (b2 dIx (bVar 0) (bC (.int 1))) (bCons (b2 dIx (bVar 0) (bC (.int 0))) (bCons (bC (.int 8)) (bNil))))))) (tOr (tNot (tVal (bCall g_is_end (bCons (b2 dIx (bVar 0) (bC (.int 2))) (bNil))))) (tNot (tVal (bCall g_is_end (bCons (b2 dIx (bVar 0) (bC (.int 3))) (bNil))))))) (fRet (bC (.bl false))) (fNil)
def isw3 : Ga → R Fl := fIf (tOr (tNot (tVal (b1 (dIsi .tup) (b2 dIx (bVar 0) (bC (.int 4)))))) (tOr (tVal (b2 dGt (bN dLen (bCons (b2 dIx (bVar 0) (bC (.int 4))) (bNil))) (bC (.int 6)))) (tNot (tVal (bN dAll (bCons (bLcE (b2 dIx (bVar 0) (bC (.int 4))) [1] (bdN 1) yes (bCall g_is_name (bCons (bVar 1) (bNil)))) (bNil))))))) (fRet (bC (.bl false))) (fNil)
def isw4 : Ga → R Fl := fRet (bAnd (bN dAll (bCons (bLcI (iZpA (b2 dIx (bVar 0) (bC (.int 4))) (bSl (b2 dIx (bVar 0) (bC (.int 4))) (pSo (bC (.int 1))) (pNo))) [1, 2] (bdT [1, 2]) yes (b2 dLt (bVar 1) (bVar 2))) (bNil))) (b1 (dIsi .bool) (b2 dIx (bVar 0) (bC (.int 5)))))
theorem m_is_wish_e : m_is_wish = fSeq isw1 (fSeq isw2 (fSeq isw3 isw4)) := rfl
theorem is_wish_ok {w : Wi} (h : WiOk w) : g_is_wish [wiD w] = .ok (.bl true) := by
  have n0 := isNumber_ok (i := (w.lo : Nat)) (lo := 1) (hi := 8)
  rw [decide_eq_true (by have := h.lo1; have := h.lh; have := h.hi8; omega)] at n0
  have n1 := isNumber_ok (i := (w.hi : Nat)) (lo := (w.lo : Nat)) (hi := 8)
  rw [decide_eq_true (by have := h.lh; have := h.hi8; omega)] at n1
  have e2 := is_end_ok h.hd
  have e3 := is_end_ok h.tl
  have i0 := wi0 (w := w)
  have i1 := wi1 (w := w)
  have i2 := wi2 (w := w)
  have i3 := wi3 (w := w)
  have i4 := wi4 (w := w)
  have i5 := wi5 (w := w)
  have t0 : dIsi .tup (wiD w) = .ok (.bl true) := rfl
  have l0 : dLen [wiD w] = .ok (.int 6) := rfl
  have t4 : dIsi .tup (.tup (w.bar.map .str)) = .ok (.bl true) := rfl
  have l4 : dLen [.tup (w.bar.map .str)] = .ok (.int (w.bar.length : Nat)) := by
    show R.ok (D.int _) = _
    rw [List.length_map]
  have g4 : dGt (.int (w.bar.length : Nat)) (.int 6) = .ok (.bl false) := by
    show R.ok (D.bl (decide _)) = _
    rw [decide_eq_false (by have := h.few; omega)]
  have n6 : dNe (.int 6) (.int 6) = .ok (.bl false) := rfl
  have b5 : dIsi .bool (.bl w.told) = .ok (.bl true) := rfl
  have comp := lcGo_map (bd := bdN 1) (elt := bCall g_is_name (bCons (bVar 1) (bNil))) (γ := wipeG [.va (wiD w), .un, .un] [1]) (inj := D.str) (f := fun _ => .bl true) (l := w.bar) fun x hx => ⟨_, rfl, by
    have := isName_ok (h.names x hx)
    generalize wiD w = WD at *
    simp [wipeG, this]⟩
  have cl := lcE_e (fe := b2 dIx (bVar 0) (bC (.int 4))) (γ := [.va (wiD w), .un, .un]) (d := .tup (w.bar.map .str)) rfl rfl comp (by rw [List.length_map, lim_val]; have := h.few; omega)
  have al : bN dAll (bCons (bLcE (b2 dIx (bVar 0) (bC (.int 4))) [1] (bdN 1) yes (bCall g_is_name (bCons (bVar 1) (bNil)))) (bNil)) [.va (wiD w), .un, .un] = .ok (.bl true) := by
    rw [bN_e, bCons_e, cl, bNil_e]
    have := all_bl (fun _ : Tx => true) w.bar
    have e : (w.bar.all fun _ => true) = true := by simp
    rw [e] at this
    exact this
  have k1 : isw1 [.va (wiD w), .un, .un] = .ok (.nx [.va (wiD w), .un, .un]) := by
    refine if_f ?_
    generalize wiD w = WD at *
    simp [t0, l0, n6, i0, n0]
  have k2 : isw2 [.va (wiD w), .un, .un] = .ok (.nx [.va (wiD w), .un, .un]) := by
    refine if_f ?_
    generalize wiD w = WD at *
    simp [i0, i1, n1, i2, e2, i3, e3]
  have k3 : isw3 [.va (wiD w), .un, .un] = .ok (.nx [.va (wiD w), .un, .un]) := by
    refine if_f ?_
    generalize bN dAll (bCons (bLcE (b2 dIx (bVar 0) (bC (.int 4))) [1] (bdN 1) yes (bCall g_is_name (bCons (bVar 1) (bNil)))) (bNil)) = A at *
    generalize wiD w = WD at *
    generalize D.tup (w.bar.map .str) = BT at *
    simp [i4, t4, l4, g4, al]
  have sl : dSl (.tup (w.bar.map .str)) (some 1) none = .ok (.tup ((w.bar.drop 1).map .str)) := by
    show R.ok (D.tup (cutL (w.bar.map D.str) (some ((1 : Nat) : Int)) none)) = _
    rw [cut_from, List.map_drop]
  have zi : zipA (.tup (w.bar.map .str)) (.tup ((w.bar.drop 1).map .str)) = .ok ((w.bar.zip (w.bar.drop 1)).map fun p => D.tup [.str p.1, .str p.2]) := by
    show R.ok (zipD _ _) = _
    unfold zipD
    rw [List.zip_map, List.map_map]; rfl
  have ez : iZpA (b2 dIx (bVar 0) (bC (.int 4))) (bSl (b2 dIx (bVar 0) (bC (.int 4))) (pSo (bC (.int 1))) (pNo)) [.va (wiD w), .un, .un] = .ok ((w.bar.zip (w.bar.drop 1)).map fun p => D.tup [.str p.1, .str p.2]) := by
    unfold iZpA
    generalize wiD w = WD at *
    generalize ((w.bar.zip (w.bar.drop 1)).map fun p => D.tup [.str p.1, .str p.2]) = ZL at *
    generalize D.tup ((w.bar.drop 1).map .str) = B1 at *
    generalize D.tup (w.bar.map .str) = BT at *
    simp [i4, bSl, pSo, pNo, toI, sl, zi]
  have up : ∀ p ∈ w.bar.zip (w.bar.drop 1), p.1 < p.2 := fun p hp => by
    obtain ⟨i, hi⟩ := List.mem_iff_getElem?.mp hp
    rw [List.getElem?_zip_eq_some] at hi
    obtain ⟨h1, h2⟩ := hi
    rw [List.getElem?_drop] at h2
    obtain ⟨l1, e1⟩ := List.getElem?_eq_some_iff.mp h1
    obtain ⟨l2, e2⟩ := List.getElem?_eq_some_iff.mp h2
    rw [← e1, ← e2]
    exact List.pairwise_iff_getElem.mp h.up i (1 + i) l1 l2 (by omega)
  have comp2 := lcGo_map (bd := bdT [1, 2]) (elt := b2 dLt (bVar 1) (bVar 2)) (γ := wipeG [.va (wiD w), .un, .un] [1, 2]) (inj := fun p : Tx × Tx => D.tup [.str p.1, .str p.2]) (f := fun _ => .bl true) (l := w.bar.zip (w.bar.drop 1)) fun p hp => ⟨[.va (wiD w), .va (.str p.1), .va (.str p.2)], rfl, by
    have := up p hp
    show R.ok (D.bl (decide (p.1 < p.2))) = _
    rw [decide_eq_true this]⟩
  have co : bLcI (iZpA (b2 dIx (bVar 0) (bC (.int 4))) (bSl (b2 dIx (bVar 0) (bC (.int 4))) (pSo (bC (.int 1))) (pNo))) [1, 2] (bdT [1, 2]) yes (b2 dLt (bVar 1) (bVar 2)) [.va (wiD w), .un, .un] = .ok (.lst ((w.bar.zip (w.bar.drop 1)).map fun _ => D.bl true)) := by
    unfold bLcI
    rw [ez]
    refine lcOut_e comp2 ?_
    rw [List.length_map, List.length_zip, lim_val]
    have := h.few
    omega
  have al2 : bN dAll (bCons (bLcI (iZpA (b2 dIx (bVar 0) (bC (.int 4))) (bSl (b2 dIx (bVar 0) (bC (.int 4))) (pSo (bC (.int 1))) (pNo))) [1, 2] (bdT [1, 2]) yes (b2 dLt (bVar 1) (bVar 2))) (bNil)) [.va (wiD w), .un, .un] = .ok (.bl true) := by
    rw [bN_e, bCons_e, co, bNil_e]
    have := all_bl (fun _ : Tx × Tx => true) (w.bar.zip (w.bar.drop 1))
    have e : ((w.bar.zip (w.bar.drop 1)).all fun _ => true) = true := by simp
    rw [e] at this
    exact this
  unfold g_is_wish
  refine fn_rt ?_
  rw [m_is_wish_e]
  show fSeq _ _ [.va (wiD w), .un, .un] = _
  rw [seq_nx k1, seq_nx k2, seq_nx k3]
  unfold isw4
  refine ret_e ?_
  generalize bN dAll (bCons (bLcI (iZpA (b2 dIx (bVar 0) (bC (.int 4))) (bSl (b2 dIx (bVar 0) (bC (.int 4))) (pSo (bC (.int 1))) (pNo))) [1, 2] (bdT [1, 2]) yes (b2 dLt (bVar 1) (bVar 2))) (bNil)) = A at *
  generalize wiD w = WD at *
  simp [bAnd, al2, i5, b5]
theorem needWish_ok {w : Wi} (h : WiOk w) : g_need_wish [wiD w] = .ok .non := by
  have i := is_wish_ok h
  unfold g_need_wish
  rw [fnD_e]
  generalize wiD w = WD at *
  simp [m_need_wish, i]
theorem needWish_bad {d : D} (h : g_is_wish [d] = .ok (.bl false)) : g_need_wish [d] = .ex 3 := by
  unfold g_need_wish
  rw [fnD_e]
  simp [m_need_wish, h, fRaise]
/-! ### which names are wanted -/
def fitP (b : List Tx) (w : Wi) (x : Tx) : Bool := decide (w.lo ≤ x.length ∧ x.length ≤ w.hi) && (decide (w.hd.length ≤ x.length) && (x.take w.hd.length == w.hd)) && (decide (w.tl.length ≤ x.length) && (x.drop (x.length - w.tl.length) == w.tl)) && !(w.bar.contains x) && (w.told || !(b.contains x))
theorem in_txs {x : Tx} {l : List Tx} (hx : chs x) (hl : ∀ y ∈ l, chs y) : dInB (.str x) (.tup (l.map .str)) = .ok (l.contains x) := by
  have f1 : flatD (.str x) = true := by show x.all (· < 0x110000) = true; exact hx.all
  have f2 : (l.map D.str).all flatD = true := by
    rw [List.all_eq_true]
    intro d hd
    obtain ⟨y, hy, rfl⟩ := List.mem_map.mp hd
    show y.all (· < 0x110000) = true
    exact (hl y hy).all
  have e : ((l.map D.str).any fun z => eqv 20 z (.str x)) = l.contains x := by
    rw [List.any_map, Bool.eq_iff_iff, List.any_eq_true]
    simp only [Function.comp, eqv_str, beq_iff_eq, List.contains_iff_mem]
    exact ⟨fun ⟨y, hy, e⟩ => e ▸ hy, fun h => ⟨x, h, rfl⟩⟩
  show (if flatD (.str x) = true ∧ (l.map D.str).all flatD = true then R.ok ((l.map D.str).any fun z => eqv 20 z (.str x)) else R.no) = _
  rw [if_pos ⟨f1, f2⟩, e]
theorem len_str {x : Tx} (h : x.length ≤ lim) : dLen [.str x] = .ok (.int (x.length : Nat)) := by
  show (if x.length ≤ lim then R.ok (D.int (x.length : Nat)) else .no) = _
  rw [if_pos h]
section
variable {b : List Tx} {w : Wi} {x : Tx}
theorem is_fit_ok (hb : bookOk b) (hw : WiOk w) (hx : chs x) (hl : x.length ≤ 1000) : g_is_fit [bkD b, wiD w, .str x] = .ok (.bl (fitP b w x)) := by
  have ll := len_str (x := x) (by rw [lim_val]; omega)
  have n1 : dNotIn (.str x) (.tup (w.bar.map .str)) = .ok (.bl (!(w.bar.contains x))) := by
    unfold dNotIn; rw [in_txs hx fun y hy => (hw.names y hy).chs]; rfl
  have n2 : dNotIn (.str x) (bkD b) = .ok (.bl (!(b.contains x))) := by
    unfold dNotIn bkD; rw [in_txs hx fun y hy => (hb.2.2 y hy).chs]; rfl
  have s1 : dSw x (.str w.hd) = .ok (.bl (decide (w.hd.length ≤ x.length) && (x.take w.hd.length == w.hd))) := rfl
  have s2 : dEw x (.str w.tl) = .ok (.bl (decide (w.tl.length ≤ x.length) && (x.drop (x.length - w.tl.length) == w.tl))) := rfl
  have c1 : dLe (.int (w.lo : Nat)) (.int (x.length : Nat)) = .ok (.bl (decide (w.lo ≤ x.length))) := by
    show R.ok (D.bl (decide _)) = _
    congr 2; rw [decide_eq_decide]; omega
  have c2 : dLe (.int (x.length : Nat)) (.int (w.hi : Nat)) = .ok (.bl (decide (x.length ≤ w.hi))) := by
    show R.ok (D.bl (decide _)) = _
    congr 2; rw [decide_eq_decide]; omega
  have bd : fBd (bdT [3, 4, 5, 6, 7, 8]) (bVar 1) [.va (bkD b), .va (wiD w), .va (.str x), .un, .un, .un, .un, .un, .un] = .ok (.nx [.va (bkD b), .va (wiD w), .va (.str x), .va (.int (w.lo : Nat)), .va (.int (w.hi : Nat)), .va (.str w.hd), .va (.str w.tl), .va (.tup (w.bar.map .str)), .va (.bl w.told)]) := rfl
  unfold g_is_fit
  rw [fnD_e]
  show (match m_is_fit [.va (bkD b), .va (wiD w), .va (.str x), .un, .un, .un, .un, .un, .un] with
    | R.ok (Fl.rt d) => R.ok d
    | R.ok (Fl.nx γ) => R.ok D.non
    | R.ex c => R.ex c
    | x => R.no) = _
  unfold m_is_fit fitP
  rw [seq_nx bd]
  generalize (decide (w.hd.length ≤ x.length) && (x.take w.hd.length == w.hd)) = p1 at *
  generalize (decide (w.tl.length ≤ x.length) && (x.drop (x.length - w.tl.length) == w.tl)) = p2 at *
  generalize w.bar.contains x = p3 at *
  generalize b.contains x = p4 at *
  generalize bkD b = B at *
  generalize wiD w = WD at *
  generalize w.bar.map D.str = BR at *
  generalize ((x.length : Nat) : Int) = xl at *
  generalize ((w.lo : Nat) : Int) = lo at *
  generalize ((w.hi : Nat) : Int) = hi at *
  generalize w.told = td at *
  by_cases z1 : w.lo ≤ x.length
  · rw [decide_eq_true z1] at c1
    by_cases z2 : x.length ≤ w.hi
    · rw [decide_eq_true z2] at c2
      rw [decide_eq_true ⟨z1, z2⟩]
      cases p1 <;> cases p2 <;> cases p3 <;> cases td <;> simp [bCh, ll, c1, c2, b2s, s1, s2, n1, n2, bAnd, bOr]
    · rw [decide_eq_false z2] at c2
      rw [decide_eq_false (fun h => z2 h.2)]
      simp [bCh, ll, c1, c2]
  · rw [decide_eq_false z1] at c1
    rw [decide_eq_false (fun h => z1 h.1)]
    simp [bCh, ll, c1]
theorem fits_ok (hb : bookOk b) (hw : WiOk w) (hx : nameOk x) : g_fits [bkD b, wiD w, .str x] = .ok (.bl (fitP b w x)) := by
  have f := is_fit_ok hb hw hx.chs (by have := hx.2.1; omega)
  have n1 := needBook_ok hb
  have n2 := needWish_ok hw
  have n3 := needName_ok hx
  unfold g_fits
  rw [fnD_e]
  generalize fitP b w x = p at *
  generalize bkD b = B at *
  generalize wiD w = WD at *
  simp [m_fits, n1, n2, n3, f]
theorem law_fits_ok (hb : bookOk b) (hw : WiOk w) (hx : chs x) (hl : x.length ≤ 1000) : g__law_fits [bkD b, wiD w, .str x] = .ok (.bl (fitP b w x)) := by
  have ll := len_str (x := x) (by rw [lim_val]; omega)
  have lx : x.length ≤ lim := by rw [lim_val]; omega
  have h1 := len_str (x := w.hd) (by rw [lim_val]; have := hw.hd.1; omega)
  have h2 := len_str (x := w.tl) (by rw [lim_val]; have := hw.tl.1; omega)
  have n1 : dIn (.str x) (.tup (w.bar.map .str)) = .ok (.bl (w.bar.contains x)) := by
    unfold dIn; rw [in_txs hx fun y hy => (hw.names y hy).chs]; rfl
  have n2 : dNotIn (.str x) (bkD b) = .ok (.bl (!(b.contains x))) := by
    unfold dNotIn bkD; rw [in_txs hx fun y hy => (hb.2.2 y hy).chs]; rfl
  have c1 : dLe (.int (w.lo : Nat)) (.int (x.length : Nat)) = .ok (.bl (decide (w.lo ≤ x.length))) := by
    show R.ok (D.bl (decide _)) = _
    congr 2; rw [decide_eq_decide]; omega
  have c2 : dLe (.int (x.length : Nat)) (.int (w.hi : Nat)) = .ok (.bl (decide (x.length ≤ w.hi))) := by
    show R.ok (D.bl (decide _)) = _
    congr 2; rw [decide_eq_decide]; omega
  have t1 : dSl (.str x) none (some (w.hd.length : Nat)) = .ok (.str (x.take w.hd.length)) := by
    show (if x.length ≤ lim then R.ok (D.str (cutL x none (some ((w.hd.length : Nat) : Int)))) else .no) = _
    rw [if_pos lx, cut_to]
  have mx : dMax [.int 0, .int ((x.length : Nat) - (w.tl.length : Nat))] = .ok (.int ((x.length - w.tl.length : Nat) : Int)) := by
    show R.ok (D.int (max 0 _)) = _
    congr 2; omega
  have t2 : dSl (.str x) (some ((x.length - w.tl.length : Nat) : Int)) none = .ok (.str (x.drop (x.length - w.tl.length))) := by
    show (if x.length ≤ lim then R.ok (D.str (cutL x (some ((x.length - w.tl.length : Nat) : Int)) none)) else .no) = _
    rw [if_pos lx, cut_from]
  have d1 : dNe (.str (x.take w.hd.length)) (.str w.hd) = .ok (.bl (!(x.take w.hd.length == w.hd))) := by
    rw [dNe_p (by rw [pl_str]; exact (show chs _ from fun c hc => hx c (List.mem_of_mem_take hc)).all) (by rw [pl_str]; exact hw.hd.chs.all), eqv_str]
  have d2 : dNe (.str (x.drop (x.length - w.tl.length))) (.str w.tl) = .ok (.bl (!(x.drop (x.length - w.tl.length) == w.tl))) := by
    rw [dNe_p (by rw [pl_str]; exact (show chs _ from fun c hc => hx c (List.mem_of_mem_drop hc)).all) (by rw [pl_str]; exact hw.tl.chs.all), eqv_str]
  have p1 : (decide (w.hd.length ≤ x.length) && (x.take w.hd.length == w.hd)) = (x.take w.hd.length == w.hd) := by
    cases z : (x.take w.hd.length == w.hd) with
    | false => rw [Bool.and_false]
    | true =>
      have := congrArg List.length (eq_of_beq z)
      rw [List.length_take] at this
      rw [decide_eq_true (by omega)]; rfl
  have p2 : (decide (w.tl.length ≤ x.length) && (x.drop (x.length - w.tl.length) == w.tl)) = (x.drop (x.length - w.tl.length) == w.tl) := by
    cases z : (x.drop (x.length - w.tl.length) == w.tl) with
    | false => rw [Bool.and_false]
    | true =>
      have := congrArg List.length (eq_of_beq z)
      rw [List.length_drop] at this
      rw [decide_eq_true (by omega)]; rfl
  have i0 := wi0 (w := w)
  have i1 := wi1 (w := w)
  have i2 := wi2 (w := w)
  have i3 := wi3 (w := w)
  have i4 := wi4 (w := w)
  have i5 := wi5 (w := w)
  unfold g__law_fits
  rw [fnD_e]
  show (match m__law_fits [.va (bkD b), .va (wiD w), .va (.str x)] with
    | R.ok (Fl.rt d) => R.ok d
    | R.ok (Fl.nx γ) => R.ok D.non
    | R.ex c => R.ex c
    | x => R.no) = _
  unfold fitP
  rw [p1, p2]
  unfold m__law_fits
  generalize (x.take w.hd.length == w.hd) = q1 at *
  generalize (x.drop (x.length - w.tl.length) == w.tl) = q2 at *
  generalize w.bar.contains x = q3 at *
  generalize b.contains x = q4 at *
  generalize x.take w.hd.length = XT at *
  generalize x.drop (x.length - w.tl.length) = XD at *
  generalize ((x.length - w.tl.length : Nat) : Int) = df at *
  generalize bkD b = B at *
  generalize wiD w = WD at *
  generalize D.tup (w.bar.map .str) = BR at *
  generalize ((w.lo : Nat) : Int) = lo at *
  generalize ((w.hi : Nat) : Int) = hi at *
  generalize ((w.hd.length : Nat) : Int) = hl1 at *
  generalize ((w.tl.length : Nat) : Int) = tl1 at *
  generalize w.told = td at *
  by_cases z1 : w.lo ≤ x.length
  · rw [decide_eq_true z1] at c1
    by_cases z2 : x.length ≤ w.hi
    · rw [decide_eq_true z2] at c2
      rw [decide_eq_true ⟨z1, z2⟩]
      generalize ((x.length : Nat) : Int) = xl at *
      cases q1 <;> cases q2 <;> cases q3 <;> cases td <;> simp [bCh, bSl, pNo, pSo, toI, ll, c1, c2, i0, i1, i2, i3, i4, i5, h1, h2, t1, t2, mx, d1, d2, n1, n2, bOr]
    · rw [decide_eq_false z2] at c2
      rw [decide_eq_false (fun h => z2 h.2)]
      generalize ((x.length : Nat) : Int) = xl at *
      simp [bCh, ll, c1, c2, i0, i1]
  · rw [decide_eq_false z1] at c1
    rw [decide_eq_false (fun h => z1 h.1)]
    generalize ((x.length : Nat) : Int) = xl at *
    simp [bCh, ll, c1, i0, i1]
end
end
end KN
set_option maxHeartbeats 400000
/-! QN: the laws' own wishes -/
namespace KN
open PySem PySem.Spec PyProof.Rows L2
noncomputable section
def barN : List Tx := [[97], [97, 97], [97, 98], [98], [98, 97], [122]]
def endN : List Tx := [[], [], [97], [98], [97, 98], [97, 98, 97], [122]]
def lwL : Ga → R Fl := fIf (tVal (b2 dEq (bCall g__law_drawn (bCons (bVar 0) (bCons (b2 dAdd (b2 dAdd (bVar 1) (bC (.int 4))) (bVar 7)) (bCons (bC (.int 3)) (bNil))))) (bC (.int 0)))) (fApp 5 (bVar 8)) (fNil)
def lwE : Ga → R D := bLst (bCons (bC (.str [])) (bCons (bC (.str [])) (bCons (bC (.str [97])) (bCons (bC (.str [98])) (bCons (bC (.str [97, 98])) (bCons (bC (.str [97, 98, 97])) (bCons (bC (.str [122])) (bNil))))))))
def lwN : Ga → R D := bLst (bCons (bC (.str [97])) (bCons (bC (.str [97, 97])) (bCons (bC (.str [97, 98])) (bCons (bC (.str [98])) (bCons (bC (.str [98, 97])) (bCons (bC (.str [122])) (bNil)))))))
def lwR : Ga → R Fl := fRet (bTup (bCons (bVar 2) (bCons (bVar 3) (bCons (bVar 6) (bCons (b2 dIx (bVar 4) (bCall g__law_drawn (bCons (bVar 0) (bCons (b2 dAdd (bVar 1) (bC (.int 3))) (bCons (bC (.int 7)) (bNil)))))) (bCons (bN dTuple (bCons (bRd 5) (bNil))) (bCons (b2 dEq (bCall g__law_drawn (bCons (bVar 0) (bCons (b2 dAdd (bVar 1) (bC (.int 10))) (bCons (bC (.int 2)) (bNil))))) (bC (.int 0))) (bNil))))))))
def lw1 : Ga → R Fl := fSet 2 (b2 dAdd (bC (.int 1)) (bCall g__law_drawn (bCons (bVar 0) (bCons (bVar 1) (bCons (bC (.int 3)) (bNil))))))
def lw2 : Ga → R Fl := fSet 3 (b2 dAdd (bVar 2) (bCall g__law_drawn (bCons (bVar 0) (bCons (b2 dAdd (bVar 1) (bC (.int 1))) (bCons (b2 dSub (bC (.int 5)) (bVar 2)) (bNil))))))
def lw6 : Ga → R Fl := fSet 6 (b2 dIx (bVar 4) (bCall g__law_drawn (bCons (bVar 0) (bCons (b2 dAdd (bVar 1) (bC (.int 2))) (bCons (bC (.int 7)) (bNil))))))
theorem m__law_wish_e : m__law_wish = fSeq lw1 (fSeq lw2 (fSeq (fSet 4 lwE) (fSeq (fOwn 5 (bLst (bNil))) (fSeq (fForI (iEn lwN) (bdT [7, 8]) lwL) (fSeq lw6 lwR))))) := rfl
theorem endN_ok : ∀ t ∈ endN, endOk t := fun t ht => by
  simp only [endN, List.mem_cons, List.not_mem_nil, or_false] at ht
  rcases ht with rfl | rfl | rfl | rfl | rfl | rfl | rfl <;> exact ⟨by decide, by decide⟩
theorem barN_ok : ∀ t ∈ barN, nameOk t := fun t ht => by
  simp only [barN, List.mem_cons, List.not_mem_nil, or_false] at ht
  rcases ht with rfl | rfl | rfl | rfl | rfl | rfl <;> exact ⟨by decide, by decide, by decide⟩
theorem barN_up : barN.Pairwise (· < ·) := by decide
theorem law_wish_ok {ns : List Int} (hns : ns.length ≤ 63) {k : Int} (h0 : 0 ≤ k) (h1 : k < 2 ^ 40) : ∃ w : Wi, WiOk w ∧ w.hi ≤ 4 ∧ g__law_wish [Lk ns, .int k] = .ok (wiD w) := by
  obtain ⟨a1, a2, a3⟩ := drawn_ok hns (k := k) (m := 3) h0 (by omega) (by decide)
  obtain ⟨lo, hlo⟩ : ∃ n : Nat, (1 : Int) + drawnF ns k 3 = n := ⟨(1 + drawnF ns k 3).toNat, by omega⟩
  generalize drawnF ns k 3 = va at *
  obtain ⟨b1', b2', b3'⟩ := drawn_ok hns (k := k + 1) (m := 5 - (lo : Nat)) (by omega) (by omega) (by omega)
  obtain ⟨hi, hhi⟩ : ∃ n : Nat, (lo : Int) + drawnF ns (k + 1) (5 - (lo : Nat)) = n := ⟨(lo + drawnF ns (k + 1) (5 - (lo : Nat))).toNat, by omega⟩
  generalize drawnF ns (k + 1) (5 - (lo : Nat)) = vb at *
  obtain ⟨c1, c2, c3⟩ := drawn_ok hns (k := k + 2) (m := 7) (by omega) (by omega) (by decide)
  generalize drawnF ns (k + 2) 7 = vc at *
  obtain ⟨e1, e2, e3⟩ := drawn_ok hns (k := k + 3) (m := 7) (by omega) (by omega) (by decide)
  generalize drawnF ns (k + 3) 7 = ve at *
  obtain ⟨f1, f2, f3⟩ := drawn_ok hns (k := k + 10) (m := 2) (by omega) (by omega) (by decide)
  generalize drawnF ns (k + 10) 2 = vf at *
  have ixE : ∀ j : Int, 0 ≤ j → j < 7 → ∃ t ∈ endN, dIx (.lst (endN.map .str)) (.int j) = .ok (.str t) := fun j j0 j7 => by
    obtain ⟨n, rfl⟩ : ∃ n : Nat, j = n := ⟨j.toNat, by omega⟩
    have hn : n < endN.length := by show n < 7; omega
    refine ⟨endN[n], List.getElem_mem hn, ?_⟩
    show o2r (L2.atI (endN.map D.str) (n : Int)) = _
    rw [L2.atI_nat (v := .str endN[n]) (by rw [List.getElem?_map, List.getElem?_eq_getElem hn]; rfl)]; rfl
  obtain ⟨hd, hhd, ihd⟩ := ixE vc c2 (by omega)
  obtain ⟨tl, htl, itl⟩ := ixE ve e2 (by omega)
  let p : Tx × Nat → Bool := fun q => drawnF ns (k + 4 + (q.2 : Nat)) 3 == 0
  let bar := (barN.zipIdx.filter p).map (·.1)
  have sub : bar.Sublist barN := by
    have h1 : (barN.zipIdx.filter p).Sublist barN.zipIdx := List.filter_sublist
    have h2 := h1.map (·.1)
    have e : barN.zipIdx.map (·.1) = barN := by simp [List.zipIdx_map_fst]
    rw [e] at h2
    exact h2
  have bl : bar.length ≤ 6 := sub.length_le
  have l2 : 2 ≤ lim := by decide
  have l6 : 6 ≤ lim := by decide
  have l7 : 7 ≤ lim := by decide
  refine ⟨⟨lo, hi, hd, tl, bar, vf == 0⟩, ⟨by show 1 ≤ lo; omega, by show lo ≤ hi; omega, by show hi ≤ 8; omega, endN_ok hd hhd, endN_ok tl htl, bl, fun x hx => barN_ok x (sub.subset hx), barN_up.sublist sub⟩, by show hi ≤ 4; omega, ?_⟩
  generalize hL : Lk ns = L at *
  obtain ⟨γ', l1, s7, s8, rfl⟩ := forGo_inv (bd := bdT [7, 8]) (inj := fun q : Tx × Nat => D.tup [.int (q.2 : Nat), .str q.1]) (l0 := barN.zipIdx) (body := lwL)
    (I := fun dn γ => ∃ s7 s8, γ = [.va L, .va (.int k), .va (.int (lo : Nat)), .va (.int (hi : Nat)), .va (.lst (endN.map .str)), .ow (.lst (((dn.filter p).map (·.1)).map .str)), .un, s7, s8])
    (γ := [.va L, .va (.int k), .va (.int (lo : Nat)), .va (.int (hi : Nat)), .va (.lst (endN.map .str)), .ow (.lst []), .un, .un, .un]) (fun dn q rest γ hr hI => by
      obtain ⟨s7, s8, rfl⟩ := hI
      have hq : q ∈ barN.zipIdx := by rw [hr]; simp
      have q6 : q.2 < 6 := by
        obtain ⟨x, i⟩ := q
        have := List.mem_zipIdx hq
        have e : barN.length = 6 := rfl
        show i < 6
        omega
      have dl : dn.length ≤ 6 := by
        have := congrArg List.length hr
        have e : barN.zipIdx.length = 6 := rfl
        rw [e] at this
        simp at this; omega
      obtain ⟨g1, g2, g3⟩ := drawn_ok hns (k := k + 4 + (q.2 : Nat)) (m := 3) (by omega) (by omega) (by decide)
      rw [hL] at g1
      refine ⟨[.va L, .va (.int k), .va (.int (lo : Nat)), .va (.int (hi : Nat)), .va (.lst (endN.map .str)), .ow (.lst (((dn.filter p).map (·.1)).map .str)), .un, .va (.int (q.2 : Nat)), .va (.str q.1)], rfl, [.va L, .va (.int k), .va (.int (lo : Nat)), .va (.int (hi : Nat)), .va (.lst (endN.map .str)), .ow (.lst ((((dn ++ [q]).filter p).map (·.1)).map .str)), .un, .va (.int (q.2 : Nat)), .va (.str q.1)], .inl ?_, _, _, rfl⟩
      have hp : p q = (drawnF ns (k + 4 + (q.2 : Nat)) 3 == 0) := rfl
      have test : tVal (b2 dEq (bCall g__law_drawn (bCons (bVar 0) (bCons (b2 dAdd (b2 dAdd (bVar 1) (bC (.int 4))) (bVar 7)) (bCons (bC (.int 3)) (bNil))))) (bC (.int 0))) [.va L, .va (.int k), .va (.int (lo : Nat)), .va (.int (hi : Nat)), .va (.lst (endN.map .str)), .ow (.lst (((dn.filter p).map (·.1)).map .str)), .un, .va (.int (q.2 : Nat)), .va (.str q.1)] = .ok (p q) := by
        rw [hp]
        generalize drawnF ns (k + 4 + (q.2 : Nat)) 3 = v at *
        have qe : dEq (.int v) (.int 0) = .ok (.bl (v == 0)) := by rw [dEq_p (by simp) (by simp), eqv_int]
        generalize (v == 0) = c at *
        generalize ((dn.filter p).map (·.1)).map D.str = BS at *
        generalize endN.map D.str = ES at *
        simp [g1, qe]
      unfold lwL
      rw [fIf_e, test, List.filter_append]
      cases z : p q with
      | false =>
        have : [q].filter p = [] := by simp [z]
        rw [this, List.append_nil]; rfl
      | true =>
        have : [q].filter p = [q] := by simp [z]
        rw [this]
        have fl := List.length_filter_le p dn
        generalize dn.filter p = dd at *
        simp only [R.bind, if_true]
        rw [fApp_e (xs := (dd.map (·.1)).map .str) (d := .str q.1) rfl rfl (by rw [List.length_map, List.length_map, lim_val]; omega)]
        rw [List.map_append, List.map_append]
        rfl) ⟨_, _, rfl⟩
  have ei : iEn lwN [.va L, .va (.int k), .va (.int (lo : Nat)), .va (.int (hi : Nat)), .va (.lst (endN.map .str)), .ow (.lst []), .un, .un, .un] = .ok (barN.zipIdx.map fun q : Tx × Nat => D.tup [.int (q.2 : Nat), .str q.1]) := by
    have e : lwN [.va L, .va (.int k), .va (.int (lo : Nat)), .va (.int (hi : Nat)), .va (.lst (endN.map .str)), .ow (.lst []), .un, .un, .un] = .ok (.lst (barN.map .str)) := by
      unfold lwN
      generalize endN.map D.str = ES at *
      simp [l6, barN]
    unfold iEn
    rw [e]
    show R.ok (enuD (barN.map D.str)) = _
    unfold enuD
    rw [List.zipIdx_map, List.map_map]; rfl
  unfold g__law_wish
  refine fn_rt ?_
  rw [m__law_wish_e]
  show fSeq _ _ [.va L, .va (.int k), .un, .un, .un, .un, .un, .un, .un] = _
  rw [seq_nx (γ' := [.va L, .va (.int k), .va (.int (lo : Nat)), .un, .un, .un, .un, .un, .un]) (set_e (by simp [a1, hlo]))]
  rw [seq_nx (γ' := [.va L, .va (.int k), .va (.int (lo : Nat)), .va (.int (hi : Nat)), .un, .un, .un, .un, .un]) (set_e (by simp [b1', hhi]))]
  rw [seq_nx (γ' := [.va L, .va (.int k), .va (.int (lo : Nat)), .va (.int (hi : Nat)), .va (.lst (endN.map .str)), .un, .un, .un, .un]) (set_e (by simp [lwE, l7, endN]))]
  rw [seq_nx (γ' := [.va L, .va (.int k), .va (.int (lo : Nat)), .va (.int (hi : Nat)), .va (.lst (endN.map .str)), .ow (.lst []), .un, .un, .un]) (by rw [fOwn_e, nilE]; rfl)]
  have k5 : fForI (iEn lwN) (bdT [7, 8]) lwL [.va L, .va (.int k), .va (.int (lo : Nat)), .va (.int (hi : Nat)), .va (.lst (endN.map .str)), .ow (.lst []), .un, .un, .un] = .ok (.nx [.va L, .va (.int k), .va (.int (lo : Nat)), .va (.int (hi : Nat)), .va (.lst (endN.map .str)), .ow (.lst (bar.map .str)), .un, s7, s8]) := by
    unfold fForI
    rw [ei]
    exact l1
  rw [seq_nx k5]
  rw [seq_nx (γ' := [.va L, .va (.int k), .va (.int (lo : Nat)), .va (.int (hi : Nat)), .va (.lst (endN.map .str)), .ow (.lst (bar.map .str)), .va (.str hd), s7, s8]) (set_e (by
    generalize bar.map D.str = BS at *
    generalize D.lst (endN.map D.str) = ES at *
    simp [c1, ihd]))]
  unfold lwR
  refine ret_e ?_
  have tu : dTuple [.lst (bar.map .str)] = .ok (.tup (bar.map .str)) := rfl
  have qe : dEq (.int vf) (.int 0) = .ok (.bl (vf == 0)) := by rw [dEq_p (by simp) (by simp), eqv_int]
  show _ = R.ok (D.tup [.int (lo : Nat), .int (hi : Nat), .str hd, .str tl, .tup (bar.map .str), .bl (vf == 0)])
  generalize (vf == 0) = c at *
  generalize bar.map D.str = BS at *
  generalize D.lst (endN.map D.str) = ES at *
  simp [bRd, e1, itl, tu, f1, qe, l6]
end
end KN
set_option maxHeartbeats 400000
/-! QO: names drawn by numbers -/
namespace KN
open PySem PySem.Spec PyProof.Rows L2
noncomputable section
/-! ### the letter picked -/
def pk : List (Tx × Nat) → Nat → Tx
  | [], _ => []
  | (l, m) :: r, k => if k < m then l else pk r (k - m)
def tN (r : List (Tx × Nat)) : Nat := (r.map (·.2)).sum
/-! ### the law's own pick -/
/-! ### texts drawn -/
def dw (es : List Ev) (o : Nat) : List Nat → Tx → Nat → Option (Tx × Nat)
  | [], _, _ => none
  | n :: ns, t, k => let l := pk (rowN es (endT o t)) (n % tN (rowN es (endT o t))); if l = [] then some (t, k + 1) else dw es o ns (t ++ l) (k + 1)
def Live (es : List Ev) (o : Nat) (t : Tx) : Prop := ∃ l, (endT o t, l) ∈ es
structure Nx (es : List Ev) (o : Nat) : Prop where
  sm : Sm es
  one : ∀ e ∈ es, e.2.length ≤ 1
  go : ∀ t l, (endT o t, l) ∈ es → l ≠ [] → Live es o (t ++ l)
  start : Live es o []
/-! ### numbers to draw by -/
/-! ### drawn -/
/-! ### the first that is wanted -/
end
end KN
set_option maxHeartbeats 400000
/-! QT: what is a wish, of anything -/
namespace KN
open PySem PySem.Spec PyProof.Rows L2
noncomputable section
def endB : D → Bool
  | .str s => decide (s.length ≤ 3) && s.all ltrB
  | _ => false
def adjB : List Tx → Bool
  | a :: b :: r => decide (a < b) && adjB (b :: r)
  | _ => true
def upB (xs : List D) : Bool := match asTxs xs with
  | some ts => adjB ts
  | none => false
def barB : D → Bool
  | .tup xs => decide (xs.length ≤ 6) && (xs.all isNameD && upB xs)
  | _ => false
def blB : D → Bool
  | .bl _ => true
  | _ => false
def numB : D → Int → Int → Bool
  | .int i, lo, hi => decide (lo ≤ i ∧ i ≤ hi)
  | _, _, _ => false
def wishB : D → Bool
  | .tup [a, b, h, t, br, w] => match a with
    | .int i => numB a 1 8 && (numB b i 8 && (endB h && (endB t && (barB br && blB w))))
    | _ => false
  | _ => false
/-- a part of a thing -/
structure Pt (d : D) : Prop where
  s : ∀ s, d = .str s → s.length ≤ 100
  t : ∀ xs, d = .tup xs → xs.length ≤ 100 ∧ ∀ e ∈ xs, ∀ s, e = .str s → s.length ≤ 100
  p : pl 10 d = true
theorem is_numG {d : D} {lo hi : Int} : g_is_number [d, .int lo, .int hi] = .ok (.bl (numB d lo hi)) := by
  cases d with
  | int i => exact isNumber_ok
  | _ =>
    unfold g_is_number
    rw [fnD_e]
    simp [m_is_number, bAnd, dIsi, isT, dNot, numB]
theorem is_endG {d : D} (h : Pt d) : g_is_end [d] = .ok (.bl (endB d)) := by
  cases d with
  | str s =>
    have hs := h.s s rfl
    have hl : s.length ≤ lim := by rw [lim_val]; omega
    have comp := lcGo_map (bd := bdN 1) (elt := b2 dIn (bVar 1) (bC (.str LET))) (γ := wipeG [.va (.str s), .un] [1]) (inj := fun c : Nat => D.str [c]) (f := fun c => .bl (ltrB c)) (l := s) fun c hc => ⟨_, rfl, by
      have : dIn (.str [c]) (.str LET) = .ok (.bl (ltrB c)) := by unfold dIn; rw [letterIn]; rfl
      simp [wipeG, this]⟩
    have cl := lcE_e (fe := bVar 0) (γ := [.va (.str s), .un]) (d := .str s) rfl rfl comp (by rw [List.length_map]; exact hl)
    have al := all_bl ltrB s
    have e3 : bN dAll (bCons (bLcE (bVar 0) [1] (bdN 1) yes (b2 dIn (bVar 1) (bC (.str LET)))) bNil) [.va (.str s), .un] = .ok (.bl (s.all ltrB)) := by
      rw [bN_e, bCons_e, cl, bNil_e]
      exact al
    have ll := len_str hl
    have le : dLe (.int (s.length : Nat)) (.int 3) = .ok (.bl (decide (s.length ≤ 3))) := by
      show R.ok (D.bl (decide _)) = _
      congr 2
      rw [decide_eq_decide]; omega
    have i1 : dIsi .str (.str s) = .ok (.bl true) := rfl
    unfold g_is_end
    refine fn_rt ?_
    show fRet _ [.va (.str s), .un] = _
    refine ret_e ?_
    show bAnd _ (bAnd _ (bN dAll (bCons (bLcE (bVar 0) [1] (bdN 1) yes (b2 dIn (bVar 1) (bC (.str LET)))) bNil))) [.va (.str s), .un] = _
    generalize bN dAll (bCons (bLcE (bVar 0) [1] (bdN 1) yes (b2 dIn (bVar 1) (bC (.str LET)))) bNil) = A at *
    show _ = R.ok (D.bl (decide (s.length ≤ 3) && s.all ltrB))
    generalize decide (s.length ≤ 3) = q at *
    generalize s.all ltrB = q2 at *
    generalize ((s.length : Nat) : Int) = sl at *
    cases q <;> simp [bAnd, i1, ll, le, e3]
  | _ =>
    unfold g_is_end
    rw [fnD_e]
    simp [m_is_end, bAnd, dIsi, isT, endB]
/-! ### rising -/
theorem adj_pw : ∀ {ts : List Tx}, adjB ts = true ↔ ts.Pairwise (· < ·)
  | [] => by simp [adjB]
  | [a] => by simp [adjB]
  | a :: b :: r => by
    have ih := adj_pw (ts := b :: r)
    unfold adjB
    rw [Bool.and_eq_true, decide_eq_true_iff, ih, List.pairwise_cons (a := a)]
    constructor
    · rintro ⟨h1, h2⟩
      refine ⟨fun c hc => ?_, h2⟩
      rcases List.mem_cons.mp hc with rfl | hc
      · exact h1
      · exact tx_lt_trans h1 ((List.pairwise_cons.mp h2).1 c hc)
    · rintro ⟨h1, h2⟩
      exact ⟨h1 b (by simp), h2⟩
theorem adj_zip : ∀ ts : List Tx, ((ts.zip (ts.drop 1)).all fun p => decide (p.1 < p.2)) = adjB ts
  | [] => rfl
  | [a] => rfl
  | a :: b :: r => by
    have ih := adj_zip (b :: r)
    show (decide (a < b) && (((b :: r).zip ((b :: r).drop 1)).all fun p => decide (p.1 < p.2))) = (decide (a < b) && adjB (b :: r))
    rw [ih]
theorem names_txs : ∀ {xs : List D}, xs.all isNameD = true → ∃ ts : List Tx, xs = ts.map .str ∧ ∀ t ∈ ts, nameOk t
  | [], _ => ⟨[], rfl, fun t h => nomatch h⟩
  | d :: xs, h => by
    rw [List.all_cons, Bool.and_eq_true] at h
    obtain ⟨ts, rfl, hts⟩ := names_txs h.2
    cases d with
    | str s =>
      have h1 : (decide (1 ≤ s.length) && (decide (s.length ≤ 8) && s.all ltrB)) = true := h.1
      simp only [Bool.and_eq_true, decide_eq_true_iff, List.all_eq_true, ltrB] at h1
      exact ⟨s :: ts, rfl, fun t ht => by
        rcases List.mem_cons.mp ht with rfl | ht
        · exact h1
        · exact hts t ht⟩
    | _ => exact absurd (show false = true from h.1) (by decide)
theorem asTxs_str (ts : List Tx) : asTxs (ts.map .str) = some ts := by
  induction ts with
  | nil => rfl
  | cons t ts ih => simp only [List.map_cons, asTxs, ih]; rfl
theorem wish_of {d : D} (h : wishB d = true) : ∃ w : Wi, WiOk w ∧ d = wiD w := by
  unfold wishB at h
  split at h
  · rename_i a b hh t br w
    split at h
    · rename_i i
      simp only [Bool.and_eq_true] at h
      obtain ⟨h1, h2, h3, h4, h5, h6⟩ := h
      have h1 : 1 ≤ i ∧ i ≤ 8 := of_decide_eq_true h1
      cases b with
      | int j =>
        have h2 : i ≤ j ∧ j ≤ 8 := of_decide_eq_true h2
        cases hh with
        | str hd =>
          cases t with
          | str tl =>
            cases br with
            | tup xs =>
              cases w with
              | bl td =>
                have h3 : (decide (hd.length ≤ 3) && hd.all ltrB) = true := h3
                have h4 : (decide (tl.length ≤ 3) && tl.all ltrB) = true := h4
                have h5 : (decide (xs.length ≤ 6) && (xs.all isNameD && upB xs)) = true := h5
                simp only [Bool.and_eq_true, decide_eq_true_iff] at h3 h4 h5
                obtain ⟨ts, rfl, hts⟩ := names_txs h5.2.1
                have up := h5.2.2
                unfold upB at up
                rw [asTxs_str] at up
                have eo : ∀ {t : Tx}, t.length ≤ 3 ∧ t.all ltrB = true → endOk t := fun {t} q => ⟨q.1, fun c hc => by
                  have := List.all_eq_true.mp q.2 c hc
                  simp only [ltrB, decide_eq_true_iff] at this
                  exact this⟩
                refine ⟨⟨i.toNat, j.toNat, hd, tl, ts, td⟩, ⟨by show 1 ≤ i.toNat; omega, by show i.toNat ≤ j.toNat; omega, by show j.toNat ≤ 8; omega, eo h3, eo h4, by have := h5.1; rwa [List.length_map] at this, hts, adj_pw.mp up⟩, ?_⟩
                unfold wiD
                show D.tup [.int i, .int j, _, _, _, _] = D.tup [.int ((i.toNat : Nat) : Int), .int ((j.toNat : Nat) : Int), _, _, _, _]
                rw [Int.toNat_of_nonneg (by omega), Int.toNat_of_nonneg (by omega)]
              | _ => exact absurd (show false = true from h6) (by decide)
            | _ => exact absurd (show false = true from h5) (by decide)
          | _ => exact absurd (show false = true from h4) (by decide)
        | _ => exact absurd (show false = true from h3) (by decide)
      | _ => exact absurd (show false = true from h2) (by decide)
    · exact absurd (show false = true from h) (by decide)
  · exact absurd (show false = true from h) (by decide)
end
end KN
set_option maxHeartbeats 400000
/-! QU: is_wish of anything -/
namespace KN
open PySem PySem.Spec PyProof.Rows L2
noncomputable section
def Th (d : D) : Prop := ∀ ps, d = .tup ps → ∀ p ∈ ps, Pt p
theorem all_names {xs : List D} (hl : xs.length ≤ 100) (h : ∀ e ∈ xs, ∀ s, e = .str s → s.length ≤ 100) {γ : Ga} {fe : Ga → R D} {d : D} (hγ : γ = [.va d, .un, .un]) (he : fe γ = .ok (.tup xs)) :
    bN dAll (bCons (bLcE fe [1] (bdN 1) yes (bCall g_is_name (bCons (bVar 1) (bNil)))) (bNil)) γ = .ok (.bl (xs.all isNameD)) := by
  subst hγ
  have comp := lcGo_map (bd := bdN 1) (elt := bCall g_is_name (bCons (bVar 1) (bNil))) (γ := wipeG [.va d, .un, .un] [1]) (inj := fun e : D => e) (f := fun e => .bl (isNameD e)) (l := xs) fun e hx => ⟨_, rfl, by
    have := isNameG (d := e) fun s hs => by have := h e hx s hs; rw [lim_val]; omega
    simp [wipeG, this]⟩
  rw [List.map_id'] at comp
  have cl := lcE_e (fe := fe) (γ := [.va d, .un, .un]) he rfl comp (by rw [List.length_map, lim_val]; omega)
  rw [bN_e, bCons_e, cl, bNil_e]
  exact all_bl isNameD xs
theorem all_up {ts : List Tx} (hl : ts.length ≤ 6) {d : D} (hd : dIx d (.int 4) = .ok (.tup (ts.map .str))) :
    bN dAll (bCons (bLcI (iZpA (b2 dIx (bVar 0) (bC (.int 4))) (bSl (b2 dIx (bVar 0) (bC (.int 4))) (pSo (bC (.int 1))) (pNo))) [1, 2] (bdT [1, 2]) yes (b2 dLt (bVar 1) (bVar 2))) (bNil)) [.va d, .un, .un] = .ok (.bl (adjB ts)) := by
  have sl : dSl (.tup (ts.map .str)) (some 1) none = .ok (.tup ((ts.drop 1).map .str)) := by
    show R.ok (D.tup (cutL (ts.map D.str) (some ((1 : Nat) : Int)) none)) = _
    rw [cut_from, List.map_drop]
  have zi : zipA (.tup (ts.map .str)) (.tup ((ts.drop 1).map .str)) = .ok ((ts.zip (ts.drop 1)).map fun p => D.tup [.str p.1, .str p.2]) := by
    show R.ok (zipD _ _) = _
    unfold zipD
    rw [List.zip_map, List.map_map]; rfl
  have ez : iZpA (b2 dIx (bVar 0) (bC (.int 4))) (bSl (b2 dIx (bVar 0) (bC (.int 4))) (pSo (bC (.int 1))) (pNo)) [.va d, .un, .un] = .ok ((ts.zip (ts.drop 1)).map fun p => D.tup [.str p.1, .str p.2]) := by
    unfold iZpA
    generalize ((ts.zip (ts.drop 1)).map fun p => D.tup [.str p.1, .str p.2]) = ZL at *
    generalize D.tup ((ts.drop 1).map .str) = B1 at *
    generalize D.tup (ts.map .str) = BT at *
    simp [hd, bSl, pSo, pNo, toI, sl, zi]
  have comp2 := lcGo_map (bd := bdT [1, 2]) (elt := b2 dLt (bVar 1) (bVar 2)) (γ := wipeG [.va d, .un, .un] [1, 2]) (inj := fun p : Tx × Tx => D.tup [.str p.1, .str p.2]) (f := fun p => .bl (decide (p.1 < p.2))) (l := ts.zip (ts.drop 1)) fun p hp => ⟨[.va d, .va (.str p.1), .va (.str p.2)], rfl, rfl⟩
  have co : bLcI (iZpA (b2 dIx (bVar 0) (bC (.int 4))) (bSl (b2 dIx (bVar 0) (bC (.int 4))) (pSo (bC (.int 1))) (pNo))) [1, 2] (bdT [1, 2]) yes (b2 dLt (bVar 1) (bVar 2)) [.va d, .un, .un] = .ok (.lst ((ts.zip (ts.drop 1)).map fun p => D.bl (decide (p.1 < p.2)))) := by
    unfold bLcI
    rw [ez]
    refine lcOut_e comp2 ?_
    rw [List.length_map, List.length_zip, lim_val]
    omega
  rw [bN_e, bCons_e, co, bNil_e, ← adj_zip]
  exact all_bl (fun p : Tx × Tx => decide (p.1 < p.2)) (ts.zip (ts.drop 1))
theorem is_wish6 {a b h t br w : D} (pa : Pt a) (pb : Pt b) (ph : Pt h) (pt : Pt t) (pbr : Pt br) (pw : Pt w) : g_is_wish [.tup [a, b, h, t, br, w]] = .ok (.bl (wishB (.tup [a, b, h, t, br, w]))) := by
  have n0 := is_numG (d := a) (lo := 1) (hi := 8)
  have e2 := is_endG ph
  have e3 := is_endG pt
  have i0 : dIx (.tup [a, b, h, t, br, w]) (.int 0) = .ok a := rfl
  have i1 : dIx (.tup [a, b, h, t, br, w]) (.int 1) = .ok b := rfl
  have i2 : dIx (.tup [a, b, h, t, br, w]) (.int 2) = .ok h := rfl
  have i3 : dIx (.tup [a, b, h, t, br, w]) (.int 3) = .ok t := rfl
  have i4 : dIx (.tup [a, b, h, t, br, w]) (.int 4) = .ok br := rfl
  have i5 : dIx (.tup [a, b, h, t, br, w]) (.int 5) = .ok w := rfl
  have t0 : dIsi .tup (.tup [a, b, h, t, br, w]) = .ok (.bl true) := rfl
  have l0 : dLen [.tup [a, b, h, t, br, w]] = .ok (.int 6) := rfl
  have n6 : dNe (.int 6) (.int 6) = .ok (.bl false) := rfl
  have fin : ∀ c, fSeq isw1 (fSeq isw2 (fSeq isw3 isw4)) [.va (.tup [a, b, h, t, br, w]), .un, .un] = .ok (.rt (.bl c)) → g_is_wish [.tup [a, b, h, t, br, w]] = .ok (.bl c) := fun c z => by
    unfold g_is_wish
    refine fn_rt ?_
    rw [m_is_wish_e]
    exact z
  refine fin _ ?_
  have no1 : numB a 1 8 = false → fSeq isw1 (fSeq isw2 (fSeq isw3 isw4)) [.va (.tup [a, b, h, t, br, w]), .un, .un] = .ok (.rt (.bl false)) := fun z => by
    rw [z] at n0
    rw [fSeq_e]
    unfold isw1
    generalize D.tup [a, b, h, t, br, w] = TD at *
    simp [t0, l0, n6, i0, n0]
  cases a with
  | int i =>
    cases z0 : numB (.int i) 1 8 with
    | false =>
      rw [no1 z0]
      show _ = R.ok (Fl.rt (D.bl (numB (.int i) 1 8 && _)))
      rw [z0]; rfl
    | true =>
      rw [z0] at n0
      have n1 := is_numG (d := b) (lo := i) (hi := 8)
      have k1 : isw1 [.va (.tup [.int i, b, h, t, br, w]), .un, .un] = .ok (.nx [.va (.tup [.int i, b, h, t, br, w]), .un, .un]) := by
        refine if_f ?_
        generalize D.tup [.int i, b, h, t, br, w] = TD at *
        simp [t0, l0, n6, i0, n0]
      rw [seq_nx k1]
      have ew : wishB (.tup [.int i, b, h, t, br, w]) = (numB b i 8 && (endB h && (endB t && (barB br && blB w)))) := by
        show (numB (.int i) 1 8 && _) = _
        rw [z0, Bool.true_and]
      rw [ew]
      by_cases z : numB b i 8 = true ∧ endB h = true ∧ endB t = true
      · obtain ⟨z1, z2, z3⟩ := z
        rw [z1] at n1
        rw [z2] at e2
        rw [z3] at e3
        have k2 : isw2 [.va (.tup [.int i, b, h, t, br, w]), .un, .un] = .ok (.nx [.va (.tup [.int i, b, h, t, br, w]), .un, .un]) := by
          refine if_f ?_
          generalize D.tup [.int i, b, h, t, br, w] = TD at *
          simp [i0, i1, n1, i2, e2, i3, e3]
        rw [seq_nx k2, z1, z2, z3, Bool.true_and, Bool.true_and, Bool.true_and]
        cases br with
        | tup xs =>
          obtain ⟨xl, xc⟩ := pbr.t xs rfl
          have t4 : dIsi .tup (.tup xs) = .ok (.bl true) := rfl
          have l4 : dLen [.tup xs] = .ok (.int (xs.length : Nat)) := rfl
          have al := all_names (d := .tup [.int i, b, h, t, .tup xs, w]) (fe := b2 dIx (bVar 0) (bC (.int 4))) xl xc rfl rfl
          by_cases z6 : xs.length ≤ 6
          · have g4 : dGt (.int (xs.length : Nat)) (.int 6) = .ok (.bl false) := by
              show R.ok (D.bl (decide _)) = _
              rw [decide_eq_false (by omega)]
            cases zn : xs.all isNameD with
            | false =>
              rw [zn] at al
              rw [fSeq_e]
              unfold isw3
              generalize bN dAll (bCons (bLcE (b2 dIx (bVar 0) (bC (.int 4))) [1] (bdN 1) yes (bCall g_is_name (bCons (bVar 1) (bNil)))) (bNil)) = A at *
              show _ = R.ok (Fl.rt (D.bl ((decide (xs.length ≤ 6) && (xs.all isNameD && upB xs)) && blB w)))
              rw [zn]
              generalize D.tup [.int i, b, h, t, .tup xs, w] = TD at *
              generalize D.tup xs = BT at *
              generalize ((xs.length : Nat) : Int) = ll at *
              simp [i4, t4, l4, g4, al]
            | true =>
              rw [zn] at al
              have k3 : isw3 [.va (.tup [.int i, b, h, t, .tup xs, w]), .un, .un] = .ok (.nx [.va (.tup [.int i, b, h, t, .tup xs, w]), .un, .un]) := by
                refine if_f ?_
                generalize bN dAll (bCons (bLcE (b2 dIx (bVar 0) (bC (.int 4))) [1] (bdN 1) yes (bCall g_is_name (bCons (bVar 1) (bNil)))) (bNil)) = A at *
                generalize D.tup [.int i, b, h, t, .tup xs, w] = TD at *
                generalize D.tup xs = BT at *
                generalize ((xs.length : Nat) : Int) = ll at *
                simp [i4, t4, l4, g4, al]
              rw [seq_nx k3]
              obtain ⟨ts, rfl, hts⟩ := names_txs zn
              have au := all_up (ts := ts) (by rwa [List.length_map] at z6) (d := .tup [.int i, b, h, t, .tup (ts.map .str), w]) rfl
              have b5 : dIsi .bool w = .ok (.bl (blB w)) := by cases w <;> rfl
              show _ = R.ok (Fl.rt (D.bl ((decide ((ts.map D.str).length ≤ 6) && ((ts.map D.str).all isNameD && upB (ts.map D.str))) && blB w)))
              rw [zn, decide_eq_true z6, Bool.true_and, Bool.true_and]
              have eu : upB (ts.map D.str) = adjB ts := by unfold upB; rw [asTxs_str]
              rw [eu]
              unfold isw4
              refine ret_e ?_
              generalize bN dAll (bCons (bLcI (iZpA (b2 dIx (bVar 0) (bC (.int 4))) (bSl (b2 dIx (bVar 0) (bC (.int 4))) (pSo (bC (.int 1))) (pNo))) [1, 2] (bdT [1, 2]) yes (b2 dLt (bVar 1) (bVar 2))) (bNil)) = A at *
              generalize D.tup [.int i, b, h, t, .tup (ts.map .str), w] = TD at *
              generalize adjB ts = q at *
              generalize blB w = q2 at *
              cases q <;> simp [bAnd, au, i5, b5]
          · have g4 : dGt (.int (xs.length : Nat)) (.int 6) = .ok (.bl true) := by
              show R.ok (D.bl (decide _)) = _
              rw [decide_eq_true (by omega)]
            rw [fSeq_e]
            unfold isw3
            show _ = R.ok (Fl.rt (D.bl ((decide (xs.length ≤ 6) && (xs.all isNameD && upB xs)) && blB w)))
            rw [decide_eq_false z6]
            generalize D.tup [.int i, b, h, t, .tup xs, w] = TD at *
            generalize D.tup xs = BT at *
            generalize ((xs.length : Nat) : Int) = ll at *
            simp [i4, t4, l4, g4]
        | _ =>
          rw [fSeq_e]
          unfold isw3
          generalize hTD : D.tup [.int i, b, h, t, _, w] = TD at *
          simp [i4, dIsi, isT, barB]
      · rw [fSeq_e]
        have rf : isw2 [.va (.tup [.int i, b, h, t, br, w]), .un, .un] = .ok (.rt (.bl false)) := by
          unfold isw2
          generalize numB b i 8 = q1 at *
          generalize endB h = q2 at *
          generalize endB t = q3 at *
          generalize D.tup [.int i, b, h, t, br, w] = TD at *
          cases q1
          · simp [i0, i1, n1]
          · cases q2
            · simp [i0, i1, n1, i2, e2]
            · cases q3
              · simp [i0, i1, n1, i2, e2, i3, e3]
              · exact absurd ⟨rfl, rfl, rfl⟩ z
        rw [rf]
        show R.ok (Fl.rt (D.bl false)) = _
        congr 3
        generalize numB b i 8 = q1 at *
        generalize endB h = q2 at *
        generalize endB t = q3 at *
        cases q1 <;> cases q2 <;> cases q3 <;> first | rfl | exact absurd ⟨rfl, rfl, rfl⟩ z
  | _ => exact no1 rfl
theorem is_wishG {d : D} (h : Th d) : g_is_wish [d] = .ok (.bl (wishB d)) := by
  cases d with
  | tup ps =>
    by_cases z : ps.length = 6
    · match ps, z with
      | [a, b, c, t, br, w], _ => exact is_wish6 (h _ rfl a (by simp)) (h _ rfl b (by simp)) (h _ rfl c (by simp)) (h _ rfl t (by simp)) (h _ rfl br (by simp)) (h _ rfl w (by simp))
    · have e : wishB (.tup ps) = false := by
        unfold wishB
        split
        · rename_i q; cases q; exact absurd rfl z
        · rfl
      have l0 : dLen [.tup ps] = .ok (.int (ps.length : Nat)) := rfl
      have t0 : dIsi .tup (.tup ps) = .ok (.bl true) := rfl
      have n6 : dNe (.int (ps.length : Nat)) (.int 6) = .ok (.bl true) := by
        rw [dNe_p (by simp) (by simp), eqv_int]
        have : ((ps.length : Nat) : Int) ≠ 6 := by omega
        simp [this]
      rw [e]
      unfold g_is_wish
      refine fn_rt ?_
      rw [m_is_wish_e]
      show fSeq _ _ [.va (.tup ps), .un, .un] = _
      rw [fSeq_e]
      unfold isw1
      generalize D.tup ps = TD at *
      generalize ((ps.length : Nat) : Int) = ll at *
      simp [t0, l0, n6]
  | _ =>
    unfold g_is_wish
    refine fn_rt ?_
    rw [m_is_wish_e]
    rw [fSeq_e]
    unfold isw1
    simp [dIsi, isT, wishB]
end
end KN
namespace KN
open PySem PySem.Spec PyProof.Rows L2
noncomputable section
abbrev erH : List Nat := [0, 1, 2, 3, 4, 5, 6, 7]
structure ErrSub (K : PySem.W.Frag) (e0 e1 e2 e3 e4 e5 e6 e7 : Addr) : Prop where
  s00 : PySem.W.subIn K (.ref e0) (.ref e0) = some true
  s01 : PySem.W.subIn K (.ref e0) (.ref e1) = some false
  s02 : PySem.W.subIn K (.ref e0) (.ref e2) = some false
  s03 : PySem.W.subIn K (.ref e0) (.ref e3) = some false
  s04 : PySem.W.subIn K (.ref e0) (.ref e4) = some false
  s05 : PySem.W.subIn K (.ref e0) (.ref e5) = some false
  s06 : PySem.W.subIn K (.ref e0) (.ref e6) = some false
  s07 : PySem.W.subIn K (.ref e0) (.ref e7) = some false
  s10 : PySem.W.subIn K (.ref e1) (.ref e0) = some false
  s11 : PySem.W.subIn K (.ref e1) (.ref e1) = some true
  s12 : PySem.W.subIn K (.ref e1) (.ref e2) = some false
  s13 : PySem.W.subIn K (.ref e1) (.ref e3) = some false
  s14 : PySem.W.subIn K (.ref e1) (.ref e4) = some false
  s15 : PySem.W.subIn K (.ref e1) (.ref e5) = some false
  s16 : PySem.W.subIn K (.ref e1) (.ref e6) = some false
  s17 : PySem.W.subIn K (.ref e1) (.ref e7) = some false
  s20 : PySem.W.subIn K (.ref e2) (.ref e0) = some false
  s21 : PySem.W.subIn K (.ref e2) (.ref e1) = some false
  s22 : PySem.W.subIn K (.ref e2) (.ref e2) = some true
  s23 : PySem.W.subIn K (.ref e2) (.ref e3) = some false
  s24 : PySem.W.subIn K (.ref e2) (.ref e4) = some false
  s25 : PySem.W.subIn K (.ref e2) (.ref e5) = some false
  s26 : PySem.W.subIn K (.ref e2) (.ref e6) = some false
  s27 : PySem.W.subIn K (.ref e2) (.ref e7) = some false
  s30 : PySem.W.subIn K (.ref e3) (.ref e0) = some false
  s31 : PySem.W.subIn K (.ref e3) (.ref e1) = some false
  s32 : PySem.W.subIn K (.ref e3) (.ref e2) = some false
  s33 : PySem.W.subIn K (.ref e3) (.ref e3) = some true
  s34 : PySem.W.subIn K (.ref e3) (.ref e4) = some false
  s35 : PySem.W.subIn K (.ref e3) (.ref e5) = some false
  s36 : PySem.W.subIn K (.ref e3) (.ref e6) = some false
  s37 : PySem.W.subIn K (.ref e3) (.ref e7) = some false
  s40 : PySem.W.subIn K (.ref e4) (.ref e0) = some false
  s41 : PySem.W.subIn K (.ref e4) (.ref e1) = some false
  s42 : PySem.W.subIn K (.ref e4) (.ref e2) = some false
  s43 : PySem.W.subIn K (.ref e4) (.ref e3) = some false
  s44 : PySem.W.subIn K (.ref e4) (.ref e4) = some true
  s45 : PySem.W.subIn K (.ref e4) (.ref e5) = some false
  s46 : PySem.W.subIn K (.ref e4) (.ref e6) = some false
  s47 : PySem.W.subIn K (.ref e4) (.ref e7) = some false
  s50 : PySem.W.subIn K (.ref e5) (.ref e0) = some false
  s51 : PySem.W.subIn K (.ref e5) (.ref e1) = some false
  s52 : PySem.W.subIn K (.ref e5) (.ref e2) = some false
  s53 : PySem.W.subIn K (.ref e5) (.ref e3) = some false
  s54 : PySem.W.subIn K (.ref e5) (.ref e4) = some false
  s55 : PySem.W.subIn K (.ref e5) (.ref e5) = some true
  s56 : PySem.W.subIn K (.ref e5) (.ref e6) = some false
  s57 : PySem.W.subIn K (.ref e5) (.ref e7) = some false
  s60 : PySem.W.subIn K (.ref e6) (.ref e0) = some false
  s61 : PySem.W.subIn K (.ref e6) (.ref e1) = some false
  s62 : PySem.W.subIn K (.ref e6) (.ref e2) = some false
  s63 : PySem.W.subIn K (.ref e6) (.ref e3) = some false
  s64 : PySem.W.subIn K (.ref e6) (.ref e4) = some false
  s65 : PySem.W.subIn K (.ref e6) (.ref e5) = some false
  s66 : PySem.W.subIn K (.ref e6) (.ref e6) = some true
  s67 : PySem.W.subIn K (.ref e6) (.ref e7) = some false
  s70 : PySem.W.subIn K (.ref e7) (.ref e0) = some false
  s71 : PySem.W.subIn K (.ref e7) (.ref e1) = some false
  s72 : PySem.W.subIn K (.ref e7) (.ref e2) = some false
  s73 : PySem.W.subIn K (.ref e7) (.ref e3) = some false
  s74 : PySem.W.subIn K (.ref e7) (.ref e4) = some false
  s75 : PySem.W.subIn K (.ref e7) (.ref e5) = some false
  s76 : PySem.W.subIn K (.ref e7) (.ref e6) = some false
  s77 : PySem.W.subIn K (.ref e7) (.ref e7) = some true
def errs_mk {K : PySem.W.Frag} {h : Heap} {mg : Str → Option Value} {e0 e1 e2 e3 e4 e5 e6 e7 L : Addr} (X : K.In h) (G : h.Ns mainGlobals mg) (EL : ErrL K L) (E0 : ErrOne K "NoBook" e0 L) (E1 : ErrOne K "NoOrder" e1 L) (E2 : ErrOne K "NoName" e2 L) (E3 : ErrOne K "NoWish" e3 L) (E4 : ErrOne K "NoNumber" e4 L) (E5 : ErrOne K "NotMade" e5 L) (E6 : ErrOne K "TooShort" e6 L) (E7 : ErrOne K "Nothing" e7 L) (S : ErrSub K e0 e1 e2 e3 e4 e5 e6 e7) : Errs erH K mg where
  e := fun c => match c with
    | 0 => e0
    | 1 => e1
    | 2 => e2
    | 3 => e3
    | 4 => e4
    | 5 => e5
    | 6 => e6
    | 7 => e7
    | _ => e0
  L := L
  g := PySem.W.mg_of X G EL.n
  x := fun c h => by
    simp only [erH, List.mem_cons, List.not_mem_nil, or_false] at h
    rcases h with rfl | rfl | rfl | rfl | rfl | rfl | rfl | rfl
    · exact E0.x X G
    · exact E1.x X G
    · exact E2.x X G
    · exact E3.x X G
    · exact E4.x X G
    · exact E5.x X G
    · exact E6.x X G
    · exact E7.x X G
  c := fun c h => by
    simp only [erH, List.mem_cons, List.not_mem_nil, or_false] at h
    rcases h with rfl | rfl | rfl | rfl | rfl | rfl | rfl | rfl
    · exact E0.c
    · exact E1.c
    · exact E2.c
    · exact E3.c
    · exact E4.c
    · exact E5.c
    · exact E6.c
    · exact E7.c
  val := fun c h => by
    simp only [erH, List.mem_cons, List.not_mem_nil, or_false] at h
    rcases h with rfl | rfl | rfl | rfl | rfl | rfl | rfl | rfl
    · exact kit_val E0.v
    · exact kit_val E1.v
    · exact kit_val E2.v
    · exact kit_val E3.v
    · exact kit_val E4.v
    · exact kit_val E5.v
    · exact kit_val E6.v
    · exact kit_val E7.v
  exm := fun c h => by
    simp only [erH, List.mem_cons, List.not_mem_nil, or_false] at h
    rcases h with rfl | rfl | rfl | rfl | rfl | rfl | rfl | rfl
    · exact PySem.W.exm_ref EL.b EL.hd EL.t E0.l
    · exact PySem.W.exm_ref EL.b EL.hd EL.t E1.l
    · exact PySem.W.exm_ref EL.b EL.hd EL.t E2.l
    · exact PySem.W.exm_ref EL.b EL.hd EL.t E3.l
    · exact PySem.W.exm_ref EL.b EL.hd EL.t E4.l
    · exact PySem.W.exm_ref EL.b EL.hd EL.t E5.l
    · exact PySem.W.exm_ref EL.b EL.hd EL.t E6.l
    · exact PySem.W.exm_ref EL.b EL.hd EL.t E7.l
  kit := fun c i h1 h2 => by
    simp only [erH, List.mem_cons, List.not_mem_nil, or_false] at h1 h2
    rcases h1 with rfl | rfl | rfl | rfl | rfl | rfl | rfl | rfl <;> rcases h2 with rfl | rfl | rfl | rfl | rfl | rfl | rfl | rfl
    · exact kit_cls E0.hd E0.t S.s00 S.s00
    · exact kit_cls E1.hd E1.t S.s01 S.s11
    · exact kit_cls E2.hd E2.t S.s02 S.s22
    · exact kit_cls E3.hd E3.t S.s03 S.s33
    · exact kit_cls E4.hd E4.t S.s04 S.s44
    · exact kit_cls E5.hd E5.t S.s05 S.s55
    · exact kit_cls E6.hd E6.t S.s06 S.s66
    · exact kit_cls E7.hd E7.t S.s07 S.s77
    · exact kit_cls E0.hd E0.t S.s10 S.s00
    · exact kit_cls E1.hd E1.t S.s11 S.s11
    · exact kit_cls E2.hd E2.t S.s12 S.s22
    · exact kit_cls E3.hd E3.t S.s13 S.s33
    · exact kit_cls E4.hd E4.t S.s14 S.s44
    · exact kit_cls E5.hd E5.t S.s15 S.s55
    · exact kit_cls E6.hd E6.t S.s16 S.s66
    · exact kit_cls E7.hd E7.t S.s17 S.s77
    · exact kit_cls E0.hd E0.t S.s20 S.s00
    · exact kit_cls E1.hd E1.t S.s21 S.s11
    · exact kit_cls E2.hd E2.t S.s22 S.s22
    · exact kit_cls E3.hd E3.t S.s23 S.s33
    · exact kit_cls E4.hd E4.t S.s24 S.s44
    · exact kit_cls E5.hd E5.t S.s25 S.s55
    · exact kit_cls E6.hd E6.t S.s26 S.s66
    · exact kit_cls E7.hd E7.t S.s27 S.s77
    · exact kit_cls E0.hd E0.t S.s30 S.s00
    · exact kit_cls E1.hd E1.t S.s31 S.s11
    · exact kit_cls E2.hd E2.t S.s32 S.s22
    · exact kit_cls E3.hd E3.t S.s33 S.s33
    · exact kit_cls E4.hd E4.t S.s34 S.s44
    · exact kit_cls E5.hd E5.t S.s35 S.s55
    · exact kit_cls E6.hd E6.t S.s36 S.s66
    · exact kit_cls E7.hd E7.t S.s37 S.s77
    · exact kit_cls E0.hd E0.t S.s40 S.s00
    · exact kit_cls E1.hd E1.t S.s41 S.s11
    · exact kit_cls E2.hd E2.t S.s42 S.s22
    · exact kit_cls E3.hd E3.t S.s43 S.s33
    · exact kit_cls E4.hd E4.t S.s44 S.s44
    · exact kit_cls E5.hd E5.t S.s45 S.s55
    · exact kit_cls E6.hd E6.t S.s46 S.s66
    · exact kit_cls E7.hd E7.t S.s47 S.s77
    · exact kit_cls E0.hd E0.t S.s50 S.s00
    · exact kit_cls E1.hd E1.t S.s51 S.s11
    · exact kit_cls E2.hd E2.t S.s52 S.s22
    · exact kit_cls E3.hd E3.t S.s53 S.s33
    · exact kit_cls E4.hd E4.t S.s54 S.s44
    · exact kit_cls E5.hd E5.t S.s55 S.s55
    · exact kit_cls E6.hd E6.t S.s56 S.s66
    · exact kit_cls E7.hd E7.t S.s57 S.s77
    · exact kit_cls E0.hd E0.t S.s60 S.s00
    · exact kit_cls E1.hd E1.t S.s61 S.s11
    · exact kit_cls E2.hd E2.t S.s62 S.s22
    · exact kit_cls E3.hd E3.t S.s63 S.s33
    · exact kit_cls E4.hd E4.t S.s64 S.s44
    · exact kit_cls E5.hd E5.t S.s65 S.s55
    · exact kit_cls E6.hd E6.t S.s66 S.s66
    · exact kit_cls E7.hd E7.t S.s67 S.s77
    · exact kit_cls E0.hd E0.t S.s70 S.s00
    · exact kit_cls E1.hd E1.t S.s71 S.s11
    · exact kit_cls E2.hd E2.t S.s72 S.s22
    · exact kit_cls E3.hd E3.t S.s73 S.s33
    · exact kit_cls E4.hd E4.t S.s74 S.s44
    · exact kit_cls E5.hd E5.t S.s75 S.s55
    · exact kit_cls E6.hd E6.t S.s76 S.s66
    · exact kit_cls E7.hd E7.t S.s77 S.s77
  exo := fun c i h1 h2 => by
    simp only [erH, List.mem_cons, List.not_mem_nil, or_false] at h1 h2
    rcases h1 with rfl | rfl | rfl | rfl | rfl | rfl | rfl | rfl <;> rcases h2 with rfl | rfl | rfl | rfl | rfl | rfl | rfl | rfl
    · exact PySem.W.exm_ref E0.b E0.hd E0.t S.s00
    · exact PySem.W.exm_ref E1.b E1.hd E1.t S.s01
    · exact PySem.W.exm_ref E2.b E2.hd E2.t S.s02
    · exact PySem.W.exm_ref E3.b E3.hd E3.t S.s03
    · exact PySem.W.exm_ref E4.b E4.hd E4.t S.s04
    · exact PySem.W.exm_ref E5.b E5.hd E5.t S.s05
    · exact PySem.W.exm_ref E6.b E6.hd E6.t S.s06
    · exact PySem.W.exm_ref E7.b E7.hd E7.t S.s07
    · exact PySem.W.exm_ref E0.b E0.hd E0.t S.s10
    · exact PySem.W.exm_ref E1.b E1.hd E1.t S.s11
    · exact PySem.W.exm_ref E2.b E2.hd E2.t S.s12
    · exact PySem.W.exm_ref E3.b E3.hd E3.t S.s13
    · exact PySem.W.exm_ref E4.b E4.hd E4.t S.s14
    · exact PySem.W.exm_ref E5.b E5.hd E5.t S.s15
    · exact PySem.W.exm_ref E6.b E6.hd E6.t S.s16
    · exact PySem.W.exm_ref E7.b E7.hd E7.t S.s17
    · exact PySem.W.exm_ref E0.b E0.hd E0.t S.s20
    · exact PySem.W.exm_ref E1.b E1.hd E1.t S.s21
    · exact PySem.W.exm_ref E2.b E2.hd E2.t S.s22
    · exact PySem.W.exm_ref E3.b E3.hd E3.t S.s23
    · exact PySem.W.exm_ref E4.b E4.hd E4.t S.s24
    · exact PySem.W.exm_ref E5.b E5.hd E5.t S.s25
    · exact PySem.W.exm_ref E6.b E6.hd E6.t S.s26
    · exact PySem.W.exm_ref E7.b E7.hd E7.t S.s27
    · exact PySem.W.exm_ref E0.b E0.hd E0.t S.s30
    · exact PySem.W.exm_ref E1.b E1.hd E1.t S.s31
    · exact PySem.W.exm_ref E2.b E2.hd E2.t S.s32
    · exact PySem.W.exm_ref E3.b E3.hd E3.t S.s33
    · exact PySem.W.exm_ref E4.b E4.hd E4.t S.s34
    · exact PySem.W.exm_ref E5.b E5.hd E5.t S.s35
    · exact PySem.W.exm_ref E6.b E6.hd E6.t S.s36
    · exact PySem.W.exm_ref E7.b E7.hd E7.t S.s37
    · exact PySem.W.exm_ref E0.b E0.hd E0.t S.s40
    · exact PySem.W.exm_ref E1.b E1.hd E1.t S.s41
    · exact PySem.W.exm_ref E2.b E2.hd E2.t S.s42
    · exact PySem.W.exm_ref E3.b E3.hd E3.t S.s43
    · exact PySem.W.exm_ref E4.b E4.hd E4.t S.s44
    · exact PySem.W.exm_ref E5.b E5.hd E5.t S.s45
    · exact PySem.W.exm_ref E6.b E6.hd E6.t S.s46
    · exact PySem.W.exm_ref E7.b E7.hd E7.t S.s47
    · exact PySem.W.exm_ref E0.b E0.hd E0.t S.s50
    · exact PySem.W.exm_ref E1.b E1.hd E1.t S.s51
    · exact PySem.W.exm_ref E2.b E2.hd E2.t S.s52
    · exact PySem.W.exm_ref E3.b E3.hd E3.t S.s53
    · exact PySem.W.exm_ref E4.b E4.hd E4.t S.s54
    · exact PySem.W.exm_ref E5.b E5.hd E5.t S.s55
    · exact PySem.W.exm_ref E6.b E6.hd E6.t S.s56
    · exact PySem.W.exm_ref E7.b E7.hd E7.t S.s57
    · exact PySem.W.exm_ref E0.b E0.hd E0.t S.s60
    · exact PySem.W.exm_ref E1.b E1.hd E1.t S.s61
    · exact PySem.W.exm_ref E2.b E2.hd E2.t S.s62
    · exact PySem.W.exm_ref E3.b E3.hd E3.t S.s63
    · exact PySem.W.exm_ref E4.b E4.hd E4.t S.s64
    · exact PySem.W.exm_ref E5.b E5.hd E5.t S.s65
    · exact PySem.W.exm_ref E6.b E6.hd E6.t S.s66
    · exact PySem.W.exm_ref E7.b E7.hd E7.t S.s67
    · exact PySem.W.exm_ref E0.b E0.hd E0.t S.s70
    · exact PySem.W.exm_ref E1.b E1.hd E1.t S.s71
    · exact PySem.W.exm_ref E2.b E2.hd E2.t S.s72
    · exact PySem.W.exm_ref E3.b E3.hd E3.t S.s73
    · exact PySem.W.exm_ref E4.b E4.hd E4.t S.s74
    · exact PySem.W.exm_ref E5.b E5.hd E5.t S.s75
    · exact PySem.W.exm_ref E6.b E6.hd E6.t S.s76
    · exact PySem.W.exm_ref E7.b E7.hd E7.t S.s77
def topS (i : Nat) : Stmt := PySem.Challenge.pw_kinnames_k30_wishes.main.body.getD i (.Pass ⟨0, 0, 0, 0⟩)
structure Top (K : PySem.W.Frag) (mg : Str → Option Value) where
  er : Errs erH K mg
  f__law_cell : Addr
  fd__law_cell : FuncData
  F__law_cell : Fun K "_law_cell" "_law_cell" (topS 28) f__law_cell fd__law_cell
  b__law_cell : Binds K fd__law_cell ["_law_script", "_law_k"] []
  m__law_cell : mg "_law_cell" = some (.ref f__law_cell)
  f__law_drawn : Addr
  fd__law_drawn : FuncData
  F__law_drawn : Fun K "_law_drawn" "_law_drawn" (topS 29) f__law_drawn fd__law_drawn
  b__law_drawn : Binds K fd__law_drawn ["_law_script", "_law_k", "_law_many"] []
  m__law_drawn : mg "_law_drawn" = some (.ref f__law_drawn)
  f__law_name : Addr
  fd__law_name : FuncData
  F__law_name : Fun K "_law_name" "_law_name" (topS 30) f__law_name fd__law_name
  b__law_name : Binds K fd__law_name ["_law_script", "_law_at", "_law_most"] []
  m__law_name : mg "_law_name" = some (.ref f__law_name)
  f__law_book : Addr
  fd__law_book : FuncData
  F__law_book : Fun K "_law_book" "_law_book" (topS 31) f__law_book fd__law_book
  b__law_book : Binds K fd__law_book ["_law_script", "_law_at", "_law_many", "_law_most"] []
  m__law_book : mg "_law_book" = some (.ref f__law_book)
  f__law_fits : Addr
  fd__law_fits : FuncData
  F__law_fits : Fun K "_law_fits" "_law_fits" (topS 33) f__law_fits fd__law_fits
  b__law_fits : Binds K fd__law_fits ["_law_book_here", "_law_wish_here", "_law_name_here"] []
  m__law_fits : mg "_law_fits" = some (.ref f__law_fits)
  f__law_letters : Addr
  fd__law_letters : FuncData
  F__law_letters : Fun K "_law_letters" "_law_letters" (topS 36) f__law_letters fd__law_letters
  b__law_letters : Binds K fd__law_letters ["_law_thing", "_law_least", "_law_most"] []
  m__law_letters : mg "_law_letters" = some (.ref f__law_letters)
  f__law_is_wish : Addr
  fd__law_is_wish : FuncData
  F__law_is_wish : Fun K "_law_is_wish" "_law_is_wish" (topS 37) f__law_is_wish fd__law_is_wish
  b__law_is_wish : Binds K fd__law_is_wish ["_law_thing"] []
  m__law_is_wish : mg "_law_is_wish" = some (.ref f__law_is_wish)
  f__law_refused : Addr
  fd__law_refused : FuncData
  F__law_refused : Fun K "_law_refused" "_law_refused" (topS 34) f__law_refused fd__law_refused
  b__law_refused : Binds K fd__law_refused ["_law_e"] []
  m__law_refused : mg "_law_refused" = some (.ref f__law_refused)
  f_is_fit : Addr
  fd_is_fit : FuncData
  F_is_fit : Fun K "is_fit" "is_fit" (topS 25) f_is_fit fd_is_fit
  b_is_fit : Binds K fd_is_fit ["book", "wish", "name"] []
  m_is_fit : mg "is_fit" = some (.ref f_is_fit)
  f_is_name : Addr
  fd_is_name : FuncData
  F_is_name : Fun K "is_name" "is_name" (topS 15) f_is_name fd_is_name
  b_is_name : Binds K fd_is_name ["thing"] []
  m_is_name : mg "is_name" = some (.ref f_is_name)
  f_is_book : Addr
  fd_is_book : FuncData
  F_is_book : Fun K "is_book" "is_book" (topS 16) f_is_book fd_is_book
  b_is_book : Binds K fd_is_book ["thing"] []
  m_is_book : mg "is_book" = some (.ref f_is_book)
  f_need_book : Addr
  fd_need_book : FuncData
  F_need_book : Fun K "need_book" "need_book" (topS 17) f_need_book fd_need_book
  b_need_book : Binds K fd_need_book ["book"] []
  m_need_book : mg "need_book" = some (.ref f_need_book)
  f_need_name : Addr
  fd_need_name : FuncData
  F_need_name : Fun K "need_name" "need_name" (topS 18) f_need_name fd_need_name
  b_need_name : Binds K fd_need_name ["name"] []
  m_need_name : mg "need_name" = some (.ref f_need_name)
  f_is_end : Addr
  fd_is_end : FuncData
  F_is_end : Fun K "is_end" "is_end" (topS 22) f_is_end fd_is_end
  b_is_end : Binds K fd_is_end ["thing"] []
  m_is_end : mg "is_end" = some (.ref f_is_end)
  f_is_number : Addr
  fd_is_number : FuncData
  F_is_number : Fun K "is_number" "is_number" (topS 14) f_is_number fd_is_number
  b_is_number : Binds K fd_is_number ["thing", "low", "high"] []
  m_is_number : mg "is_number" = some (.ref f_is_number)
  f_is_wish : Addr
  fd_is_wish : FuncData
  F_is_wish : Fun K "is_wish" "is_wish" (topS 23) f_is_wish fd_is_wish
  b_is_wish : Binds K fd_is_wish ["thing"] []
  m_is_wish : mg "is_wish" = some (.ref f_is_wish)
  f_need_wish : Addr
  fd_need_wish : FuncData
  F_need_wish : Fun K "need_wish" "need_wish" (topS 24) f_need_wish fd_need_wish
  b_need_wish : Binds K fd_need_wish ["wish"] []
  m_need_wish : mg "need_wish" = some (.ref f_need_wish)
  f_fits : Addr
  fd_fits : FuncData
  F_fits : Fun K "fits" "fits" (topS 26) f_fits fd_fits
  b_fits : Binds K fd_fits ["book", "wish", "name"] []
  m_fits : mg "fits" = some (.ref f_fits)
  f__law_told : Addr
  fd__law_told : FuncData
  F__law_told : Fun K "_law_told" "_law_told" (topS 35) f__law_told fd__law_told
  b__law_told : Binds K fd__law_told ["_law_book_here", "_law_wish_here", "_law_name_here"] []
  m__law_told : mg "_law_told" = some (.ref f__law_told)
  f__law_wish : Addr
  fd__law_wish : FuncData
  F__law_wish : Fun K "_law_wish" "_law_wish" (topS 32) f__law_wish fd__law_wish
  b__law_wish : Binds K fd__law_wish ["_law_script", "_law_at"] []
  m__law_wish : mg "_law_wish" = some (.ref f__law_wish)
  f_law : Addr
  fd_law : FuncData
  F_law : Fun K "law" "law" (topS 38) f_law fd_law
  b_law : Binds K fd_law ["_law_script"] []
  m_law : mg "law" = some (.ref f_law)
  z_ValueError : mg "ValueError" = none
  z_all : mg "all" = none
  z_bool : mg "bool" = none
  z_enumerate : mg "enumerate" = none
  z_int : mg "int" = none
  z_isinstance : mg "isinstance" = none
  z_len : mg "len" = none
  z_list : mg "list" = none
  z_max : mg "max" = none
  z_range : mg "range" = none
  z_set : mg "set" = none
  z_sorted : mg "sorted" = none
  z_str : mg "str" = none
  z_tuple : mg "tuple" = none
  z_zip : mg "zip" = none
  g_LETTERS : ∃ t, mg "LETTERS" = some (.str (toS [97, 98, 99, 100, 101, 102, 103, 104, 105, 106, 107, 108, 109, 110, 111, 112, 113, 114, 115, 116, 117, 118, 119, 120, 121, 122]) t)
  g_MOST_LETTERS : ∃ t, mg "MOST_LETTERS" = some (.int 8 t)
  g_MOST_NAMES : ∃ t, mg "MOST_NAMES" = some (.int 8 t)
  g_MOST_BARRED : ∃ t, mg "MOST_BARRED" = some (.int 6 t)
  g_MOST_ENDS : ∃ t, mg "MOST_ENDS" = some (.int 3 t)
def m__law_letters : Ga → R Fl := fSeq (fIf (tOr (tNot (tVal (b1 (dIsi .str) (bVar 0)))) (tNot (tVal (bCh dLe dLe (bVar 1) (bN dLen (bCons (bVar 0) (bNil))) (bVar 2))))) (fRet (bC (.bl false))) (fNil)) (fRet (b2 dEq (bLcE (bVar 0) [3] (bdN 3) (tVal (b2 dNotIn (bVar 3) (bC (.str [97, 98, 99, 100, 101, 102, 103, 104, 105, 106, 107, 108, 109, 110, 111, 112, 113, 114, 115, 116, 117, 118, 119, 120, 121, 122])))) (bVar 3)) (bLst (bNil))))
def g__law_letters : List D → R D := fnD 4 m__law_letters
def m__law_is_wish : Ga → R Fl := fSeq (fIf (tOr (tNot (tVal (b1 (dIsi .tup) (bVar 0)))) (tVal (b2 dNe (bN dLen (bCons (bVar 0) (bNil))) (bC (.int 6))))) (fRet (bC (.bl false))) (fNil)) (fSeq (fBd (bdT [1, 2, 3, 4, 5, 6]) (bVar 0)) (fSeq (fIf (tVal (b2 dNe (bLcE (bTup (bCons (bVar 1) (bCons (bVar 2) (bNil)))) [7] (bdN 7) (tOr (tNot (tVal (b1 (dIsi .int) (bVar 7)))) (tVal (b1 (dIsi .bool) (bVar 7)))) (bVar 7)) (bLst (bNil)))) (fRet (bC (.bl false))) (fNil)) (fSeq (fIf (tOr (tNot (tVal (bCh3 dLe dLe dLe (bC (.int 1)) (bVar 1) (bVar 2) (bC (.int 8))))) (tOr (tNot (tVal (bCall g__law_letters (bCons (bVar 3) (bCons (bC (.int 0)) (bCons (bC (.int 3)) (bNil))))))) (tNot (tVal (bCall g__law_letters (bCons (bVar 4) (bCons (bC (.int 0)) (bCons (bC (.int 3)) (bNil))))))))) (fRet (bC (.bl false))) (fNil)) (fSeq (fIf (tOr (tNot (tVal (b1 (dIsi .tup) (bVar 5)))) (tOr (tVal (b2 dGt (bN dLen (bCons (bVar 5) (bNil))) (bC (.int 6)))) (tNot (tVal (b1 (dIsi .bool) (bVar 6)))))) (fRet (bC (.bl false))) (fNil)) (fSeq (fIf (tVal (b2 dNe (bLcE (bVar 5) [7] (bdN 7) (tNot (tVal (bCall g__law_letters (bCons (bVar 7) (bCons (bC (.int 1)) (bCons (bC (.int 8)) (bNil))))))) (bVar 7)) (bLst (bNil)))) (fRet (bC (.bl false))) (fNil)) (fRet (b2 dEq (bN dList (bCons (bVar 5) (bNil))) (b1 dSortSet (bVar 5)))))))))
def g__law_is_wish : List D → R D := fnD 8 m__law_is_wish
def m__law_refused (a : Addr) (c : Nat) : Ga → R Fl := fSeq (fSet 1 (bLst (bCons (bE 0 a (decide (c = 0))) (bCons (bE 0 a (decide (c = 1))) (bCons (bE 0 a (decide (c = 2))) (bNil)))))) (fSeq (fSet 1 (b2 dAdd (bVar 1) (bLst (bCons (bE 0 a (decide (c = 3))) (bCons (bE 0 a (decide (c = 4))) (bCons (bE 0 a (decide (c = 5))) (bNil))))))) (fSeq (fSet 1 (b2 dAdd (bVar 1) (bLst (bCons (bE 0 a (decide (c = 6))) (bCons (bE 0 a (decide (c = 7))) (bNil)))))) (fSeq (fIf (tOr (tVal (b2 dNe (bM1 dCount (bVar 1) (bC (.bl true))) (bC (.int 1)))) (tNot (tVal (bE 0 a true)))) (fRet (bTup (bCons (bC (.str [114, 101, 102, 117, 115, 101, 100])) (bCons (b1 dNeg (bC (.int 1))) (bNil))))) (fNil)) (fRet (bTup (bCons (bC (.str [114, 101, 102, 117, 115, 101, 100])) (bCons (bM1 dIndex (bVar 1) (bC (.bl true))) (bNil))))))))
def h__law_refused : Nat → R D := hRef erH [0, 1, 2, 3, 4, 5, 6, 7]
theorem hv__law_refused : ∀ a c d, h__law_refused c = .ok d → m__law_refused a c (startE 2 a) = .ok (.rt d) := hvR fun a c h => by
  unfold m__law_refused
  simp only [erH, List.mem_cons, List.not_mem_nil, or_false] at h
  rcases h with rfl | rfl | rfl | rfl | rfl | rfl | rfl | rfl <;> (simp [startE, bE_here, fSeq, fSet, fIf, fRet, fNil, tOr, tNot, tVal, KN.tB, b1, b2, bM1, bTup, bLst, bN, bCons, bNil, bC, bVar, R.bind, dNe, dEq, dNeg, dCount, dIndex, dAdd, asBls, o2r, List.idxOf, List.findIdx, List.findIdx.go, lim]; try rfl)
def m__law_told : Ga → R Fl := fTryR (fRet (bCall g_fits (bCons (bVar 0) (bCons (bVar 1) (bCons (bVar 2) (bNil)))))) h__law_refused
def g__law_told : List D → R D := fnD 4 m__law_told
def m_law_k30 : Ga → R Fl := fSeq (fSet 1 (bCall g__law_book (bCons (bVar 0) (bCons (bC (.int 0)) (bCons (bC (.int 4)) (bCons (bC (.int 4)) (bNil))))))) (fSeq (fSet 2 (bCall g__law_wish (bCons (bVar 0) (bCons (bC (.int 50)) (bNil))))) (fSeq (fSet 3 (bCall g__law_drawn (bCons (bVar 0) (bCons (bC (.int 70)) (bCons (bC (.int 6)) (bNil)))))) (fSeq (fSet 4 (bLst (bCons (bC .non) (bCons (bC (.bl true)) (bCons (bC (.bl false)) (bCons (bC (.int 0)) (bCons (bC (.int 1)) (bCons (bC (.int 8)) (bCons (bC (.int 9)) (bCons (bC (.str [])) (bCons (bC (.str [97, 98, 99])) (bCons (bC (.str [97, 98, 99, 100])) (bCons (bC (.str [65])) (bCons (bTup (bNil)) (bCons (bTup (bCons (bC (.str [97])) (bNil))) (bCons (bTup (bCons (bC (.str [98])) (bCons (bC (.str [97])) (bNil)))) (bCons (bTup (bCons (bC (.str [97])) (bCons (bC (.str [97])) (bNil)))) (bCons (bTup (bCons (bC (.str [])) (bNil))) (bCons (bLst (bCons (bC (.str [97])) (bNil))) (bCons (bC (.int 3)) (bNil))))))))))))))))))))) (fSeq (fSet 4 (b2 dAdd (bVar 4) (bLst (bCons (bTup (bCons (bC (.str [97])) (bCons (bC (.str [98])) (bCons (bC (.str [99])) (bCons (bC (.str [100])) (bCons (bC (.str [101])) (bCons (bC (.str [102])) (bNil)))))))) (bCons (bTup (bCons (bC (.str [97])) (bCons (bC (.str [98])) (bCons (bC (.str [99])) (bCons (bC (.str [100])) (bCons (bC (.str [101])) (bCons (bC (.str [102])) (bCons (bC (.str [103])) (bNil))))))))) (bCons (bC (.str [45])) (bCons (bTup (bCons (bC (.int 1)) (bNil))) (bNil)))))))) (fSeq (fSet 5 (b2 dIx (bVar 4) (bCall g__law_drawn (bCons (bVar 0) (bCons (bC (.int 71)) (bCons (bN dLen (bCons (bVar 4) (bNil))) (bNil))))))) (fSeq (fSet 6 (bLst (bCons (bVar 2) (bCons (b2 dAdd (b2 dAdd (bSl (bVar 2) (pNo) (pSo (bVar 3))) (bTup (bCons (bVar 5) (bNil)))) (bSl (bVar 2) (pSo (b2 dAdd (bVar 3) (bC (.int 1)))) (pNo))) (bCons (b2 dAdd (b2 dAdd (bSl (bVar 2) (pNo) (pSo (bVar 3))) (bTup (bCons (bVar 5) (bNil)))) (bSl (bVar 2) (pSo (bVar 3)) (pNo))) (bCons (bN dList (bCons (bVar 2) (bNil))) (bCons (bSl (bVar 2) (pSo (bC (.int 1))) (pNo)) (bNil)))))))) (fSeq (fSet 7 (bTup (bCons (bC (.str [97])) (bCons (bC (.str [98])) (bCons (bC (.str [99])) (bCons (bC (.str [100])) (bCons (bC (.str [101])) (bCons (bC (.str [102])) (bCons (bC (.str [103])) (bNil)))))))))) (fSeq (fSet 6 (b2 dAdd (bVar 6) (bLst (bCons (bTup (bCons (bC (.int 1)) (bCons (bC (.int 2)) (bCons (bC (.str [])) (bCons (bC (.str [])) (bCons (bVar 7) (bCons (bC (.bl true)) (bNil)))))))) (bCons (bTup (bCons (bC (.int 1)) (bCons (bC (.int 2)) (bCons (bC (.str [])) (bCons (bC (.str [])) (bCons (bSl (bVar 7) (pSo (bC (.int 1))) (pNo)) (bCons (bC (.bl true)) (bNil)))))))) (bCons (bTup (bCons (bC (.int 0)) (bCons (bC (.int 2)) (bCons (bC (.str [])) (bCons (bC (.str [])) (bCons (bTup (bNil)) (bCons (bC (.bl true)) (bNil)))))))) (bNil))))))) (fSeq (fSet 6 (b2 dAdd (bVar 6) (bLst (bCons (bTup (bCons (bC (.int 1)) (bCons (bC (.int 9)) (bCons (bC (.str [])) (bCons (bC (.str [])) (bCons (bTup (bNil)) (bCons (bC (.bl true)) (bNil)))))))) (bCons (bTup (bCons (bC (.int 3)) (bCons (bC (.int 2)) (bCons (bC (.str [])) (bCons (bC (.str [])) (bCons (bTup (bNil)) (bCons (bC (.bl true)) (bNil)))))))) (bCons (bTup (bCons (bC (.int 1)) (bCons (bC (.int 2)) (bCons (bC (.str [97, 98, 99, 100])) (bCons (bC (.str [])) (bCons (bTup (bNil)) (bCons (bC (.bl true)) (bNil)))))))) (bNil))))))) (fSeq (fSet 6 (b2 dAdd (bVar 6) (bLst (bCons (bTup (bCons (bC (.int 1)) (bCons (bC (.int 2)) (bCons (bC (.str [])) (bCons (bC (.str [97, 98, 99, 100])) (bCons (bTup (bNil)) (bCons (bC (.bl true)) (bNil)))))))) (bCons (bTup (bCons (bC (.int 1)) (bCons (bC (.int 2)) (bCons (bC (.str [])) (bCons (bC (.str [])) (bCons (bTup (bCons (bC (.str [98])) (bCons (bC (.str [97])) (bNil)))) (bCons (bC (.bl true)) (bNil)))))))) (bCons (bTup (bCons (bC (.int 1)) (bCons (bC (.int 2)) (bCons (bC (.str [])) (bCons (bC (.str [])) (bCons (bTup (bCons (bC (.str [97])) (bCons (bC (.str [97])) (bNil)))) (bCons (bC (.bl true)) (bNil)))))))) (bNil))))))) (fSeq (fSet 6 (b2 dAdd (bVar 6) (bLst (bCons (bTup (bCons (bC (.int 1)) (bCons (bC (.int 2)) (bCons (bC (.str [])) (bCons (bC (.str [])) (bCons (bTup (bNil)) (bCons (bC (.int 1)) (bNil)))))))) (bCons (bTup (bCons (bC (.int 1)) (bCons (bC (.int 2)) (bCons (bC (.str [])) (bCons (bC (.str [])) (bCons (bTup (bNil)) (bCons (bC .non) (bNil)))))))) (bCons (bTup (bCons (bC (.int 8)) (bCons (bC (.int 8)) (bCons (bC (.str [97, 98, 99])) (bCons (bC (.str [97, 98, 99])) (bCons (bTup (bNil)) (bCons (bC (.bl false)) (bNil)))))))) (bNil))))))) (fSeq (fForE (b2 dAdd (bVar 6) (bLst (bCons (bC .non) (bCons (bTup (bNil)) (bCons (bVar 5) (bCons (bTup (bCons (bC (.int 8)) (bCons (bC (.int 8)) (bCons (bC (.str [97, 98, 99])) (bCons (bC (.str [97, 98, 99])) (bCons (bTup (bNil)) (bCons (bC (.bl true)) (bNil)))))))) (bCons (bTup (bCons (bC (.int 2)) (bCons (bC (.int 1)) (bCons (bC (.str [])) (bCons (bC (.str [])) (bCons (bTup (bNil)) (bCons (bC (.bl true)) (bNil)))))))) (bNil)))))))) (bdN 8) (fSeq (fSet 10 (bCall g_is_wish (bCons (bVar 8) (bNil)))) (fSeq (fIf (tOr (tNot (tVal (b1 (dIsi .bool) (bVar 10)))) (tVal (b2 dNe (bVar 10) (bCall g__law_is_wish (bCons (bVar 8) (bNil)))))) (fRet (bC (.bl false))) (fNil)) (fForI (iR1 (bC (.int 3))) (bdN 11) (fSeq (fSet 12 (bCall g__law_name (bCons (bVar 0) (bCons (b2 dAdd (bC (.int 80)) (b2 dMul (bC (.int 10)) (bVar 11))) (bCons (bC (.int 5)) (bNil)))))) (fSeq (fIf (tVal (b2 dEq (bVar 11) (bC (.int 2)))) (fSet 12 (b2 dIx (bVar 1) (bCall g__law_drawn (bCons (bVar 0) (bCons (bC (.int 79)) (bCons (bN dLen (bCons (bVar 1) (bNil))) (bNil))))))) (fNil)) (fSeq (fSet 13 (bIf (tVal (bVar 10)) (bCall g__law_fits (bCons (bVar 1) (bCons (bVar 8) (bCons (bVar 12) (bNil))))) (bTup (bCons (bC (.str [114, 101, 102, 117, 115, 101, 100])) (bCons (bC (.int 3)) (bNil)))))) (fIf (tVal (b2 dNe (bCall g__law_told (bCons (bVar 1) (bCons (bVar 8) (bCons (bVar 12) (bNil))))) (bVar 13))) (fRet (bC (.bl false))) (fNil))))))))) (fSeq (fSet 9 (b2 dIx (bLst (bCons (bC (.str [])) (bCons (bC (.str [65])) (bCons (bC .non) (bCons (bC (.int 1)) (bNil)))))) (bCall g__law_drawn (bCons (bVar 0) (bCons (bC (.int 72)) (bCons (bC (.int 4)) (bNil))))))) (fSeq (fIf (tOr (tVal (b2 dNe (bCall g__law_told (bCons (bVar 1) (bCons (bVar 2) (bCons (bVar 9) (bNil))))) (bTup (bCons (bC (.str [114, 101, 102, 117, 115, 101, 100])) (bCons (bC (.int 2)) (bNil)))))) (tVal (b2 dNe (bCall g__law_told (bCons (bVar 1) (bCons (bSl (bVar 2) (pNo) (pSo (bC (.int 5)))) (bCons (bVar 9) (bNil))))) (bTup (bCons (bC (.str [114, 101, 102, 117, 115, 101, 100])) (bCons (bC (.int 3)) (bNil))))))) (fRet (bC (.bl false))) (fNil)) (fRet (b2 dEq (bCall g__law_told (bCons (bN dList (bCons (bVar 1) (bNil))) (bCons (bSl (bVar 2) (pNo) (pSo (bC (.int 5)))) (bCons (bVar 9) (bNil))))) (bTup (bCons (bC (.str [114, 101, 102, 117, 115, 101, 100])) (bCons (bC (.int 0)) (bNil))))))))))))))))))))
def g_law_k30 : List D → R D := fnD 14 m_law_k30
variable {P : Program} {w : World} {K : PySem.W.Frag} {mg : Str → Option Value} {base : Heap}
theorem sc__law_cell : FnScope ["_law_script", "_law_k"] ["_law_script", "_law_k"] (defScope (topS 28)) := ⟨rfl, rfl, rfl, by decide +kernel, rfl, by decide +kernel, by decide +kernel⟩
theorem ok__law_cell (T : Top K mg) : FnOk P w K mg base (L2.CX P w) 1 T.f__law_cell T.fd__law_cell ["_law_script", "_law_k"] (spD K (clE T.er) 2 g__law_cell) := by
  refine fok T.F__law_cell sc__law_cell rfl rfl fun cdv A outer s H E hr => ?_
  have nd := sc__law_cell.nd
  have hu64 := hr.units
  have hu65 := hu65_of hr
  have hu1 := hu_of hr
  exact js_cons (js_if (jt_cmp (o_eq hu64) (J.r (j_var 0)) (JF.r (jf_lst (ja_nil)))) (js_one (js_ret (j_op o_mul (J.r (j_int)) (J.r (j_var 1))))) (js_nil)) (js_one (js_ret (j_op o_add (J.r (j_ix hu1 (J.r (j_var 0)) (J.r (j_op o_mod (J.r (j_var 1)) (J.r (j_b c_len T.z_len PySem.boot_len (ja1_cons (J.r (j_var 0)) (ja1_nil)))))))) (J.r (j_op o_mul (J.r (j_int)) (J.r (j_op o_div (J.r (j_var 1)) (J.r (j_b c_len T.z_len PySem.boot_len (ja1_cons (J.r (j_var 0)) (ja1_nil)))))))))))
theorem sc__law_drawn : FnScope ["_law_script", "_law_k", "_law_many", "_law_cell_here"] ["_law_script", "_law_k", "_law_many"] (defScope (topS 29)) := ⟨rfl, rfl, rfl, by decide +kernel, rfl, by decide +kernel, by decide +kernel⟩
theorem ok__law_drawn (T : Top K mg) : FnOk P w K mg base (L2.CX P w) 2 T.f__law_drawn T.fd__law_drawn ["_law_script", "_law_k", "_law_many"] (spD K (clE T.er) 3 g__law_drawn) := by
  refine fok T.F__law_drawn sc__law_drawn rfl rfl fun cdv A outer s H E hr => ?_
  have nd := sc__law_drawn.nd
  have hu64 := hr.units
  have hu65 := hu65_of hr
  have hu1 := hu_of hr
  exact js_cons (js_set nd (j_op o_mod (J.r (j_op o_add (J.r (j_op o_mul (J.r (j_op o_mod (J.r (j_call (ok__law_cell T) (hr.mono (by decide)) T.m__law_cell T.F__law_cell.kp T.b__law_cell takes_D (ja_cons (j_var 0) (ja_cons (j_var 1) (ja_nil))) (bCons_len (bCons_len bNil_len)))) (J.r (j_int)))) (J.r (j_int)))) (J.r (j_op o_mul (J.r (j_int)) (J.r (j_op o_add (J.r (j_var 1)) (J.r (j_int)))))))) (J.r (j_int)))) (js_cons (js_set nd (j_op o_mod (J.r (j_op o_add (J.r (j_op o_mul (J.r (j_var 3)) (J.r (j_var 3)))) (J.r (j_op o_div (J.r (j_var 3)) (J.r (j_int)))))) (J.r (j_int)))) (js_one (js_ret (j_op o_mod (J.r (j_op o_div (J.r (j_op o_mod (J.r (j_op o_add (J.r (j_op o_mul (J.r (j_var 3)) (J.r (j_var 3)))) (J.r (j_op o_div (J.r (j_var 3)) (J.r (j_int)))))) (J.r (j_int)))) (J.r (j_int)))) (J.r (j_var 2))))))
theorem sc__law_name : FnScope ["_law_script", "_law_at", "_law_most", "_law_size", "_law_letters_here", "_law_k"] ["_law_script", "_law_at", "_law_most"] (defScope (topS 30)) := ⟨rfl, rfl, rfl, by decide +kernel, rfl, by decide +kernel, by decide +kernel⟩
theorem ok__law_name (T : Top K mg) : FnOk P w K mg base (L2.CX P w) 3 T.f__law_name T.fd__law_name ["_law_script", "_law_at", "_law_most"] (spD K (clE T.er) 3 g__law_name) := by
  refine fok T.F__law_name sc__law_name rfl rfl fun cdv A outer s H E hr => ?_
  have nd := sc__law_name.nd
  have hu64 := hr.units
  have hu65 := hu65_of hr
  have hu1 := hu_of hr
  exact js_cons (js_set nd (j_op o_add (J.r (j_int)) (J.r (j_call (ok__law_drawn T) (hr.mono (by decide)) T.m__law_drawn T.F__law_drawn.kp T.b__law_drawn takes_D (ja_cons (j_var 0) (ja_cons (j_var 1) (ja_cons (j_var 2) (ja_nil)))) (bCons_len (bCons_len (bCons_len bNil_len))))))) (js_cons (js_set nd (j_ix hu1 (JF.r (jf_lst (ja_cons (j_str) (ja_cons (j_str) (ja_cons (j_str) (ja_nil)))))) (J.r (j_call (ok__law_drawn T) (hr.mono (by decide)) T.m__law_drawn T.F__law_drawn.kp T.b__law_drawn takes_D (ja_cons (j_var 0) (ja_cons (j_op o_add (J.r (j_var 1)) (J.r (j_int))) (ja_cons (j_int) (ja_nil)))) (bCons_len (bCons_len (bCons_len bNil_len))))))) (js_one (js_ret (j_join (J.r (j_str)) (JF.r (jf_lcI (own := [("_law_k", 5)]) rfl nd (ji_r1 T.z_range (j_var 3)) ⟨blkOk_by (own := [("_law_k", 5)]) (by first | (show blkC ["_law_script", "_law_at", "_law_most", "_law_size", "_law_letters_here", "_law_k"] (defScope (topS 30)) _ _ = true; decide +kernel) | rfl), fun _ _ _ _ _ => jg_n nd, fun _ _ _ _ _ => jifs_nil, fun _ _ _ _ _ => j_ix hu1 (J.r (j_var 4)) (J.r (j_call (ok__law_drawn T) (hr.mono (by decide)) T.m__law_drawn T.F__law_drawn.kp T.b__law_drawn takes_W0 (ja_cons (j_var 0) (ja_cons (j_op o_add (J.r (j_op o_add (J.r (j_var 1)) (J.r (j_int)))) (J.r (j_var 5))) (ja_cons (j_b c_len T.z_len PySem.boot_len (ja1_cons (J.r (j_var 4)) (ja1_nil))) (ja_nil)))) (bCons_len (bCons_len (bCons_len bNil_len)))))⟩))))))
theorem sc__law_book : FnScope ["_law_script", "_law_at", "_law_many", "_law_most", "_law_found", "_law_k"] ["_law_script", "_law_at", "_law_many", "_law_most"] (defScope (topS 31)) := ⟨rfl, rfl, rfl, by decide +kernel, rfl, by decide +kernel, by decide +kernel⟩
theorem ok__law_book (T : Top K mg) : FnOk P w K mg base (L2.CX P w) 4 T.f__law_book T.fd__law_book ["_law_script", "_law_at", "_law_many", "_law_most"] (spD K (clE T.er) 4 g__law_book) := by
  refine fok T.F__law_book sc__law_book rfl rfl fun cdv A outer s H E hr => ?_
  have nd := sc__law_book.nd
  have hu64 := hr.units
  have hu65 := hu65_of hr
  have hu1 := hu_of hr
  exact js_cons (js_set nd (j_tup (ja_nil))) (js_cons (js_forI passes_D rfl bdN_ok (ji_r1 T.z_range (j_op o_add (J.r (j_int)) (J.r (j_call (ok__law_drawn T) (hr.mono (by decide)) T.m__law_drawn T.F__law_drawn.kp T.b__law_drawn takes_D (ja_cons (j_var 0) (ja_cons (j_var 1) (ja_cons (j_var 2) (ja_nil)))) (bCons_len (bCons_len (bCons_len bNil_len))))))) (jg_n nd) (js_one (js_set nd (j_op o_add (J.r (j_var 4)) (J.r (j_tup (ja_cons (j_call (ok__law_name T) (hr.mono (by decide)) T.m__law_name T.F__law_name.kp T.b__law_name takes_D (ja_cons (j_var 0) (ja_cons (j_op o_add (J.r (j_op o_add (J.r (j_var 1)) (J.r (j_int)))) (J.r (j_op o_mul (J.r (j_int)) (J.r (j_var 5))))) (ja_cons (j_var 3) (ja_nil)))) (bCons_len (bCons_len (bCons_len bNil_len)))) (ja_nil)))))))) (js_one (js_ret (j_var 4))))
theorem sc__law_fits : FnScope ["_law_book_here", "_law_wish_here", "_law_name_here"] ["_law_book_here", "_law_wish_here", "_law_name_here"] (defScope (topS 33)) := ⟨rfl, rfl, rfl, by decide +kernel, rfl, by decide +kernel, by decide +kernel⟩
theorem ok__law_fits (T : Top K mg) : FnOk P w K mg base (L2.CX P w) 1 T.f__law_fits T.fd__law_fits ["_law_book_here", "_law_wish_here", "_law_name_here"] (spD K (clE T.er) 3 g__law_fits) := by
  refine fok T.F__law_fits sc__law_fits rfl rfl fun cdv A outer s H E hr => ?_
  have nd := sc__law_fits.nd
  have hu64 := hr.units
  have hu65 := hu65_of hr
  have hu1 := hu_of hr
  exact js_cons (js_if (JW.t (jw_or (jt_not (jt_chain o_le o_le (J.r (j_ix hu1 (J.r (j_var 1)) (J.r (j_int)))) (J.r (j_b c_len T.z_len PySem.boot_len (ja1_cons (J.r (j_var 2)) (ja1_nil)))) (J.r (j_ix hu1 (J.r (j_var 1)) (J.r (j_int)))))) (jw_or1 (jt_cmp (o_ne hu64) (J.r (j_slice (J.r (j_var 2)) (jo_none) (jo_some (J.r (j_b c_len T.z_len PySem.boot_len (ja1_cons (J.r (j_ix hu1 (J.r (j_var 1)) (J.r (j_int)))) (ja1_nil))))))) (J.r (j_ix hu1 (J.r (j_var 1)) (J.r (j_int)))))))) (js_one (js_ret (j_bl))) (js_nil)) (js_cons (js_if (JW.t (jw_or (jt_cmp (o_ne hu64) (J.r (j_slice (J.r (j_var 2)) (jo_some (J.r (j_b (c_max rfl) T.z_max PyProof.Rows.boot_max (ja1_cons (J.r (j_int)) (ja1_cons (J.r (j_op o_sub (J.r (j_b c_len T.z_len PySem.boot_len (ja1_cons (J.r (j_var 2)) (ja1_nil)))) (J.r (j_b c_len T.z_len PySem.boot_len (ja1_cons (J.r (j_ix hu1 (J.r (j_var 1)) (J.r (j_int)))) (ja1_nil)))))) (ja1_nil)))))) (jo_none))) (J.r (j_ix hu1 (J.r (j_var 1)) (J.r (j_int))))) (jw_or1 (jt_cmp (o_in hu65) (J.r (j_var 2)) (J.r (j_ix hu1 (J.r (j_var 1)) (J.r (j_int)))))))) (js_one (js_ret (j_bl))) (js_nil)) (js_one (js_ret (j_or (j_ix hu1 (J.r (j_var 1)) (J.r (j_int))) (j_one (j_cmp (o_notin hu65) (J.r (j_var 2)) (J.r (j_var 0))))))))
theorem sc__law_letters : FnScope ["_law_thing", "_law_least", "_law_most", "_law_sign"] ["_law_thing", "_law_least", "_law_most"] (defScope (topS 36)) := ⟨rfl, rfl, rfl, by decide +kernel, rfl, by decide +kernel, by decide +kernel⟩
theorem ok__law_letters (T : Top K mg) : FnOk P w K mg base (L2.CX P w) 1 T.f__law_letters T.fd__law_letters ["_law_thing", "_law_least", "_law_most"] (spD K (clE T.er) 3 g__law_letters) := by
  refine fok T.F__law_letters sc__law_letters rfl rfl fun cdv A outer s H E hr => ?_
  have nd := sc__law_letters.nd
  have hu64 := hr.units
  have hu65 := hu65_of hr
  have hu1 := hu_of hr
  exact js_cons (js_if (JW.t (jw_or (jt_not (jt_val (j_isi .str (J.r (j_var 0)) PyProof.Rows.boot_str T.z_isinstance T.z_str))) (jw_or1 (jt_not (jt_chain o_le o_le (J.r (j_var 1)) (J.r (j_b c_len T.z_len PySem.boot_len (ja1_cons (J.r (j_var 0)) (ja1_nil)))) (J.r (j_var 2))))))) (js_one (js_ret (j_bl))) (js_nil)) (js_one (js_ret (j_cmp (o_eq hu64) (JF.r (jf_lcE (own := [("_law_sign", 3)]) rfl nd (j_var 0) ⟨blkOk_by (own := [("_law_sign", 3)]) (by first | (show blkC ["_law_thing", "_law_least", "_law_most", "_law_sign"] (defScope (topS 36)) _ _ = true; decide +kernel) | rfl), fun _ _ _ _ _ => jg_n nd, fun _ _ _ _ _ => jifs_oneK (K := K) rfl (jt_cmp (o_notin hu65) (J.r (j_var 3)) (J.r (j_str))), fun _ _ _ _ _ => j_var 3⟩)) (JF.r (jf_lst (ja_nil))))))
theorem sc__law_is_wish : FnScope ["_law_thing", "_law_least", "_law_most", "_law_head", "_law_tail", "_law_barred", "_law_told_here", "_law_one"] ["_law_thing"] (defScope (topS 37)) := ⟨rfl, rfl, rfl, by decide +kernel, rfl, by decide +kernel, by decide +kernel⟩
theorem ok__law_is_wish (T : Top K mg) : FnOk P w K mg base (L2.CX P w) 2 T.f__law_is_wish T.fd__law_is_wish ["_law_thing"] (spD K (clE T.er) 1 g__law_is_wish) := by
  refine fok T.F__law_is_wish sc__law_is_wish rfl rfl fun cdv A outer s H E hr => ?_
  have nd := sc__law_is_wish.nd
  have hu64 := hr.units
  have hu65 := hu65_of hr
  have hu1 := hu_of hr
  exact js_cons (js_if (JW.t (jw_or (jt_not (jt_val (j_isi .tup (J.r (j_var 0)) PyProof.Rows.boot_tuple T.z_isinstance T.z_tuple))) (jw_or1 (jt_cmp (o_ne hu64) (J.r (j_b c_len T.z_len PySem.boot_len (ja1_cons (J.r (j_var 0)) (ja1_nil)))) (J.r (j_int)))))) (js_one (js_ret (j_bl))) (js_nil)) (js_cons (js_unp (j_var 0) (jg_tK (K := K) rfl rfl (jgs_cons nd (jgs_cons nd (jgs_cons nd (jgs_cons nd (jgs_cons nd (jgs_cons nd (jgs_nil))))))))) (js_cons (js_if (jt_cmp (o_ne hu64) (JF.r (jf_lcE (own := [("_law_one", 7)]) rfl nd (j_tup (ja_cons (j_var 1) (ja_cons (j_var 2) (ja_nil)))) ⟨blkOk_by (own := [("_law_one", 7)]) (by first | (show blkC ["_law_thing", "_law_least", "_law_most", "_law_head", "_law_tail", "_law_barred", "_law_told_here", "_law_one"] (defScope (topS 37)) _ _ = true; decide +kernel) | rfl), fun _ _ _ _ _ => jg_n nd, fun _ _ _ _ _ => jifs_oneK (K := K) rfl (JW.t (jw_or (jt_not (jt_val (j_isi .int (J.r (j_var 7)) PyProof.Rows.boot_int T.z_isinstance T.z_int))) (jw_or1 (jt_val (j_isi .bool (J.r (j_var 7)) PyProof.Rows.boot_bool T.z_isinstance T.z_bool))))), fun _ _ _ _ _ => j_var 7⟩)) (JF.r (jf_lst (ja_nil)))) (js_one (js_ret (j_bl))) (js_nil)) (js_cons (js_if (JW.t (jw_or (jt_not (jt_chain3 o_le o_le o_le (J.r (j_int)) (J.r (j_var 1)) (J.r (j_var 2)) (J.r (j_int)))) (jw_or (jt_not (jt_val (j_call (ok__law_letters T) (hr.mono (by decide)) T.m__law_letters T.F__law_letters.kp T.b__law_letters takes_D (ja_cons (j_var 3) (ja_cons (j_int) (ja_cons (j_int) (ja_nil)))) (bCons_len (bCons_len (bCons_len bNil_len)))))) (jw_or1 (jt_not (jt_val (j_call (ok__law_letters T) (hr.mono (by decide)) T.m__law_letters T.F__law_letters.kp T.b__law_letters takes_D (ja_cons (j_var 4) (ja_cons (j_int) (ja_cons (j_int) (ja_nil)))) (bCons_len (bCons_len (bCons_len bNil_len)))))))))) (js_one (js_ret (j_bl))) (js_nil)) (js_cons (js_if (JW.t (jw_or (jt_not (jt_val (j_isi .tup (J.r (j_var 5)) PyProof.Rows.boot_tuple T.z_isinstance T.z_tuple))) (jw_or (jt_cmp o_gt (J.r (j_b c_len T.z_len PySem.boot_len (ja1_cons (J.r (j_var 5)) (ja1_nil)))) (J.r (j_int))) (jw_or1 (jt_not (jt_val (j_isi .bool (J.r (j_var 6)) PyProof.Rows.boot_bool T.z_isinstance T.z_bool))))))) (js_one (js_ret (j_bl))) (js_nil)) (js_cons (js_if (jt_cmp (o_ne hu64) (JF.r (jf_lcE (own := [("_law_one", 7)]) rfl nd (j_var 5) ⟨blkOk_by (own := [("_law_one", 7)]) (by first | (show blkC ["_law_thing", "_law_least", "_law_most", "_law_head", "_law_tail", "_law_barred", "_law_told_here", "_law_one"] (defScope (topS 37)) _ _ = true; decide +kernel) | rfl), fun _ _ _ _ _ => jg_n nd, fun _ _ _ _ _ => jifs_oneK (K := K) rfl (jt_not (jt_val (j_call (ok__law_letters T) (hr.mono (by decide)) T.m__law_letters T.F__law_letters.kp T.b__law_letters takes_W0 (ja_cons (j_var 7) (ja_cons (j_int) (ja_cons (j_int) (ja_nil)))) (bCons_len (bCons_len (bCons_len bNil_len)))))), fun _ _ _ _ _ => j_var 7⟩)) (JF.r (jf_lst (ja_nil)))) (js_one (js_ret (j_bl))) (js_nil)) (js_one (js_ret (j_cmp (o_eq hu64) (JF.r (jf_ty c_list T.z_list PyProof.Rows.boot_list (ja1_cons (J.r (j_var 5)) (ja1_nil)))) (JF.r (jf_sortset rfl T.z_sorted T.z_set (J.r (j_var 5))))))))))))
theorem sc__law_refused : FnScope ["_law_e", "_law_flags"] ["_law_e"] (defScope (topS 34)) := ⟨rfl, rfl, rfl, by decide +kernel, rfl, by decide +kernel, by decide +kernel⟩
theorem ok__law_refused (T : Top K mg) : FnE P w K mg base (L2.CX P w) 1 T.f__law_refused T.fd__law_refused ["_law_e"] (spE (clE T.er) K h__law_refused) := by
  refine fokE T.F__law_refused sc__law_refused hv__law_refused fun cdv A outer s H E p c d hd hz hf hr => ?_
  have nd := sc__law_refused.nd
  obtain ⟨hu64, hu65, hu1⟩ := hu_of_H hr
  have hc := hRef_lt hd
  have hp : p ∈ (L2H.cxH (L2.CX P w) P w K mg base ["_law_e", "_law_flags"] "_law_refused" (defScope (topS 34)) T.f__law_refused cdv A outer s H E p).pn := List.mem_cons_self
  exact js_cons (js_set nd (JF.v (jf_lst (ja_cons (j_isE (T.er.c c hc) hp hz hf (pe_cls (T.er.x 0 (by decide)).g) rel_ref (T.er.kit c 0 hc (by decide)) T.z_isinstance) (ja_cons (j_isE (T.er.c c hc) hp hz hf (pe_cls (T.er.x 1 (by decide)).g) rel_ref (T.er.kit c 1 hc (by decide)) T.z_isinstance) (ja_cons (j_isE (T.er.c c hc) hp hz hf (pe_cls (T.er.x 2 (by decide)).g) rel_ref (T.er.kit c 2 hc (by decide)) T.z_isinstance) (ja_nil))))))) (js_cons (js_set nd (j_op o_add (J.r (j_var 1)) (JF.r (jf_lst (ja_cons (j_isE (T.er.c c hc) hp hz hf (pe_cls (T.er.x 3 (by decide)).g) rel_ref (T.er.kit c 3 hc (by decide)) T.z_isinstance) (ja_cons (j_isE (T.er.c c hc) hp hz hf (pe_cls (T.er.x 4 (by decide)).g) rel_ref (T.er.kit c 4 hc (by decide)) T.z_isinstance) (ja_cons (j_isE (T.er.c c hc) hp hz hf (pe_cls (T.er.x 5 (by decide)).g) rel_ref (T.er.kit c 5 hc (by decide)) T.z_isinstance) (ja_nil)))))))) (js_cons (js_set nd (j_op o_add (J.r (j_var 1)) (JF.r (jf_lst (ja_cons (j_isE (T.er.c c hc) hp hz hf (pe_cls (T.er.x 6 (by decide)).g) rel_ref (T.er.kit c 6 hc (by decide)) T.z_isinstance) (ja_cons (j_isE (T.er.c c hc) hp hz hf (pe_cls (T.er.x 7 (by decide)).g) rel_ref (T.er.kit c 7 hc (by decide)) T.z_isinstance) (ja_nil))))))) (js_cons (js_if (JW.t (jw_or (jt_cmp (o_ne hu64) (J.r (j_countB (J.r (j_var 1)) (J.r (j_bl)))) (J.r (j_int))) (jw_or1 (jt_not (jt_val (j_isE (T.er.c c hc) hp hz hf (pe_bltn (v := .ty "ValueError") (u := .type "ValueError") rfl T.z_ValueError (by decide +kernel) rfl (by decide) (by decide)) rel_ty (T.er.val c hc) T.z_isinstance)))))) (js_one (js_ret (j_tup (ja_cons (j_str) (ja_cons (j_neg (J.r (j_int))) (ja_nil)))))) (js_nil)) (js_one (js_ret (j_tup (ja_cons (j_str) (ja_cons (j_indexB (J.r (j_var 1)) (J.r (j_bl))) (ja_nil)))))))))
theorem sc_is_fit : FnScope ["book", "wish", "name", "least", "most", "head", "tail", "barred", "told"] ["book", "wish", "name"] (defScope (topS 25)) := ⟨rfl, rfl, rfl, by decide +kernel, rfl, by decide +kernel, by decide +kernel⟩
theorem ok_is_fit (T : Top K mg) : FnOk P w K mg base (L2.CX P w) 1 T.f_is_fit T.fd_is_fit ["book", "wish", "name"] (spD K (clE T.er) 3 g_is_fit) := by
  refine fok T.F_is_fit sc_is_fit rfl rfl fun cdv A outer s H E hr => ?_
  have nd := sc_is_fit.nd
  have hu64 := hr.units
  have hu65 := hu65_of hr
  have hu1 := hu_of hr
  exact js_cons (js_unp (j_var 1) (jg_tK (K := K) rfl rfl (jgs_cons nd (jgs_cons nd (jgs_cons nd (jgs_cons nd (jgs_cons nd (jgs_cons nd (jgs_nil))))))))) (js_cons (js_if (JW.t (jw_or (jt_not (jt_chain o_le o_le (J.r (j_var 3)) (J.r (j_b c_len T.z_len PySem.boot_len (ja1_cons (J.r (j_var 2)) (ja1_nil)))) (J.r (j_var 4)))) (jw_or (jt_not (jt_val (j_sw (J.r (j_var 2)) (J.r (j_var 5))))) (jw_or1 (jt_not (jt_val (j_ew (J.r (j_var 2)) (J.r (j_var 6))))))))) (js_one (js_ret (j_bl))) (js_nil)) (js_one (js_ret (j_and (j_cmp (o_notin hu65) (J.r (j_var 2)) (J.r (j_var 7))) (j_one (j_or (j_var 8) (j_one (j_cmp (o_notin hu65) (J.r (j_var 2)) (J.r (j_var 0))))))))))
theorem sc_is_name : FnScope ["thing", "sign"] ["thing"] (defScope (topS 15)) := ⟨rfl, rfl, rfl, by decide +kernel, rfl, by decide +kernel, by decide +kernel⟩
theorem ok_is_name (T : Top K mg) : FnOk P w K mg base (L2.CX P w) 1 T.f_is_name T.fd_is_name ["thing"] (spD K (clE T.er) 1 g_is_name) := by
  refine fok T.F_is_name sc_is_name rfl rfl fun cdv A outer s H E hr => ?_
  have nd := sc_is_name.nd
  have hu64 := hr.units
  have hu65 := hu65_of hr
  have hu1 := hu_of hr
  exact js_one (js_ret (j_and (j_isi .str (J.r (j_var 0)) PyProof.Rows.boot_str T.z_isinstance T.z_str) (j_and (j_chain o_le o_le (J.r (j_int)) (J.r (j_b c_len T.z_len PySem.boot_len (ja1_cons (J.r (j_var 0)) (ja1_nil)))) (J.r (j_globI T.g_MOST_LETTERS))) (j_one (j_b (c_all rfl) T.z_all PyProof.Rows.boot_all (ja1_cons (JF.r (jf_lcE (own := [("sign", 1)]) rfl nd (j_var 0) ⟨blkOk_by (own := [("sign", 1)]) (by first | (show blkC ["thing", "sign"] (defScope (topS 15)) _ _ = true; decide +kernel) | rfl), fun _ _ _ _ _ => jg_n nd, fun _ _ _ _ _ => jifs_nil, fun _ _ _ _ _ => j_cmp (o_in hu65) (J.r (j_var 1)) (J.r (j_globS T.g_LETTERS))⟩)) (ja1_nil)))))))
theorem sc_is_book : FnScope ["thing", "one"] ["thing"] (defScope (topS 16)) := ⟨rfl, rfl, rfl, by decide +kernel, rfl, by decide +kernel, by decide +kernel⟩
theorem ok_is_book (T : Top K mg) : FnOk P w K mg base (L2.CX P w) 2 T.f_is_book T.fd_is_book ["thing"] (spD K (clE T.er) 1 g_is_book) := by
  refine fok T.F_is_book sc_is_book rfl rfl fun cdv A outer s H E hr => ?_
  have nd := sc_is_book.nd
  have hu64 := hr.units
  have hu65 := hu65_of hr
  have hu1 := hu_of hr
  exact js_one (js_ret (j_and (j_isi .tup (J.r (j_var 0)) PyProof.Rows.boot_tuple T.z_isinstance T.z_tuple) (j_and (j_chain o_le o_le (J.r (j_int)) (J.r (j_b c_len T.z_len PySem.boot_len (ja1_cons (J.r (j_var 0)) (ja1_nil)))) (J.r (j_globI T.g_MOST_NAMES))) (j_one (j_b (c_all rfl) T.z_all PyProof.Rows.boot_all (ja1_cons (JF.r (jf_lcE (own := [("one", 1)]) rfl nd (j_var 0) ⟨blkOk_by (own := [("one", 1)]) (by first | (show blkC ["thing", "one"] (defScope (topS 16)) _ _ = true; decide +kernel) | rfl), fun _ _ _ _ _ => jg_n nd, fun _ _ _ _ _ => jifs_nil, fun _ _ _ _ _ => j_call (ok_is_name T) (hr.mono (by decide)) T.m_is_name T.F_is_name.kp T.b_is_name takes_W0 (ja_cons (j_var 1) (ja_nil)) (bCons_len bNil_len)⟩)) (ja1_nil)))))))
theorem sc_need_book : FnScope ["book"] ["book"] (defScope (topS 17)) := ⟨rfl, rfl, rfl, by decide +kernel, rfl, by decide +kernel, by decide +kernel⟩
theorem ok_need_book (T : Top K mg) : FnOk P w K mg base (L2.CX P w) 3 T.f_need_book T.fd_need_book ["book"] (spD K (clE T.er) 1 g_need_book) := by
  refine fok T.F_need_book sc_need_book rfl rfl fun cdv A outer s H E hr => ?_
  have nd := sc_need_book.nd
  have hu64 := hr.units
  have hu65 := hu65_of hr
  have hu1 := hu_of hr
  exact js_one (js_if (jt_not (jt_val (j_call (ok_is_book T) (hr.mono (by decide)) T.m_is_book T.F_is_book.kp T.b_is_book takes_D (ja_cons (j_var 0) (ja_nil)) (bCons_len bNil_len)))) (js_one (js_raise (cl := clE T.er) (c := 0) (C := T.er.e 0) rfl (T.er.x 0 (by decide)) rfl takes_D)) (js_nil))
theorem sc_need_name : FnScope ["name"] ["name"] (defScope (topS 18)) := ⟨rfl, rfl, rfl, by decide +kernel, rfl, by decide +kernel, by decide +kernel⟩
theorem ok_need_name (T : Top K mg) : FnOk P w K mg base (L2.CX P w) 2 T.f_need_name T.fd_need_name ["name"] (spD K (clE T.er) 1 g_need_name) := by
  refine fok T.F_need_name sc_need_name rfl rfl fun cdv A outer s H E hr => ?_
  have nd := sc_need_name.nd
  have hu64 := hr.units
  have hu65 := hu65_of hr
  have hu1 := hu_of hr
  exact js_one (js_if (jt_not (jt_val (j_call (ok_is_name T) (hr.mono (by decide)) T.m_is_name T.F_is_name.kp T.b_is_name takes_D (ja_cons (j_var 0) (ja_nil)) (bCons_len bNil_len)))) (js_one (js_raise (cl := clE T.er) (c := 2) (C := T.er.e 2) rfl (T.er.x 2 (by decide)) rfl takes_D)) (js_nil))
theorem sc_is_end : FnScope ["thing", "sign"] ["thing"] (defScope (topS 22)) := ⟨rfl, rfl, rfl, by decide +kernel, rfl, by decide +kernel, by decide +kernel⟩
theorem ok_is_end (T : Top K mg) : FnOk P w K mg base (L2.CX P w) 1 T.f_is_end T.fd_is_end ["thing"] (spD K (clE T.er) 1 g_is_end) := by
  refine fok T.F_is_end sc_is_end rfl rfl fun cdv A outer s H E hr => ?_
  have nd := sc_is_end.nd
  have hu64 := hr.units
  have hu65 := hu65_of hr
  have hu1 := hu_of hr
  exact js_one (js_ret (j_and (j_isi .str (J.r (j_var 0)) PyProof.Rows.boot_str T.z_isinstance T.z_str) (j_and (j_cmp o_le (J.r (j_b c_len T.z_len PySem.boot_len (ja1_cons (J.r (j_var 0)) (ja1_nil)))) (J.r (j_globI T.g_MOST_ENDS))) (j_one (j_b (c_all rfl) T.z_all PyProof.Rows.boot_all (ja1_cons (JF.r (jf_lcE (own := [("sign", 1)]) rfl nd (j_var 0) ⟨blkOk_by (own := [("sign", 1)]) (by first | (show blkC ["thing", "sign"] (defScope (topS 22)) _ _ = true; decide +kernel) | rfl), fun _ _ _ _ _ => jg_n nd, fun _ _ _ _ _ => jifs_nil, fun _ _ _ _ _ => j_cmp (o_in hu65) (J.r (j_var 1)) (J.r (j_globS T.g_LETTERS))⟩)) (ja1_nil)))))))
theorem sc_is_number : FnScope ["thing", "low", "high"] ["thing", "low", "high"] (defScope (topS 14)) := ⟨rfl, rfl, rfl, by decide +kernel, rfl, by decide +kernel, by decide +kernel⟩
theorem ok_is_number (T : Top K mg) : FnOk P w K mg base (L2.CX P w) 1 T.f_is_number T.fd_is_number ["thing", "low", "high"] (spD K (clE T.er) 3 g_is_number) := by
  refine fok T.F_is_number sc_is_number rfl rfl fun cdv A outer s H E hr => ?_
  have nd := sc_is_number.nd
  have hu64 := hr.units
  have hu65 := hu65_of hr
  have hu1 := hu_of hr
  exact js_one (js_ret (j_and (j_isi .int (J.r (j_var 0)) PyProof.Rows.boot_int T.z_isinstance T.z_int) (j_and (j_not (J.r (j_isi .bool (J.r (j_var 0)) PyProof.Rows.boot_bool T.z_isinstance T.z_bool))) (j_one (j_chain o_le o_le (J.r (j_var 1)) (J.r (j_var 0)) (J.r (j_var 2)))))))
theorem sc_is_wish : FnScope ["thing", "one", "other"] ["thing"] (defScope (topS 23)) := ⟨rfl, rfl, rfl, by decide +kernel, rfl, by decide +kernel, by decide +kernel⟩
theorem ok_is_wish (T : Top K mg) : FnOk P w K mg base (L2.CX P w) 2 T.f_is_wish T.fd_is_wish ["thing"] (spD K (clE T.er) 1 g_is_wish) := by
  refine fok T.F_is_wish sc_is_wish rfl rfl fun cdv A outer s H E hr => ?_
  have nd := sc_is_wish.nd
  have hu64 := hr.units
  have hu65 := hu65_of hr
  have hu1 := hu_of hr
  exact js_cons (js_if (JW.t (jw_or (jt_not (jt_val (j_isi .tup (J.r (j_var 0)) PyProof.Rows.boot_tuple T.z_isinstance T.z_tuple))) (jw_or (jt_cmp (o_ne hu64) (J.r (j_b c_len T.z_len PySem.boot_len (ja1_cons (J.r (j_var 0)) (ja1_nil)))) (J.r (j_int))) (jw_or1 (jt_not (jt_val (j_call (ok_is_number T) (hr.mono (by decide)) T.m_is_number T.F_is_number.kp T.b_is_number takes_D (ja_cons (j_ix hu1 (J.r (j_var 0)) (J.r (j_int))) (ja_cons (j_int) (ja_cons (j_int) (ja_nil)))) (bCons_len (bCons_len (bCons_len bNil_len)))))))))) (js_one (js_ret (j_bl))) (js_nil)) (js_cons (js_if (JW.t (jw_or (jt_not (jt_val (j_call (ok_is_number T) (hr.mono (by decide)) T.m_is_number T.F_is_number.kp T.b_is_number takes_D (ja_cons (j_ix hu1 (J.r (j_var 0)) (J.r (j_int))) (ja_cons (j_ix hu1 (J.r (j_var 0)) (J.r (j_int))) (ja_cons (j_int) (ja_nil)))) (bCons_len (bCons_len (bCons_len bNil_len)))))) (jw_or (jt_not (jt_val (j_call (ok_is_end T) (hr.mono (by decide)) T.m_is_end T.F_is_end.kp T.b_is_end takes_D (ja_cons (j_ix hu1 (J.r (j_var 0)) (J.r (j_int))) (ja_nil)) (bCons_len bNil_len)))) (jw_or1 (jt_not (jt_val (j_call (ok_is_end T) (hr.mono (by decide)) T.m_is_end T.F_is_end.kp T.b_is_end takes_D (ja_cons (j_ix hu1 (J.r (j_var 0)) (J.r (j_int))) (ja_nil)) (bCons_len bNil_len)))))))) (js_one (js_ret (j_bl))) (js_nil)) (js_cons (js_if (JW.t (jw_or (jt_not (jt_val (j_isi .tup (J.r (j_ix hu1 (J.r (j_var 0)) (J.r (j_int)))) PyProof.Rows.boot_tuple T.z_isinstance T.z_tuple))) (jw_or (jt_cmp o_gt (J.r (j_b c_len T.z_len PySem.boot_len (ja1_cons (J.r (j_ix hu1 (J.r (j_var 0)) (J.r (j_int)))) (ja1_nil)))) (J.r (j_globI T.g_MOST_BARRED))) (jw_or1 (jt_not (jt_val (j_b (c_all rfl) T.z_all PyProof.Rows.boot_all (ja1_cons (JF.r (jf_lcE (own := [("one", 1)]) rfl nd (j_ix hu1 (J.r (j_var 0)) (J.r (j_int))) ⟨blkOk_by (own := [("one", 1)]) (by first | (show blkC ["thing", "one", "other"] (defScope (topS 23)) _ _ = true; decide +kernel) | rfl), fun _ _ _ _ _ => jg_n nd, fun _ _ _ _ _ => jifs_nil, fun _ _ _ _ _ => j_call (ok_is_name T) (hr.mono (by decide)) T.m_is_name T.F_is_name.kp T.b_is_name takes_W0 (ja_cons (j_var 1) (ja_nil)) (bCons_len bNil_len)⟩)) (ja1_nil))))))))) (js_one (js_ret (j_bl))) (js_nil)) (js_one (js_ret (j_and (j_b (c_all rfl) T.z_all PyProof.Rows.boot_all (ja1_cons (JF.r (jf_lcI (own := [("one", 1), ("other", 2)]) rfl nd (ji_zpA T.z_zip (j_ix hu1 (J.r (j_var 0)) (J.r (j_int))) (j_slice (J.r (j_ix hu1 (J.r (j_var 0)) (J.r (j_int)))) (jo_some (J.r (j_int))) (jo_none))) ⟨blkOk_by (own := [("one", 1), ("other", 2)]) (by first | (show blkC ["thing", "one", "other"] (defScope (topS 23)) _ _ = true; decide +kernel) | rfl), fun _ _ _ _ _ => jg_tK (K := K) rfl rfl (jgs_cons nd (jgs_cons nd (jgs_nil))), fun _ _ _ _ _ => jifs_nil, fun _ _ _ _ _ => j_cmp o_lt (J.r (j_var 1)) (J.r (j_var 2))⟩)) (ja1_nil))) (j_one (j_isi .bool (J.r (j_ix hu1 (J.r (j_var 0)) (J.r (j_int)))) PyProof.Rows.boot_bool T.z_isinstance T.z_bool)))))))
theorem sc_need_wish : FnScope ["wish"] ["wish"] (defScope (topS 24)) := ⟨rfl, rfl, rfl, by decide +kernel, rfl, by decide +kernel, by decide +kernel⟩
theorem ok_need_wish (T : Top K mg) : FnOk P w K mg base (L2.CX P w) 3 T.f_need_wish T.fd_need_wish ["wish"] (spD K (clE T.er) 1 g_need_wish) := by
  refine fok T.F_need_wish sc_need_wish rfl rfl fun cdv A outer s H E hr => ?_
  have nd := sc_need_wish.nd
  have hu64 := hr.units
  have hu65 := hu65_of hr
  have hu1 := hu_of hr
  exact js_one (js_if (jt_not (jt_val (j_call (ok_is_wish T) (hr.mono (by decide)) T.m_is_wish T.F_is_wish.kp T.b_is_wish takes_D (ja_cons (j_var 0) (ja_nil)) (bCons_len bNil_len)))) (js_one (js_raise (cl := clE T.er) (c := 3) (C := T.er.e 3) rfl (T.er.x 3 (by decide)) rfl takes_D)) (js_nil))
theorem sc_fits : FnScope ["book", "wish", "name"] ["book", "wish", "name"] (defScope (topS 26)) := ⟨rfl, rfl, rfl, by decide +kernel, rfl, by decide +kernel, by decide +kernel⟩
theorem ok_fits (T : Top K mg) : FnOk P w K mg base (L2.CX P w) 4 T.f_fits T.fd_fits ["book", "wish", "name"] (spD K (clE T.er) 3 g_fits) := by
  refine fok T.F_fits sc_fits rfl rfl fun cdv A outer s H E hr => ?_
  have nd := sc_fits.nd
  have hu64 := hr.units
  have hu65 := hu65_of hr
  have hu1 := hu_of hr
  exact js_cons (js_expr (j_call (ok_need_book T) (hr.mono (by decide)) T.m_need_book T.F_need_book.kp T.b_need_book takes_D (ja_cons (j_var 0) (ja_nil)) (bCons_len bNil_len))) (js_cons (js_expr (j_call (ok_need_wish T) (hr.mono (by decide)) T.m_need_wish T.F_need_wish.kp T.b_need_wish takes_D (ja_cons (j_var 1) (ja_nil)) (bCons_len bNil_len))) (js_cons (js_expr (j_call (ok_need_name T) (hr.mono (by decide)) T.m_need_name T.F_need_name.kp T.b_need_name takes_D (ja_cons (j_var 2) (ja_nil)) (bCons_len bNil_len))) (js_one (js_ret (j_call (ok_is_fit T) (hr.mono (by decide)) T.m_is_fit T.F_is_fit.kp T.b_is_fit takes_D (ja_cons (j_var 0) (ja_cons (j_var 1) (ja_cons (j_var 2) (ja_nil)))) (bCons_len (bCons_len (bCons_len bNil_len))))))))
theorem sc__law_told : FnScope ["_law_book_here", "_law_wish_here", "_law_name_here", "_law_e"] ["_law_book_here", "_law_wish_here", "_law_name_here"] (defScope (topS 35)) := ⟨rfl, rfl, rfl, by decide +kernel, rfl, by decide +kernel, by decide +kernel⟩
theorem ok__law_told (T : Top K mg) : FnOk P w K mg base (L2.CX P w) 5 T.f__law_told T.fd__law_told ["_law_book_here", "_law_wish_here", "_law_name_here"] (spD K (clE T.er) 3 g__law_told) := by
  refine fok T.F__law_told sc__law_told rfl rfl fun cdv A outer s H E hr => ?_
  have nd := sc__law_told.nd
  have hu64 := hr.units
  have hu65 := hu65_of hr
  have hu1 := hu_of hr
  exact js_one (js_tryR (i := 3) (hN := nd) (ok__law_refused T) (L2H.roomH_of (hr.mono (by decide))) T.m__law_refused T.F__law_refused.kp T.b__law_refused (fun c d h => T.er.exm c (hRef_lt h)) T.er.g (fun pn xe Wn tk hp => js_one (js_ret (j_call (ok_fits T) (hr.mono (by decide)) T.m_fits T.F_fits.kp T.b_fits tk (ja_cons (j_var 0) (ja_cons (j_var 1) (ja_cons (j_var 2) (ja_nil)))) (bCons_len (bCons_len (bCons_len bNil_len)))))))
theorem sc__law_wish : FnScope ["_law_script", "_law_at", "_law_least", "_law_most", "_law_ends", "_law_barred", "_law_head", "_law_k", "_law_name_here"] ["_law_script", "_law_at"] (defScope (topS 32)) := ⟨rfl, rfl, rfl, by decide +kernel, rfl, by decide +kernel, by decide +kernel⟩
theorem ok__law_wish (T : Top K mg) : FnOk P w K mg base (L2.CX P w) 3 T.f__law_wish T.fd__law_wish ["_law_script", "_law_at"] (spD K (clE T.er) 2 g__law_wish) := by
  refine fok T.F__law_wish sc__law_wish rfl rfl fun cdv A outer s H E hr => ?_
  have nd := sc__law_wish.nd
  have hu64 := hr.units
  have hu65 := hu65_of hr
  have hu1 := hu_of hr
  exact js_cons (js_set nd (j_op o_add (J.r (j_int)) (J.r (j_call (ok__law_drawn T) (hr.mono (by decide)) T.m__law_drawn T.F__law_drawn.kp T.b__law_drawn takes_D (ja_cons (j_var 0) (ja_cons (j_var 1) (ja_cons (j_int) (ja_nil)))) (bCons_len (bCons_len (bCons_len bNil_len))))))) (js_cons (js_set nd (j_op o_add (J.r (j_var 2)) (J.r (j_call (ok__law_drawn T) (hr.mono (by decide)) T.m__law_drawn T.F__law_drawn.kp T.b__law_drawn takes_D (ja_cons (j_var 0) (ja_cons (j_op o_add (J.r (j_var 1)) (J.r (j_int))) (ja_cons (j_op o_sub (J.r (j_int)) (J.r (j_var 2))) (ja_nil)))) (bCons_len (bCons_len (bCons_len bNil_len))))))) (js_cons (js_set nd (JF.v (jf_lst (ja_cons (j_str) (ja_cons (j_str) (ja_cons (j_str) (ja_cons (j_str) (ja_cons (j_str) (ja_cons (j_str) (ja_cons (j_str) (ja_nil))))))))))) (js_cons (js_own nd (jf_lst (ja_nil))) (js_cons (js_forI passes_D rfl bdT_ok (ji_en T.z_enumerate (JF.v (jf_lst (ja_cons (j_str) (ja_cons (j_str) (ja_cons (j_str) (ja_cons (j_str) (ja_cons (j_str) (ja_cons (j_str) (ja_nil)))))))))) (jg_tK (K := K) rfl rfl (jgs_cons nd (jgs_cons nd (jgs_nil)))) (js_one (js_if (jt_cmp (o_eq hu64) (J.r (j_call (ok__law_drawn T) (hr.mono (by decide)) T.m__law_drawn T.F__law_drawn.kp T.b__law_drawn takes_D (ja_cons (j_var 0) (ja_cons (j_op o_add (J.r (j_op o_add (J.r (j_var 1)) (J.r (j_int)))) (J.r (j_var 7))) (ja_cons (j_int) (ja_nil)))) (bCons_len (bCons_len (bCons_len bNil_len))))) (J.r (j_int))) (js_one (js_app 5 (j_var 8))) (js_nil)))) (js_cons (js_set nd (j_ix hu1 (J.r (j_var 4)) (J.r (j_call (ok__law_drawn T) (hr.mono (by decide)) T.m__law_drawn T.F__law_drawn.kp T.b__law_drawn takes_D (ja_cons (j_var 0) (ja_cons (j_op o_add (J.r (j_var 1)) (J.r (j_int))) (ja_cons (j_int) (ja_nil)))) (bCons_len (bCons_len (bCons_len bNil_len))))))) (js_one (js_ret (j_tup (ja_cons (j_var 2) (ja_cons (j_var 3) (ja_cons (j_var 6) (ja_cons (j_ix hu1 (J.r (j_var 4)) (J.r (j_call (ok__law_drawn T) (hr.mono (by decide)) T.m__law_drawn T.F__law_drawn.kp T.b__law_drawn takes_D (ja_cons (j_var 0) (ja_cons (j_op o_add (J.r (j_var 1)) (J.r (j_int))) (ja_cons (j_int) (ja_nil)))) (bCons_len (bCons_len (bCons_len bNil_len)))))) (ja_cons (j_ty c_tuple T.z_tuple PyProof.Rows.boot_tuple (ja1_cons (jr_rd 5) (ja1_nil))) (ja_cons (j_cmp (o_eq hu64) (J.r (j_call (ok__law_drawn T) (hr.mono (by decide)) T.m__law_drawn T.F__law_drawn.kp T.b__law_drawn takes_D (ja_cons (j_var 0) (ja_cons (j_op o_add (J.r (j_var 1)) (J.r (j_int))) (ja_cons (j_int) (ja_nil)))) (bCons_len (bCons_len (bCons_len bNil_len))))) (J.r (j_int))) (ja_nil)))))))))))))))
theorem sc_law : FnScope ["_law_script", "_law_book_here", "_law_wish_here", "_law_at", "_law_some", "_law_odd", "_law_things", "_law_many", "_law_thing", "_law_bad", "_law_told_here", "_law_k", "_law_name_here", "_law_due"] ["_law_script"] (defScope (topS 38)) := ⟨rfl, rfl, rfl, by decide +kernel, rfl, by decide +kernel, by decide +kernel⟩
theorem ok_law (T : Top K mg) : FnOk P w K mg base (L2.CX P w) 6 T.f_law T.fd_law ["_law_script"] (spD K (clE T.er) 1 g_law_k30) := by
  refine fok T.F_law sc_law rfl rfl fun cdv A outer s H E hr => ?_
  have nd := sc_law.nd
  have hu64 := hr.units
  have hu65 := hu65_of hr
  have hu1 := hu_of hr
  exact js_cons (js_set nd (j_call (ok__law_book T) (hr.mono (by decide)) T.m__law_book T.F__law_book.kp T.b__law_book takes_D (ja_cons (j_var 0) (ja_cons (j_int) (ja_cons (j_int) (ja_cons (j_int) (ja_nil))))) (bCons_len (bCons_len (bCons_len (bCons_len bNil_len)))))) (js_cons (js_set nd (j_call (ok__law_wish T) (hr.mono (by decide)) T.m__law_wish T.F__law_wish.kp T.b__law_wish takes_D (ja_cons (j_var 0) (ja_cons (j_int) (ja_nil))) (bCons_len (bCons_len bNil_len)))) (js_cons (js_set nd (j_call (ok__law_drawn T) (hr.mono (by decide)) T.m__law_drawn T.F__law_drawn.kp T.b__law_drawn takes_D (ja_cons (j_var 0) (ja_cons (j_int) (ja_cons (j_int) (ja_nil)))) (bCons_len (bCons_len (bCons_len bNil_len))))) (js_cons (js_set nd (JF.v (jf_lst (ja_cons (j_non) (ja_cons (j_bl) (ja_cons (j_bl) (ja_cons (j_int) (ja_cons (j_int) (ja_cons (j_int) (ja_cons (j_int) (ja_cons (j_str) (ja_cons (j_str) (ja_cons (j_str) (ja_cons (j_str) (ja_cons (j_tup (ja_nil)) (ja_cons (j_tup (ja_cons (j_str) (ja_nil))) (ja_cons (j_tup (ja_cons (j_str) (ja_cons (j_str) (ja_nil)))) (ja_cons (j_tup (ja_cons (j_str) (ja_cons (j_str) (ja_nil)))) (ja_cons (j_tup (ja_cons (j_str) (ja_nil))) (ja_cons (JF.v (jf_lst (ja_cons (j_str) (ja_nil)))) (ja_cons (j_int) (ja_nil)))))))))))))))))))))) (js_cons (js_set nd (j_op o_add (J.r (j_var 4)) (JF.r (jf_lst (ja_cons (j_tup (ja_cons (j_str) (ja_cons (j_str) (ja_cons (j_str) (ja_cons (j_str) (ja_cons (j_str) (ja_cons (j_str) (ja_nil)))))))) (ja_cons (j_tup (ja_cons (j_str) (ja_cons (j_str) (ja_cons (j_str) (ja_cons (j_str) (ja_cons (j_str) (ja_cons (j_str) (ja_cons (j_str) (ja_nil))))))))) (ja_cons (j_str) (ja_cons (j_tup (ja_cons (j_int) (ja_nil))) (ja_nil))))))))) (js_cons (js_set nd (j_ix hu1 (J.r (j_var 4)) (J.r (j_call (ok__law_drawn T) (hr.mono (by decide)) T.m__law_drawn T.F__law_drawn.kp T.b__law_drawn takes_D (ja_cons (j_var 0) (ja_cons (j_int) (ja_cons (j_b c_len T.z_len PySem.boot_len (ja1_cons (J.r (j_var 4)) (ja1_nil))) (ja_nil)))) (bCons_len (bCons_len (bCons_len bNil_len))))))) (js_cons (js_set nd (JF.v (jf_lst (ja_cons (j_var 2) (ja_cons (j_op o_add (J.r (j_op o_add (J.r (j_slice (J.r (j_var 2)) (jo_none) (jo_some (J.r (j_var 3))))) (J.r (j_tup (ja_cons (j_var 5) (ja_nil)))))) (J.r (j_slice (J.r (j_var 2)) (jo_some (J.r (j_op o_add (J.r (j_var 3)) (J.r (j_int))))) (jo_none)))) (ja_cons (j_op o_add (J.r (j_op o_add (J.r (j_slice (J.r (j_var 2)) (jo_none) (jo_some (J.r (j_var 3))))) (J.r (j_tup (ja_cons (j_var 5) (ja_nil)))))) (J.r (j_slice (J.r (j_var 2)) (jo_some (J.r (j_var 3))) (jo_none)))) (ja_cons (JF.v (jf_ty c_list T.z_list PyProof.Rows.boot_list (ja1_cons (J.r (j_var 2)) (ja1_nil)))) (ja_cons (j_slice (J.r (j_var 2)) (jo_some (J.r (j_int))) (jo_none)) (ja_nil))))))))) (js_cons (js_set nd (j_tup (ja_cons (j_str) (ja_cons (j_str) (ja_cons (j_str) (ja_cons (j_str) (ja_cons (j_str) (ja_cons (j_str) (ja_cons (j_str) (ja_nil)))))))))) (js_cons (js_set nd (j_op o_add (J.r (j_var 6)) (JF.r (jf_lst (ja_cons (j_tup (ja_cons (j_int) (ja_cons (j_int) (ja_cons (j_str) (ja_cons (j_str) (ja_cons (j_var 7) (ja_cons (j_bl) (ja_nil)))))))) (ja_cons (j_tup (ja_cons (j_int) (ja_cons (j_int) (ja_cons (j_str) (ja_cons (j_str) (ja_cons (j_slice (J.r (j_var 7)) (jo_some (J.r (j_int))) (jo_none)) (ja_cons (j_bl) (ja_nil)))))))) (ja_cons (j_tup (ja_cons (j_int) (ja_cons (j_int) (ja_cons (j_str) (ja_cons (j_str) (ja_cons (j_tup (ja_nil)) (ja_cons (j_bl) (ja_nil)))))))) (ja_nil)))))))) (js_cons (js_set nd (j_op o_add (J.r (j_var 6)) (JF.r (jf_lst (ja_cons (j_tup (ja_cons (j_int) (ja_cons (j_int) (ja_cons (j_str) (ja_cons (j_str) (ja_cons (j_tup (ja_nil)) (ja_cons (j_bl) (ja_nil)))))))) (ja_cons (j_tup (ja_cons (j_int) (ja_cons (j_int) (ja_cons (j_str) (ja_cons (j_str) (ja_cons (j_tup (ja_nil)) (ja_cons (j_bl) (ja_nil)))))))) (ja_cons (j_tup (ja_cons (j_int) (ja_cons (j_int) (ja_cons (j_str) (ja_cons (j_str) (ja_cons (j_tup (ja_nil)) (ja_cons (j_bl) (ja_nil)))))))) (ja_nil)))))))) (js_cons (js_set nd (j_op o_add (J.r (j_var 6)) (JF.r (jf_lst (ja_cons (j_tup (ja_cons (j_int) (ja_cons (j_int) (ja_cons (j_str) (ja_cons (j_str) (ja_cons (j_tup (ja_nil)) (ja_cons (j_bl) (ja_nil)))))))) (ja_cons (j_tup (ja_cons (j_int) (ja_cons (j_int) (ja_cons (j_str) (ja_cons (j_str) (ja_cons (j_tup (ja_cons (j_str) (ja_cons (j_str) (ja_nil)))) (ja_cons (j_bl) (ja_nil)))))))) (ja_cons (j_tup (ja_cons (j_int) (ja_cons (j_int) (ja_cons (j_str) (ja_cons (j_str) (ja_cons (j_tup (ja_cons (j_str) (ja_cons (j_str) (ja_nil)))) (ja_cons (j_bl) (ja_nil)))))))) (ja_nil)))))))) (js_cons (js_set nd (j_op o_add (J.r (j_var 6)) (JF.r (jf_lst (ja_cons (j_tup (ja_cons (j_int) (ja_cons (j_int) (ja_cons (j_str) (ja_cons (j_str) (ja_cons (j_tup (ja_nil)) (ja_cons (j_int) (ja_nil)))))))) (ja_cons (j_tup (ja_cons (j_int) (ja_cons (j_int) (ja_cons (j_str) (ja_cons (j_str) (ja_cons (j_tup (ja_nil)) (ja_cons (j_non) (ja_nil)))))))) (ja_cons (j_tup (ja_cons (j_int) (ja_cons (j_int) (ja_cons (j_str) (ja_cons (j_str) (ja_cons (j_tup (ja_nil)) (ja_cons (j_bl) (ja_nil)))))))) (ja_nil)))))))) (js_cons (js_forE passes_D rfl bdN_ok (j_op o_add (J.r (j_var 6)) (JF.r (jf_lst (ja_cons (j_non) (ja_cons (j_tup (ja_nil)) (ja_cons (j_var 5) (ja_cons (j_tup (ja_cons (j_int) (ja_cons (j_int) (ja_cons (j_str) (ja_cons (j_str) (ja_cons (j_tup (ja_nil)) (ja_cons (j_bl) (ja_nil)))))))) (ja_cons (j_tup (ja_cons (j_int) (ja_cons (j_int) (ja_cons (j_str) (ja_cons (j_str) (ja_cons (j_tup (ja_nil)) (ja_cons (j_bl) (ja_nil)))))))) (ja_nil))))))))) (jg_n nd) (js_cons (js_set nd (j_call (ok_is_wish T) (hr.mono (by decide)) T.m_is_wish T.F_is_wish.kp T.b_is_wish takes_D (ja_cons (j_var 8) (ja_nil)) (bCons_len bNil_len))) (js_cons (js_if (JW.t (jw_or (jt_not (jt_val (j_isi .bool (J.r (j_var 10)) PyProof.Rows.boot_bool T.z_isinstance T.z_bool))) (jw_or1 (jt_cmp (o_ne hu64) (J.r (j_var 10)) (J.r (j_call (ok__law_is_wish T) (hr.mono (by decide)) T.m__law_is_wish T.F__law_is_wish.kp T.b__law_is_wish takes_D (ja_cons (j_var 8) (ja_nil)) (bCons_len bNil_len))))))) (js_one (js_ret (j_bl))) (js_nil)) (js_one (js_forI passes_D rfl bdN_ok (ji_r1 T.z_range (j_int)) (jg_n nd) (js_cons (js_set nd (j_call (ok__law_name T) (hr.mono (by decide)) T.m__law_name T.F__law_name.kp T.b__law_name takes_D (ja_cons (j_var 0) (ja_cons (j_op o_add (J.r (j_int)) (J.r (j_op o_mul (J.r (j_int)) (J.r (j_var 11))))) (ja_cons (j_int) (ja_nil)))) (bCons_len (bCons_len (bCons_len bNil_len))))) (js_cons (js_if (jt_cmp (o_eq hu64) (J.r (j_var 11)) (J.r (j_int))) (js_one (js_set nd (j_ix hu1 (J.r (j_var 1)) (J.r (j_call (ok__law_drawn T) (hr.mono (by decide)) T.m__law_drawn T.F__law_drawn.kp T.b__law_drawn takes_D (ja_cons (j_var 0) (ja_cons (j_int) (ja_cons (j_b c_len T.z_len PySem.boot_len (ja1_cons (J.r (j_var 1)) (ja1_nil))) (ja_nil)))) (bCons_len (bCons_len (bCons_len bNil_len)))))))) (js_nil)) (js_cons (js_set nd (j_if (jt_val (j_var 10)) (j_call (ok__law_fits T) (hr.mono (by decide)) T.m__law_fits T.F__law_fits.kp T.b__law_fits takes_D (ja_cons (j_var 1) (ja_cons (j_var 8) (ja_cons (j_var 12) (ja_nil)))) (bCons_len (bCons_len (bCons_len bNil_len)))) (j_tup (ja_cons (j_str) (ja_cons (j_int) (ja_nil)))))) (js_one (js_if (jt_cmp (o_ne hu64) (J.r (j_call (ok__law_told T) (hr.mono (by decide)) T.m__law_told T.F__law_told.kp T.b__law_told takes_D (ja_cons (j_var 1) (ja_cons (j_var 8) (ja_cons (j_var 12) (ja_nil)))) (bCons_len (bCons_len (bCons_len bNil_len))))) (J.r (j_var 13))) (js_one (js_ret (j_bl))) (js_nil))))))))))) (js_cons (js_set nd (j_ix hu1 (JF.r (jf_lst (ja_cons (j_str) (ja_cons (j_str) (ja_cons (j_non) (ja_cons (j_int) (ja_nil))))))) (J.r (j_call (ok__law_drawn T) (hr.mono (by decide)) T.m__law_drawn T.F__law_drawn.kp T.b__law_drawn takes_D (ja_cons (j_var 0) (ja_cons (j_int) (ja_cons (j_int) (ja_nil)))) (bCons_len (bCons_len (bCons_len bNil_len))))))) (js_cons (js_if (JW.t (jw_or (jt_cmp (o_ne hu64) (J.r (j_call (ok__law_told T) (hr.mono (by decide)) T.m__law_told T.F__law_told.kp T.b__law_told takes_D (ja_cons (j_var 1) (ja_cons (j_var 2) (ja_cons (j_var 9) (ja_nil)))) (bCons_len (bCons_len (bCons_len bNil_len))))) (J.r (j_tup (ja_cons (j_str) (ja_cons (j_int) (ja_nil)))))) (jw_or1 (jt_cmp (o_ne hu64) (J.r (j_call (ok__law_told T) (hr.mono (by decide)) T.m__law_told T.F__law_told.kp T.b__law_told takes_D (ja_cons (j_var 1) (ja_cons (j_slice (J.r (j_var 2)) (jo_none) (jo_some (J.r (j_int)))) (ja_cons (j_var 9) (ja_nil)))) (bCons_len (bCons_len (bCons_len bNil_len))))) (J.r (j_tup (ja_cons (j_str) (ja_cons (j_int) (ja_nil))))))))) (js_one (js_ret (j_bl))) (js_nil)) (js_one (js_ret (j_cmp (o_eq hu64) (J.r (j_call (ok__law_told T) (hr.mono (by decide)) T.m__law_told T.F__law_told.kp T.b__law_told takes_D (ja_cons (JF.v (jf_ty c_list T.z_list PyProof.Rows.boot_list (ja1_cons (J.r (j_var 1)) (ja1_nil)))) (ja_cons (j_slice (J.r (j_var 2)) (jo_none) (jo_some (J.r (j_int)))) (ja_cons (j_var 9) (ja_nil)))) (bCons_len (bCons_len (bCons_len bNil_len))))) (J.r (j_tup (ja_cons (j_str) (ja_cons (j_int) (ja_nil))))))))))))))))))))))
end
theorem all_mk {l : PySem.W.OpenLaw} {w : World} {K : PySem.W.Frag} {h : Heap} {mg : Str → Option Value} {fa : Addr} (X : K.In h) (G : h.Ns mainGlobals mg) (hfa : mg "law" = some (.ref fa))
    {f0 : Addr} {od0 an0 : Option Addr} {sl0 : Array (Option Value)} {oc0 kV0 dc0 pm0 cd0 ct0 : Value}
    (a0 : PySem.W.nsIn K mainGlobals "_law_cell" = some (some (.ref f0))) (l0 : K.lookup f0 = some ⟨oc0, od0, .func (PySem.W.fnOf "_law_cell" "_law_cell" (defArgs (topS 28)) (defBody (topS 28)) (defScope (topS 28)) .none kV0 dc0 pm0 an0 cd0 ct0), sl0⟩) (c0 : PySem.W.codeIn K cd0 "_law_cell" = true) (k0 : PySem.W.keepIn K (.ref f0) = true)
    {f1 : Addr} {od1 an1 : Option Addr} {sl1 : Array (Option Value)} {oc1 kV1 dc1 pm1 cd1 ct1 : Value}
    (a1 : PySem.W.nsIn K mainGlobals "_law_drawn" = some (some (.ref f1))) (l1 : K.lookup f1 = some ⟨oc1, od1, .func (PySem.W.fnOf "_law_drawn" "_law_drawn" (defArgs (topS 29)) (defBody (topS 29)) (defScope (topS 29)) .none kV1 dc1 pm1 an1 cd1 ct1), sl1⟩) (c1 : PySem.W.codeIn K cd1 "_law_drawn" = true) (k1 : PySem.W.keepIn K (.ref f1) = true)
    {f2 : Addr} {od2 an2 : Option Addr} {sl2 : Array (Option Value)} {oc2 kV2 dc2 pm2 cd2 ct2 : Value}
    (a2 : PySem.W.nsIn K mainGlobals "_law_name" = some (some (.ref f2))) (l2 : K.lookup f2 = some ⟨oc2, od2, .func (PySem.W.fnOf "_law_name" "_law_name" (defArgs (topS 30)) (defBody (topS 30)) (defScope (topS 30)) .none kV2 dc2 pm2 an2 cd2 ct2), sl2⟩) (c2 : PySem.W.codeIn K cd2 "_law_name" = true) (k2 : PySem.W.keepIn K (.ref f2) = true)
    {f3 : Addr} {od3 an3 : Option Addr} {sl3 : Array (Option Value)} {oc3 kV3 dc3 pm3 cd3 ct3 : Value}
    (a3 : PySem.W.nsIn K mainGlobals "_law_book" = some (some (.ref f3))) (l3 : K.lookup f3 = some ⟨oc3, od3, .func (PySem.W.fnOf "_law_book" "_law_book" (defArgs (topS 31)) (defBody (topS 31)) (defScope (topS 31)) .none kV3 dc3 pm3 an3 cd3 ct3), sl3⟩) (c3 : PySem.W.codeIn K cd3 "_law_book" = true) (k3 : PySem.W.keepIn K (.ref f3) = true)
    {f4 : Addr} {od4 an4 : Option Addr} {sl4 : Array (Option Value)} {oc4 kV4 dc4 pm4 cd4 ct4 : Value}
    (a4 : PySem.W.nsIn K mainGlobals "_law_fits" = some (some (.ref f4))) (l4 : K.lookup f4 = some ⟨oc4, od4, .func (PySem.W.fnOf "_law_fits" "_law_fits" (defArgs (topS 33)) (defBody (topS 33)) (defScope (topS 33)) .none kV4 dc4 pm4 an4 cd4 ct4), sl4⟩) (c4 : PySem.W.codeIn K cd4 "_law_fits" = true) (k4 : PySem.W.keepIn K (.ref f4) = true)
    {f5 : Addr} {od5 an5 : Option Addr} {sl5 : Array (Option Value)} {oc5 kV5 dc5 pm5 cd5 ct5 : Value}
    (a5 : PySem.W.nsIn K mainGlobals "_law_letters" = some (some (.ref f5))) (l5 : K.lookup f5 = some ⟨oc5, od5, .func (PySem.W.fnOf "_law_letters" "_law_letters" (defArgs (topS 36)) (defBody (topS 36)) (defScope (topS 36)) .none kV5 dc5 pm5 an5 cd5 ct5), sl5⟩) (c5 : PySem.W.codeIn K cd5 "_law_letters" = true) (k5 : PySem.W.keepIn K (.ref f5) = true)
    {f6 : Addr} {od6 an6 : Option Addr} {sl6 : Array (Option Value)} {oc6 kV6 dc6 pm6 cd6 ct6 : Value}
    (a6 : PySem.W.nsIn K mainGlobals "_law_is_wish" = some (some (.ref f6))) (l6 : K.lookup f6 = some ⟨oc6, od6, .func (PySem.W.fnOf "_law_is_wish" "_law_is_wish" (defArgs (topS 37)) (defBody (topS 37)) (defScope (topS 37)) .none kV6 dc6 pm6 an6 cd6 ct6), sl6⟩) (c6 : PySem.W.codeIn K cd6 "_law_is_wish" = true) (k6 : PySem.W.keepIn K (.ref f6) = true)
    {f7 : Addr} {od7 an7 : Option Addr} {sl7 : Array (Option Value)} {oc7 kV7 dc7 pm7 cd7 ct7 : Value}
    (a7 : PySem.W.nsIn K mainGlobals "_law_refused" = some (some (.ref f7))) (l7 : K.lookup f7 = some ⟨oc7, od7, .func (PySem.W.fnOf "_law_refused" "_law_refused" (defArgs (topS 34)) (defBody (topS 34)) (defScope (topS 34)) .none kV7 dc7 pm7 an7 cd7 ct7), sl7⟩) (c7 : PySem.W.codeIn K cd7 "_law_refused" = true) (k7 : PySem.W.keepIn K (.ref f7) = true)
    {f8 : Addr} {od8 an8 : Option Addr} {sl8 : Array (Option Value)} {oc8 kV8 dc8 pm8 cd8 ct8 : Value}
    (a8 : PySem.W.nsIn K mainGlobals "is_fit" = some (some (.ref f8))) (l8 : K.lookup f8 = some ⟨oc8, od8, .func (PySem.W.fnOf "is_fit" "is_fit" (defArgs (topS 25)) (defBody (topS 25)) (defScope (topS 25)) .none kV8 dc8 pm8 an8 cd8 ct8), sl8⟩) (c8 : PySem.W.codeIn K cd8 "is_fit" = true) (k8 : PySem.W.keepIn K (.ref f8) = true)
    {f9 : Addr} {od9 an9 : Option Addr} {sl9 : Array (Option Value)} {oc9 kV9 dc9 pm9 cd9 ct9 : Value}
    (a9 : PySem.W.nsIn K mainGlobals "is_name" = some (some (.ref f9))) (l9 : K.lookup f9 = some ⟨oc9, od9, .func (PySem.W.fnOf "is_name" "is_name" (defArgs (topS 15)) (defBody (topS 15)) (defScope (topS 15)) .none kV9 dc9 pm9 an9 cd9 ct9), sl9⟩) (c9 : PySem.W.codeIn K cd9 "is_name" = true) (k9 : PySem.W.keepIn K (.ref f9) = true)
    {f10 : Addr} {od10 an10 : Option Addr} {sl10 : Array (Option Value)} {oc10 kV10 dc10 pm10 cd10 ct10 : Value}
    (a10 : PySem.W.nsIn K mainGlobals "is_book" = some (some (.ref f10))) (l10 : K.lookup f10 = some ⟨oc10, od10, .func (PySem.W.fnOf "is_book" "is_book" (defArgs (topS 16)) (defBody (topS 16)) (defScope (topS 16)) .none kV10 dc10 pm10 an10 cd10 ct10), sl10⟩) (c10 : PySem.W.codeIn K cd10 "is_book" = true) (k10 : PySem.W.keepIn K (.ref f10) = true)
    {f11 : Addr} {od11 an11 : Option Addr} {sl11 : Array (Option Value)} {oc11 kV11 dc11 pm11 cd11 ct11 : Value}
    (a11 : PySem.W.nsIn K mainGlobals "need_book" = some (some (.ref f11))) (l11 : K.lookup f11 = some ⟨oc11, od11, .func (PySem.W.fnOf "need_book" "need_book" (defArgs (topS 17)) (defBody (topS 17)) (defScope (topS 17)) .none kV11 dc11 pm11 an11 cd11 ct11), sl11⟩) (c11 : PySem.W.codeIn K cd11 "need_book" = true) (k11 : PySem.W.keepIn K (.ref f11) = true)
    {f12 : Addr} {od12 an12 : Option Addr} {sl12 : Array (Option Value)} {oc12 kV12 dc12 pm12 cd12 ct12 : Value}
    (a12 : PySem.W.nsIn K mainGlobals "need_name" = some (some (.ref f12))) (l12 : K.lookup f12 = some ⟨oc12, od12, .func (PySem.W.fnOf "need_name" "need_name" (defArgs (topS 18)) (defBody (topS 18)) (defScope (topS 18)) .none kV12 dc12 pm12 an12 cd12 ct12), sl12⟩) (c12 : PySem.W.codeIn K cd12 "need_name" = true) (k12 : PySem.W.keepIn K (.ref f12) = true)
    {f13 : Addr} {od13 an13 : Option Addr} {sl13 : Array (Option Value)} {oc13 kV13 dc13 pm13 cd13 ct13 : Value}
    (a13 : PySem.W.nsIn K mainGlobals "is_end" = some (some (.ref f13))) (l13 : K.lookup f13 = some ⟨oc13, od13, .func (PySem.W.fnOf "is_end" "is_end" (defArgs (topS 22)) (defBody (topS 22)) (defScope (topS 22)) .none kV13 dc13 pm13 an13 cd13 ct13), sl13⟩) (c13 : PySem.W.codeIn K cd13 "is_end" = true) (k13 : PySem.W.keepIn K (.ref f13) = true)
    {f14 : Addr} {od14 an14 : Option Addr} {sl14 : Array (Option Value)} {oc14 kV14 dc14 pm14 cd14 ct14 : Value}
    (a14 : PySem.W.nsIn K mainGlobals "is_number" = some (some (.ref f14))) (l14 : K.lookup f14 = some ⟨oc14, od14, .func (PySem.W.fnOf "is_number" "is_number" (defArgs (topS 14)) (defBody (topS 14)) (defScope (topS 14)) .none kV14 dc14 pm14 an14 cd14 ct14), sl14⟩) (c14 : PySem.W.codeIn K cd14 "is_number" = true) (k14 : PySem.W.keepIn K (.ref f14) = true)
    {f15 : Addr} {od15 an15 : Option Addr} {sl15 : Array (Option Value)} {oc15 kV15 dc15 pm15 cd15 ct15 : Value}
    (a15 : PySem.W.nsIn K mainGlobals "is_wish" = some (some (.ref f15))) (l15 : K.lookup f15 = some ⟨oc15, od15, .func (PySem.W.fnOf "is_wish" "is_wish" (defArgs (topS 23)) (defBody (topS 23)) (defScope (topS 23)) .none kV15 dc15 pm15 an15 cd15 ct15), sl15⟩) (c15 : PySem.W.codeIn K cd15 "is_wish" = true) (k15 : PySem.W.keepIn K (.ref f15) = true)
    {f16 : Addr} {od16 an16 : Option Addr} {sl16 : Array (Option Value)} {oc16 kV16 dc16 pm16 cd16 ct16 : Value}
    (a16 : PySem.W.nsIn K mainGlobals "need_wish" = some (some (.ref f16))) (l16 : K.lookup f16 = some ⟨oc16, od16, .func (PySem.W.fnOf "need_wish" "need_wish" (defArgs (topS 24)) (defBody (topS 24)) (defScope (topS 24)) .none kV16 dc16 pm16 an16 cd16 ct16), sl16⟩) (c16 : PySem.W.codeIn K cd16 "need_wish" = true) (k16 : PySem.W.keepIn K (.ref f16) = true)
    {f17 : Addr} {od17 an17 : Option Addr} {sl17 : Array (Option Value)} {oc17 kV17 dc17 pm17 cd17 ct17 : Value}
    (a17 : PySem.W.nsIn K mainGlobals "fits" = some (some (.ref f17))) (l17 : K.lookup f17 = some ⟨oc17, od17, .func (PySem.W.fnOf "fits" "fits" (defArgs (topS 26)) (defBody (topS 26)) (defScope (topS 26)) .none kV17 dc17 pm17 an17 cd17 ct17), sl17⟩) (c17 : PySem.W.codeIn K cd17 "fits" = true) (k17 : PySem.W.keepIn K (.ref f17) = true)
    {f18 : Addr} {od18 an18 : Option Addr} {sl18 : Array (Option Value)} {oc18 kV18 dc18 pm18 cd18 ct18 : Value}
    (a18 : PySem.W.nsIn K mainGlobals "_law_told" = some (some (.ref f18))) (l18 : K.lookup f18 = some ⟨oc18, od18, .func (PySem.W.fnOf "_law_told" "_law_told" (defArgs (topS 35)) (defBody (topS 35)) (defScope (topS 35)) .none kV18 dc18 pm18 an18 cd18 ct18), sl18⟩) (c18 : PySem.W.codeIn K cd18 "_law_told" = true) (k18 : PySem.W.keepIn K (.ref f18) = true)
    {f19 : Addr} {od19 an19 : Option Addr} {sl19 : Array (Option Value)} {oc19 kV19 dc19 pm19 cd19 ct19 : Value}
    (a19 : PySem.W.nsIn K mainGlobals "_law_wish" = some (some (.ref f19))) (l19 : K.lookup f19 = some ⟨oc19, od19, .func (PySem.W.fnOf "_law_wish" "_law_wish" (defArgs (topS 32)) (defBody (topS 32)) (defScope (topS 32)) .none kV19 dc19 pm19 an19 cd19 ct19), sl19⟩) (c19 : PySem.W.codeIn K cd19 "_law_wish" = true) (k19 : PySem.W.keepIn K (.ref f19) = true)
    {f20 : Addr} {od20 an20 : Option Addr} {sl20 : Array (Option Value)} {oc20 kV20 dc20 pm20 cd20 ct20 : Value}
    (a20 : PySem.W.nsIn K mainGlobals "law" = some (some (.ref f20))) (l20 : K.lookup f20 = some ⟨oc20, od20, .func (PySem.W.fnOf "law" "law" (defArgs (topS 38)) (defBody (topS 38)) (defScope (topS 38)) .none kV20 dc20 pm20 an20 cd20 ct20), sl20⟩) (c20 : PySem.W.codeIn K cd20 "law" = true) (k20 : PySem.W.keepIn K (.ref f20) = true)
    (z_ValueError : PySem.W.nsIn K mainGlobals "ValueError" = some none)
    (z_all : PySem.W.nsIn K mainGlobals "all" = some none)
    (z_bool : PySem.W.nsIn K mainGlobals "bool" = some none)
    (z_enumerate : PySem.W.nsIn K mainGlobals "enumerate" = some none)
    (z_int : PySem.W.nsIn K mainGlobals "int" = some none)
    (z_isinstance : PySem.W.nsIn K mainGlobals "isinstance" = some none)
    (z_len : PySem.W.nsIn K mainGlobals "len" = some none)
    (z_list : PySem.W.nsIn K mainGlobals "list" = some none)
    (z_max : PySem.W.nsIn K mainGlobals "max" = some none)
    (z_range : PySem.W.nsIn K mainGlobals "range" = some none)
    (z_set : PySem.W.nsIn K mainGlobals "set" = some none)
    (z_sorted : PySem.W.nsIn K mainGlobals "sorted" = some none)
    (z_str : PySem.W.nsIn K mainGlobals "str" = some none)
    (z_tuple : PySem.W.nsIn K mainGlobals "tuple" = some none)
    (z_zip : PySem.W.nsIn K mainGlobals "zip" = some none)
    {t_LETTERS : Tok} (g_LETTERS : PySem.W.nsIn K mainGlobals "LETTERS" = some (some (.str (toS [97, 98, 99, 100, 101, 102, 103, 104, 105, 106, 107, 108, 109, 110, 111, 112, 113, 114, 115, 116, 117, 118, 119, 120, 121, 122]) t_LETTERS)))
    {t_MOST_LETTERS : Tok} (g_MOST_LETTERS : PySem.W.nsIn K mainGlobals "MOST_LETTERS" = some (some (.int 8 t_MOST_LETTERS)))
    {t_MOST_NAMES : Tok} (g_MOST_NAMES : PySem.W.nsIn K mainGlobals "MOST_NAMES" = some (some (.int 8 t_MOST_NAMES)))
    {t_MOST_BARRED : Tok} (g_MOST_BARRED : PySem.W.nsIn K mainGlobals "MOST_BARRED" = some (some (.int 6 t_MOST_BARRED)))
    {t_MOST_ENDS : Tok} (g_MOST_ENDS : PySem.W.nsIn K mainGlobals "MOST_ENDS" = some (some (.int 3 t_MOST_ENDS)))
    {e0 e1 e2 e3 e4 e5 e6 e7 eL : Addr} (EL : ErrL K eL) (E0 : ErrOne K "NoBook" e0 eL) (E1 : ErrOne K "NoOrder" e1 eL) (E2 : ErrOne K "NoName" e2 eL) (E3 : ErrOne K "NoWish" e3 eL) (E4 : ErrOne K "NoNumber" e4 eL) (E5 : ErrOne K "NotMade" e5 eL) (E6 : ErrOne K "TooShort" e6 eL) (E7 : ErrOne K "Nothing" e7 eL) (ES : ErrSub K e0 e1 e2 e3 e4 e5 e6 e7)
    : ∃ fd : FuncData, (∀ (s : Shared) (v : Value), BindsTo s fd ⟨[v], []⟩ [("_law_script", v)]) ∧ ∀ base : Heap, K.In base → base.Ns mainGlobals mg → FnOk l.prog w K mg base (L2.CX l.prog w) 6 fa fd ["_law_script"] (spOk K 1 g_law_k30) := by
  have e := hfa.symm.trans (PySem.W.mg_of X G a20)
  cases e
  have F0 := fun_mk (st := topS 28) l0 c0 k0
  have F1 := fun_mk (st := topS 29) l1 c1 k1
  have F2 := fun_mk (st := topS 30) l2 c2 k2
  have F3 := fun_mk (st := topS 31) l3 c3 k3
  have F4 := fun_mk (st := topS 33) l4 c4 k4
  have F5 := fun_mk (st := topS 36) l5 c5 k5
  have F6 := fun_mk (st := topS 37) l6 c6 k6
  have F7 := fun_mk (st := topS 34) l7 c7 k7
  have F8 := fun_mk (st := topS 25) l8 c8 k8
  have F9 := fun_mk (st := topS 15) l9 c9 k9
  have F10 := fun_mk (st := topS 16) l10 c10 k10
  have F11 := fun_mk (st := topS 17) l11 c11 k11
  have F12 := fun_mk (st := topS 18) l12 c12 k12
  have F13 := fun_mk (st := topS 22) l13 c13 k13
  have F14 := fun_mk (st := topS 14) l14 c14 k14
  have F15 := fun_mk (st := topS 23) l15 c15 k15
  have F16 := fun_mk (st := topS 24) l16 c16 k16
  have F17 := fun_mk (st := topS 26) l17 c17 k17
  have F18 := fun_mk (st := topS 35) l18 c18 k18
  have F19 := fun_mk (st := topS 32) l19 c19 k19
  have F20 := fun_mk (st := topS 38) l20 c20 k20
  refine ⟨_, fun s v => .of_eq rfl, fun base _ _ => (ok_law {
    er := errs_mk X G EL E0 E1 E2 E3 E4 E5 E6 E7 ES,
    f__law_cell := f0,
    fd__law_cell := _,
    F__law_cell := F0,
    b__law_cell := (F0.binds (ps := ["_law_script", "_law_k"]) fun _ _ _ _ _ _ us hl => match us, hl with | [_, _], _ => rfl),
    m__law_cell := PySem.W.mg_of X G a0,
    f__law_drawn := f1,
    fd__law_drawn := _,
    F__law_drawn := F1,
    b__law_drawn := (F1.binds (ps := ["_law_script", "_law_k", "_law_many"]) fun _ _ _ _ _ _ us hl => match us, hl with | [_, _, _], _ => rfl),
    m__law_drawn := PySem.W.mg_of X G a1,
    f__law_name := f2,
    fd__law_name := _,
    F__law_name := F2,
    b__law_name := (F2.binds (ps := ["_law_script", "_law_at", "_law_most"]) fun _ _ _ _ _ _ us hl => match us, hl with | [_, _, _], _ => rfl),
    m__law_name := PySem.W.mg_of X G a2,
    f__law_book := f3,
    fd__law_book := _,
    F__law_book := F3,
    b__law_book := (F3.binds (ps := ["_law_script", "_law_at", "_law_many", "_law_most"]) fun _ _ _ _ _ _ us hl => match us, hl with | [_, _, _, _], _ => rfl),
    m__law_book := PySem.W.mg_of X G a3,
    f__law_fits := f4,
    fd__law_fits := _,
    F__law_fits := F4,
    b__law_fits := (F4.binds (ps := ["_law_book_here", "_law_wish_here", "_law_name_here"]) fun _ _ _ _ _ _ us hl => match us, hl with | [_, _, _], _ => rfl),
    m__law_fits := PySem.W.mg_of X G a4,
    f__law_letters := f5,
    fd__law_letters := _,
    F__law_letters := F5,
    b__law_letters := (F5.binds (ps := ["_law_thing", "_law_least", "_law_most"]) fun _ _ _ _ _ _ us hl => match us, hl with | [_, _, _], _ => rfl),
    m__law_letters := PySem.W.mg_of X G a5,
    f__law_is_wish := f6,
    fd__law_is_wish := _,
    F__law_is_wish := F6,
    b__law_is_wish := (F6.binds (ps := ["_law_thing"]) fun _ _ _ _ _ _ us hl => match us, hl with | [_], _ => rfl),
    m__law_is_wish := PySem.W.mg_of X G a6,
    f__law_refused := f7,
    fd__law_refused := _,
    F__law_refused := F7,
    b__law_refused := (F7.binds (ps := ["_law_e"]) fun _ _ _ _ _ _ us hl => match us, hl with | [_], _ => rfl),
    m__law_refused := PySem.W.mg_of X G a7,
    f_is_fit := f8,
    fd_is_fit := _,
    F_is_fit := F8,
    b_is_fit := (F8.binds (ps := ["book", "wish", "name"]) fun _ _ _ _ _ _ us hl => match us, hl with | [_, _, _], _ => rfl),
    m_is_fit := PySem.W.mg_of X G a8,
    f_is_name := f9,
    fd_is_name := _,
    F_is_name := F9,
    b_is_name := (F9.binds (ps := ["thing"]) fun _ _ _ _ _ _ us hl => match us, hl with | [_], _ => rfl),
    m_is_name := PySem.W.mg_of X G a9,
    f_is_book := f10,
    fd_is_book := _,
    F_is_book := F10,
    b_is_book := (F10.binds (ps := ["thing"]) fun _ _ _ _ _ _ us hl => match us, hl with | [_], _ => rfl),
    m_is_book := PySem.W.mg_of X G a10,
    f_need_book := f11,
    fd_need_book := _,
    F_need_book := F11,
    b_need_book := (F11.binds (ps := ["book"]) fun _ _ _ _ _ _ us hl => match us, hl with | [_], _ => rfl),
    m_need_book := PySem.W.mg_of X G a11,
    f_need_name := f12,
    fd_need_name := _,
    F_need_name := F12,
    b_need_name := (F12.binds (ps := ["name"]) fun _ _ _ _ _ _ us hl => match us, hl with | [_], _ => rfl),
    m_need_name := PySem.W.mg_of X G a12,
    f_is_end := f13,
    fd_is_end := _,
    F_is_end := F13,
    b_is_end := (F13.binds (ps := ["thing"]) fun _ _ _ _ _ _ us hl => match us, hl with | [_], _ => rfl),
    m_is_end := PySem.W.mg_of X G a13,
    f_is_number := f14,
    fd_is_number := _,
    F_is_number := F14,
    b_is_number := (F14.binds (ps := ["thing", "low", "high"]) fun _ _ _ _ _ _ us hl => match us, hl with | [_, _, _], _ => rfl),
    m_is_number := PySem.W.mg_of X G a14,
    f_is_wish := f15,
    fd_is_wish := _,
    F_is_wish := F15,
    b_is_wish := (F15.binds (ps := ["thing"]) fun _ _ _ _ _ _ us hl => match us, hl with | [_], _ => rfl),
    m_is_wish := PySem.W.mg_of X G a15,
    f_need_wish := f16,
    fd_need_wish := _,
    F_need_wish := F16,
    b_need_wish := (F16.binds (ps := ["wish"]) fun _ _ _ _ _ _ us hl => match us, hl with | [_], _ => rfl),
    m_need_wish := PySem.W.mg_of X G a16,
    f_fits := f17,
    fd_fits := _,
    F_fits := F17,
    b_fits := (F17.binds (ps := ["book", "wish", "name"]) fun _ _ _ _ _ _ us hl => match us, hl with | [_, _, _], _ => rfl),
    m_fits := PySem.W.mg_of X G a17,
    f__law_told := f18,
    fd__law_told := _,
    F__law_told := F18,
    b__law_told := (F18.binds (ps := ["_law_book_here", "_law_wish_here", "_law_name_here"]) fun _ _ _ _ _ _ us hl => match us, hl with | [_, _, _], _ => rfl),
    m__law_told := PySem.W.mg_of X G a18,
    f__law_wish := f19,
    fd__law_wish := _,
    F__law_wish := F19,
    b__law_wish := (F19.binds (ps := ["_law_script", "_law_at"]) fun _ _ _ _ _ _ us hl => match us, hl with | [_, _], _ => rfl),
    m__law_wish := PySem.W.mg_of X G a19,
    f_law := fa,
    fd_law := _,
    F_law := F20,
    b_law := (F20.binds (ps := ["_law_script"]) fun _ _ _ _ _ _ us hl => match us, hl with | [_], _ => rfl),
    m_law := PySem.W.mg_of X G a20,
    z_ValueError := PySem.W.mg_none_of X G z_ValueError,
    z_all := PySem.W.mg_none_of X G z_all,
    z_bool := PySem.W.mg_none_of X G z_bool,
    z_enumerate := PySem.W.mg_none_of X G z_enumerate,
    z_int := PySem.W.mg_none_of X G z_int,
    z_isinstance := PySem.W.mg_none_of X G z_isinstance,
    z_len := PySem.W.mg_none_of X G z_len,
    z_list := PySem.W.mg_none_of X G z_list,
    z_max := PySem.W.mg_none_of X G z_max,
    z_range := PySem.W.mg_none_of X G z_range,
    z_set := PySem.W.mg_none_of X G z_set,
    z_sorted := PySem.W.mg_none_of X G z_sorted,
    z_str := PySem.W.mg_none_of X G z_str,
    z_tuple := PySem.W.mg_none_of X G z_tuple,
    z_zip := PySem.W.mg_none_of X G z_zip,
    g_LETTERS := ⟨_, PySem.W.mg_of X G g_LETTERS⟩,
    g_MOST_LETTERS := ⟨_, PySem.W.mg_of X G g_MOST_LETTERS⟩,
    g_MOST_NAMES := ⟨_, PySem.W.mg_of X G g_MOST_NAMES⟩,
    g_MOST_BARRED := ⟨_, PySem.W.mg_of X G g_MOST_BARRED⟩,
    g_MOST_ENDS := ⟨_, PySem.W.mg_of X G g_MOST_ENDS⟩ }).imp spOk_D⟩
end KN
set_option maxHeartbeats 400000
namespace KN
open PySem PySem.Spec PyProof.Rows L2
noncomputable section
def q1 : Ga → R Fl := fSet 1 (bCall g__law_book (bCons (bVar 0) (bCons (bC (.int 0)) (bCons (bC (.int 4)) (bCons (bC (.int 4)) bNil)))))
def q2 : Ga → R Fl := fSet 2 (bCall g__law_wish (bCons (bVar 0) (bCons (bC (.int 50)) bNil)))
def q3 : Ga → R Fl := fSet 3 (bCall g__law_drawn (bCons (bVar 0) (bCons (bC (.int 70)) (bCons (bC (.int 6)) bNil))))
def q4 : Ga → R Fl := fSet 4 (bLst (bCons (bC .non) (bCons (bC (.bl true)) (bCons (bC (.bl false)) (bCons (bC (.int 0)) (bCons (bC (.int 1)) (bCons (bC (.int 8)) (bCons (bC (.int 9)) (bCons (bC (.str [])) (bCons (bC (.str [97, 98, 99])) (bCons (bC (.str [97, 98, 99, 100])) (bCons (bC (.str [65])) (bCons (bTup bNil) (bCons (bTup (bCons (bC (.str [97])) bNil)) (bCons (bTup (bCons (bC (.str [98])) (bCons (bC (.str [97])) bNil))) (bCons (bTup (bCons (bC (.str [97])) (bCons (bC (.str [97])) bNil))) (bCons (bTup (bCons (bC (.str [])) bNil)) (bCons (bLst (bCons (bC (.str [97])) bNil)) (bCons (bC (.int 3)) bNil)))))))))))))))))))
def q5 : Ga → R Fl := fSet 4 (b2 dAdd (bVar 4) (bLst (bCons (bTup (bCons (bC (.str [97])) (bCons (bC (.str [98])) (bCons (bC (.str [99])) (bCons (bC (.str [100])) (bCons (bC (.str [101])) (bCons (bC (.str [102])) bNil))))))) (bCons (bTup (bCons (bC (.str [97])) (bCons (bC (.str [98])) (bCons (bC (.str [99])) (bCons (bC (.str [100])) (bCons (bC (.str [101])) (bCons (bC (.str [102])) (bCons (bC (.str [103])) bNil)))))))) (bCons (bC (.str [45])) (bCons (bTup (bCons (bC (.int 1)) bNil)) bNil))))))
def q6 : Ga → R Fl := fSet 5 (b2 dIx (bVar 4) (bCall g__law_drawn (bCons (bVar 0) (bCons (bC (.int 71)) (bCons (bN dLen (bCons (bVar 4) bNil)) bNil)))))
def q7 : Ga → R Fl := fSet 6 (bLst (bCons (bVar 2) (bCons (b2 dAdd (b2 dAdd (bSl (bVar 2) pNo (pSo (bVar 3))) (bTup (bCons (bVar 5) bNil))) (bSl (bVar 2) (pSo (b2 dAdd (bVar 3) (bC (.int 1)))) pNo)) (bCons (b2 dAdd (b2 dAdd (bSl (bVar 2) pNo (pSo (bVar 3))) (bTup (bCons (bVar 5) bNil))) (bSl (bVar 2) (pSo (bVar 3)) pNo)) (bCons (bN dList (bCons (bVar 2) bNil)) (bCons (bSl (bVar 2) (pSo (bC (.int 1))) pNo) bNil))))))
def q8 : Ga → R Fl := fSet 7 (bTup (bCons (bC (.str [97])) (bCons (bC (.str [98])) (bCons (bC (.str [99])) (bCons (bC (.str [100])) (bCons (bC (.str [101])) (bCons (bC (.str [102])) (bCons (bC (.str [103])) bNil))))))))
def q9 : Ga → R Fl := fSet 6 (b2 dAdd (bVar 6) (bLst (bCons (bTup (bCons (bC (.int 1)) (bCons (bC (.int 2)) (bCons (bC (.str [])) (bCons (bC (.str [])) (bCons (bVar 7) (bCons (bC (.bl true)) bNil))))))) (bCons (bTup (bCons (bC (.int 1)) (bCons (bC (.int 2)) (bCons (bC (.str [])) (bCons (bC (.str [])) (bCons (bSl (bVar 7) (pSo (bC (.int 1))) pNo) (bCons (bC (.bl true)) bNil))))))) (bCons (bTup (bCons (bC (.int 0)) (bCons (bC (.int 2)) (bCons (bC (.str [])) (bCons (bC (.str [])) (bCons (bTup bNil) (bCons (bC (.bl true)) bNil))))))) bNil)))))
def q10 : Ga → R Fl := fSet 6 (b2 dAdd (bVar 6) (bLst (bCons (bTup (bCons (bC (.int 1)) (bCons (bC (.int 9)) (bCons (bC (.str [])) (bCons (bC (.str [])) (bCons (bTup bNil) (bCons (bC (.bl true)) bNil))))))) (bCons (bTup (bCons (bC (.int 3)) (bCons (bC (.int 2)) (bCons (bC (.str [])) (bCons (bC (.str [])) (bCons (bTup bNil) (bCons (bC (.bl true)) bNil))))))) (bCons (bTup (bCons (bC (.int 1)) (bCons (bC (.int 2)) (bCons (bC (.str [97, 98, 99, 100])) (bCons (bC (.str [])) (bCons (bTup bNil) (bCons (bC (.bl true)) bNil))))))) bNil)))))
def q11 : Ga → R Fl := fSet 6 (b2 dAdd (bVar 6) (bLst (bCons (bTup (bCons (bC (.int 1)) (bCons (bC (.int 2)) (bCons (bC (.str [])) (bCons (bC (.str [97, 98, 99, 100])) (bCons (bTup bNil) (bCons (bC (.bl true)) bNil))))))) (bCons (bTup (bCons (bC (.int 1)) (bCons (bC (.int 2)) (bCons (bC (.str [])) (bCons (bC (.str [])) (bCons (bTup (bCons (bC (.str [98])) (bCons (bC (.str [97])) bNil))) (bCons (bC (.bl true)) bNil))))))) (bCons (bTup (bCons (bC (.int 1)) (bCons (bC (.int 2)) (bCons (bC (.str [])) (bCons (bC (.str [])) (bCons (bTup (bCons (bC (.str [97])) (bCons (bC (.str [97])) bNil))) (bCons (bC (.bl true)) bNil))))))) bNil)))))
def q12 : Ga → R Fl := fSet 6 (b2 dAdd (bVar 6) (bLst (bCons (bTup (bCons (bC (.int 1)) (bCons (bC (.int 2)) (bCons (bC (.str [])) (bCons (bC (.str [])) (bCons (bTup bNil) (bCons (bC (.int 1)) bNil))))))) (bCons (bTup (bCons (bC (.int 1)) (bCons (bC (.int 2)) (bCons (bC (.str [])) (bCons (bC (.str [])) (bCons (bTup bNil) (bCons (bC .non) bNil))))))) (bCons (bTup (bCons (bC (.int 8)) (bCons (bC (.int 8)) (bCons (bC (.str [97, 98, 99])) (bCons (bC (.str [97, 98, 99])) (bCons (bTup bNil) (bCons (bC (.bl false)) bNil))))))) bNil)))))
def q13b2 : Ga → R Fl := fIf (tOr (tNot (tVal (b1 (dIsi .bool) (bVar 10)))) (tVal (b2 dNe (bVar 10) (bCall g__law_is_wish (bCons (bVar 8) bNil))))) (fRet (bC (.bl false))) fNil
def q13b3b1 : Ga → R Fl := fSet 12 (bCall g__law_name (bCons (bVar 0) (bCons (b2 dAdd (bC (.int 80)) (b2 dMul (bC (.int 10)) (bVar 11))) (bCons (bC (.int 5)) bNil))))
def q13b3b2t : Ga → R Fl := fSet 12 (b2 dIx (bVar 1) (bCall g__law_drawn (bCons (bVar 0) (bCons (bC (.int 79)) (bCons (bN dLen (bCons (bVar 1) bNil)) bNil)))))
def q13b3b2 : Ga → R Fl := fIf (tVal (b2 dEq (bVar 11) (bC (.int 2)))) q13b3b2t fNil
def q13b3b3 : Ga → R Fl := fSet 13 (bIf (tVal (bVar 10)) (bCall g__law_fits (bCons (bVar 1) (bCons (bVar 8) (bCons (bVar 12) bNil)))) (bTup (bCons (bC (.str [114, 101, 102, 117, 115, 101, 100])) (bCons (bC (.int 3)) bNil))))
def q13b3b4 : Ga → R Fl := fIf (tVal (b2 dNe (bCall g__law_told (bCons (bVar 1) (bCons (bVar 8) (bCons (bVar 12) bNil)))) (bVar 13))) (fRet (bC (.bl false))) fNil
def q13b3b : Ga → R Fl := fSeq q13b3b1 (fSeq q13b3b2 (fSeq q13b3b3 (q13b3b4)))
def q13b3 : Ga → R Fl := fForI (iR1 (bC (.int 3))) (bdN 11) q13b3b
def q13b : Ga → R Fl := fSeq (fSet 10 (bCall g_is_wish (bCons (bVar 8) bNil))) (fSeq q13b2 (q13b3))
def q13 : Ga → R Fl := fForE (b2 dAdd (bVar 6) (bLst (bCons (bC .non) (bCons (bTup bNil) (bCons (bVar 5) (bCons (bTup (bCons (bC (.int 8)) (bCons (bC (.int 8)) (bCons (bC (.str [97, 98, 99])) (bCons (bC (.str [97, 98, 99])) (bCons (bTup bNil) (bCons (bC (.bl true)) bNil))))))) (bCons (bTup (bCons (bC (.int 2)) (bCons (bC (.int 1)) (bCons (bC (.str [])) (bCons (bC (.str [])) (bCons (bTup bNil) (bCons (bC (.bl true)) bNil))))))) bNil))))))) (bdN 8) q13b
def q14 : Ga → R Fl := fSet 9 (b2 dIx (bLst (bCons (bC (.str [])) (bCons (bC (.str [65])) (bCons (bC .non) (bCons (bC (.int 1)) bNil))))) (bCall g__law_drawn (bCons (bVar 0) (bCons (bC (.int 72)) (bCons (bC (.int 4)) bNil)))))
def q15 : Ga → R Fl := fIf (tOr (tVal (b2 dNe (bCall g__law_told (bCons (bVar 1) (bCons (bVar 2) (bCons (bVar 9) bNil)))) (bTup (bCons (bC (.str [114, 101, 102, 117, 115, 101, 100])) (bCons (bC (.int 2)) bNil))))) (tVal (b2 dNe (bCall g__law_told (bCons (bVar 1) (bCons (bSl (bVar 2) pNo (pSo (bC (.int 5)))) (bCons (bVar 9) bNil)))) (bTup (bCons (bC (.str [114, 101, 102, 117, 115, 101, 100])) (bCons (bC (.int 3)) bNil)))))) (fRet (bC (.bl false))) fNil
def q16 : Ga → R Fl := fRet (b2 dEq (bCall g__law_told (bCons (bN dList (bCons (bVar 1) bNil)) (bCons (bSl (bVar 2) pNo (pSo (bC (.int 5)))) (bCons (bVar 9) bNil)))) (bTup (bCons (bC (.str [114, 101, 102, 117, 115, 101, 100])) (bCons (bC (.int 0)) bNil))))
def q : Ga → R Fl := fSeq q1 (fSeq q2 (fSeq q3 (fSeq q4 (fSeq q5 (fSeq q6 (fSeq q7 (fSeq q8 (fSeq q9 (fSeq q10 (fSeq q11 (fSeq q12 (fSeq q13 (fSeq q14 (fSeq q15 (q16)))))))))))))))
theorem m_law_k30_e : m_law_k30 = q := rfl
def w1 : Ga → R Fl := fIf (tOr (tNot (tVal (b1 (dIsi .tup) (bVar 0)))) (tVal (b2 dNe (bN dLen (bCons (bVar 0) bNil)) (bC (.int 6))))) (fRet (bC (.bl false))) fNil
def w3 : Ga → R Fl := fIf (tVal (b2 dNe (bLcE (bTup (bCons (bVar 1) (bCons (bVar 2) bNil))) [7] (bdN 7) (tOr (tNot (tVal (b1 (dIsi .int) (bVar 7)))) (tVal (b1 (dIsi .bool) (bVar 7)))) (bVar 7)) (bLst bNil))) (fRet (bC (.bl false))) fNil
def w4 : Ga → R Fl := fIf (tOr (tNot (tVal (bCh3 dLe dLe dLe (bC (.int 1)) (bVar 1) (bVar 2) (bC (.int 8))))) (tOr (tNot (tVal (bCall g__law_letters (bCons (bVar 3) (bCons (bC (.int 0)) (bCons (bC (.int 3)) bNil)))))) (tNot (tVal (bCall g__law_letters (bCons (bVar 4) (bCons (bC (.int 0)) (bCons (bC (.int 3)) bNil)))))))) (fRet (bC (.bl false))) fNil
def w5 : Ga → R Fl := fIf (tOr (tNot (tVal (b1 (dIsi .tup) (bVar 5)))) (tOr (tVal (b2 dGt (bN dLen (bCons (bVar 5) bNil)) (bC (.int 6)))) (tNot (tVal (b1 (dIsi .bool) (bVar 6)))))) (fRet (bC (.bl false))) fNil
def w6 : Ga → R Fl := fIf (tVal (b2 dNe (bLcE (bVar 5) [7] (bdN 7) (tNot (tVal (bCall g__law_letters (bCons (bVar 7) (bCons (bC (.int 1)) (bCons (bC (.int 8)) bNil)))))) (bVar 7)) (bLst bNil))) (fRet (bC (.bl false))) fNil
def w7 : Ga → R Fl := fRet (b2 dEq (bN dList (bCons (bVar 5) bNil)) (b1 dSortSet (bVar 5)))
def w : Ga → R Fl := fSeq w1 (fSeq (fBd (bdT [1, 2, 3, 4, 5, 6]) (bVar 0)) (fSeq w3 (fSeq w4 (fSeq w5 (fSeq w6 (w7))))))
theorem m__law_is_wish_e : m__law_is_wish = w := rfl
/-! ### the law's own wish -/
def lettB : D → Nat → Nat → Bool
  | .str s, lo, hi => decide (lo ≤ s.length) && (decide (s.length ≤ hi) && s.all ltrB)
  | _, _, _ => false
theorem dEq_nil {xs : List D} (h : xs.all (pl 19) = true) : dEq (.lst xs) (.lst []) = .ok (.bl xs.isEmpty) := by
  rw [dEq_p (show pl 20 (.lst xs) = true from h) rfl]
  show R.ok (D.bl (eqvL (eqv 19) xs [])) = _
  cases xs <;> rfl
theorem dNe_nil {xs : List D} (h : xs.all (pl 19) = true) : dNe (.lst xs) (.lst []) = .ok (.bl (!xs.isEmpty)) := by
  rw [dNe_p (show pl 20 (.lst xs) = true from h) rfl]
  show R.ok (D.bl (!eqvL (eqv 19) xs [])) = _
  cases xs <;> rfl
theorem pl_add : ∀ (k n : Nat) (d : D), pl n d = true → pl (n + k) d = true
  | 0, _, _, h => h
  | k + 1, n, d, h => pl_succ (n + k) d (pl_add k n d h)
theorem fil_empty {α β : Type} (p : α → Bool) (f : α → β) (l : List α) : ((l.filter p).map f).isEmpty = l.all fun a => !p a := by
  induction l with
  | nil => rfl
  | cons a l ih =>
    rw [List.all_cons, ← ih, List.filter_cons]
    cases p a <;> simp
theorem lettersG {d : D} (h : Pt d) {lo hi : Nat} : g__law_letters [d, .int (lo : Nat), .int (hi : Nat)] = .ok (.bl (lettB d lo hi)) := by
  unfold g__law_letters
  rw [fnD_e]
  cases d with
  | str s =>
    have hs := h.s s rfl
    have hp : s.all (· < 0x110000) = true := by have := h.p; rwa [pl_str] at this
    have ll := len_str (x := s) (by rw [lim_val]; omega)
    have c1 : dLe (.int (lo : Nat)) (.int (s.length : Nat)) = .ok (.bl (decide (lo ≤ s.length))) := by
      show R.ok (D.bl (decide _)) = _
      congr 2; rw [decide_eq_decide]; omega
    have c2 : dLe (.int (s.length : Nat)) (.int (hi : Nat)) = .ok (.bl (decide (s.length ≤ hi))) := by
      show R.ok (D.bl (decide _)) = _
      congr 2; rw [decide_eq_decide]; omega
    have i1 : dIsi .str (.str s) = .ok (.bl true) := rfl
    have comp := lcGo_fil (bd := bdN 3) (ifs := tVal (b2 dNotIn (bVar 3) (bC (.str LET)))) (elt := bVar 3) (γ := wipeG [.va (.str s), .va (.int (lo : Nat)), .va (.int (hi : Nat)), .un] [3]) (inj := fun c : Nat => D.str [c]) (p := fun c => !ltrB c) (f := fun c => D.str [c]) (l := s) fun c hc => ⟨[.va (.str s), .va (.int (lo : Nat)), .va (.int (hi : Nat)), .va (.str [c])], rfl, by
      have : dNotIn (.str [c]) (.str LET) = .ok (.bl (!ltrB c)) := by unfold dNotIn; rw [letterIn]; rfl
      rw [tVal_e, b2_e]
      show ((R.ok (D.str [c])).bind fun x => (R.ok (D.str LET)).bind fun y => dNotIn x y).bind _ = _
      simp only [R.bind, this]
      rfl, fun _ => rfl⟩
    have hfl : (s.filter fun c => !ltrB c).length ≤ s.length := List.length_filter_le _ _
    have cl := lcE_e (fe := bVar 0) (γ := [.va (.str s), .va (.int (lo : Nat)), .va (.int (hi : Nat)), .un]) (d := .str s) rfl rfl comp (by rw [List.length_map, lim_val]; omega)
    have de := dEq_nil (xs := (s.filter fun c => !ltrB c).map fun c => D.str [c]) (by
      rw [List.all_eq_true]
      intro d hd
      obtain ⟨c, hc, rfl⟩ := List.mem_map.mp hd
      have := List.all_eq_true.mp hp c (List.mem_filter.mp hc).1
      rw [pl_str]
      simpa using this)
    rw [fil_empty] at de
    have ea : (s.all fun a => !!ltrB a) = s.all ltrB := by congr 1; funext a; rw [Bool.not_not]
    rw [ea] at de
    have k2 : ∀ γ, γ = [.va (.str s), .va (.int (lo : Nat)), .va (.int (hi : Nat)), .un] → fRet (b2 dEq (bLcE (bVar 0) [3] (bdN 3) (tVal (b2 dNotIn (bVar 3) (bC (.str LET)))) (bVar 3)) (bLst bNil)) γ = .ok (.rt (.bl (s.all ltrB))) := fun γ hγ => by
      subst hγ
      refine ret_e ?_
      rw [b2_e, cl, nilE]
      exact de
    have fin : m__law_letters [.va (.str s), .va (.int (lo : Nat)), .va (.int (hi : Nat)), .un] = .ok (.rt (.bl (decide (lo ≤ s.length) && (decide (s.length ≤ hi) && s.all ltrB)))) := by
      unfold m__law_letters
      rw [fSeq_e]
      have k1 : fIf (tOr (tNot (tVal (b1 (dIsi .str) (bVar 0)))) (tNot (tVal (bCh dLe dLe (bVar 1) (bN dLen (bCons (bVar 0) (bNil))) (bVar 2))))) (fRet (bC (.bl false))) (fNil) [.va (.str s), .va (.int (lo : Nat)), .va (.int (hi : Nat)), .un] = if decide (lo ≤ s.length) && decide (s.length ≤ hi) then .ok (.nx [.va (.str s), .va (.int (lo : Nat)), .va (.int (hi : Nat)), .un]) else .ok (.rt (.bl false)) := by
        generalize decide (lo ≤ s.length) = q1 at *
        generalize decide (s.length ≤ hi) = q2 at *
        generalize ((s.length : Nat) : Int) = sl at *
        cases q1 <;> cases q2 <;> simp [bCh, i1, ll, c1, c2]
      rw [k1]
      have k2 := k2 _ rfl
      generalize decide (lo ≤ s.length) = q1 at *
      generalize decide (s.length ≤ hi) = q2 at *
      cases q1 <;> cases q2 <;> first | rfl | (simp only [Bool.and_self, if_true]; exact k2)
    show (match m__law_letters [.va (.str s), .va (.int (lo : Nat)), .va (.int (hi : Nat)), .un] with
      | R.ok (Fl.rt d) => R.ok d
      | R.ok (Fl.nx γ) => R.ok D.non
      | R.ex c => R.ex c
      | x => R.no) = _
    rw [fin]; rfl
  | _ => simp [m__law_letters, dIsi, isT, lettB]
theorem lett_end (d : D) : lettB d 0 3 = endB d := by
  cases d <;> simp [lettB, endB]
theorem lett_name (d : D) : lettB d 1 8 = isNameD d := by
  cases d <;> rfl
theorem pt_pl {d : D} (h : Pt d) : pl 19 d = true := pl_add 9 10 d h.p
theorem sort_adj {ts : List Tx} : (ts == sortT ts.eraseDups) = adjB ts := by
  rw [Bool.eq_iff_iff, beq_iff_eq, adj_pw]
  have nd : (sortT ts.eraseDups).Nodup := (sortT_perm _).nodup_iff.mpr (erase_nd _ _ (Nat.le_refl _))
  constructor
  · intro e
    rw [e]
    exact ((sortT_pw ts.eraseDups).and nd).imp fun h => le_lt h.1 h.2
  · intro h
    refine sorted_uniq (fun _ _ => leT_anti) ?_ (h.imp fun h => lt_le h) (sortT_pw _)
    refine (List.perm_ext_iff_of_nodup (h.imp fun {a b} h e => by subst e; exact List.lt_irrefl _ h) nd).mpr fun x => ?_
    rw [(sortT_perm _).mem_iff, List.mem_eraseDups]
def intPB : D → Bool
  | .int _ => true
  | _ => false
theorem int_not (d : D) : (!isT .int d || isT .bool d) = !intPB d := by cases d <;> rfl
theorem ch3 {γ : Ga} {i j : Int} (h1 : γ[1]? = some (.va (.int i))) (h2 : γ[2]? = some (.va (.int j))) : bCh3 dLe dLe dLe (bC (.int 1)) (bVar 1) (bVar 2) (bC (.int 8)) γ = .ok (.bl (decide (1 ≤ i ∧ i ≤ j ∧ j ≤ 8))) := by
  have v1 : bVar 1 γ = .ok (.int i) := by rw [bVar_e, h1]
  have v2 : bVar 2 γ = .ok (.int j) := by rw [bVar_e, h2]
  have k1 : dLe (.int 1) (.int i) = .ok (.bl (decide (1 ≤ i))) := rfl
  have k2 : dLe (.int i) (.int j) = .ok (.bl (decide (i ≤ j))) := rfl
  have k3 : dLe (.int j) (.int 8) = .ok (.bl (decide (j ≤ 8))) := rfl
  have e : decide (1 ≤ i ∧ i ≤ j ∧ j ≤ 8) = (decide (1 ≤ i) && (decide (i ≤ j) && decide (j ≤ 8))) := by
    rw [Bool.eq_iff_iff]; simp
  rw [e]
  unfold bCh3 bLk
  generalize decide (1 ≤ i) = q1 at *
  generalize decide (i ≤ j) = q2 at *
  generalize decide (j ≤ 8) = q3 at *
  cases q1 <;> cases q2 <;> simp only [v1, v2, bC_e, R.bind, k1, k2, k3, Bool.false_and, Bool.true_and]
def wrest : Ga → R Fl := fSeq w3 (fSeq w4 (fSeq w5 (fSeq w6 w7)))
section
variable {d a b h t br w : D}
abbrev EW (d a b h t br w : D) : Ga := [.va d, .va a, .va b, .va h, .va t, .va br, .va w, .un]
theorem w3_ok (pa : Pt a) (pb : Pt b) : w3 (EW d a b h t br w) = if intPB a && intPB b then .ok (.nx (EW d a b h t br w)) else .ok (.rt (.bl false)) := by
  have comp := lcGo_fil (bd := bdN 7) (ifs := tOr (tNot (tVal (b1 (dIsi .int) (bVar 7)))) (tVal (b1 (dIsi .bool) (bVar 7)))) (elt := bVar 7) (γ := wipeG (EW d a b h t br w) [7]) (inj := fun e : D => e) (p := fun e => !intPB e) (f := fun e => e) (l := [a, b]) fun e he => ⟨_, rfl, by
    show tOr (tNot (tVal (b1 (dIsi .int) (bVar 7)))) (tVal (b1 (dIsi .bool) (bVar 7))) [.va d, .va a, .va b, .va h, .va t, .va br, .va w, .va e] = _
    have i1 : dIsi .int e = .ok (.bl (isT .int e)) := rfl
    have i2 : dIsi .bool e = .ok (.bl (isT .bool e)) := rfl
    rw [← int_not]
    generalize isT .int e = q1 at *
    generalize isT .bool e = q2 at *
    cases q1 <;> simp [i1, i2], fun _ => rfl⟩
  rw [List.map_id'] at comp
  have cl := lcE_e (fe := bTup (bCons (bVar 1) (bCons (bVar 2) bNil))) (γ := EW d a b h t br w) (d := .tup [a, b]) (by simp [show 2 ≤ lim from by decide]) rfl comp (by rw [List.length_map]; exact Nat.le_trans (List.length_filter_le _ _) (by show 2 ≤ lim; decide))
  have dn := dNe_nil (xs := ([a, b].filter fun e => !intPB e).map fun e => e) (by
    rw [List.all_eq_true]
    intro e he
    obtain ⟨e', he', rfl⟩ := List.mem_map.mp he
    have := (List.mem_filter.mp he').1
    simp only [List.mem_cons, List.not_mem_nil, or_false] at this
    rcases this with rfl | rfl
    · exact pt_pl pa
    · exact pt_pl pb)
  rw [fil_empty] at dn
  have ea : ([a, b].all fun e => !!intPB e) = (intPB a && intPB b) := by simp
  rw [ea] at dn
  unfold w3
  rw [fIf_e, tVal_e, b2_e, cl, nilE]
  show ((dNe _ _).bind tB).bind _ = _
  rw [dn]
  cases (intPB a && intPB b) <;> rfl
theorem w4_ok {i j : Int} (ph : Pt h) (pt : Pt t) : w4 (EW d (.int i) (.int j) h t br w) = if decide (1 ≤ i ∧ i ≤ j ∧ j ≤ 8) && (endB h && endB t) then .ok (.nx (EW d (.int i) (.int j) h t br w)) else .ok (.rt (.bl false)) := by
  have c3 := ch3 (γ := EW d (.int i) (.int j) h t br w) (i := i) (j := j) rfl rfl
  have g1 := lettersG ph (lo := 0) (hi := 3)
  have g2 := lettersG pt (lo := 0) (hi := 3)
  rw [lett_end] at g1 g2
  have g1 : g__law_letters [h, .int 0, .int 3] = .ok (.bl (endB h)) := g1
  have g2 : g__law_letters [t, .int 0, .int 3] = .ok (.bl (endB t)) := g2
  unfold w4
  generalize bCh3 dLe dLe dLe (bC (.int 1)) (bVar 1) (bVar 2) (bC (.int 8)) = A at *
  generalize decide (1 ≤ i ∧ i ≤ j ∧ j ≤ 8) = q1 at *
  generalize endB h = q2 at *
  generalize endB t = q3 at *
  unfold EW at *
  cases q1 <;> cases q2 <;> cases q3 <;> simp [c3, g1, g2]
theorem w5_ok : w5 (EW d a b h t br w) = if (match br with | .tup xs => decide (xs.length ≤ 6) | _ => false) && blB w then .ok (.nx (EW d a b h t br w)) else .ok (.rt (.bl false)) := by
  unfold w5 EW
  have b5 : dIsi .bool w = .ok (.bl (blB w)) := by cases w <;> rfl
  generalize blB w = q2 at *
  cases br with
  | tup xs =>
    have t4 : dIsi .tup (.tup xs) = .ok (.bl true) := rfl
    have l4 : dLen [.tup xs] = .ok (.int (xs.length : Nat)) := rfl
    have g4 : dGt (.int (xs.length : Nat)) (.int 6) = .ok (.bl (!decide (xs.length ≤ 6))) := by
      show R.ok (D.bl (decide _)) = _
      congr 2
      rw [← decide_not, decide_eq_decide]; omega
    show _ = if decide (xs.length ≤ 6) && q2 then _ else _
    generalize decide (xs.length ≤ 6) = q1 at *
    generalize D.tup xs = BT at *
    generalize ((xs.length : Nat) : Int) = ll at *
    cases q1 <;> cases q2 <;> simp [t4, l4, g4, b5]
  | _ => simp [dIsi, isT]
theorem w6_ok {xs : List D} (pbr : Pt (.tup xs)) : w6 (EW d a b h t (.tup xs) w) = if xs.all isNameD then .ok (.nx (EW d a b h t (.tup xs) w)) else .ok (.rt (.bl false)) := by
  obtain ⟨xl, xc⟩ := pbr.t xs rfl
  have pp : xs.all (pl 9) = true := pbr.p
  have pe : ∀ e ∈ xs, pl 9 e = true := fun e he => List.all_eq_true.mp pp e he
  have comp := lcGo_fil (bd := bdN 7) (ifs := tNot (tVal (bCall g__law_letters (bCons (bVar 7) (bCons (bC (.int 1)) (bCons (bC (.int 8)) (bNil))))))) (elt := bVar 7) (γ := wipeG (EW d a b h t (.tup xs) w) [7]) (inj := fun e : D => e) (p := fun e => !isNameD e) (f := fun e => e) (l := xs) fun e he => ⟨[.va d, .va a, .va b, .va h, .va t, .va (.tup xs), .va w, .va e], rfl, by
    have g1 : g__law_letters [e, .int 1, .int 8] = .ok (.bl (isNameD e)) := by
      rw [← lett_name]
      cases e with
      | str s => exact lettersG (d := .str s) (lo := 1) (hi := 8) ⟨fun s' hs => by cases hs; exact xc _ he s rfl, fun _ hh => (nomatch hh), pl_add 1 9 _ (pe _ he)⟩
      | _ =>
        unfold g__law_letters
        rw [fnD_e]
        simp [m__law_letters, dIsi, isT, lettB]
    generalize D.tup xs = BT at *
    simp [g1], fun _ => rfl⟩
  rw [List.map_id'] at comp
  have cl := lcE_e (fe := bVar 5) (γ := EW d a b h t (.tup xs) w) (d := .tup xs) rfl rfl comp (by rw [List.length_map]; exact Nat.le_trans (List.length_filter_le _ _) (by rw [lim_val]; omega))
  have dn := dNe_nil (xs := (xs.filter fun e => !isNameD e).map fun e => e) (by
    rw [List.all_eq_true]
    intro e he
    obtain ⟨e', he', rfl⟩ := List.mem_map.mp he
    exact pl_add 10 9 _ (pe _ (List.mem_filter.mp he').1))
  rw [fil_empty] at dn
  have ea : (xs.all fun e => !!isNameD e) = xs.all isNameD := by congr 1; funext e; rw [Bool.not_not]
  rw [ea] at dn
  unfold w6
  rw [fIf_e, tVal_e, b2_e, cl, nilE]
  show ((dNe _ _).bind tB).bind _ = _
  rw [dn]
  cases (xs.all isNameD) <;> rfl
theorem w7_ok {ts : List Tx} (hl : ts.length ≤ 6) (hn : ∀ t ∈ ts, nameOk t) : w7 (EW d a b h t (.tup (ts.map .str)) w) = .ok (.rt (.bl (adjB ts))) := by
  have dl : dList [.tup (ts.map .str)] = .ok (.lst (ts.map .str)) := rfl
  have ds : dSortSet (.tup (ts.map .str)) = .ok (.lst ((sortT ts.eraseDups).map .str)) := by
    unfold dSortSet setOr
    have : (ts.map D.str).length < 4000 := by rw [List.length_map]; omega
    simp only [asSeq, this, if_true, asTxs_str]
  have de : dEq (.lst (ts.map .str)) (.lst ((sortT ts.eraseDups).map .str)) = .ok (.bl (adjB ts)) := by
    have pl1 : ∀ {l : List Tx}, (∀ t ∈ l, nameOk t) → pl 20 (.lst (l.map .str)) = true := fun {l} hl => by
      show (l.map D.str).all (pl 19) = true
      rw [List.all_eq_true]
      intro d hd
      obtain ⟨x, hx, rfl⟩ := List.mem_map.mp hd
      rw [pl_str]
      exact (hl x hx).chs.all
    have ev : ∀ xs ys : List Tx, eqvL (eqv 19) (xs.map .str) (ys.map .str) = (xs == ys) := by
      intro xs
      induction xs with
      | nil => intro ys; cases ys <;> rfl
      | cons x xs ih =>
        intro ys
        cases ys with
        | nil => rfl
        | cons y ys =>
          rw [List.map_cons, List.map_cons]
          show (eqv 19 (.str x) (.str y) && eqvL (eqv 19) (xs.map .str) (ys.map .str)) = _
          rw [ih ys, eqv_str]; rfl
    rw [dEq_p (pl1 hn) (pl1 fun x hx => hn x (by
      have := (sortT_perm _).mem_iff.mp hx
      exact List.mem_eraseDups.mp this))]
    show R.ok (D.bl (eqvL (eqv 19) (ts.map .str) ((sortT ts.eraseDups).map .str))) = _
    rw [ev, sort_adj]
  unfold w7
  refine ret_e ?_
  unfold EW
  generalize (sortT ts.eraseDups).map D.str = X1 at *
  generalize ts.map D.str = X2 at *
  simp [dl, ds, de]
end
theorem law_is_wish6 {a b h t br w : D} (pa : Pt a) (pb : Pt b) (ph : Pt h) (pt : Pt t) (pbr : Pt br) (pw : Pt w) : g__law_is_wish [.tup [a, b, h, t, br, w]] = .ok (.bl (wishB (.tup [a, b, h, t, br, w]))) := by
  have t0 : dIsi .tup (.tup [a, b, h, t, br, w]) = .ok (.bl true) := rfl
  have l0 : dLen [.tup [a, b, h, t, br, w]] = .ok (.int 6) := rfl
  have n6 : dNe (.int 6) (.int 6) = .ok (.bl false) := rfl
  have k1 : w1 [.va (.tup [a, b, h, t, br, w]), .un, .un, .un, .un, .un, .un, .un] = .ok (.nx [.va (.tup [a, b, h, t, br, w]), .un, .un, .un, .un, .un, .un, .un]) := by
    refine if_f ?_
    generalize D.tup [a, b, h, t, br, w] = TD at *
    simp [t0, l0, n6]
  have k2 : fBd (bdT [1, 2, 3, 4, 5, 6]) (bVar 0) [.va (.tup [a, b, h, t, br, w]), .un, .un, .un, .un, .un, .un, .un] = .ok (.nx (EW (.tup [a, b, h, t, br, w]) a b h t br w)) := rfl
  have fin : ∀ c, wrest (EW (.tup [a, b, h, t, br, w]) a b h t br w) = .ok (.rt (.bl c)) → g__law_is_wish [.tup [a, b, h, t, br, w]] = .ok (.bl c) := fun c z => by
    unfold g__law_is_wish
    refine fn_rt ?_
    rw [m__law_is_wish_e]
    show KN.w [.va (.tup [a, b, h, t, br, w]), .un, .un, .un, .un, .un, .un, .un] = _
    unfold KN.w
    rw [seq_nx k1, seq_nx k2]
    exact z
  refine fin _ ?_
  have go : ∀ {f g : Ga → R Fl} {γ γ' : Ga} {c : Bool} {r : R Fl}, f γ = (if c then .ok (.nx γ') else .ok (.rt (.bl false))) → (c = true → g γ' = r) → (c = false → r = .ok (.rt (.bl false))) → fSeq f g γ = r := fun {f g γ γ' c r} e1 e2 e3 => by
    rw [fSeq_e, e1]
    cases c with
    | true => exact e2 rfl
    | false => exact (e3 rfl).symm
  unfold wrest
  refine go (w3_ok pa pb) (fun z => ?_) (fun z => ?_)
  · rw [Bool.and_eq_true] at z
    cases a with
    | int i =>
      cases b with
      | int j =>
        have ew : ∀ br w, wishB (.tup [.int i, .int j, h, t, br, w]) = ((decide (1 ≤ i ∧ i ≤ j ∧ j ≤ 8) && (endB h && endB t)) && (barB br && blB w)) := fun br w => by
          show (decide (1 ≤ i ∧ i ≤ 8) && (decide (i ≤ j ∧ j ≤ 8) && (endB h && (endB t && (barB br && blB w))))) = _
          have e : decide (1 ≤ i ∧ i ≤ j ∧ j ≤ 8) = (decide (1 ≤ i ∧ i ≤ 8) && decide (i ≤ j ∧ j ≤ 8)) := by
            rw [Bool.eq_iff_iff]; simp; omega
          rw [e]
          simp only [Bool.and_assoc]
        rw [ew]
        refine go (w4_ok ph pt) (fun z4 => ?_) (fun z4 => by rw [z4]; rfl)
        rw [z4, Bool.true_and]
        refine go w5_ok (fun z5 => ?_) (fun z5 => ?_)
        · cases br with
          | tup xs =>
            have z5 : (decide (xs.length ≤ 6) && blB w) = true := z5
            rw [Bool.and_eq_true, decide_eq_true_iff] at z5
            rw [z5.2, Bool.and_true]
            refine go (w6_ok pbr) (fun z6 => ?_) (fun z6 => ?_)
            · obtain ⟨ts, rfl, hts⟩ := names_txs z6
              rw [w7_ok (by have := z5.1; rwa [List.length_map] at this) hts]
              show _ = R.ok (Fl.rt (D.bl (decide ((ts.map D.str).length ≤ 6) && ((ts.map D.str).all isNameD && upB (ts.map D.str)))))
              have eu : upB (ts.map D.str) = adjB ts := by unfold upB; rw [asTxs_str]
              rw [z6, eu, decide_eq_true z5.1]; rfl
            · show R.ok (Fl.rt (D.bl (decide (xs.length ≤ 6) && (xs.all isNameD && upB xs)))) = _
              rw [z6, decide_eq_true z5.1]; rfl
          | _ => exact absurd z5 (by rw [Bool.false_and]; decide)
        · cases br with
          | tup xs =>
            have z5 : (decide (xs.length ≤ 6) && blB w) = false := z5
            show R.ok (Fl.rt (D.bl ((decide (xs.length ≤ 6) && (xs.all isNameD && upB xs)) && blB w))) = _
            congr 3
            generalize decide (xs.length ≤ 6) = q1 at *
            generalize blB w = q2 at *
            cases q1 <;> cases q2 <;> first | rfl | (exact absurd z5 (by decide)) | simp
          | _ => rfl
      | _ => exact absurd (show false = true from z.2) (by decide)
    | _ => exact absurd (show false = true from z.1) (by decide)
  · congr 3
    cases a with
    | int i =>
      have z : (true && intPB b) = false := z
      cases b with
      | int j => exact absurd (show true = false from z) (by decide)
      | _ => exact Bool.and_false _
    | _ => rfl
theorem law_is_wishG {d : D} (h : Th d) : g__law_is_wish [d] = .ok (.bl (wishB d)) := by
  have fin : ∀ c, w1 [.va d, .un, .un, .un, .un, .un, .un, .un] = .ok (.rt (.bl c)) → g__law_is_wish [d] = .ok (.bl c) := fun c z => by
    unfold g__law_is_wish
    refine fn_rt ?_
    rw [m__law_is_wish_e]
    show w [.va d, .un, .un, .un, .un, .un, .un, .un] = _
    unfold w
    rw [fSeq_e, z]
  cases d with
  | tup ps =>
    by_cases z : ps.length = 6
    · match ps, z with
      | [a, b, c, t, br, w], _ => exact law_is_wish6 (h _ rfl a (by simp)) (h _ rfl b (by simp)) (h _ rfl c (by simp)) (h _ rfl t (by simp)) (h _ rfl br (by simp)) (h _ rfl w (by simp))
    · have e : wishB (.tup ps) = false := by
        unfold wishB
        split
        · rename_i q; cases q; exact absurd rfl z
        · rfl
      have l0 : dLen [.tup ps] = .ok (.int (ps.length : Nat)) := rfl
      have t0 : dIsi .tup (.tup ps) = .ok (.bl true) := rfl
      have n6 : dNe (.int (ps.length : Nat)) (.int 6) = .ok (.bl true) := by
        rw [dNe_p (by simp) (by simp), eqv_int]
        have : ((ps.length : Nat) : Int) ≠ 6 := by omega
        simp [this]
      rw [e]
      refine fin _ ?_
      unfold w1
      generalize D.tup ps = TD at *
      generalize ((ps.length : Nat) : Int) = ll at *
      simp [t0, l0, n6]
  | _ =>
    refine fin _ ?_
    unfold w1
    simp [dIsi, isT, wishB]
/-! ### what is told -/
theorem told_e {b t x : D} : g__law_told [b, t, x] = match g_fits [b, t, x] with
    | .ok d => .ok d
    | .ex c => (match h__law_refused c with | .ok d => .ok d | _ => .no)
    | .no => .no := by
  have fin : m__law_told [.va b, .va t, .va x, .un] = match g_fits [b, t, x] with
    | .ok d => .ok (.rt d)
    | .ex c => (match h__law_refused c with | .ok d => .ok (.rt d) | _ => .no)
    | .no => .no := by
    unfold m__law_told fTryR
    cases h : g_fits [b, t, x] with
    | ok d => simp [h]
    | ex c => first | (simp [h]; done) | (simp [h]; cases h__law_refused c <;> rfl)
    | no => simp [h]
  unfold g__law_told
  rw [fnD_e]
  show (match m__law_told [.va b, .va t, .va x, .un] with
    | R.ok (Fl.rt d) => R.ok d
    | R.ok (Fl.nx γ) => R.ok D.non
    | R.ex c => R.ex c
    | x => R.no) = _
  rw [fin]
  cases g_fits [b, t, x] with
  | ok d => rfl
  | ex c =>
    simp only
    cases h__law_refused c <;> rfl
  | no => rfl
theorem told_ok {b t x d : D} (h : g_fits [b, t, x] = .ok d) : g__law_told [b, t, x] = .ok d := by rw [told_e, h]
theorem told_ex {b t x d : D} {c : Nat} (h : g_fits [b, t, x] = .ex c) (h2 : h__law_refused c = .ok d) : g__law_told [b, t, x] = .ok d := by rw [told_e, h]; simp only [h2]
abbrev refD (i : Int) : D := .tup [.str [114, 101, 102, 117, 115, 101, 100], .int i]
theorem r0 : h__law_refused 0 = .ok (refD 0) := rfl
theorem r2 : h__law_refused 2 = .ok (refD 2) := rfl
theorem r3 : h__law_refused 3 = .ok (refD 3) := rfl
section
variable {b t x : D}
theorem fits0 (h : g_need_book [b] = .ex 0) : g_fits [b, t, x] = .ex 0 := by unfold g_fits; rw [fnD_e]; simp [m_fits, h]
theorem fits3 (h : g_need_book [b] = .ok .non) (h2 : g_need_wish [t] = .ex 3) : g_fits [b, t, x] = .ex 3 := by unfold g_fits; rw [fnD_e]; simp [m_fits, h, h2]
theorem fits2 (h : g_need_book [b] = .ok .non) (h2 : g_need_wish [t] = .ok .non) (h3 : g_need_name [x] = .ex 2) : g_fits [b, t, x] = .ex 2 := by unfold g_fits; rw [fnD_e]; simp [m_fits, h, h2, h3]
end
/-! ### things -/
def ptB (d : D) : Bool := pl 10 d && match d with
  | .str s => decide (s.length ≤ 100)
  | .tup xs => decide (xs.length ≤ 100) && xs.all fun e => match e with
    | .str s => decide (s.length ≤ 100)
    | _ => true
  | _ => true
theorem pt_of {d : D} (h : ptB d = true) : Pt d := by
  unfold ptB at h
  rw [Bool.and_eq_true] at h
  refine ⟨fun s e => ?_, fun xs e => ?_, h.1⟩
  · subst e
    exact of_decide_eq_true h.2
  · subst e
    have h2 : (decide (xs.length ≤ 100) && xs.all fun e => match e with
      | .str s => decide (s.length ≤ 100)
      | _ => true) = true := h.2
    rw [Bool.and_eq_true] at h2
    refine ⟨of_decide_eq_true h2.1, fun e he s es => ?_⟩
    subst es
    exact of_decide_eq_true (List.all_eq_true.mp h2.2 _ he)
def thB : D → Bool
  | .tup ps => ps.all ptB
  | _ => true
theorem th_of {d : D} (h : thB d = true) : Th d := fun ps e p hp => by
  subst e
  exact pt_of (List.all_eq_true.mp h p hp)
def odds : List D := [.non, .bl true, .bl false, .int 0, .int 1, .int 8, .int 9, .str [], .str [97, 98, 99], .str [97, 98, 99, 100], .str [65], .tup [], .tup [.str [97]], .tup [.str [98], .str [97]], .tup [.str [97], .str [97]], .tup [.str []], .lst [.str [97]], .int 3] ++ [.tup [.str [97], .str [98], .str [99], .str [100], .str [101], .str [102]], .tup [.str [97], .str [98], .str [99], .str [100], .str [101], .str [102], .str [103]], .str [45], .tup [.int 1]]
theorem odds_pt : ∀ d ∈ odds, Pt d ∧ Th d := fun d hd => by
  have h : odds.all (fun d => ptB d && thB d) = true := by decide +kernel
  have := List.all_eq_true.mp h d hd
  rw [Bool.and_eq_true] at this
  exact ⟨pt_of this.1, th_of this.2⟩
def many7 : D := .tup [.str [97], .str [98], .str [99], .str [100], .str [101], .str [102], .str [103]]
def many6 : D := .tup [.str [98], .str [99], .str [100], .str [101], .str [102], .str [103]]
def ths9 : List D := [.tup [.int 1, .int 2, .str [], .str [], many7, .bl true], .tup [.int 1, .int 2, .str [], .str [], many6, .bl true], .tup [.int 0, .int 2, .str [], .str [], .tup [], .bl true]]
def ths10 : List D := [.tup [.int 1, .int 9, .str [], .str [], .tup [], .bl true], .tup [.int 3, .int 2, .str [], .str [], .tup [], .bl true], .tup [.int 1, .int 2, .str [97, 98, 99, 100], .str [], .tup [], .bl true]]
def ths11 : List D := [.tup [.int 1, .int 2, .str [], .str [97, 98, 99, 100], .tup [], .bl true], .tup [.int 1, .int 2, .str [], .str [], .tup [.str [98], .str [97]], .bl true], .tup [.int 1, .int 2, .str [], .str [], .tup [.str [97], .str [97]], .bl true]]
def ths12 : List D := [.tup [.int 1, .int 2, .str [], .str [], .tup [], .int 1], .tup [.int 1, .int 2, .str [], .str [], .tup [], .non], .tup [.int 8, .int 8, .str [97, 98, 99], .str [97, 98, 99], .tup [], .bl false]]
def ths13 (odd : D) : List D := [.non, .tup [], odd, .tup [.int 8, .int 8, .str [97, 98, 99], .str [97, 98, 99], .tup [], .bl true], .tup [.int 2, .int 1, .str [], .str [], .tup [], .bl true]]
theorem ths_th : ∀ d ∈ ths9 ++ ths10 ++ ths11 ++ ths12, Th d := fun d hd => by
  have h : (ths9 ++ ths10 ++ ths11 ++ ths12).all thB = true := by decide +kernel
  exact th_of (List.all_eq_true.mp h d hd)
theorem ths13_th {odd : D} (ho : Th odd) : ∀ d ∈ ths13 odd, Th d := fun d hd => by
  simp only [ths13, List.mem_cons, List.not_mem_nil, or_false] at hd
  rcases hd with rfl | rfl | rfl | rfl | rfl
  · exact th_of rfl
  · exact th_of rfl
  · exact ho
  · exact th_of (by decide +kernel)
  · exact th_of (by decide +kernel)
def wpD (w : Wi) : List D := [.int (w.lo : Nat), .int (w.hi : Nat), .str w.hd, .str w.tl, .tup (w.bar.map .str), .bl w.told]
theorem wp_pt {w : Wi} (h : WiOk w) : ∀ p ∈ wpD w, Pt p := fun p hp => by
  simp only [wpD, List.mem_cons, List.not_mem_nil, or_false] at hp
  have st : ∀ {t : Tx}, endOk t → Pt (.str t) := fun {t} ht => ⟨fun s e => by injection e with e; subst e; have := ht.1; omega, fun xs e => (nomatch e), by rw [pl_str]; exact ht.chs.all⟩
  rcases hp with rfl | rfl | rfl | rfl | rfl | rfl
  · exact ⟨fun s e => (nomatch e), fun s e => (nomatch e), rfl⟩
  · exact ⟨fun s e => (nomatch e), fun s e => (nomatch e), rfl⟩
  · exact st h.hd
  · exact st h.tl
  · refine ⟨fun s e => (nomatch e), fun xs e => ?_, ?_⟩
    · injection e with e
      subst e
      refine ⟨by rw [List.length_map]; have := h.few; omega, fun e he s es => ?_⟩
      obtain ⟨x, hx, rfl⟩ := List.mem_map.mp he
      injection es with es
      subst es
      have := (h.names x hx).2.1; omega
    · show (w.bar.map D.str).all (pl 9) = true
      rw [List.all_eq_true]
      intro d hd
      obtain ⟨x, hx, rfl⟩ := List.mem_map.mp hd
      rw [pl_str]
      exact (h.names x hx).chs.all
  · exact ⟨fun s e => (nomatch e), fun s e => (nomatch e), rfl⟩
theorem th_tup {ps : List D} (h : ∀ p ∈ ps, Pt p) : Th (.tup ps) := fun qs e p hp => by
  injection e with e
  subst e
  exact h p hp
def ths7 (w : Wi) (a : Nat) (odd : D) : List D := [wiD w, .tup ((wpD w).take a ++ [odd] ++ (wpD w).drop (a + 1)), .tup ((wpD w).take a ++ [odd] ++ (wpD w).drop a), .lst (wpD w), .tup ((wpD w).drop 1)]
theorem ths7_th {w : Wi} (h : WiOk w) {a : Nat} {odd : D} (ho : Pt odd) : ∀ d ∈ ths7 w a odd, Th d := fun d hd => by
  have wp := wp_pt h
  have mid : ∀ k, ∀ p ∈ (wpD w).take a ++ [odd] ++ (wpD w).drop k, Pt p := fun k p hp => by
    rcases List.mem_append.mp hp with z | z
    · rcases List.mem_append.mp z with z | z
      · exact wp p (List.mem_of_mem_take z)
      · rw [List.mem_singleton.mp z]; exact ho
    · exact wp p (List.mem_of_mem_drop z)
  simp only [ths7, List.mem_cons, List.not_mem_nil, or_false] at hd
  rcases hd with rfl | rfl | rfl | rfl | rfl
  · exact th_tup wp
  · exact th_tup (mid _)
  · exact th_tup (mid _)
  · exact fun ps e => nomatch e
  · exact th_tup fun p hp => wp p (List.mem_of_mem_drop hp)
abbrev E30 (s0 : Sl) (b : List Tx) (w : Wi) (a : Nat) (s4 s5 s6 s7 s8 s9 s10 s11 s12 s13 : Sl) : Ga := [s0, .va (bkD b), .va (wiD w), .va (.int a), s4, s5, s6, s7, s8, s9, s10, s11, s12, s13]
section
variable {s0 s4 s5 s6 s7 s8 s9 s10 s11 s12 s13 : Sl} {b : List Tx} {w : Wi} {a : Nat}
theorem add6 {ts us : List D} {fe : Ga → R D} (h : fe (E30 s0 b w a s4 s5 (.va (.lst ts)) s7 s8 s9 s10 s11 s12 s13) = .ok (.lst us)) (hl : ts.length + us.length ≤ lim) :
    fSet 6 (b2 dAdd (bVar 6) fe) (E30 s0 b w a s4 s5 (.va (.lst ts)) s7 s8 s9 s10 s11 s12 s13) = .ok (.nx (E30 s0 b w a s4 s5 (.va (.lst (ts ++ us))) s7 s8 s9 s10 s11 s12 s13)) := by
  refine set_e ?_
  rw [b2_e, h]
  show dAdd (.lst ts) (.lst us) = _
  show (if ts.length + us.length ≤ lim then R.ok (D.lst (ts ++ us)) else .no) = _
  rw [if_pos hl]
theorem q7_ok {odd : D} : q7 (E30 s0 b w a s4 (.va odd) s6 s7 s8 s9 s10 s11 s12 s13) = .ok (.nx (E30 s0 b w a s4 (.va odd) (.va (.lst (ths7 w a odd))) s7 s8 s9 s10 s11 s12 s13)) := by
  refine set_e ?_
  have l5 : 5 ≤ lim := by decide
  have l1 : 1 ≤ lim := by decide
  have c1 : dSl (wiD w) none (some (a : Int)) = .ok (.tup ((wpD w).take a)) := by
    show R.ok (D.tup (cutL (wpD w) none (some (a : Int)))) = _
    rw [cut_to]
  have c2 : dSl (wiD w) (some ((a : Int) + 1)) none = .ok (.tup ((wpD w).drop (a + 1))) := by
    show R.ok (D.tup (cutL (wpD w) (some (((a + 1 : Nat)) : Int)) none)) = _
    rw [cut_from]
  have c3 : dSl (wiD w) (some (a : Int)) none = .ok (.tup ((wpD w).drop a)) := by
    show R.ok (D.tup (cutL (wpD w) (some (a : Int)) none)) = _
    rw [cut_from]
  have c4 : dSl (wiD w) (some 1) none = .ok (.tup ((wpD w).drop 1)) := by
    show R.ok (D.tup (cutL (wpD w) (some ((1 : Nat) : Int)) none)) = _
    rw [cut_from]
  have tl : ∀ k, ((wpD w).take k).length ≤ 6 := fun k => by rw [List.length_take]; have : (wpD w).length = 6 := rfl; omega
  have dl : ∀ k, ((wpD w).drop k).length ≤ 6 := fun k => by rw [List.length_drop]; have : (wpD w).length = 6 := rfl; omega
  have ad : ∀ {xs ys : List D}, xs.length + ys.length ≤ 100 → dAdd (.tup xs) (.tup ys) = .ok (.tup (xs ++ ys)) := fun {xs ys} h => by
    show (if xs.length + ys.length ≤ lim then R.ok (D.tup (xs ++ ys)) else .no) = _
    rw [if_pos (by rw [lim_val]; omega)]
  have p1 : dAdd (.tup ((wpD w).take a)) (.tup [odd]) = .ok (.tup ((wpD w).take a ++ [odd])) := ad (by have := tl a; simp only [List.length_cons, List.length_nil]; omega)
  have p2 : dAdd (.tup ((wpD w).take a ++ [odd])) (.tup ((wpD w).drop (a + 1))) = .ok (.tup ((wpD w).take a ++ [odd] ++ (wpD w).drop (a + 1))) := ad (by have := tl a; have := dl (a + 1); simp only [List.length_append, List.length_cons, List.length_nil]; omega)
  have p3 : dAdd (.tup ((wpD w).take a ++ [odd])) (.tup ((wpD w).drop a)) = .ok (.tup ((wpD w).take a ++ [odd] ++ (wpD w).drop a)) := ad (by have := tl a; have := dl a; simp only [List.length_append, List.length_cons, List.length_nil]; omega)
  have ls : dList [wiD w] = .ok (.lst (wpD w)) := rfl
  unfold ths7 E30
  generalize (wpD w).take a ++ [odd] ++ (wpD w).drop (a + 1) = X1 at *
  generalize (wpD w).take a ++ [odd] ++ (wpD w).drop a = X2 at *
  generalize (wpD w).take a ++ [odd] = X3 at *
  generalize (wpD w).take a = X4 at *
  generalize (wpD w).drop (a + 1) = X5 at *
  generalize (wpD w).drop a = X6 at *
  generalize (wpD w).drop 1 = X7 at *
  generalize wpD w = X8 at *
  generalize wiD w = WD at *
  generalize bkD b = B at *
  simp [bSl, pNo, pSo, toI, c1, c2, c3, c4, p1, p2, p3, ls, l1, l5]
/-- one thing, one name -/
theorem name_step {ns : List Int} (hns : ns.length ≤ 63) (hs : s0 = .va (Lk ns)) (hb : bookOk b) {t : D} (ht : Th t) {k : Nat} (hk : k < 3) : ∃ t12 t13, q13b3b (E30 s0 b w a s4 s5 s6 s7 (.va t) s9 (.va (.bl (wishB t))) (.va (.int (k : Nat))) s12 s13) =
    .ok (.nx (E30 s0 b w a s4 s5 s6 s7 (.va t) s9 (.va (.bl (wishB t))) (.va (.int (k : Nat))) t12 t13)) := by
  subst hs
  obtain ⟨n1, n2, n3, n4⟩ := name_ok hns (k := 80 + 10 * (k : Nat)) (m := 5) (by omega) (by omega) (by decide) (by decide)
  have hx0 : nameOk (nameF ns (80 + 10 * (k : Nat)) 5) := ⟨by omega, by omega, fun c hc => by
    rcases n4 c hc with rfl | rfl | rfl <;> decide⟩
  generalize nameF ns (80 + 10 * (k : Nat)) 5 = x0 at *
  have mk : dMul (.int 10) (.int (k : Nat)) = .ok (.int (10 * (k : Nat))) := dMul_s (by decide) (by omega)
  have k1 : q13b3b1 (E30 (.va (Lk ns)) b w a s4 s5 s6 s7 (.va t) s9 (.va (.bl (wishB t))) (.va (.int (k : Nat))) s12 s13) = .ok (.nx (E30 (.va (Lk ns)) b w a s4 s5 s6 s7 (.va t) s9 (.va (.bl (wishB t))) (.va (.int (k : Nat))) (.va (.str x0)) s13)) := by
    refine set_e ?_
    unfold E30
    generalize Lk ns = L at *
    generalize bkD b = B at *
    generalize wiD w = WD at *
    generalize ((k : Nat) : Int) = kk at *
    simp [mk, n1]
  have k2 : ∃ x, nameOk x ∧ q13b3b2 (E30 (.va (Lk ns)) b w a s4 s5 s6 s7 (.va t) s9 (.va (.bl (wishB t))) (.va (.int (k : Nat))) (.va (.str x0)) s13) = .ok (.nx (E30 (.va (Lk ns)) b w a s4 s5 s6 s7 (.va t) s9 (.va (.bl (wishB t))) (.va (.int (k : Nat))) (.va (.str x)) s13)) := by
    have qe : dEq (.int (k : Nat)) (.int 2) = .ok (.bl (((k : Nat) : Int) == 2)) := by rw [dEq_p (by simp) (by simp), eqv_int]
    have test : tVal (b2 dEq (bVar 11) (bC (.int 2))) (E30 (.va (Lk ns)) b w a s4 s5 s6 s7 (.va t) s9 (.va (.bl (wishB t))) (.va (.int (k : Nat))) (.va (.str x0)) s13) = .ok (((k : Nat) : Int) == 2) := by
      unfold E30
      generalize Lk ns = L at *
      generalize bkD b = B at *
      generalize wiD w = WD at *
      generalize ((k : Nat) : Int) = kk at *
      simp [qe]
    unfold q13b3b2
    rw [fIf_e, test]
    cases z : (((k : Nat) : Int) == 2) with
    | false => exact ⟨x0, hx0, rfl⟩
    | true =>
      have hb1 := hb.1
      obtain ⟨d1, d2, d3⟩ := drawn_ok hns (k := 79) (m := (b.length : Nat)) (by decide) (by decide) (by omega)
      generalize drawnF ns 79 (b.length : Nat) = di at *
      obtain ⟨i, rfl⟩ : ∃ i : Nat, di = i := ⟨di.toNat, by omega⟩
      have hi : i < b.length := by omega
      refine ⟨b[i], hb.2.2 _ (List.getElem_mem hi), ?_⟩
      have ix : dIx (bkD b) (.int (i : Nat)) = .ok (.str b[i]) := by
        show o2r (L2.atI (b.map D.str) (i : Int)) = _
        rw [L2.atI_nat (v := .str b[i]) (by rw [List.getElem?_map, List.getElem?_eq_getElem hi]; rfl)]; rfl
      have lb : dLen [bkD b] = .ok (.int (b.length : Nat)) := by
        show R.ok (D.int _) = _
        rw [List.length_map]
      show fSet 12 _ _ = _
      refine set_e ?_
      unfold E30
      generalize Lk ns = L at *
      generalize bkD b = B at *
      generalize wiD w = WD at *
      generalize ((i : Nat) : Int) = ii at *
      generalize ((b.length : Nat) : Int) = bl at *
      simp [lb, d1, ix]
  obtain ⟨x, hx, k2⟩ := k2
  have bo := needBook_ok hb
  obtain ⟨due, k3, k4⟩ : ∃ due : D, q13b3b3 (E30 (.va (Lk ns)) b w a s4 s5 s6 s7 (.va t) s9 (.va (.bl (wishB t))) (.va (.int (k : Nat))) (.va (.str x)) s13) = .ok (.nx (E30 (.va (Lk ns)) b w a s4 s5 s6 s7 (.va t) s9 (.va (.bl (wishB t))) (.va (.int (k : Nat))) (.va (.str x)) (.va due))) ∧ (g__law_told [bkD b, t, .str x] = .ok due ∧ dNe due due = .ok (.bl false)) := by
    cases z : wishB t with
    | true =>
      obtain ⟨wi, hwi, rfl⟩ := wish_of z
      have f1 := fits_ok hb hwi hx
      have f2 := law_fits_ok hb hwi hx.chs (by have := hx.2.1; omega)
      refine ⟨.bl (fitP b wi x), ?_, told_ok f1, by cases fitP b wi x <;> rfl⟩
      refine set_e ?_
      unfold E30
      generalize fitP b wi x = p at *
      generalize Lk ns = L at *
      generalize bkD b = B at *
      generalize wiD wi = WI at *
      generalize wiD w = WD at *
      simp [bIf, f2]
    | false =>
      have iw := is_wishG ht
      rw [z] at iw
      refine ⟨refD 3, ?_, told_ex (fits3 bo (needWish_bad iw)) r3, dNe_self rfl⟩
      refine set_e ?_
      unfold E30
      generalize Lk ns = L at *
      generalize bkD b = B at *
      generalize wiD w = WD at *
      simp [bIf, show 2 ≤ lim from by decide]
  obtain ⟨k4, k5⟩ := k4
  refine ⟨.va (.str x), .va due, (seq_nx k1).trans ((seq_nx k2).trans ((seq_nx k3).trans ?_))⟩
  refine if_f ?_
  unfold E30
  generalize Lk ns = L at *
  generalize bkD b = B at *
  generalize wiD w = WD at *
  generalize wishB t = wt at *
  simp [k4, k5]
theorem thing_step {ns : List Int} (hns : ns.length ≤ 63) (hs : s0 = .va (Lk ns)) (hb : bookOk b) {t : D} (ht : Th t) : ∃ t10 t11 t12 t13, q13b (E30 s0 b w a s4 s5 s6 s7 (.va t) s9 s10 s11 s12 s13) =
    .ok (.nx (E30 s0 b w a s4 s5 s6 s7 (.va t) s9 t10 t11 t12 t13)) := by
  have e1 := is_wishG ht
  have e2 := law_is_wishG ht
  have k1 : fSet 10 (bCall g_is_wish (bCons (bVar 8) bNil)) (E30 s0 b w a s4 s5 s6 s7 (.va t) s9 s10 s11 s12 s13) = .ok (.nx (E30 s0 b w a s4 s5 s6 s7 (.va t) s9 (.va (.bl (wishB t))) s11 s12 s13)) := by
    refine set_e ?_
    unfold E30
    generalize bkD b = B at *
    generalize wiD w = WD at *
    simp [e1]
  have k2 : q13b2 (E30 s0 b w a s4 s5 s6 s7 (.va t) s9 (.va (.bl (wishB t))) s11 s12 s13) = .ok (.nx (E30 s0 b w a s4 s5 s6 s7 (.va t) s9 (.va (.bl (wishB t))) s11 s12 s13)) := by
    have n := dNe_self (d := .bl (wishB t)) rfl
    have i : dIsi .bool (.bl (wishB t)) = .ok (.bl true) := rfl
    refine if_f ?_
    unfold E30
    generalize bkD b = B at *
    generalize wiD w = WD at *
    generalize wishB t = wt at *
    simp [e2, n, i]
  obtain ⟨γ', l1, t11, t12, t13, rfl⟩ := forGo_inv (bd := bdN 11) (inj := fun i : Nat => D.int (0 + (i : Nat))) (l0 := List.range 3) (body := q13b3b)
    (I := fun dn γ => ∃ t11 t12 t13, γ = E30 s0 b w a s4 s5 s6 s7 (.va t) s9 (.va (.bl (wishB t))) t11 t12 t13)
    (γ := E30 s0 b w a s4 s5 s6 s7 (.va t) s9 (.va (.bl (wishB t))) s11 s12 s13) (fun dn k rest γ hr hI => by
      obtain ⟨t11, t12, t13, rfl⟩ := hI
      have hk : k < 3 := List.mem_range.mp (by rw [hr]; simp)
      obtain ⟨u12, u13, kk⟩ := name_step (s0 := s0) (s4 := s4) (s5 := s5) (s6 := s6) (s7 := s7) (s9 := s9) (s12 := t12) (s13 := t13) (w := w) (a := a) hns hs hb ht hk
      refine ⟨E30 s0 b w a s4 s5 s6 s7 (.va t) s9 (.va (.bl (wishB t))) (.va (.int (k : Nat))) t12 t13, by
        show R.ok _ = R.ok _
        rw [Int.zero_add]; rfl, _, .inl kk, _, _, _, rfl⟩) ⟨_, _, _, rfl⟩
  refine ⟨.va (.bl (wishB t)), t11, t12, t13, ?_⟩
  unfold q13b
  rw [seq_nx k1, seq_nx k2]
  unfold q13b3 fForI
  rw [iR1_s (fa := bC (.int 3)) (n := 3) rfl (by decide)]
  exact l1
theorem q13_ok {ns : List Int} (hns : ns.length ≤ 63) (hs : s0 = .va (Lk ns)) (hb : bookOk b) {ts : List D} (hl : ts.length ≤ 100) (hts : ∀ t ∈ ts, Th t) {odd : D} (ho : Th odd) : ∃ t8 t10 t11 t12 t13, q13 (E30 s0 b w a s4 (.va odd) (.va (.lst ts)) s7 s8 s9 s10 s11 s12 s13) =
    .ok (.nx (E30 s0 b w a s4 (.va odd) (.va (.lst ts)) s7 t8 s9 t10 t11 t12 t13)) := by
  have hth : ∀ t ∈ ts ++ ths13 odd, Th t := fun t ht => by
    rcases List.mem_append.mp ht with z | z
    · exact hts t z
    · exact ths13_th ho t z
  obtain ⟨γ', l1, t8, t10, t11, t12, t13, rfl⟩ := forGo_inv (bd := bdN 8) (inj := fun d : D => d) (l0 := ts ++ ths13 odd) (body := q13b)
    (I := fun dn γ => ∃ t8 t10 t11 t12 t13, γ = E30 s0 b w a s4 (.va odd) (.va (.lst ts)) s7 t8 s9 t10 t11 t12 t13)
    (γ := E30 s0 b w a s4 (.va odd) (.va (.lst ts)) s7 s8 s9 s10 s11 s12 s13) (fun dn t rest γ hr hI => by
      obtain ⟨t8, t10, t11, t12, t13, rfl⟩ := hI
      obtain ⟨u10, u11, u12, u13, kk⟩ := thing_step (s0 := s0) (s4 := s4) (s5 := .va odd) (s6 := .va (.lst ts)) (s7 := s7) (s9 := s9) (s10 := t10) (s11 := t11) (s12 := t12) (s13 := t13) (w := w) (a := a) hns hs hb (hth t (by rw [hr]; simp))
      exact ⟨_, rfl, _, .inl kk, _, _, _, _, _, rfl⟩) ⟨_, _, _, _, _, rfl⟩
  rw [List.map_id'] at l1
  refine ⟨t8, t10, t11, t12, t13, forE_e (d := .lst (ts ++ ths13 odd)) ?_ rfl (fun es h => nomatch h) l1⟩
  rw [b2_e]
  show ((R.ok (D.lst ts)).bind fun x => (R.ok (D.lst (ths13 odd))).bind fun y => dAdd x y) = _
  show (if ts.length + 5 ≤ lim then R.ok (D.lst (ts ++ ths13 odd)) else .no) = _
  rw [if_pos (by rw [lim_val]; omega)]
end
theorem ix_in {l : List D} {k : Int} (h0 : 0 ≤ k) (h1 : k < l.length) : ∃ d ∈ l, o2r (L2.atI l k) = .ok d := by
  obtain ⟨n, rfl⟩ : ∃ n : Nat, k = n := ⟨k.toNat, by omega⟩
  have hn : n < l.length := by omega
  refine ⟨l[n], List.getElem_mem hn, ?_⟩
  rw [L2.atI_nat (List.getElem?_eq_getElem hn)]; rfl
def bads : List D := [.str [], .str [65], .non, .int 1]
theorem law_true_k30 : ∀ ns : List Int, ns.length ≤ 63 → g_law_k30 [.lst (ns.map .int)] = .ok (.bl true) := by
  intro ns hns
  obtain ⟨bb1, bl1, bl2, b4⟩ := book_ok hns (k := 0) (many := 4) (m := 4) (by decide) (by decide) (by decide) (by decide) (by decide) (by decide)
  have hb : bookOk (bookF ns 0 4 4) := ⟨by omega, by omega, fun x hx => (b4 x hx).nm (by decide)⟩
  generalize bookF ns 0 4 4 = b at *
  obtain ⟨w, hw, _, ew⟩ := law_wish_ok hns (k := 50) (by decide) (by decide)
  obtain ⟨d1, d2, d3⟩ := drawn_ok hns (k := 70) (m := 6) (by decide) (by decide) (by decide)
  obtain ⟨a, ha⟩ : ∃ a : Nat, drawnF ns 70 6 = a := ⟨(drawnF ns 70 6).toNat, by omega⟩
  rw [ha] at d1
  obtain ⟨e1, e2, e3⟩ := drawn_ok hns (k := 71) (m := 22) (by decide) (by decide) (by decide)
  generalize drawnF ns 71 22 = oi at *
  obtain ⟨odd, hodd, io⟩ := ix_in (l := odds) e2 (by show oi < 22; exact e3)
  obtain ⟨po, to⟩ := odds_pt odd hodd
  obtain ⟨f1, f2, f3⟩ := drawn_ok hns (k := 72) (m := 4) (by decide) (by decide) (by decide)
  generalize drawnF ns 72 4 = bi at *
  obtain ⟨bad, hbad, ib⟩ := ix_in (l := bads) f2 (by show bi < 4; exact f3)
  have nbad : g_is_name [bad] = .ok (.bl false) := by
    simp only [bads, List.mem_cons, List.not_mem_nil, or_false] at hbad
    rcases hbad with rfl | rfl | rfl | rfl
    · exact isNameG fun s hs => by injection hs with hs; subst hs; decide
    · exact isNameG fun s hs => by injection hs with hs; subst hs; decide
    · exact isNameG fun s hs => nomatch hs
    · exact isNameG fun s hs => nomatch hs
  have nb := needName_bad nbad
  have bo := needBook_ok hb
  have wo := needWish_ok hw
  have sl5 : dSl (wiD w) none (some 5) = .ok (.tup ((wpD w).take 5)) := by
    show R.ok (D.tup (cutL (wpD w) none (some ((5 : Nat) : Int)))) = _
    rw [cut_to]
  have w5 : g_is_wish [.tup ((wpD w).take 5)] = .ok (.bl false) := is_wishG (th_tup fun p hp => wp_pt hw p (List.mem_of_mem_take hp))
  have tA := told_ex (fits2 bo wo nb) r2
  have tB := told_ex (x := bad) (fits3 bo (needWish_bad w5)) r3
  have bl : g_need_book [.lst (b.map .str)] = .ex 0 := needBook_bad (isBookG (d := .lst (b.map D.str)) (fun xs h => nomatch h))
  have tC := told_ex (t := .tup ((wpD w).take 5)) (x := bad) (fits0 bl) r0
  have nA : dNe (refD 2) (refD 2) = .ok (.bl false) := dNe_self rfl
  have nB : dNe (refD 3) (refD 3) = .ok (.bl false) := dNe_self rfl
  have nC : dEq (refD 0) (refD 0) = .ok (.bl true) := dEq_self rfl
  have l2 : 2 ≤ lim := by decide
  have l4 : 4 ≤ lim := by decide
  have dl : dList [bkD b] = .ok (.lst (b.map .str)) := rfl
  have s0e : ∀ {s0 : Sl}, s0 = .va (Lk ns) → s0 = .va (Lk ns) := fun h => h
  unfold g_law_k30
  refine fn_rt ?_
  rw [m_law_k30_e]
  unfold q
  rw [show [D.lst (ns.map D.int)].map Sl.va ++ List.replicate (14 - [D.lst (ns.map D.int)].length) Sl.un = [.va (Lk ns), .un, .un, .un, .un, .un, .un, .un, .un, .un, .un, .un, .un, .un] from rfl]
  refine (seq_nx (γ' := [.va (Lk ns), .va (bkD b), .un, .un, .un, .un, .un, .un, .un, .un, .un, .un, .un, .un]) (set_e (by
    generalize Lk ns = L at *
    simp [bb1]))).trans ?_
  refine (seq_nx (γ' := [.va (Lk ns), .va (bkD b), .va (wiD w), .un, .un, .un, .un, .un, .un, .un, .un, .un, .un, .un]) (set_e (by
    generalize Lk ns = L at *
    generalize bkD b = B at *
    generalize wiD w = WD at *
    simp [ew]))).trans ?_
  refine (seq_nx (γ' := E30 (.va (Lk ns)) b w a .un .un .un .un .un .un .un .un .un .un) (set_e (by
    generalize Lk ns = L at *
    generalize bkD b = B at *
    generalize wiD w = WD at *
    simp [d1]))).trans ?_
  refine (seq_nx (γ' := E30 (.va (Lk ns)) b w a (.va (.lst (odds.take 18))) .un .un .un .un .un .un .un .un .un) rfl).trans ?_
  refine (seq_nx (γ' := E30 (.va (Lk ns)) b w a (.va (.lst odds)) .un .un .un .un .un .un .un .un .un) rfl).trans ?_
  refine (seq_nx (γ' := E30 (.va (Lk ns)) b w a (.va (.lst odds)) (.va odd) .un .un .un .un .un .un .un .un) (set_e (by
    have lo : dLen [.lst odds] = .ok (.int 22) := rfl
    have io : dIx (.lst odds) (.int oi) = .ok odd := io
    unfold E30
    generalize Lk ns = L at *
    generalize D.lst odds = OD at *
    generalize bkD b = B at *
    generalize wiD w = WD at *
    simp [lo, e1, io]))).trans ?_
  refine (seq_nx q7_ok).trans ?_
  refine (seq_nx (γ' := E30 (.va (Lk ns)) b w a (.va (.lst odds)) (.va odd) (.va (.lst (ths7 w a odd))) (.va many7) .un .un .un .un .un .un) rfl).trans ?_
  have l7 : (ths7 w a odd).length = 5 := rfl
  have h7 := ths7_th (a := a) hw po
  generalize ths7 w a odd = T7 at *
  refine (seq_nx (add6 (us := ths9) rfl (by show T7.length + 3 ≤ lim; rw [l7]; decide))).trans ?_
  refine (seq_nx (add6 (us := ths10) rfl (by rw [List.length_append, l7]; decide))).trans ?_
  refine (seq_nx (add6 (us := ths11) rfl (by rw [List.length_append, List.length_append, l7]; decide))).trans ?_
  refine (seq_nx (add6 (us := ths12) rfl (by rw [List.length_append, List.length_append, List.length_append, l7]; decide))).trans ?_
  have hT : ∀ t ∈ T7 ++ ths9 ++ ths10 ++ ths11 ++ ths12, Th t := fun t ht => by
    rw [List.append_assoc T7, List.append_assoc T7, List.append_assoc T7] at ht
    rcases List.mem_append.mp ht with z | z
    · exact h7 t z
    · exact ths_th t z
  have lT : (T7 ++ ths9 ++ ths10 ++ ths11 ++ ths12).length ≤ 100 := by
    rw [List.length_append, List.length_append, List.length_append, List.length_append, l7]; decide
  generalize T7 ++ ths9 ++ ths10 ++ ths11 ++ ths12 = TS at *
  obtain ⟨t8, t10, t11, t12, t13, k13⟩ := q13_ok (s0 := .va (Lk ns)) (s4 := .va (.lst odds)) (s7 := .va many7) (s8 := .un) (s9 := .un) (s10 := .un) (s11 := .un) (s12 := .un) (s13 := .un) (w := w) (a := a) hns rfl hb lT hT to
  refine (seq_nx k13).trans ?_
  refine (seq_nx (γ' := E30 (.va (Lk ns)) b w a (.va (.lst odds)) (.va odd) (.va (.lst TS)) (.va many7) t8 (.va bad) t10 t11 t12 t13) (set_e (by
    unfold bads at ib
    unfold E30
    generalize Lk ns = L at *
    generalize D.lst odds = OD at *
    generalize bkD b = B at *
    generalize wiD w = WD at *
    simp [f1, ib, l4]))).trans ?_
  have k15 : q15 (E30 (.va (Lk ns)) b w a (.va (.lst odds)) (.va odd) (.va (.lst TS)) (.va many7) t8 (.va bad) t10 t11 t12 t13) = .ok (.nx (E30 (.va (Lk ns)) b w a (.va (.lst odds)) (.va odd) (.va (.lst TS)) (.va many7) t8 (.va bad) t10 t11 t12 t13)) := by
    refine if_f ?_
    unfold E30
    generalize Lk ns = L at *
    generalize D.lst odds = OD at *
    generalize (wpD w).take 5 = W5 at *
    generalize bkD b = B at *
    generalize wiD w = WD at *
    generalize hA : refD 2 = RA at *
    generalize hB : refD 3 = RB at *
    have hA' : D.tup [.str [114, 101, 102, 117, 115, 101, 100], .int 2] = RA := hA
    have hB' : D.tup [.str [114, 101, 102, 117, 115, 101, 100], .int 3] = RB := hB
    simp [bSl, pNo, pSo, toI, sl5, tA, tB, l2, hA', hB', nA, nB]
  refine (seq_nx k15).trans ?_
  unfold q16
  refine ret_e ?_
  unfold E30
  generalize Lk ns = L at *
  generalize D.lst odds = OD at *
  generalize (wpD w).take 5 = W5 at *
  generalize D.lst (b.map .str) = BL at *
  generalize bkD b = B at *
  generalize wiD w = WD at *
  generalize hA : refD 0 = RA at *
  have hA' : D.tup [.str [114, 101, 102, 117, 115, 101, 100], .int 0] = RA := hA
  simp [bSl, pNo, pSo, toI, sl5, tC, l2, dl, hA', nC]
end
end KN
open PySem PySem.W PyProof.Rows
set_option maxHeartbeats 0 in
theorem PySem.Challenge.cw_kinnames_k30_wishes_holds : PySem.Challenge.rw_kinnames_k30_wishes.Holds := by
  w_on; o_law; k_head; (case hw => w_witness2)
  k_fill
  refine L2.walk_of (l := PySem.Challenge.rw_kinnames_k30_wishes) (n := 63) (k := 6) (x := "_law_script") (CX := fun w => L2.CX PySem.Challenge.rw_kinnames_k30_wishes.prog w) (sp := fun w => KN.spOk _ 1 KN.g_law_k30) rfl (by decide) rfl ⟨rfl, by decide, by decide⟩ (fun w h Y => PySem.W.kIn_of Y) ?F (fun _ _ a ns hl _ hS => KN.law_endX KN.law_true_k30 hl hS) (fun w H s e s' h => KN.cx_end h)
  case F =>
    intro w mg fa h KX G hmg
    refine' KN.all_mk KX G hmg ?a0 ?l0 ?c0 ?k0 ?a1 ?l1 ?c1 ?k1 ?a2 ?l2 ?c2 ?k2 ?a3 ?l3 ?c3 ?k3 ?a4 ?l4 ?c4 ?k4 ?a5 ?l5 ?c5 ?k5 ?a6 ?l6 ?c6 ?k6 ?a7 ?l7 ?c7 ?k7 ?a8 ?l8 ?c8 ?k8 ?a9 ?l9 ?c9 ?k9 ?a10 ?l10 ?c10 ?k10 ?a11 ?l11 ?c11 ?k11 ?a12 ?l12 ?c12 ?k12 ?a13 ?l13 ?c13 ?k13 ?a14 ?l14 ?c14 ?k14 ?a15 ?l15 ?c15 ?k15 ?a16 ?l16 ?c16 ?k16 ?a17 ?l17 ?c17 ?k17 ?a18 ?l18 ?c18 ?k18 ?a19 ?l19 ?c19 ?k19 ?a20 ?l20 ?c20 ?k20 ?z_ValueError ?z_all ?z_bool ?z_enumerate ?z_int ?z_isinstance ?z_len ?z_list ?z_max ?z_range ?z_set ?z_sorted ?z_str ?z_tuple ?z_zip ?g_LETTERS ?g_MOST_LETTERS ?g_MOST_NAMES ?g_MOST_BARRED ?g_MOST_ENDS ?EL ?E0 ?E1 ?E2 ?E3 ?E4 ?E5 ?E6 ?E7 ?ES
    case a0 => k_is
    case l0 => k_is
    case c0 => k_is
    case k0 => k_is
    case a1 => k_is
    case l1 => k_is
    case c1 => k_is
    case k1 => k_is
    case a2 => k_is
    case l2 => k_is
    case c2 => k_is
    case k2 => k_is
    case a3 => k_is
    case l3 => k_is
    case c3 => k_is
    case k3 => k_is
    case a4 => k_is
    case l4 => k_is
    case c4 => k_is
    case k4 => k_is
    case a5 => k_is
    case l5 => k_is
    case c5 => k_is
    case k5 => k_is
    case a6 => k_is
    case l6 => k_is
    case c6 => k_is
    case k6 => k_is
    case a7 => k_is
    case l7 => k_is
    case c7 => k_is
    case k7 => k_is
    case a8 => k_is
    case l8 => k_is
    case c8 => k_is
    case k8 => k_is
    case a9 => k_is
    case l9 => k_is
    case c9 => k_is
    case k9 => k_is
    case a10 => k_is
    case l10 => k_is
    case c10 => k_is
    case k10 => k_is
    case a11 => k_is
    case l11 => k_is
    case c11 => k_is
    case k11 => k_is
    case a12 => k_is
    case l12 => k_is
    case c12 => k_is
    case k12 => k_is
    case a13 => k_is
    case l13 => k_is
    case c13 => k_is
    case k13 => k_is
    case a14 => k_is
    case l14 => k_is
    case c14 => k_is
    case k14 => k_is
    case a15 => k_is
    case l15 => k_is
    case c15 => k_is
    case k15 => k_is
    case a16 => k_is
    case l16 => k_is
    case c16 => k_is
    case k16 => k_is
    case a17 => k_is
    case l17 => k_is
    case c17 => k_is
    case k17 => k_is
    case a18 => k_is
    case l18 => k_is
    case c18 => k_is
    case k18 => k_is
    case a19 => k_is
    case l19 => k_is
    case c19 => k_is
    case k19 => k_is
    case a20 => k_is
    case l20 => k_is
    case c20 => k_is
    case k20 => k_is
    case z_ValueError => k_is
    case z_all => k_is
    case z_bool => k_is
    case z_enumerate => k_is
    case z_int => k_is
    case z_isinstance => k_is
    case z_len => k_is
    case z_list => k_is
    case z_max => k_is
    case z_range => k_is
    case z_set => k_is
    case z_sorted => k_is
    case z_str => k_is
    case z_tuple => k_is
    case z_zip => k_is
    case g_LETTERS => k_is
    case g_MOST_LETTERS => k_is
    case g_MOST_NAMES => k_is
    case g_MOST_BARRED => k_is
    case g_MOST_ENDS => k_is
    case EL => (refine' KN.ErrL.mk ?nn ?bb ?tt ?dd; (case nn => k_is); (case bb => k_is); (case tt => k_is); (case dd => k_is))
    case E0 => (refine' KN.ErrOne.mk ?y0 ?y1 ?y2 ?y3 ?y4 ?y5 ?y6 ?y7 ?y8 ?y9 ?y10 ?y11 ?y12 ?y13; (case y0 => k_is); (case y1 => k_exc); (case y2 => k_is); (case y3 => k_is); (case y4 => k_is); (case y5 => k_is); (case y6 => k_is); (case y7 => k_is); (case y8 => k_is); (case y9 => k_is); (case y10 => k_is); (case y11 => k_is); (case y12 => k_is); (case y13 => k_is))
    case E1 => (refine' KN.ErrOne.mk ?y0 ?y1 ?y2 ?y3 ?y4 ?y5 ?y6 ?y7 ?y8 ?y9 ?y10 ?y11 ?y12 ?y13; (case y0 => k_is); (case y1 => k_exc); (case y2 => k_is); (case y3 => k_is); (case y4 => k_is); (case y5 => k_is); (case y6 => k_is); (case y7 => k_is); (case y8 => k_is); (case y9 => k_is); (case y10 => k_is); (case y11 => k_is); (case y12 => k_is); (case y13 => k_is))
    case E2 => (refine' KN.ErrOne.mk ?y0 ?y1 ?y2 ?y3 ?y4 ?y5 ?y6 ?y7 ?y8 ?y9 ?y10 ?y11 ?y12 ?y13; (case y0 => k_is); (case y1 => k_exc); (case y2 => k_is); (case y3 => k_is); (case y4 => k_is); (case y5 => k_is); (case y6 => k_is); (case y7 => k_is); (case y8 => k_is); (case y9 => k_is); (case y10 => k_is); (case y11 => k_is); (case y12 => k_is); (case y13 => k_is))
    case E3 => (refine' KN.ErrOne.mk ?y0 ?y1 ?y2 ?y3 ?y4 ?y5 ?y6 ?y7 ?y8 ?y9 ?y10 ?y11 ?y12 ?y13; (case y0 => k_is); (case y1 => k_exc); (case y2 => k_is); (case y3 => k_is); (case y4 => k_is); (case y5 => k_is); (case y6 => k_is); (case y7 => k_is); (case y8 => k_is); (case y9 => k_is); (case y10 => k_is); (case y11 => k_is); (case y12 => k_is); (case y13 => k_is))
    case E4 => (refine' KN.ErrOne.mk ?y0 ?y1 ?y2 ?y3 ?y4 ?y5 ?y6 ?y7 ?y8 ?y9 ?y10 ?y11 ?y12 ?y13; (case y0 => k_is); (case y1 => k_exc); (case y2 => k_is); (case y3 => k_is); (case y4 => k_is); (case y5 => k_is); (case y6 => k_is); (case y7 => k_is); (case y8 => k_is); (case y9 => k_is); (case y10 => k_is); (case y11 => k_is); (case y12 => k_is); (case y13 => k_is))
    case E5 => (refine' KN.ErrOne.mk ?y0 ?y1 ?y2 ?y3 ?y4 ?y5 ?y6 ?y7 ?y8 ?y9 ?y10 ?y11 ?y12 ?y13; (case y0 => k_is); (case y1 => k_exc); (case y2 => k_is); (case y3 => k_is); (case y4 => k_is); (case y5 => k_is); (case y6 => k_is); (case y7 => k_is); (case y8 => k_is); (case y9 => k_is); (case y10 => k_is); (case y11 => k_is); (case y12 => k_is); (case y13 => k_is))
    case E6 => (refine' KN.ErrOne.mk ?y0 ?y1 ?y2 ?y3 ?y4 ?y5 ?y6 ?y7 ?y8 ?y9 ?y10 ?y11 ?y12 ?y13; (case y0 => k_is); (case y1 => k_exc); (case y2 => k_is); (case y3 => k_is); (case y4 => k_is); (case y5 => k_is); (case y6 => k_is); (case y7 => k_is); (case y8 => k_is); (case y9 => k_is); (case y10 => k_is); (case y11 => k_is); (case y12 => k_is); (case y13 => k_is))
    case E7 => (refine' KN.ErrOne.mk ?y0 ?y1 ?y2 ?y3 ?y4 ?y5 ?y6 ?y7 ?y8 ?y9 ?y10 ?y11 ?y12 ?y13; (case y0 => k_is); (case y1 => k_exc); (case y2 => k_is); (case y3 => k_is); (case y4 => k_is); (case y5 => k_is); (case y6 => k_is); (case y7 => k_is); (case y8 => k_is); (case y9 => k_is); (case y10 => k_is); (case y11 => k_is); (case y12 => k_is); (case y13 => k_is))
    case ES => (refine' KN.ErrSub.mk ?y0 ?y1 ?y2 ?y3 ?y4 ?y5 ?y6 ?y7 ?y8 ?y9 ?y10 ?y11 ?y12 ?y13 ?y14 ?y15 ?y16 ?y17 ?y18 ?y19 ?y20 ?y21 ?y22 ?y23 ?y24 ?y25 ?y26 ?y27 ?y28 ?y29 ?y30 ?y31 ?y32 ?y33 ?y34 ?y35 ?y36 ?y37 ?y38 ?y39 ?y40 ?y41 ?y42 ?y43 ?y44 ?y45 ?y46 ?y47 ?y48 ?y49 ?y50 ?y51 ?y52 ?y53 ?y54 ?y55 ?y56 ?y57 ?y58 ?y59 ?y60 ?y61 ?y62 ?y63; (case y0 => k_is); (case y1 => k_is); (case y2 => k_is); (case y3 => k_is); (case y4 => k_is); (case y5 => k_is); (case y6 => k_is); (case y7 => k_is); (case y8 => k_is); (case y9 => k_is); (case y10 => k_is); (case y11 => k_is); (case y12 => k_is); (case y13 => k_is); (case y14 => k_is); (case y15 => k_is); (case y16 => k_is); (case y17 => k_is); (case y18 => k_is); (case y19 => k_is); (case y20 => k_is); (case y21 => k_is); (case y22 => k_is); (case y23 => k_is); (case y24 => k_is); (case y25 => k_is); (case y26 => k_is); (case y27 => k_is); (case y28 => k_is); (case y29 => k_is); (case y30 => k_is); (case y31 => k_is); (case y32 => k_is); (case y33 => k_is); (case y34 => k_is); (case y35 => k_is); (case y36 => k_is); (case y37 => k_is); (case y38 => k_is); (case y39 => k_is); (case y40 => k_is); (case y41 => k_is); (case y42 => k_is); (case y43 => k_is); (case y44 => k_is); (case y45 => k_is); (case y46 => k_is); (case y47 => k_is); (case y48 => k_is); (case y49 => k_is); (case y50 => k_is); (case y51 => k_is); (case y52 => k_is); (case y53 => k_is); (case y54 => k_is); (case y55 => k_is); (case y56 => k_is); (case y57 => k_is); (case y58 => k_is); (case y59 => k_is); (case y60 => k_is); (case y61 => k_is); (case y62 => k_is); (case y63 => k_is))
