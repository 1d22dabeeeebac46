import PyProof.Rows.All
import Wide.All
import OpenK.AllK
import Wide.FinOn
import HandS.ForMost
import HandS.Exc
import HandS.TryOnly
import HandS.ExcOwn
import HandS.WordsExc
import HandS.IsInst
import HandS.StrMore
import HandS.Flow
import HandS.Conv
import HandS.Wide
import HandS.WideBits
import HandS.TupMul
import HandS.TupAny
import HandS.Zip
import HandS.RevRange
import HandS.Defaults
import HandS.CallSlots
import HandS.Deep
import HandS.HeadHook1
import HandS.Rev
import HandS.SortInts
import HandS.SortRule
import KE.GoesMore
import HandS.Dict
import PyProof.P3Eq
import HandS.Head0
import HandS.Head1
import HandS.Head2
import HandS.HeadEnd
import HandS.HeadHook2
import PySem.Challenge.RW_curveyard_k23_stretches_closed
set_option Elab.async false
set_option linter.all false
set_option maxRecDepth 100000
set_option maxHeartbeats 2000000
set_option autoImplicit false
/-! Data of the mirror and how it lies in the abstract heap. -/
namespace Cy
open PySem L2

inductive D where
  | non
  | bl (b : Bool)
  | int (i : Int)
  | str (x : Str)
  | tup (ds : List D)
  | scr (ns : List Int)
  | ref (n : Nat)
inductive Ob where
  | lst (ds : List D)
  | dct (kvs : List (D × D))
  | ins (c : Nat) (ds : List D)
abbrev Sto := List Ob
abbrev Env := List (Option D)

mutual
def D.und (n : Nat) : D → Bool
  | .tup ds => D.unds n ds
  | .ref m => decide (m < n)
  | _ => true
def D.unds (n : Nat) : List D → Bool
  | [] => true
  | d :: r => D.und n d && D.unds n r
end
def Ob.und (n : Nat) : Ob → Bool
  | .lst ds => D.unds n ds
  | .dct kvs => D.unds n (kvs.map (·.2))
  | .ins _ ds => D.unds n ds

/-- a class table: the class's address, its fields' names in order -/
structure Cfg where
  K : PySem.W.Frag
  cA : Nat → Addr
  fN : Nat → List Str

mutual
inductive Rep (G : Cfg) (r : List Addr) (H : Hp) : V → D → Prop
  | non : Rep G r H .non .non
  | bl (b : Bool) : Rep G r H (.bl b) (.bl b)
  | int (i : Int) : Rep G r H (.int i) (.int i)
  | str (x : Str) : Rep G r H (.str x) (.str x)
  | tup {a : Addr} {vs : List V} {ds : List D} (h : Rd H a (.tup vs)) (na : a ∉ r) (q : Reps G r H vs ds) : Rep G r H (.ref a) (.tup ds)
  | scr {a : Addr} {ns : List Int} (h : ((∃ o, H a = some (.frz o (.lst (ns.map V.int)))) ∧ a ∉ r) ∨ ∀ H', SqL G.K H' a (ns.map V.int)) : Rep G r H (.ref a) (.scr ns)
  | ref {a : Addr} {n : Nat} (h : r[n]? = some a) : Rep G r H (.ref a) (.ref n)
inductive Reps (G : Cfg) (r : List Addr) (H : Hp) : List V → List D → Prop
  | nil : Reps G r H [] []
  | cons {v : V} {d : D} {vs : List V} {ds : List D} (h : Rep G r H v d) (t : Reps G r H vs ds) : Reps G r H (v :: vs) (d :: ds)
end

/-- later: more is tracked, what is not the store's own stands as it was -/
structure Ext (r : List Addr) (H : Hp) (r' : List Addr) (H' : Hp) : Prop where
  pre : ∃ l, r' = r ++ l
  keep : ∀ a o, H a = some o → a ∉ r → H' a = some o ∧ a ∉ r'
  there : ∀ a o, H a = some o → ∃ o', H' a = some o'
theorem Ext.refl (r : List Addr) (H : Hp) : Ext r H r H := ⟨⟨[], by simp⟩, fun _ _ h n => ⟨h, n⟩, fun _ o h => ⟨o, h⟩⟩
theorem Ext.trans {r r1 r2 : List Addr} {H H1 H2 : Hp} (a : Ext r H r1 H1) (b : Ext r1 H1 r2 H2) : Ext r H r2 H2 := by
  obtain ⟨l, hl⟩ := a.pre
  obtain ⟨m, hm⟩ := b.pre
  refine ⟨⟨l ++ m, by rw [hm, hl, List.append_assoc]⟩, fun p o h n => ?_, fun p o h => ?_⟩
  · obtain ⟨h1, n1⟩ := a.keep p o h n
    exact b.keep p o h1 n1
  · obtain ⟨o1, h1⟩ := a.there p o h
    exact b.there p o1 h1
theorem Ext.back {r r1 : List Addr} {H H1 : Hp} (a : Ext r H r1 H1) {p : Addr} (h : H1 p = none) : H p = none := by
  cases e : H p with
  | none => rfl
  | some o =>
    obtain ⟨o', e'⟩ := a.there p o e
    rw [h] at e'
    cases e'
theorem Ext.at_ {r r1 : List Addr} {H H1 : Hp} (a : Ext r H r1 H1) {n : Nat} {p : Addr} (h : r[n]? = some p) : r1[n]? = some p := by
  obtain ⟨l, hl⟩ := a.pre
  rw [hl, List.getElem?_append_left (List.getElem?_eq_some_iff.mp h).1]
  exact h
/-- only new objects -/
theorem Ext.new {r : List Addr} {H : Hp} {p : Addr} {o : HO} (h : H p = none) : Ext r H r (upd H p o) := by
  refine ⟨⟨[], by simp⟩, fun a u e n => ⟨?_, n⟩, fun a u e => ⟨u, ?_⟩⟩
  · rw [upd_ne (ne_of_none e h)]; exact e
  · rw [upd_ne (ne_of_none e h)]; exact e
/-- an object of the store is written -/
theorem Ext.wr {r : List Addr} {H : Hp} {p : Addr} {o : HO} (h : p ∈ r) : Ext r H r (upd H p o) := by
  refine ⟨⟨[], by simp⟩, fun a u e n => ⟨?_, n⟩, fun a u e => ?_⟩
  · rw [upd_ne (fun z => n (by rw [z]; exact h))]; exact e
  · by_cases z : a = p
    · rw [z]; exact ⟨o, upd_same⟩
    · rw [upd_ne z]; exact ⟨u, e⟩
/-- a new object becomes the store's own -/
theorem Ext.own {r r1 : List Addr} {H H1 : Hp} {p : Addr} (a : Ext r H r1 H1) (h : H p = none) : Ext r H (r1 ++ [p]) H1 := by
  obtain ⟨l, hl⟩ := a.pre
  refine ⟨⟨l ++ [p], by rw [hl, List.append_assoc]⟩, fun b u e n => ?_, a.there⟩
  obtain ⟨h1, n1⟩ := a.keep b u e n
  refine ⟨h1, fun z => ?_⟩
  rcases List.mem_append.mp z with z | z
  · exact n1 z
  · have : b = p := by simpa using z
    rw [this, h] at e
    cases e

theorem Rd.ext {r r1 : List Addr} {H H1 : Hp} {a : Addr} {u : HO} (e : Ext r H r1 H1) (h : Rd H a u) (n : a ∉ r) : Rd H1 a u ∧ a ∉ r1 := by
  rcases h with h | ⟨o, h⟩
  · exact ⟨.inl (e.keep a _ h n).1, (e.keep a _ h n).2⟩
  · exact ⟨.inr ⟨o, (e.keep a _ h n).1⟩, (e.keep a _ h n).2⟩
section
variable {G : Cfg} {r r1 : List Addr} {H H1 : Hp}
mutual
theorem Rep.ext (e : Ext r H r1 H1) : ∀ {v : V} {d : D}, Rep G r H v d → Rep G r1 H1 v d
  | _, _, .non => .non
  | _, _, .bl b => .bl b
  | _, _, .int i => .int i
  | _, _, .str x => .str x
  | _, _, .tup h na q => .tup (Rd.ext e h na).1 (Rd.ext e h na).2 (Reps.ext e q)
  | _, _, .scr h => .scr (h.elim (fun ⟨⟨o, z⟩, n⟩ => .inl ⟨⟨o, (e.keep _ _ z n).1⟩, (e.keep _ _ z n).2⟩) .inr)
  | _, _, .ref h => .ref (e.at_ h)
theorem Reps.ext (e : Ext r H r1 H1) : ∀ {vs : List V} {ds : List D}, Reps G r H vs ds → Reps G r1 H1 vs ds
  | _, _, .nil => .nil
  | _, _, .cons h t => .cons (Rep.ext e h) (Reps.ext e t)
end
mutual
/-- an object that is no tuple and not frozen becomes the store's own -/
theorem Rep.grow {p : Addr} {o : HO} (hp : H p = some o) (mu : Mut (some o)) : ∀ {v : V} {d : D}, Rep G r H v d → Rep G (r ++ [p]) H v d
  | _, _, .non => .non
  | _, _, .bl b => .bl b
  | _, _, .int i => .int i
  | _, _, .str x => .str x
  | _, _, .tup (a := a) h na q => .tup h (fun z => by
      rcases List.mem_append.mp z with z | z
      · exact na z
      · have e : a = p := by simpa using z
        subst e
        rcases h with h | ⟨u, h⟩
        · rw [hp] at h; cases h; exact mu
        · rw [hp] at h; cases h; exact mu) (Reps.grow hp mu q)
  | _, _, .scr (a := a) h => .scr (h.elim (fun ⟨h, na⟩ => by
      by_cases e : a = p
      · subst e
        obtain ⟨u, h⟩ := h
        rw [hp] at h; cases h; exact mu.elim
      · exact .inl ⟨h, fun z => (List.mem_append.mp z).elim na fun z => e (by simpa using z)⟩) .inr)
  | _, _, .ref h => .ref (by rw [List.getElem?_append_left (List.getElem?_eq_some_iff.mp h).1]; exact h)
theorem Reps.grow {p : Addr} {o : HO} (hp : H p = some o) (mu : Mut (some o)) : ∀ {vs : List V} {ds : List D}, Reps G r H vs ds → Reps G (r ++ [p]) H vs ds
  | _, _, .nil => .nil
  | _, _, .cons h t => .cons (Rep.grow hp mu h) (Reps.grow hp mu t)
end
theorem eq_of_pre {r l : List Addr} {n : Nat} {a : Addr} (h : (r ++ l)[n]? = some a) (hn : n < r.length) : r[n]? = some a := by
  rw [List.getElem?_append_left hn] at h
  exact h
mutual
/-- what speaks of the old part of the store alone -/
theorem Rep.cut {l : List Addr} : ∀ {v : V} {d : D}, Rep G (r ++ l) H v d → d.und r.length = true → Rep G r H v d
  | _, _, .non, _ => .non
  | _, _, .bl b, _ => .bl b
  | _, _, .int i, _ => .int i
  | _, _, .str x, _ => .str x
  | _, _, .tup h na q, u => .tup h (fun z => na (List.mem_append_left _ z)) (Reps.cut q (by simpa [D.und] using u))
  | _, _, .scr h, _ => .scr (h.elim (fun ⟨h, na⟩ => .inl ⟨h, fun z => na (List.mem_append_left _ z)⟩) .inr)
  | _, _, .ref h, u => .ref (eq_of_pre h (by simpa [D.und] using u))
theorem Reps.cut {l : List Addr} : ∀ {vs : List V} {ds : List D}, Reps G (r ++ l) H vs ds → D.unds r.length ds = true → Reps G r H vs ds
  | _, _, .nil, _ => .nil
  | _, _, .cons h t, u => by
    have u' := Bool.and_eq_true_iff.mp (by simpa only [D.unds] using u)
    exact .cons (Rep.cut h u'.1) (Reps.cut t u'.2)
end
mutual
theorem Rep.und : ∀ {v : V} {d : D}, Rep G r H v d → d.und r.length = true
  | _, _, .non => rfl
  | _, _, .bl b => rfl
  | _, _, .int i => rfl
  | _, _, .str x => rfl
  | _, _, .tup h na q => by simpa only [D.und] using Reps.und q
  | _, _, .scr h => rfl
  | _, _, .ref h => by simpa only [D.und, decide_eq_true_eq] using (List.getElem?_eq_some_iff.mp h).1
theorem Reps.und : ∀ {vs : List V} {ds : List D}, Reps G r H vs ds → D.unds r.length ds = true
  | _, _, .nil => rfl
  | _, _, .cons h t => by simp only [D.unds, Rep.und h, Reps.und t, Bool.and_self]
end
theorem Reps.length : ∀ {vs : List V} {ds : List D}, Reps G r H vs ds → vs.length = ds.length
  | _, _, .nil => rfl
  | _, _, .cons _ t => by rw [List.length_cons, List.length_cons, Reps.length t]
theorem Reps.get : ∀ {vs : List V} {ds : List D}, Reps G r H vs ds → ∀ {i : Nat} {d : D}, ds[i]? = some d → ∃ v, vs[i]? = some v ∧ Rep G r H v d
  | _, _, .nil, i, d, h => by simp at h
  | _, _, .cons h t, 0, d, e => by simp at e; subst e; exact ⟨_, rfl, h⟩
  | _, _, .cons h t, i + 1, d, e => by
    obtain ⟨v, e1, e2⟩ := Reps.get t (i := i) (d := d) (by simpa using e)
    exact ⟨v, by simpa using e1, e2⟩
theorem Reps.get' : ∀ {vs : List V} {ds : List D}, Reps G r H vs ds → ∀ {i : Nat} {v : V}, vs[i]? = some v → ∃ d, ds[i]? = some d ∧ Rep G r H v d
  | _, _, .nil, i, d, h => by simp at h
  | _, _, .cons h t, 0, d, e => by simp at e; subst e; exact ⟨_, rfl, h⟩
  | _, _, .cons h t, i + 1, d, e => by
    obtain ⟨v, e1, e2⟩ := Reps.get' t (i := i) (v := d) (by simpa using e)
    exact ⟨v, by simpa using e1, e2⟩
theorem Reps.append {vs ws : List V} {ds es : List D} (a : Reps G r H vs ds) (b : Reps G r H ws es) : Reps G r H (vs ++ ws) (ds ++ es) := by
  induction vs generalizing ds with
  | nil => cases a; exact b
  | cons v vs ih => cases a with | cons h t => exact .cons h (ih t)
theorem Reps.take {vs : List V} {ds : List D} (n : Nat) (a : Reps G r H vs ds) : Reps G r H (vs.take n) (ds.take n) := by
  induction vs generalizing ds n with
  | nil => cases a; simp; exact .nil
  | cons v vs ih =>
    cases a with
    | cons h t =>
      cases n with
      | zero => exact .nil
      | succ n => exact .cons h (ih n t)
theorem Reps.drop {vs : List V} {ds : List D} (n : Nat) (a : Reps G r H vs ds) : Reps G r H (vs.drop n) (ds.drop n) := by
  induction vs generalizing ds n with
  | nil => cases a; simp; exact .nil
  | cons v vs ih =>
    cases a with
    | cons h t =>
      cases n with
      | zero => exact .cons h t
      | succ n => exact ih n t
theorem Reps.set {vs : List V} {ds : List D} {v : V} {d : D} (n : Nat) (a : Reps G r H vs ds) (b : Rep G r H v d) : Reps G r H (vs.set n v) (ds.set n d) := by
  induction vs generalizing ds n with
  | nil => cases a; exact .nil
  | cons w vs ih =>
    cases a with
    | cons h t =>
      cases n with
      | zero => exact .cons b t
      | succ n => exact .cons h (ih n t)
theorem Reps.eraseIdx {vs : List V} {ds : List D} (n : Nat) (a : Reps G r H vs ds) : Reps G r H (vs.eraseIdx n) (ds.eraseIdx n) := by
  induction vs generalizing ds n with
  | nil => cases a; exact .nil
  | cons w vs ih =>
    cases a with
    | cons h t =>
      cases n with
      | zero => exact t
      | succ n => exact .cons h (ih n t)
theorem Reps.reverse {vs : List V} {ds : List D} (a : Reps G r H vs ds) : Reps G r H vs.reverse ds.reverse := by
  induction vs generalizing ds with
  | nil => cases a; exact .nil
  | cons w vs ih =>
    cases a with
    | cons h t =>
      rw [List.reverse_cons, List.reverse_cons]
      exact (ih t).append (.cons h .nil)
theorem Reps.ints (ns : List Int) : Reps G r H (ns.map V.int) (ns.map D.int) := by
  induction ns with
  | nil => exact .nil
  | cons n ns ih => exact .cons (.int n) ih

/-! ### the store's objects -/
def keyD : Key → D
  | .inl i => .int i
  | .inr x => .str x
def keysD (ks : List Key) : D := .tup (ks.map keyD)
def ObAt (G : Cfg) (r : List Addr) (H : Hp) (a : Addr) : Ob → Prop
  | .lst ds => ∃ vs, H a = some (.lst vs) ∧ Reps G r H vs ds
  | .dct kvs => ∃ ws : List (Key × V), H a = some (.dK ws) ∧ kvs.map (·.1) = ws.map (fun w => keyD w.1) ∧ Reps G r H (ws.map (·.2)) (kvs.map (·.2)) ∧ (ws.map (·.1)).Nodup
  | .ins c ds => ∃ dx fs, H a = some (.ins (G.cA c) dx fs) ∧ fs.map (·.1) = (G.fN c).take ds.length ∧ Reps G r H (fs.map (·.2)) ds
theorem ObAt.mut {a : Addr} {o : Ob} (h : ObAt G r H a o) : ∃ u, H a = some u ∧ Mut (some u) := by
  cases o with
  | lst ds => obtain ⟨vs, h, _⟩ := h; exact ⟨_, h, trivial⟩
  | dct kvs =>
    obtain ⟨ws, h, _⟩ := h
    exact ⟨_, h, trivial⟩
  | ins c ds => obtain ⟨dx, fs, h, _⟩ := h; exact ⟨_, h, trivial⟩
/-- the object itself stands -/
theorem ObAt.ext {a : Addr} {o : Ob} (e : Ext r H r1 H1) (k : H1 a = H a) (h : ObAt G r H a o) : ObAt G r1 H1 a o := by
  cases o with
  | lst ds => obtain ⟨vs, h, q⟩ := h; exact ⟨vs, k.trans h, q.ext e⟩
  | dct kvs =>
    obtain ⟨ws, h, q, p, n⟩ := h
    exact ⟨ws, k.trans h, q, p.ext e, n⟩
  | ins c ds => obtain ⟨dx, fs, h, q, p⟩ := h; exact ⟨dx, fs, k.trans h, q, p.ext e⟩
theorem ObAt.grow {a p : Addr} {o : Ob} {u : HO} (hp : H p = some u) (mu : Mut (some u)) (h : ObAt G r H a o) : ObAt G (r ++ [p]) H a o := by
  cases o with
  | lst ds => obtain ⟨vs, h, q⟩ := h; exact ⟨vs, h, q.grow hp mu⟩
  | dct kvs =>
    obtain ⟨ws, h, q, p, n⟩ := h
    exact ⟨ws, h, q, p.grow hp mu, n⟩
  | ins c ds => obtain ⟨dx, fs, h, q, p⟩ := h; exact ⟨dx, fs, h, q, p.grow hp mu⟩
theorem ObAt.cut {a : Addr} {l : List Addr} {o : Ob} (h : ObAt G (r ++ l) H a o) (u : o.und r.length = true) : ObAt G r H a o := by
  cases o with
  | lst ds => obtain ⟨vs, h, q⟩ := h; exact ⟨vs, h, q.cut u⟩
  | dct kvs =>
    obtain ⟨ws, h, q, p, n⟩ := h
    exact ⟨ws, h, q, p.cut u, n⟩
  | ins c ds => obtain ⟨dx, fs, h, q, p⟩ := h; exact ⟨dx, fs, h, q, p.cut u⟩
theorem ObAt.und {a : Addr} {o : Ob} (h : ObAt G r H a o) : o.und r.length = true := by
  cases o with
  | lst ds => obtain ⟨vs, h, q⟩ := h; exact q.und
  | dct kvs =>
    obtain ⟨ws, h, q, p, n⟩ := h
    exact p.und
  | ins c ds => obtain ⟨dx, fs, h, q, p⟩ := h; exact p.und
structure Sim (G : Cfg) (r : List Addr) (H : Hp) (S : Sto) : Prop where
  len : r.length = S.length
  nd : r.Nodup
  at_ : ∀ (n : Nat) (a : Addr) (o : Ob), r[n]? = some a → S[n]? = some o → ObAt G r H a o
variable {S : Sto}
/-- a place of the store, its object -/
theorem Sim.get (s : Sim G r H S) {v : V} {n : Nat} {o : Ob} (h : Rep G r H v (.ref n)) (e : S[n]? = some o) : ∃ a, v = .ref a ∧ r[n]? = some a ∧ ObAt G r H a o := by
  cases h with
  | ref h => exact ⟨_, rfl, h, s.at_ n _ o h e⟩
theorem Sim.und (s : Sim G r H S) : ∀ o ∈ S, o.und S.length = true := fun o ho => by
  obtain ⟨n, hn⟩ := List.mem_iff_getElem?.mp ho
  have hl : n < r.length := by rw [s.len]; exact (List.getElem?_eq_some_iff.mp hn).1
  have := (s.at_ n r[n] o (List.getElem?_eq_getElem hl) hn).und
  rw [s.len] at this
  exact this
/-- new objects were laid, nothing else changed -/
theorem Sim.stays (s : Sim G r H S) (e : ∀ a o, H a = some o → H1 a = some o) (x : Ext r H r H1) : Sim G r H1 S := by
  refine ⟨s.len, s.nd, fun n a o h1 h2 => ?_⟩
  have h := s.at_ n a o h1 h2
  obtain ⟨u, hu, _⟩ := h.mut
  exact h.ext x ((e a u hu).trans hu.symm)
/-- an object of the store is written -/
theorem Sim.wr (s : Sim G r H S) {n : Nat} {a : Addr} {u : HO} {o : Ob} (ha : r[n]? = some a) (h : ObAt G r (upd H a u) a o) : Sim G r (upd H a u) (S.set n o) := by
  have hm : a ∈ r := List.mem_of_getElem? ha
  refine ⟨by rw [List.length_set]; exact s.len, s.nd, fun m b p h1 h2 => ?_⟩
  by_cases e : m = n
  · subst e
    rw [ha] at h1
    cases h1
    rw [List.getElem?_set_self (by rw [← s.len]; exact (List.getElem?_eq_some_iff.mp ha).1)] at h2
    cases h2
    exact h
  · rw [List.getElem?_set_ne (fun z => e z.symm)] at h2
    have hb : b ≠ a := fun z => by
      subst z
      exact e (nodup_at s.nd h1 ha)
    exact (s.at_ m b p h1 h2).ext (Ext.wr hm) (upd_ne hb)
where
  nodup_at {l : List Addr} (h : l.Nodup) {i j : Nat} {x : Addr} (a : l[i]? = some x) (b : l[j]? = some x) : i = j := by
    obtain ⟨h1, e1⟩ := List.getElem?_eq_some_iff.mp a
    obtain ⟨h2, e2⟩ := List.getElem?_eq_some_iff.mp b
    exact (List.getElem_inj h).mp (e1.trans e2.symm)
/-- a fresh object becomes the store's own -/
theorem Sim.own (s : Sim G r H S) {a : Addr} {o : Ob} (na : a ∉ r) (h : ObAt G r H a o) : Sim G (r ++ [a]) H (S ++ [o]) := by
  obtain ⟨u, hu, mu⟩ := h.mut
  refine ⟨by rw [List.length_append, List.length_append, s.len] <;> rfl, ?_, fun n b p h1 h2 => ?_⟩
  · rw [List.nodup_append]
    refine ⟨s.nd, by simp, fun x hx y hy => ?_⟩
    have e : y = a := by simpa using hy
    rw [e]
    exact fun z => na (by rw [← z]; exact hx)
  · by_cases hn : n < r.length
    · rw [List.getElem?_append_left hn] at h1
      rw [List.getElem?_append_left (by rw [← s.len]; exact hn)] at h2
      exact (s.at_ n b p h1 h2).grow hu mu
    · have hn' : n = r.length := by
        have := (List.getElem?_eq_some_iff.mp h1).1
        rw [List.length_append, List.length_singleton] at this
        omega
      subst hn'
      simp at h1
      rw [s.len] at h2
      simp at h2
      subst h1 h2
      exact h.grow hu mu
end
end Cy

set_option Elab.async false
set_option linter.all false
set_option maxRecDepth 100000
set_option maxHeartbeats 2000000
set_option autoImplicit false
/-! Readings by the mirror: an expression, a statement, a def says what it does to plain data and to a store of objects. -/
namespace Cy
open PySem L2

inductive Rv where
  | va (d : D)
  | fr (o : Ob)
inductive Rs (α : Type) where
  | ok (a : α) (S : Sto)
  | err (c : Nat) (ds : List D) (S : Sto)
  | bad
def Rs.bind {α β : Type} (m : Rs α) (k : α → Sto → Rs β) : Rs β :=
  match m with
  | .ok a S => k a S
  | .err c ds S => .err c ds S
  | .bad => .bad
@[simp] theorem Rs.bind_ok {α β : Type} (a : α) (S : Sto) (k : α → Sto → Rs β) : (Rs.ok a S).bind k = k a S := rfl
@[simp] theorem Rs.bind_err {α β : Type} (c : Nat) (ds : List D) (S : Sto) (k : α → Sto → Rs β) : (Rs.err c ds S : Rs α).bind k = .err c ds S := rfl
@[simp] theorem Rs.bind_bad {α β : Type} (k : α → Sto → Rs β) : (Rs.bad : Rs α).bind k = .bad := rfl

theorem Rs.bind_assoc {α β γ : Type} (m : Rs α) (k : α → Sto → Rs β) (l : β → Sto → Rs γ) : (m.bind k).bind l = m.bind fun a S => (k a S).bind l := by
  cases m <;> rfl

abbrev EX := Env → Sto → Rs Rv
abbrev BX := Env → Sto → Rs Bool
inductive Fl where
  | nx (env : Env)
  | ret (x : Rv)
  | brk (env : Env)
  | ct (env : Env)
abbrev SX := Env → Sto → Rs Fl
abbrev FI := List D → Sto → Rs Rv

/-- a result: a datum, or a fresh object that nobody else knows -/
def RepR (G : Cfg) (r : List Addr) (H0 H : Hp) (v : V) : Rv → Prop
  | .va d => Rep G r H v d
  | .fr o => ∃ a, v = .ref a ∧ H0 a = none ∧ a ∉ r ∧ ObAt G r H a o
inductive RepRs (G : Cfg) (r : List Addr) (H0 H : Hp) : List V → List Rv → Prop
  | nil : RepRs G r H0 H [] []
  | cons {v : V} {x : Rv} {vs : List V} {xs : List Rv} (h : RepR G r H0 H v x) (t : RepRs G r H0 H vs xs) : RepRs G r H0 H (v :: vs) (x :: xs)
section
variable {G : Cfg} {r r1 : List Addr} {H0 H H1 : Hp}
theorem RepR.ext {v : V} {x : Rv} (e : Ext r H r1 H1) (h : RepR G r H0 H v x) : RepR G r1 H0 H1 v x := by
  cases x with
  | va d => exact Rep.ext e h
  | fr o =>
    obtain ⟨a, h1, h2, h3, h4⟩ := h
    obtain ⟨u, hu, _⟩ := h4.mut
    obtain ⟨k1, k2⟩ := e.keep a u hu h3
    exact ⟨a, h1, h2, k2, h4.ext e (k1.trans hu.symm)⟩
theorem RepR.from {v : V} {x : Rv} {H00 : Hp} (b : ∀ p, H0 p = none → H00 p = none) (h : RepR G r H0 H v x) : RepR G r H00 H v x := by
  cases x with
  | va d => exact h
  | fr o =>
    obtain ⟨a, h1, h2, h3, h4⟩ := h
    exact ⟨a, h1, b a h2, h3, h4⟩
theorem RepRs.ext {vs : List V} {xs : List Rv} (e : Ext r H r1 H1) (h : RepRs G r H0 H vs xs) : RepRs G r1 H0 H1 vs xs := by
  induction h with
  | nil => exact .nil
  | cons h t ih => exact .cons (h.ext e) ih
theorem RepRs.from {vs : List V} {xs : List Rv} {H00 : Hp} (b : ∀ p, H0 p = none → H00 p = none) (h : RepRs G r H0 H vs xs) : RepRs G r H00 H vs xs := by
  induction h with
  | nil => exact .nil
  | cons h t ih => exact .cons (h.from b) ih
end
/-- the slots -/
structure EnvR (G : Cfg) (r : List Addr) (H : Hp) (σ : L2.St) (env : Env) : Prop where
  len : σ.length = env.length
  at_ : ∀ (i : Nat) (d : D), env[i]? = some (some d) → ∃ v, σ[i]? = some (some v) ∧ Rep G r H v d
section
variable {G : Cfg} {r r1 : List Addr} {H H1 : Hp} {σ : L2.St} {env : Env}
theorem EnvR.ext (e : Ext r H r1 H1) (h : EnvR G r H σ env) : EnvR G r1 H1 σ env := ⟨h.len, fun i d q => let ⟨v, a, b⟩ := h.at_ i d q; ⟨v, a, b.ext e⟩⟩
theorem EnvR.set {i : Nat} {v : V} {d : D} (h : EnvR G r H σ env) (q : Rep G r H v d) : EnvR G r H (σ.set i (some v)) (env.set i (some d)) := by
  refine ⟨by rw [List.length_set, List.length_set]; exact h.len, fun j x e => ?_⟩
  by_cases hj : j = i
  · subst hj
    by_cases hl : j < env.length
    · rw [List.getElem?_set_self hl] at e
      cases e
      exact ⟨v, List.getElem?_set_self (by rw [h.len]; exact hl), q⟩
    · rw [List.getElem?_eq_none (by rw [List.length_set]; omega)] at e
      cases e
  · rw [List.getElem?_set_ne (fun z => hj z.symm)] at e
    obtain ⟨w, a, b⟩ := h.at_ j x e
    exact ⟨w, by rw [List.getElem?_set_ne (fun z => hj z.symm)]; exact a, b⟩
/-- slots forgotten -/
def kill : List Nat → Env → Env
  | [], env => env
  | i :: is, env => (kill is env).set i none
theorem EnvR.forget {i : Nat} (h : EnvR G r H σ env) : EnvR G r H σ (env.set i none) := by
  refine ⟨by rw [List.length_set]; exact h.len, fun j x e => ?_⟩
  by_cases hj : j = i
  · subst hj
    by_cases hl : j < env.length
    · rw [List.getElem?_set_self hl] at e
      cases e
    · rw [List.getElem?_eq_none (by rw [List.length_set]; omega)] at e
      cases e
  · rw [List.getElem?_set_ne (fun z => hj z.symm)] at e
    exact h.at_ j x e
theorem EnvR.kill (h : EnvR G r H σ env) : ∀ is : List Nat, EnvR G r H σ (kill is env)
  | [] => h
  | i :: is => (EnvR.kill h is).forget
theorem kill_wipe (h : EnvR G r H σ env) : ∀ is : List Nat, EnvR G r H (wipe σ is) (Cy.kill is env)
  | [] => h
  | i :: is => by
    have q := kill_wipe h is
    refine ⟨by unfold wipe Cy.kill; rw [List.length_set, List.length_set]; exact q.len, fun j x e => ?_⟩
    unfold Cy.kill at e
    unfold wipe
    by_cases hj : j = i
    · subst hj
      by_cases hl : j < (Cy.kill is env).length
      · rw [List.getElem?_set_self hl] at e
        cases e
      · rw [List.getElem?_eq_none (by rw [List.length_set]; omega)] at e
        cases e
    · rw [List.getElem?_set_ne (fun z => hj z.symm)] at e
      obtain ⟨v, a, b⟩ := q.at_ j x e
      exact ⟨v, by rw [List.getElem?_set_ne (fun z => hj z.symm)]; exact a, b⟩
end
/-- an exception as it flies -/
def ErrAt (G : Cfg) (r : List Addr) (H : Hp) (c : Nat) (ds : List D) (cls : Value) (oe : Option Addr) : Prop :=
  cls = .ref (G.cA c) ∧ ((oe = none ∧ ds = []) ∨ ∃ d fs, oe = some d ∧ H d = some (.xd fs) ∧ d ∉ r ∧ fs.map (·.1) = (G.fN c).take ds.length ∧ Reps G r H (fs.map (·.2)) ds)
/-- what is to be shown of all ends -/
def Post {α β : Type} (G : Cfg) (W : WX) (σ : L2.St) (r : List Addr) (H : Hp) (R : List Addr → Hp → β → α → Prop) (Q : β → Hp → Prop) : Rs α → Prop
  | .ok x S' => ∀ v r' H', Ext r H r' H' → Sim G r' H' S' → R r' H' v x → Q v H'
  | .err c ds S' => ∀ cls oe r' H', Ext r H r' H' → Sim G r' H' S' → ErrAt G r' H' c ds cls oe → W cls oe σ H'
  | .bad => False
abbrev RV (G : Cfg) (H : Hp) : List Addr → Hp → V → Rv → Prop := fun r' H' v x => RepR G r' H H' v x
abbrev RVs (G : Cfg) (H : Hp) : List Addr → Hp → List V → List Rv → Prop := fun r' H' v x => RepRs G r' H H' v x
abbrev RB : List Addr → Hp → Bool → Bool → Prop := fun _ _ b c => b = c
def TI (G : Cfg) (W : WX) (m : EX) : TE := fun σ H Q => ∃ r S env, EnvR G r H σ env ∧ Sim G r H S ∧ Post G W σ r H (RV G H) Q (m env S)
def TTI (G : Cfg) (W : WX) (m : BX) : TT := fun σ H Q => ∃ r S env, EnvR G r H σ env ∧ Sim G r H S ∧ Post G W σ r H RB Q (m env S)
def TAI (G : Cfg) (W : WX) (m : Env → Sto → Rs (List Rv)) : TA := fun σ H Q => ∃ r S env, EnvR G r H σ env ∧ Sim G r H S ∧ Post G W σ r H (RVs G H) Q (m env S)

section
variable {G : Cfg} {W : WX} {σ : L2.St} {r r1 : List Addr} {H H1 : Hp} {α β γ δ : Type}
theorem Post.shift {R R' : List Addr → Hp → β → α → Prop} {Q : β → Hp → Prop} {m : Rs α} (h : Post G W σ r H R Q m) (e : Ext r H r1 H1) (k : ∀ r' H' v x, R' r' H' v x → R r' H' v x) : Post G W σ r1 H1 R' Q m := by
  cases m with
  | ok x S => exact fun v r' H' x1 s q => h v r' H' (e.trans x1) s (k _ _ _ _ q)
  | err c ds S => exact fun cls oe r' H' x1 s q => h cls oe r' H' (e.trans x1) s q
  | bad => exact h
theorem Post.bind {R1 : List Addr → Hp → β → α → Prop} {R2 : List Addr → Hp → δ → γ → Prop} {Q1 : β → Hp → Prop} {Q2 : δ → Hp → Prop} {m : Rs α} {k : α → Sto → Rs γ} (h : Post G W σ r H R2 Q2 (m.bind k))
    (step : ∀ x S1 v r1 H1, Ext r H r1 H1 → Sim G r1 H1 S1 → R1 r1 H1 v x → Post G W σ r H R2 Q2 (k x S1) → Q1 v H1) : Post G W σ r H R1 Q1 m := by
  cases m with
  | ok x S => exact fun v r' H' e s q => step x S v r' H' e s q h
  | err c ds S => exact h
  | bad => exact h
theorem Post.mono {R : List Addr → Hp → β → α → Prop} {Q Q' : β → Hp → Prop} {m : Rs α} (h : Post G W σ r H R Q m) (k : ∀ v H, Q v H → Q' v H) : Post G W σ r H R Q' m := by
  cases m with
  | ok x S => exact fun v r' H' e s q => k _ _ (h v r' H' e s q)
  | err c ds S => exact h
  | bad => exact h
theorem back_rv {r' : List Addr} {H' : Hp} {v : V} {x : Rv} (e : Ext r H r1 H1) (h : RV G H1 r' H' v x) : RV G H r' H' v x := RepR.from (fun _ => e.back) h
end
theorem _root_.L2.PE.mono {X : Cx} {e : Expr} {t t' : TE} (h : PE X e t) (k : ∀ σ H Q, t' σ H Q → t σ H Q) : PE X e t' := ⟨fun pins s σ H Q I q => h.run pins s σ H Q I (k σ H Q q)⟩
theorem _root_.L2.PT.mono {X : Cx} {e : Expr} {t t' : TT} (h : PT X e t) (k : ∀ σ H Q, t' σ H Q → t σ H Q) : PT X e t' := ⟨fun pins s σ H Q I q => h.run pins s σ H Q I (k σ H Q q)⟩
theorem _root_.L2.PW.mono {X : Cx} {e : Expr} {t t' : TT} (h : PW X e t) (k : ∀ σ H Q, t' σ H Q → t σ H Q) : PW X e t' := ⟨fun wh pins s σ H Q I q => h.run wh pins s σ H Q I (k σ H Q q)⟩
theorem _root_.L2.PA.mono {X : Cx} {es : List Expr} {t t' : TA} (h : PA X es t) (k : ∀ σ H Q, t' σ H Q → t σ H Q) : PA X es t' := ⟨fun pos pins s σ H Q I q => h.run pos pins s σ H Q I (k σ H Q q)⟩
theorem _root_.L2.PS.mono {X : Cx} {st : Stmt} {t t' : TS} (h : PS X st t) (k : ∀ D σ H, t' D σ H → t D σ H) : PS X st t' := ⟨fun pins s σ H D I q => h.run pins s σ H D I (k D σ H q)⟩
theorem _root_.L2.PSs.mono {X : Cx} {st : List Stmt} {t t' : TS} (h : PSs X st t) (k : ∀ D σ H, t' D σ H → t D σ H) : PSs X st t' := ⟨fun pins s σ H D I q => h.run pins s σ H D I (k D σ H q)⟩

/-! ### names, constants, argument lists, primitives -/
def eVar (i : Nat) : EX := fun env S => match env[i]? with
  | some (some d) => .ok (.va d) S
  | _ => .bad
def eC (d : D) : EX := fun _ S => .ok (.va d) S
/-- the value becomes the store's own -/
def own (x : Rv) (S : Sto) : D × Sto := match x with
  | .va d => (d, S)
  | .fr o => (.ref S.length, S ++ [o])
def eTo (m : EX) : EX := fun env S => (m env S).bind fun x S1 => .ok (.va (own x S1).1) (own x S1).2
def eArgs : List EX → Env → Sto → Rs (List Rv)
  | [], _, S => .ok [] S
  | m :: ms, env, S => (m env S).bind fun x S1 => (eArgs ms env S1).bind fun xs S2 => .ok (x :: xs) S2
abbrev Prim := Sto → List Rv → Option (Rv × Sto)
def eP (f : Prim) (ms : List EX) : EX := fun env S => (eArgs ms env S).bind fun xs S1 => match f S1 xs with
  | some (z, S2) => .ok z S2
  | none => .bad
/-- a primitive keeps to its rule -/
def PrimOk (G : Cfg) (rd : List V → Hp → VK → Prop) (f : Prim) : Prop :=
  ∀ (r : List Addr) (H0 H : Hp) (S S' : Sto) (xs : List Rv) (z : Rv) (vs : List V) (Q : VK), Sim G r H S → (∀ p, H p = none → H0 p = none) → RepRs G r H0 H vs xs → f S xs = some (z, S') →
    (∀ v r' H', Ext r H r' H' → Sim G r' H' S' → RepR G r' H0 H' v z → Q v H') → rd vs H Q
/-- such as change nothing of the store -/
def Pure1 (G : Cfg) (rd : List V → Hp → VK → Prop) (f : Sto → List Rv → Option Rv) : Prop :=
  ∀ (r : List Addr) (H0 H : Hp) (S : Sto) (xs : List Rv) (z : Rv) (vs : List V) (Q : VK), Sim G r H S → (∀ p, H p = none → H0 p = none) → RepRs G r H0 H vs xs → f S xs = some z →
    (∀ v H', Ext r H r H' → (∀ a o, H a = some o → H' a = some o) → RepR G r H0 H' v z → Q v H') → rd vs H Q
def lift (f : Sto → List Rv → Option Rv) : Prim := fun S xs => (f S xs).map fun z => (z, S)
theorem Pure1.ok {G : Cfg} {rd : List V → Hp → VK → Prop} {f : Sto → List Rv → Option Rv} (h : Pure1 G rd f) : PrimOk G rd (lift f) := by
  intro r H0 H S S' xs z vs Q s b q e k
  unfold lift at e
  cases e' : f S xs with
  | none => rw [e'] at e; cases e
  | some z' =>
    rw [e'] at e
    obtain ⟨rfl, rfl⟩ : z' = z ∧ S = S' := by simpa using e
    exact h r H0 H S xs z' vs Q s b q e' fun v H' x st q' => k v r H' x (s.stays st x) q'
abbrev GX (X : Cx) (cA : Nat → Addr) (fN : Nat → List Str) : Cfg := ⟨X.K, cA, fN⟩
section
variable {G : Cfg} {W : WX} {σ : L2.St} {r : List Addr} {H : Hp}
/-- a value becomes the store's own -/
theorem own_ok {r0 : List Addr} {H0 : Hp} {x : Rv} {v : V} {S : Sto} (e : Ext r0 H0 r H) (s : Sim G r H S) (q : RepR G r H0 H v x) :
    ∃ r', Ext r0 H0 r' H ∧ Sim G r' H (own x S).2 ∧ Rep G r' H v (own x S).1 := by
  cases x with
  | va d => exact ⟨r, e, s, q⟩
  | fr o =>
    obtain ⟨a, rfl, h2, h3, h4⟩ := q
    refine ⟨r ++ [a], e.own h2, s.own h3 h4, .ref ?_⟩
    show (r ++ [a])[S.length]? = some a
    rw [← s.len]
    simp
theorem TI.to {m : EX} {Q : VK} (h : TI G W (eTo m) σ H Q) : TI G W m σ H Q := by
  obtain ⟨r, S, env, he, hs, hp⟩ := h
  refine ⟨r, S, env, he, hs, Post.bind hp fun x S1 v r1 H1 e s q z => ?_⟩
  obtain ⟨r', e', s', q'⟩ := own_ok e s q
  exact z v r' H1 e' s' q'
end
section
variable {X : Cx} {cA : Nat → Addr} {fN : Nat → List Str} {W : WX} {e a b : Expr} {es : List Expr} {pos : Pos} {m ma mb : EX}
theorem iv_to (h : PE X e (TI (GX X cA fN) W m)) : PE X e (TI (GX X cA fN) W (eTo m)) := h.mono fun _ _ _ => TI.to
theorem iv (i : Nat) {x : Str} (hN : X.N[i]? = some x := by rfl) (hv : Vis X.env.scope x := by first | exact Or.inl rfl | exact Or.inr (Or.inl rfl) | exact Or.inr (Or.inr rfl)) (hd : (x == ("__debug__" : Str)) = false := by decide)
    (hcd : (x == ("__classdict__" : Str)) = false := by decide) : PE X (.Name x pos) (TI (GX X cA fN) W (eVar i)) := (pe_var hN hv hd hcd).mono fun σ H Q h => by
  obtain ⟨r, S, env, he, hs, hp⟩ := h
  unfold eVar at hp
  cases e1 : env[i]? with
  | none => rw [e1] at hp; exact hp.elim
  | some o =>
    cases o with
    | none => rw [e1] at hp; exact hp.elim
    | some d =>
      rw [e1] at hp
      obtain ⟨v, h1, h2⟩ := he.at_ i d e1
      exact ⟨v, h1, hp v r H (Ext.refl r H) hs h2⟩
theorem ic {v : V} {d : D} (h : PE X e (tC v)) (q : ∀ G r H, Rep G r H v d) : PE X e (TI (GX X cA fN) W (eC d)) := h.mono fun σ H Q h => by
  obtain ⟨r, S, env, he, hs, hp⟩ := h
  exact hp v r H (Ext.refl r H) hs (q _ _ _)
theorem ic_int {i : Int} {j : Nat} : PE X (.Constant (.int i) j pos) (TI (GX X cA fN) W (eC (.int i))) := ic pe_int fun _ _ _ => .int i
theorem ic_bl {b : Bool} {j : Nat} : PE X (.Constant (.bool b) j pos) (TI (GX X cA fN) W (eC (.bl b))) := ic pe_bl fun _ _ _ => .bl b
theorem ic_non {j : Nat} : PE X (.Constant .none j pos) (TI (GX X cA fN) W (eC .non)) := ic pe_non fun _ _ _ => .non
theorem ic_str {x : Str} {j : Nat} : PE X (.Constant (.str x) j pos) (TI (GX X cA fN) W (eC (.str x))) := ic pe_str fun _ _ _ => .str x
theorem ic_gs {x y : Str} {t : Tok} (hg : Gl X x) (hm : X.mg x = some (.str y t)) (hd : (x == ("__debug__" : Str)) = false := by decide) : PE X (.Name x pos) (TI (GX X cA fN) W (eC (.str y))) := ic (pe_glob (v := .str y) hg hm ⟨t, rfl⟩ hd) fun _ _ _ => .str y
theorem ic_gi {x : Str} {i : Int} {t : Tok} (hg : Gl X x) (hm : X.mg x = some (.int i t)) (hd : (x == ("__debug__" : Str)) = false := by decide) : PE X (.Name x pos) (TI (GX X cA fN) W (eC (.int i))) := ic (pe_glob (v := .int i) hg hm ⟨t, rfl⟩ hd) fun _ _ _ => .int i

theorem ia_nil : PA X [] (TAI (GX X cA fN) W (eArgs [])) := pa_nil.mono fun σ H Q h => by
  obtain ⟨r, S, env, he, hs, hp⟩ := h
  exact hp [] r H (Ext.refl r H) hs .nil
theorem ia_cons {ms : List EX} (h : PE X e (TI (GX X cA fN) W m)) (t : PA X es (TAI (GX X cA fN) W (eArgs ms))) (hs : starEach (e :: es) X.env = (false, eval e X.env) :: starEach es X.env := by rfl) :
    PA X (e :: es) (TAI (GX X cA fN) W (eArgs (m :: ms))) := (pa_cons h t hs).mono fun σ H Q h => by
  obtain ⟨r, S, env, he, hs, hp⟩ := h
  refine ⟨r, S, env, he, hs, Post.bind hp fun x S1 v r1 H1 e1 s1 q1 z => ?_⟩
  refine ⟨r1, S1, env, he.ext e1, s1, Post.bind (z.shift e1 (R' := RVs _ H) fun _ _ _ _ k => k) fun xs S2 vs r2 H2 e2 s2 q2 z2 => ?_⟩
  exact z2 (v :: vs) r2 H2 (Ext.refl r2 H2 |> fun k => e2.trans k) s2 (.cons (q1.ext e2) (q2.from fun _ => e1.back))
/-- from the arguments to the primitive -/
theorem prim_post {rd : List V → Hp → VK → Prop} {f : Prim} {G : Cfg} (P : PrimOk G rd f) {σ : L2.St} {r : List Addr} {H : Hp} {env : Env} {S : Sto} {ms : List EX} {Q : VK} (hp : Post G W σ r H (RV G H) Q (eP f ms env S)) :
    Post G W σ r H (RVs G H) (fun vs H1 => rd vs H1 Q) (eArgs ms env S) := Post.bind hp fun xs S1 vs r1 H1 e1 s1 q1 z => by
  cases e : f S1 xs with
  | none => rw [e] at z; exact z.elim
  | some p =>
    obtain ⟨y, S2⟩ := p
    rw [e] at z
    exact P r1 H H1 S1 S2 xs y vs Q s1 (fun _ => e1.back) q1 e fun v r2 H2 e2 s2 q2 => z v r2 H2 (e1.trans e2) s2 q2
theorem two_of {G : Cfg} {rd : List V → Hp → VK → Prop} {f : Prim} {ro : R2} (P : PrimOk G rd f) (hr : ∀ vs H Q, rd vs H Q → ∃ x y, vs = [x, y] ∧ ro x y H Q) {σ : L2.St} {H : Hp} {Q : VK} (h : TI G W (eP f [ma, mb]) σ H Q) :
    tOp ro (TI G W ma) (TI G W mb) σ H Q := by
  obtain ⟨r, S, env, he, hs, hp⟩ := h
  have hq := prim_post P hp
  refine ⟨r, S, env, he, hs, Post.bind hq fun x S1 v r1 H1 e1 s1 q1 z => ?_⟩
  unfold eArgs at z
  rw [Rs.bind_assoc] at z
  refine ⟨r1, S1, env, he.ext e1, s1, Post.bind (z.shift e1 (R' := RVs _ H) fun _ _ _ _ k => k) fun xs S2 w r2 H2 e2 s2 q2 z2 => ?_⟩
  obtain ⟨x', y', e, k⟩ := hr _ _ _ (z2 [v, w] r2 H2 e2 s2 (.cons (q1.ext e2) (.cons (q2.from fun _ => e1.back) .nil)))
  cases e
  exact k
theorem one_of {G : Cfg} {rd : List V → Hp → VK → Prop} {f : Prim} {ro : V → Hp → VK → Prop} (P : PrimOk G rd f) (hr : ∀ vs H Q, rd vs H Q → ∃ x, vs = [x] ∧ ro x H Q) {σ : L2.St} {H : Hp} {Q : VK} (h : TI G W (eP f [ma]) σ H Q) :
    tUn ro (TI G W ma) σ H Q := by
  obtain ⟨r, S, env, he, hs, hp⟩ := h
  have hq := prim_post P hp
  refine ⟨r, S, env, he, hs, Post.bind hq fun x S1 v r1 H1 e1 s1 q1 z => ?_⟩
  obtain ⟨x', e, k⟩ := hr _ _ _ (z [v] r1 H1 e1 s1 (.cons q1 .nil))
  cases e
  exact k
/-- two operands -/
def L22 (ro : R2) : List V → Hp → VK → Prop := fun vs H Q => ∃ x y, vs = [x, y] ∧ ro x y H Q
def L21 (ro : V → Hp → VK → Prop) : List V → Hp → VK → Prop := fun vs H Q => ∃ x, vs = [x] ∧ ro x H Q
theorem i_op {op : Operator} {ro : R2} {f : Prim} (ho : OpR X (binaryOp op) ro) (P : PrimOk (GX X cA fN) (L22 ro) f) (ha : PE X a (TI (GX X cA fN) W ma)) (hb : PE X b (TI (GX X cA fN) W mb)) :
    PE X (.BinOp a op b pos) (TI (GX X cA fN) W (eP f [ma, mb])) := (pe_op ho ha hb).mono fun _ _ _ h => two_of P (fun _ _ _ k => k) h
theorem i_un {op : UnaryOp} {ro : V → Hp → VK → Prop} {f : Prim} (ho : UnR X (unaryOp op) ro) (P : PrimOk (GX X cA fN) (L21 ro) f) (ha : PE X a (TI (GX X cA fN) W ma)) :
    PE X (.UnaryOp op a pos) (TI (GX X cA fN) W (eP f [ma])) := (pe_un ho ha).mono fun _ _ _ h => one_of P (fun _ _ _ k => k) h
theorem i_cmp {op : CmpOp} {ro : R2} {f : Prim} (ho : OpR X (compareOp op) ro) (P : PrimOk (GX X cA fN) (L22 ro) f) (ha : PE X a (TI (GX X cA fN) W ma)) (hb : PE X b (TI (GX X cA fN) W mb)) (hm : behindInMarks op b = false) :
    PE X (.Compare a [op] [b] pos) (TI (GX X cA fN) W (eP f [ma, mb])) := (pe_cmpR ho ha hb hm).mono fun _ _ _ h => two_of P (fun _ _ _ k => k) h
/-- a value that is a bool, as a test -/
def bB (m : EX) : BX := fun env S => (m env S).bind fun x S1 => match x with
  | .va (.bl b) => .ok b S1
  | _ => .bad
theorem bB_ok {G : Cfg} {m : EX} {σ : L2.St} {H : Hp} {Q : Bool → Hp → Prop} (h : TTI G W (bB m) σ H Q) : TI G W m σ H fun x H1 => ∃ k, x = .bl k ∧ Q k H1 := by
  obtain ⟨r, S, env, he, hs, hp⟩ := h
  refine ⟨r, S, env, he, hs, Post.bind hp fun x S1 v r1 H1 e1 s1 q1 z => ?_⟩
  cases x with
  | fr o => exact z.elim
  | va d =>
    cases d with
    | bl b =>
      cases q1
      exact ⟨b, rfl, z b r1 H1 e1 s1 rfl⟩
    | _ => exact z.elim
theorem t_cmp {op : CmpOp} {ro : R2} {f : Prim} (ho : OpR X (compareOp op) ro) (P : PrimOk (GX X cA fN) (L22 ro) f) (ha : PE X a (TI (GX X cA fN) W ma)) (hb : PE X b (TI (GX X cA fN) W mb)) (hm : behindInMarks op b = false) :
    PT X (.Compare a [op] [b] pos) (TTI (GX X cA fN) W (bB (eP f [ma, mb]))) := (pt_cmpR ho ha hb hm).mono fun _ _ _ h => two_of P (fun _ _ _ k => k) (bB_ok h)
/-- a call, an attribute, a name .. whose value is a bool, as a test -/
theorem t_val (h : PE X e (TI (GX X cA fN) W m)) (he : ∀ whole, isTrue e X.env whole = (do let v ← whole; standAt e.pos; holding [v] (truthy v)) := by intro _; rfl) : PT X e (TTI (GX X cA fN) W (bB m)) :=
  (pt_val h he).mono fun _ _ _ h => bB_ok h
def bNot (m : BX) : BX := fun env S => (m env S).bind fun b S1 => .ok (!b) S1
def bAnd (m n : BX) : BX := fun env S => (m env S).bind fun b S1 => if b = true then n env S1 else .ok false S1
def bOr (m n : BX) : BX := fun env S => (m env S).bind fun b S1 => if b = true then .ok true S1 else n env S1
variable {c d : BX} {rest : List Expr}
theorem t_not (h : PT X a (TTI (GX X cA fN) W c)) : PT X (.UnaryOp .Not a pos) (TTI (GX X cA fN) W (bNot c)) := (pt_not h).mono fun σ H Q h => by
  obtain ⟨r, S, env, he, hs, hp⟩ := h
  refine ⟨r, S, env, he, hs, Post.bind hp fun x S1 v r1 H1 e1 s1 q1 z => ?_⟩
  subst q1
  exact z (!v) r1 H1 e1 s1 rfl
theorem w_and1 (h : PT X a (TTI (GX X cA fN) W c)) : PW X (.BoolOp .And [a] pos) (TTI (GX X cA fN) W c) := pw_and1 h
theorem w_or1 (h : PT X a (TTI (GX X cA fN) W c)) : PW X (.BoolOp .Or [a] pos) (TTI (GX X cA fN) W c) := pw_or1 h
theorem w_and (h : PT X a (TTI (GX X cA fN) W c)) (k : PW X (.BoolOp .And (b :: rest) pos) (TTI (GX X cA fN) W d)) : PW X (.BoolOp .And (a :: b :: rest) pos) (TTI (GX X cA fN) W (bAnd c d)) := (pw_and h k).mono fun σ H Q h => by
  obtain ⟨r, S, env, he, hs, hp⟩ := h
  refine ⟨r, S, env, he, hs, Post.bind hp fun x S1 v r1 H1 e1 s1 q1 z => ?_⟩
  subst q1
  cases v with
  | true => exact ⟨r1, S1, env, he.ext e1, s1, z.shift e1 fun _ _ _ _ k => k⟩
  | false => exact z false r1 H1 e1 s1 rfl
theorem w_or (h : PT X a (TTI (GX X cA fN) W c)) (k : PW X (.BoolOp .Or (b :: rest) pos) (TTI (GX X cA fN) W d)) : PW X (.BoolOp .Or (a :: b :: rest) pos) (TTI (GX X cA fN) W (bOr c d)) := (pw_or h k).mono fun σ H Q h => by
  obtain ⟨r, S, env, he, hs, hp⟩ := h
  refine ⟨r, S, env, he, hs, Post.bind hp fun x S1 v r1 H1 e1 s1 q1 z => ?_⟩
  subst q1
  cases v with
  | false => exact ⟨r1, S1, env, he.ext e1, s1, z.shift e1 fun _ _ _ _ k => k⟩
  | true => exact z true r1 H1 e1 s1 rfl
/-- and, or, not as values (bools but for the last) -/
def eNot (m : EX) : EX := fun env S => (bB m env S).bind fun b S1 => .ok (.va (.bl (!b))) S1
def eAnd (m n : EX) : EX := fun env S => (bB m env S).bind fun b S1 => if b = true then n env S1 else .ok (.va (.bl false)) S1
def eOr (m n : EX) : EX := fun env S => (bB m env S).bind fun b S1 => if b = true then .ok (.va (.bl true)) S1 else n env S1
def eIf (c : BX) (m n : EX) : EX := fun env S => (c env S).bind fun b S1 => if b = true then m env S1 else n env S1
theorem bB_post {G : Cfg} {σ : L2.St} {r : List Addr} {H : Hp} {env : Env} {S : Sto} {Q : V → Hp → Prop} {k : Bool → Sto → Rs Rv} (hp : Post G W σ r H (RV G H) Q ((bB m env S).bind k)) {Q' : VK}
    (step : ∀ b S1 r1 H1, Ext r H r1 H1 → Sim G r1 H1 S1 → Post G W σ r H (RV G H) Q (k b S1) → Q' (.bl b) H1) : Post G W σ r H (RV G H) Q' (m env S) := by
  have hp2 : Post G W σ r H (RB) (fun b H1 => Q' (.bl b) H1) (bB m env S) := Post.bind hp fun x S1 v r1 H1 e1 s1 q1 z => by
    subst q1
    exact step v S1 r1 H1 e1 s1 z
  refine Post.bind hp2 fun x S1 v r1 H1 e1 s1 q1 z => ?_
  cases x with
  | fr o => exact z.elim
  | va d =>
    cases d with
    | bl b =>
      cases q1
      exact z b r1 H1 e1 s1 rfl
    | _ => exact z.elim
theorem i_not (h : PE X a (TI (GX X cA fN) W m)) : PE X (.UnaryOp .Not a pos) (TI (GX X cA fN) W (eNot m)) := (pe_not h).mono fun σ H Q h => by
  obtain ⟨r, S, env, he, hs, hp⟩ := h
  exact ⟨r, S, env, he, hs, bB_post hp fun b S1 r1 H1 e1 s1 z => ⟨b, rfl, z _ r1 H1 e1 s1 (.bl _)⟩⟩
theorem i_one {op : BoolOp} (h : PE X a (TI (GX X cA fN) W m)) : PE X (.BoolOp op [a] pos) (TI (GX X cA fN) W m) := pe_one h
theorem i_and (h : PE X a (TI (GX X cA fN) W ma)) (k : PE X (.BoolOp .And (b :: rest) pos) (TI (GX X cA fN) W mb)) : PE X (.BoolOp .And (a :: b :: rest) pos) (TI (GX X cA fN) W (eAnd ma mb)) := (pe_and h k).mono fun σ H Q h => by
  obtain ⟨r, S, env, he, hs, hp⟩ := h
  refine ⟨r, S, env, he, hs, bB_post hp fun b S1 r1 H1 e1 s1 z => ⟨b, rfl, ?_⟩⟩
  cases b with
  | true => exact ⟨r1, S1, env, he.ext e1, s1, z.shift e1 fun _ _ _ _ k => back_rv e1 k⟩
  | false => exact z _ r1 H1 e1 s1 (.bl _)
theorem i_or (h : PE X a (TI (GX X cA fN) W ma)) (k : PE X (.BoolOp .Or (b :: rest) pos) (TI (GX X cA fN) W mb)) : PE X (.BoolOp .Or (a :: b :: rest) pos) (TI (GX X cA fN) W (eOr ma mb)) := (pe_or h k).mono fun σ H Q h => by
  obtain ⟨r, S, env, he, hs, hp⟩ := h
  refine ⟨r, S, env, he, hs, bB_post hp fun b S1 r1 H1 e1 s1 z => ⟨b, rfl, ?_⟩⟩
  cases b with
  | false => exact ⟨r1, S1, env, he.ext e1, s1, z.shift e1 fun _ _ _ _ k => back_rv e1 k⟩
  | true => exact z _ r1 H1 e1 s1 (.bl _)
theorem i_if {x : Expr} (hc : PT X x (TTI (GX X cA fN) W c)) (h : PE X a (TI (GX X cA fN) W ma)) (k : PE X b (TI (GX X cA fN) W mb)) : PE X (.IfExp x a b pos) (TI (GX X cA fN) W (eIf c ma mb)) := (pe_ifExp hc h k).mono fun σ H Q h => by
  obtain ⟨r, S, env, he, hs, hp⟩ := h
  refine ⟨r, S, env, he, hs, Post.bind hp fun x S1 v r1 H1 e1 s1 q1 z => ?_⟩
  subst q1
  cases v with
  | true => exact ⟨r1, S1, env, he.ext e1, s1, z.shift e1 fun _ _ _ _ k => back_rv e1 k⟩
  | false => exact ⟨r1, S1, env, he.ext e1, s1, z.shift e1 fun _ _ _ _ k => back_rv e1 k⟩
/-- a op b op' c -/
def eChain (f g : Prim) (ma mb mc : EX) : EX := fun env S => (ma env S).bind fun x S1 => (mb env S1).bind fun y S2 => match f S2 [x, y] with
  | some (.va (.bl k), S3) => if k = true then (mc env S3).bind fun z S4 => match g S4 [y, z] with
      | some (w, S5) => .ok w S5
      | none => .bad
    else .ok (.va (.bl false)) S3
  | _ => .bad
variable {mc : EX} {x y : Expr}
theorem chain_of {G : Cfg} {ro ro' : R2} {f g : Prim} (P : PrimOk G (L22 ro) f) (P' : PrimOk G (L22 ro') g) {σ : L2.St} {H : Hp} {Q : VK} (h : TI G W (eChain f g ma mb mc) σ H Q) : tChain ro ro' (TI G W ma) (TI G W mb) (TI G W mc) σ H Q := by
  obtain ⟨r, S, env, he, hs, hp⟩ := h
  refine ⟨r, S, env, he, hs, Post.bind hp fun x S1 v r1 H1 e1 s1 q1 z => ?_⟩
  refine ⟨r1, S1, env, he.ext e1, s1, Post.bind (z.shift e1 (R' := RV _ H) fun _ _ _ _ k => k) fun y S2 w r2 H2 e2 s2 q2 z2 => ?_⟩
  cases e : f S2 [x, y] with
  | none => rw [e] at z2; exact z2.elim
  | some p =>
    obtain ⟨y', S3⟩ := p
    rw [e] at z2
    obtain ⟨_, _, e', k⟩ := P r2 H H2 S2 S3 [x, y] y' [v, w] (fun z H3 => ∃ k, z = .bl k ∧ (if k = true then TI G W mc σ H3 (fun w' H4 => ro' w w' H4 Q) else Q (.bl false) H3)) s2 (fun _ h => e1.back (e2.back h)) (.cons (q1.ext e2) (.cons (q2.from fun _ => e1.back) .nil)) e fun u r3 H3 e3 s3 q3 => by
      cases y' with
      | fr o => exact z2.elim
      | va d =>
        cases d with
        | bl k =>
          cases q3
          refine ⟨k, rfl, ?_⟩
          have x3 := e2.trans e3
          cases k with
          | false => exact z2 _ r3 H3 x3 s3 (.bl _)
          | true =>
            refine ⟨r3, S3, env, (he.ext e1).ext x3, s3, Post.bind (z2.shift x3 (R' := RV _ H) fun _ _ _ _ k => k) fun z' S4 w' r4 H4 e4 s4 q4 z4 => ?_⟩
            cases eg : g S4 [y, z'] with
            | none => rw [eg] at z4; exact z4.elim
            | some p =>
              obtain ⟨w2, S5⟩ := p
              rw [eg] at z4
              obtain ⟨_, _, e', k⟩ := P' r4 H H4 S4 S5 [y, z'] w2 [w, w'] Q s4 (fun _ h => e1.back (x3.back (e4.back h))) (.cons ((q2.from fun _ => e1.back).ext (e3.trans e4)) (.cons (q4.from fun _ h => e1.back (x3.back h)) .nil)) eg
                fun u r5 H5 e5 s5 q5 => z4 u r5 H5 (e4.trans e5) s5 q5
              cases e'
              exact k
        | _ => exact z2.elim
    cases e'
    exact k
theorem i_chain {op op' : CmpOp} {ro ro' : R2} {f g : Prim} (ho : OpR X (compareOp op) ro) (ho' : OpR X (compareOp op') ro') (P : PrimOk (GX X cA fN) (L22 ro) f) (P' : PrimOk (GX X cA fN) (L22 ro') g)
    (ha : PE X x (TI (GX X cA fN) W ma)) (hb : PE X y (TI (GX X cA fN) W mb)) (hc : PE X e (TI (GX X cA fN) W mc)) (hm : lastMarks [op, op'] [y, e] = false := by with_unfolding_all rfl) :
    PE X (.Compare x [op, op'] [y, e] pos) (TI (GX X cA fN) W (eChain f g ma mb mc)) := (pe_chain ho ho' ha hb hc hm).mono fun _ _ _ h => chain_of P P' h
theorem t_chain {op op' : CmpOp} {ro ro' : R2} {f g : Prim} (ho : OpR X (compareOp op) ro) (ho' : OpR X (compareOp op') ro') (P : PrimOk (GX X cA fN) (L22 ro) f) (P' : PrimOk (GX X cA fN) (L22 ro') g)
    (ha : PE X x (TI (GX X cA fN) W ma)) (hb : PE X y (TI (GX X cA fN) W mb)) (hc : PE X e (TI (GX X cA fN) W mc)) (hm : lastMarks [op, op'] [y, e] = false := by with_unfolding_all rfl) :
    PT X (.Compare x [op, op'] [y, e] pos) (TTI (GX X cA fN) W (bB (eChain f g ma mb mc))) := (pt_chain ho ho' ha hb hc hm).mono fun _ _ _ h => chain_of P P' (bB_ok h)
end
end Cy

set_option Elab.async false
set_option linter.all false
set_option maxRecDepth 100000
set_option maxHeartbeats 2000000
set_option autoImplicit false
/-! Statements, loops, comprehensions, defs and their calls by the mirror. -/
namespace Cy
open PySem L2

/-- how a statement ends -/
inductive SR where
  | nx (env : Env) (S : Sto)
  | brk (env : Env) (S : Sto)
  | ct (env : Env) (S : Sto)
  | ret (x : Rv) (S : Sto)
  | err (env : Env) (c : Nat) (ds : List D) (S : Sto)
  | bad
abbrev SM := Env → Sto → SR
def Rs.on {α : Type} (m : Rs α) (env : Env) (k : α → Sto → SR) : SR := match m with
  | .ok a S => k a S
  | .err c ds S => .err env c ds S
  | .bad => .bad
@[simp] theorem Rs.on_ok {α : Type} (a : α) (S : Sto) (env : Env) (k : α → Sto → SR) : (Rs.ok a S).on env k = k a S := rfl
@[simp] theorem Rs.on_err {α : Type} (c : Nat) (ds : List D) (S : Sto) (env : Env) (k : α → Sto → SR) : (Rs.err c ds S : Rs α).on env k = .err env c ds S := rfl
@[simp] theorem Rs.on_bad {α : Type} (env : Env) (k : α → Sto → SR) : (Rs.bad : Rs α).on env k = .bad := rfl
def SR.then (m : SR) (k : Env → Sto → SR) : SR := match m with
  | .nx env S => k env S
  | m => m
@[simp] theorem SR.then_nx (env : Env) (S : Sto) (k : Env → Sto → SR) : (SR.nx env S).then k = k env S := rfl
@[simp] theorem SR.then_brk (env : Env) (S : Sto) (k : Env → Sto → SR) : (SR.brk env S).then k = .brk env S := rfl
@[simp] theorem SR.then_ct (env : Env) (S : Sto) (k : Env → Sto → SR) : (SR.ct env S).then k = .ct env S := rfl
@[simp] theorem SR.then_ret (x : Rv) (S : Sto) (k : Env → Sto → SR) : (SR.ret x S).then k = .ret x S := rfl
@[simp] theorem SR.then_err (env : Env) (c : Nat) (ds : List D) (S : Sto) (k : Env → Sto → SR) : (SR.err env c ds S).then k = .err env c ds S := rfl
@[simp] theorem SR.then_bad (k : Env → Sto → SR) : SR.bad.then k = .bad := rfl

def PostS (G : Cfg) (W : WX) (D : Ends) (r : List Addr) (H : Hp) : SR → Prop
  | .nx env S' => ∀ σ' r' H', Ext r H r' H' → EnvR G r' H' σ' env → Sim G r' H' S' → D.nx σ' H'
  | .brk env S' => ∀ σ' r' H', Ext r H r' H' → EnvR G r' H' σ' env → Sim G r' H' S' → D.bk σ' H'
  | .ct env S' => ∀ σ' r' H', Ext r H r' H' → EnvR G r' H' σ' env → Sim G r' H' S' → D.ct σ' H'
  | .ret x S' => ∀ v r' H', Ext r H r' H' → Sim G r' H' S' → RepR G r' H H' v x → D.rt v H'
  | .err env c ds S' => ∀ cls oe σ' r' H', Ext r H r' H' → EnvR G r' H' σ' env → Sim G r' H' S' → ErrAt G r' H' c ds cls oe → W cls oe σ' H'
  | .bad => False
def TSI (G : Cfg) (W : WX) (m : SM) : TS := fun D σ H => ∃ r S env, EnvR G r H σ env ∧ Sim G r H S ∧ PostS G W D r H (m env S)
section
variable {G : Cfg} {W : WX} {D D' : Ends} {σ : L2.St} {r r1 : List Addr} {H H1 : Hp} {α β : Type}
theorem PostS.shift {m : SR} (h : PostS G W D r H m) (e : Ext r H r1 H1) : PostS G W D r1 H1 m := by
  cases m with
  | nx env S => exact fun σ' r' H' x => h σ' r' H' (e.trans x)
  | brk env S => exact fun σ' r' H' x => h σ' r' H' (e.trans x)
  | ct env S => exact fun σ' r' H' x => h σ' r' H' (e.trans x)
  | ret v S => exact fun v r' H' x s q => h v r' H' (e.trans x) s (q.from fun _ => e.back)
  | err env c ds S => exact fun cls oe σ' r' H' x => h cls oe σ' r' H' (e.trans x)
  | bad => exact h
/-- an expression's ends, then a statement's -/
theorem PostS.on {R1 : List Addr → Hp → β → α → Prop} {Q1 : β → Hp → Prop} {env : Env} {m : Rs α} {k : α → Sto → SR} (he : EnvR G r H σ env) (h : PostS G W D r H (m.on env k))
    (step : ∀ x S1 v r1 H1, Ext r H r1 H1 → Sim G r1 H1 S1 → R1 r1 H1 v x → PostS G W D r H (k x S1) → Q1 v H1) : Post G W σ r H R1 Q1 m := by
  cases m with
  | ok x S => exact fun v r' H' e s q => step x S v r' H' e s q h
  | err c ds S => exact fun cls oe r' H' e s q => h cls oe σ r' H' e (he.ext e) s q
  | bad => exact h
theorem PostS.then {m : SR} {k : Env → Sto → SR} (h : PostS G W D r H (m.then k)) : PostS G W { D with nx := fun σ' H' => TSI G W k D σ' H' } r H m := by
  cases m with
  | nx env S => exact fun σ' r' H' e q s => ⟨r', S, env, q, s, h.shift e⟩
  | brk env S => exact h
  | ct env S => exact h
  | ret v S => exact h
  | err env c ds S => exact h
  | bad => exact h
end

def sNil : SM := fun env S => .nx env S
def sSeq (a b : SM) : SM := fun env S => (a env S).then b
def sEx (m : EX) : SM := fun env S => (m env S).on env fun _ S1 => .nx env S1
def sRet (m : EX) : SM := fun env S => (m env S).on env fun x S1 => .ret x S1
def sRetN : SM := fun _ S => .ret (.va .non) S
def sBrk : SM := fun env S => .brk env S
def sCt : SM := fun env S => .ct env S
def sIf (c : BX) (a b : SM) : SM := fun env S => (c env S).on env fun k S1 => if k = true then a env S1 else b env S1
/-- what is assigned to: a name, or names in a row -/
inductive Tg where
  | name (i : Nat)
  | names (is : List Nat)
def setAll : List Nat → List D → Env → Env
  | i :: is, d :: ds, env => setAll is ds (env.set i (some d))
  | _, _, env => env
def Tg.slots : Tg → List Nat
  | .name i => [i]
  | .names is => is
def Tg.bind : Tg → D → Env → Option Env
  | .name i, d, env => some (env.set i (some d))
  | .names is, .tup ds, env => if ds.length = is.length then some (setAll is ds env) else none
  | .names _, _, _ => none
def sAsg (t : Tg) (m : EX) : SM := fun env S => (eTo m env S).on env fun x S1 => match x with
  | .va d => match t.bind d env with
    | some env' => .nx env' S1
    | none => .bad
  | .fr _ => .bad
/-- x op= e -/
def sAug (i : Nat) (f : Prim) (m : EX) : SM := fun env S => match env[i]? with
  | some (some d) => (m env S).on env fun y S1 => match f S1 [.va d, y] with
    | some (z, S2) => .nx (env.set i (some (Cy.own z S2).1)) (Cy.own z S2).2
    | none => .bad
  | _ => .bad

/-- a target's rule -/
structure TgOk (X : Cx) (t : Tg) (g : TG) : Prop where
  run : ∀ (cA : Nat → Addr) (fN : Nat → List Str) (r : List Addr) (H : Hp) (σ : L2.St) (env env' : Env) (v : V) (d : D) (Q : L2.St → Hp → Prop), EnvR (GX X cA fN) r H σ env → Rep (GX X cA fN) r H v d → t.bind d env = some env' →
    (∀ σ', EnvR (GX X cA fN) r H σ' env' → (∀ us, (∀ i ∈ t.slots, i ∈ us) → wipe σ' us = wipe σ us) → Q σ' H) → g v σ H Q
theorem wipe_get (σ : L2.St) : ∀ (us : List Nat) (j : Nat), (wipe σ us)[j]? = if j ∈ us then σ[j]?.map (fun _ => none) else σ[j]?
  | [], j => by simp [wipe]
  | u :: us, j => by
    unfold wipe
    have ih := wipe_get σ us j
    by_cases h : u = j
    · subst h
      rw [List.getElem?_set_self', ih]
      by_cases hm : u ∈ us
      · simp [hm] <;> rfl
      · simp [hm] <;> rfl
    · rw [List.getElem?_set_ne h, ih]
      have h' : ¬ j = u := fun z => h z.symm
      simp [h']
theorem wipe_set (σ : L2.St) (i : Nat) (x : Option V) (us : List Nat) (h : i ∈ us) : wipe (σ.set i x) us = wipe σ us := by
  apply List.ext_getElem?
  intro j
  rw [wipe_get, wipe_get]
  by_cases hj : i = j
  · subst hj
    simp only [h, if_true]
    rw [List.getElem?_set_self']
    cases σ[i]? <;> rfl
  · rw [List.getElem?_set_ne hj]
theorem wipe_wipe (σ : L2.St) (us : List Nat) : wipe (wipe σ us) us = wipe σ us := by
  apply List.ext_getElem?
  intro j
  rw [wipe_get, wipe_get]
  by_cases hj : j ∈ us
  · simp only [hj, if_true]
    cases σ[j]? <;> rfl
  · simp only [hj, if_false]
theorem tg_name {X : Cx} (i : Nat) : TgOk X (.name i) (gName i) := ⟨fun cA fN r H σ env env' v d Q he q e k => by
  have e' : env.set i (some d) = env' := Option.some.inj e
  subst e'
  exact k _ (he.set q) fun us hu => wipe_set σ i _ us (hu i (List.mem_singleton.mpr rfl))⟩
def gAll : List Nat → TGs
  | [] => gNil
  | i :: is => gCons (gName i) (gAll is)
theorem gAll_ok {G : Cfg} {r : List Addr} {H : Hp} {Q : L2.St → Hp → Prop} : ∀ {is : List Nat} {vs : List V} {ds : List D} {σ : L2.St} {env : Env}, EnvR G r H σ env → Reps G r H vs ds → ds.length = is.length →
    (∀ σ', EnvR G r H σ' (setAll is ds env) → (∀ us, (∀ i ∈ is, i ∈ us) → wipe σ' us = wipe σ us) → Q σ' H) → gAll is vs σ H Q
  | [], _, _, σ, env, he, .nil, _, k => ⟨rfl, k σ he fun _ _ => rfl⟩
  | [], _, _, _, _, _, .cons _ _, e, _ => by simp at e
  | i :: is, _, _, _, _, _, .nil, e, _ => by simp at e
  | i :: is, _, _, σ, env, he, .cons (v := v) (vs := vs) h t, e, k => ⟨v, vs, rfl, gAll_ok (he.set h) t (by simpa using e) fun σ' q w => k σ' q fun us hu => (w us fun j hj => hu j (List.mem_cons_of_mem _ hj)).trans (wipe_set σ i _ us (hu i List.mem_cons_self))⟩
theorem tg_names {X : Cx} (is : List Nat) : TgOk X (.names is) (gTup X.K is.length (gAll is)) := ⟨fun cA fN r H σ env env' v d Q he q e k => by
  cases q with
  | tup h na q =>
    rename_i a vs ds
    have e2 : (if ds.length = is.length then some (setAll is ds env) else none) = some env' := e
    by_cases hl : ds.length = is.length
    · rw [if_pos hl] at e2
      have e' := Option.some.inj e2
      subst e'
      exact ⟨_, _, rfl, .inl h, by rw [q.length]; exact hl, gAll_ok he q hl k⟩
    · rw [if_neg hl] at e2
      cases e2
  | _ => cases e⟩

section
variable {X : Cx} {cA : Nat → Addr} {fN : Nat → List Str} {W : WX} {e a b : Expr} {es : List Expr} {pos : Pos} {m ma mb : EX} {c : BX} {st : Stmt} {rest : List Stmt} {sm sn : SM}
theorem ss_nil : PSs X [] (TSI (GX X cA fN) W sNil) := pss_nil.mono fun D σ H h => by
  obtain ⟨r, S, env, he, hs, hp⟩ := h
  exact hp σ r H (Ext.refl r H) he hs
theorem ss_cons (h : PS X st (TSI (GX X cA fN) W sm)) (k : PSs X rest (TSI (GX X cA fN) W sn)) : PSs X (st :: rest) (TSI (GX X cA fN) W (sSeq sm sn)) := (pss_cons h k).mono fun D σ H h => by
  obtain ⟨r, S, env, he, hs, hp⟩ := h
  exact ⟨r, S, env, he, hs, hp.then⟩
theorem ss_one (h : PS X st (TSI (GX X cA fN) W sm)) : PSs X [st] (TSI (GX X cA fN) W sm) := pss_one h
theorem s_pass : PS X (.Pass pos) (TSI (GX X cA fN) W sNil) := ps_pass.mono fun D σ H h => by
  obtain ⟨r, S, env, he, hs, hp⟩ := h
  exact hp σ r H (Ext.refl r H) he hs
theorem s_brk : PS X (.Break pos) (TSI (GX X cA fN) W sBrk) := ps_break.mono fun D σ H h => by
  obtain ⟨r, S, env, he, hs, hp⟩ := h
  exact hp σ r H (Ext.refl r H) he hs
theorem s_ct : PS X (.Continue pos) (TSI (GX X cA fN) W sCt) := ps_continue.mono fun D σ H h => by
  obtain ⟨r, S, env, he, hs, hp⟩ := h
  exact hp σ r H (Ext.refl r H) he hs
theorem s_ex (h : PE X e (TI (GX X cA fN) W m)) (hs : swapsWith e none pos.line X.env = pure false := by rfl) : PS X (.Expr e pos) (TSI (GX X cA fN) W (sEx m)) := (ps_expr h hs).mono fun D σ H h => by
  obtain ⟨r, S, env, he, hs, hp⟩ := h
  exact ⟨r, S, env, he, hs, PostS.on he hp fun x S1 v r1 H1 e1 s1 q1 z => z σ r1 H1 e1 (he.ext e1) s1⟩
theorem s_ret (h : PE X e (TI (GX X cA fN) W m)) : PS X (.Return (some e) pos) (TSI (GX X cA fN) W (sRet m)) := (ps_ret h).mono fun D σ H h => by
  obtain ⟨r, S, env, he, hs, hp⟩ := h
  exact ⟨r, S, env, he, hs, PostS.on he hp fun x S1 v r1 H1 e1 s1 q1 z => z v r1 H1 e1 s1 q1⟩
theorem s_retN : PS X (.Return none pos) (TSI (GX X cA fN) W sRetN) := ps_retN.mono fun D σ H h => by
  obtain ⟨r, S, env, he, hs, hp⟩ := h
  exact hp .non r H (Ext.refl r H) hs .non
theorem s_if {x : Expr} {p q : List Stmt} (hc : PT X x (TTI (GX X cA fN) W c)) (h : PSs X p (TSI (GX X cA fN) W sm)) (k : PSs X q (TSI (GX X cA fN) W sn)) : PS X (.If x p q pos) (TSI (GX X cA fN) W (sIf c sm sn)) := (ps_if hc h k).mono fun D σ H h => by
  obtain ⟨r, S, env, he, hs, hp⟩ := h
  refine ⟨r, S, env, he, hs, PostS.on he hp fun x S1 v r1 H1 e1 s1 q1 z => ?_⟩
  subst q1
  cases v with
  | true => exact ⟨r1, S1, env, he.ext e1, s1, z.shift e1⟩
  | false => exact ⟨r1, S1, env, he.ext e1, s1, z.shift e1⟩
theorem asg_of {t : Tg} {g : TG} (T : TgOk X t g) {D : Ends} {σ : L2.St} {H : Hp} (h : TSI (GX X cA fN) W (sAsg t m) D σ H) : tAsg (TI (GX X cA fN) W m) g D σ H := by
  obtain ⟨r, S, env, he, hs, hp⟩ := h
  refine TI.to ⟨r, S, env, he, hs, PostS.on he hp fun x S1 v r1 H1 e1 s1 q1 z => ?_⟩
  cases x with
  | fr o => exact z.elim
  | va d =>
    dsimp only at z
    cases eb : t.bind d env with
    | none => rw [eb] at z; exact z.elim
    | some env' =>
      rw [eb] at z
      exact T.run cA fN r1 H1 σ env env' v d _ (he.ext e1) q1 eb fun σ' q _ => z σ' r1 H1 e1 q s1
theorem s_asg {tg : Expr} {t : Tg} {g : TG} (T : TgOk X t g) (h : PE X e (TI (GX X cA fN) W m)) (hg : PG X tg g) (hs : swapsWithSole [tg] e pos.line X.env = pure false := by rfl) (hw : swappedStores [tg] e X.env = pure none := by rfl)
    (h1 : (assignEach [tg] X.env).map (·.2) = [assign tg X.env] := by rfl) : PS X (.Assign [tg] e pos) (TSI (GX X cA fN) W (sAsg t m)) := (ps_asg h hg hs hw h1).mono fun _ _ _ h => asg_of T h
theorem s_set (i : Nat) {x : Str} {pos' : Pos} (hN : X.N.Nodup) (h : PE X e (TI (GX X cA fN) W m)) (hi : X.N[i]? = some x := by rfl) (hx : Loc X.env.scope x := by first | exact Or.inl rfl | exact Or.inr rfl) (hs : swapsWith e (some (.Name x pos')) pos.line X.env = pure false := by rfl) (hf : X.fn x = true ∨ X.env.scope.names.lookup x = some .local := by first | exact .inl rfl | exact .inr rfl | assumption) :
    PS X (.Assign [.Name x pos'] e pos) (TSI (GX X cA fN) W (sAsg (.name i) m)) := (ps_set hN hi hx h hs hf).mono fun _ _ _ h => asg_of (tg_name i) h
theorem g_name (i : Nat) {x : Str} (hN : X.N.Nodup) (hi : X.N[i]? = some x := by rfl) (hx : Loc X.env.scope x := by first | exact Or.inl rfl | exact Or.inr rfl) (hf : X.fn x = true ∨ X.env.scope.names.lookup x = some .local := by first | exact .inl rfl | exact .inr rfl | assumption) : PG X (.Name x pos) (gName i) := pg_name hN hi hx hf
theorem s_aug (i : Nat) {x : Str} {op : Operator} {ro : R2} {f : Prim} {pos' : Pos} (hN : X.N.Nodup) (ho : PIp X op ro) (P : PrimOk (GX X cA fN) (L22 ro) f) (h : PE X e (TI (GX X cA fN) W m)) (hi : X.N[i]? = some x := by rfl) (hx : Loc X.env.scope x := by first | exact Or.inl rfl | exact Or.inr rfl)
    (hf : X.fn x = true ∨ X.env.scope.names.lookup x = some .local := by first | exact .inl rfl | exact .inr rfl | assumption) : PS X (.AugAssign (.Name x pos') op e pos) (TSI (GX X cA fN) W (sAug i f m)) := (ps_aug hN hi hx h ho hf).mono fun D σ H h => by
  obtain ⟨r, S, env, he, hs, hp⟩ := h
  unfold sAug at hp
  cases e1 : env[i]? with
  | none => rw [e1] at hp; exact hp.elim
  | some o =>
    cases o with
    | none => rw [e1] at hp; exact hp.elim
    | some d =>
      rw [e1] at hp
      obtain ⟨v, h1, h2⟩ := he.at_ i d e1
      refine ⟨v, h1, r, S, env, he, hs, PostS.on he hp fun y S1 w r1 H1 e1 s1 q1 z => ?_⟩
      cases ef : f S1 [.va d, y] with
      | none => rw [ef] at z; exact z.elim
      | some p =>
        obtain ⟨z', S2⟩ := p
        rw [ef] at z
        obtain ⟨_, _, ee, k⟩ := P r1 H H1 S1 S2 [.va d, y] z' [v, w] (fun x H2 => D.nx (σ.set i (some x)) H2) s1 (fun _ => e1.back) (.cons (Rep.ext e1 h2) (.cons q1 .nil)) ef fun u r2 H2 e2 s2 q2 => by
          obtain ⟨r', e', s', q'⟩ := own_ok (e1.trans e2) s2 q2
          exact z (σ.set i (some u)) r' H2 e' ((he.ext e').set q') s'
        cases ee
        exact k
end

/-! ### what a loop walks -/
inductive Src where
  | fix (ds : List D)
  | live (n : Nat) (len : Nat)
  | gen (g : Nat → Sto → Option (Option D)) (len : Nat)
def Src.get : Src → Nat → Sto → Option (Option D)
  | .fix ds, i, _ => some ds[i]?
  | .live n _, i, S => match S[n]? with
    | some (.lst ds) => some ds[i]?
    | _ => none
  | .gen g _, i, S => g i S
def Src.len : Src → Nat
  | .fix ds => ds.length
  | .live _ l => l
  | .gen _ l => l
abbrev IX := Env → Sto → Rs Src
/-- an iterator gives what the source tells, as long as what is not the store's own stands -/
def JOk (G : Cfg) (r0 : List Addr) (H0 : Hp) (J : It) (src : Src) : Prop :=
  ∀ (r : List Addr) (H : Hp) (S : Sto) (i : Nat), Ext r0 H0 r H → Sim G r H S →
    (∀ d, src.get i S = some (some d) → J.go i H ∧ ∀ x H', J.yld i H x H' → Ext r H r H' ∧ Sim G r H' S ∧ Rep G r H' x d) ∧ (src.get i S = some none → J.stop i H)
def TII (G : Cfg) (W : WX) (m : IX) : L2.TI := fun σ H R => ∃ r S env, EnvR G r H σ env ∧ Sim G r H S ∧ Post G W σ r H (fun r' H' J src => JOk G r' H' J src) R (m env S)
theorem _root_.L2.PI.mono {X : Cx} {tg it : Expr} {t t' : L2.TI} (h : PI X tg it t) (k : ∀ σ H Q, t' σ H Q → t σ H Q) : PI X tg it t' := ⟨fun pins s σ H Q I q => h.run pins s σ H Q I (k σ H Q q)⟩

/-- the turns of a for: ks, the slots that no later turn asks -/
def forGo (src : Src) (t : Tg) (body : SM) (ks : List Nat) : Nat → Nat → Env → Sto → SR
  | 0, _, _, _ => .bad
  | f + 1, i, env, S => match src.get i S with
    | none => .bad
    | some none => .nx env S
    | some (some d) => match t.bind d env with
      | none => .bad
      | some env' => match body env' S with
        | .nx e' S' => forGo src t body ks f (i + 1) (kill ks e') S'
        | .ct e' S' => forGo src t body ks f (i + 1) (kill ks e') S'
        | .brk e' S' => .nx (kill ks e') S'
        | m => m
def sFor (it : IX) (t : Tg) (body : SM) (ks : List Nat) : SM := fun env S => (it env S).on env fun src S1 => forGo src t body ks (src.len + 1) 0 (kill ks env) S1
/-- a while: as many turns as it takes -/
def whileGo (c : BX) (body : SM) (ks : List Nat) : Nat → Env → Sto → SR
  | 0, _, _ => .bad
  | f + 1, env, S => (c env S).on env fun b S1 => if b = true then (match body env S1 with
      | .nx e' S' => whileGo c body ks f (kill ks e') S'
      | .ct e' S' => whileGo c body ks f (kill ks e') S'
      | .brk e' S' => .nx (kill ks e') S'
      | m => m) else .nx env S1
open Classical in
noncomputable def sWhile (c : BX) (body : SM) (ks : List Nat) : SM := fun env S => if h : ∃ n, whileGo c body ks n (kill ks env) S ≠ .bad then whileGo c body ks h.choose (kill ks env) S else .bad
section
variable {X : Cx} {cA : Nat → Addr} {fN : Nat → List Str} {W : WX} {pos : Pos}
theorem s_for {iter tg : Expr} {body : List Stmt} {it : IX} {t : Tg} {g : TG} {sm : SM} (ks : List Nat) (hp : PassesOwn (model X.prog X.w) X.A X.env X.xe) (hc : X.calm = true) (T : TgOk X t g) (hi : PI X tg iter (TII (GX X cA fN) W it)) (hg : PG X tg g)
    (hb : PSs X body (TSI (GX X cA fN) W sm)) (hs : ∀ x, foldedSetIterable iter X.env x = pure x := by intro _; rfl) : PS X (.For tg iter body [] pos) (TSI (GX X cA fN) W (sFor it t sm ks)) := (ps_for hp hc hi hg hb hs).mono fun D σ H h => by
  obtain ⟨r, S, env, he, hs, hp⟩ := h
  refine ⟨r, S, env, he, hs, PostS.on he hp fun src S1 J r1 H1 e1 s1 q1 z => ?_⟩
  refine ⟨fun i m σ2 H2 => ∃ r2 S2 env2, Ext r1 H1 r2 H2 ∧ EnvR (GX X cA fN) r2 H2 σ2 env2 ∧ Sim (GX X cA fN) r2 H2 S2 ∧ PostS (GX X cA fN) W D r2 H2 (forGo src t sm ks m i env2 S2), ⟨src.len + 1, r1, S1, kill ks env, Ext.refl _ _, (he.ext e1).kill ks, s1, z.shift e1⟩, ?_⟩
  rintro i m σ2 H2 ⟨r2, S2, env2, x2, he2, s2, z2⟩
  cases m with
  | zero => exact z2.elim
  | succ f =>
    unfold forGo at z2
    obtain ⟨g1, g2⟩ := q1 r2 H2 S2 i x2 s2
    cases eg : src.get i S2 with
    | none => rw [eg] at z2; exact z2.elim
    | some od =>
      cases od with
      | none =>
        rw [eg] at z2
        exact .inl ⟨g2 eg, z2 σ2 r2 H2 (Ext.refl _ _) he2 s2⟩
      | some d =>
        rw [eg] at z2
        dsimp only at z2
        obtain ⟨go, yl⟩ := g1 d eg
        refine .inr ⟨go, fun σ' H' => ∃ r' S' env', Ext r1 H1 r' H' ∧ EnvR (GX X cA fN) r' H' σ' env' ∧ Sim (GX X cA fN) r' H' S' ∧ PostS (GX X cA fN) W D r' H' (forGo src t sm ks f (i + 1) env' S'), fun σ' H' q => ⟨f, Nat.lt_succ_self f, q⟩, fun x H3 y => ?_⟩
        obtain ⟨x3, s3, q3⟩ := yl x H3 y
        cases eb : t.bind d env2 with
        | none => rw [eb] at z2; exact z2.elim
        | some env3 =>
          rw [eb] at z2
          dsimp only at z2
          refine T.run cA fN r2 H3 σ2 env2 env3 x d _ (he2.ext x3) q3 eb fun σ3 he3 _ => ⟨r2, S2, env3, he3, s3, ?_⟩
          cases em : sm env3 S2 with
          | nx e' S' =>
            rw [em] at z2
            exact fun σ' r' H' e4 he4 s4 => ⟨r', S', kill ks e', x2.trans (x3.trans e4), he4.kill ks, s4, z2.shift (x3.trans e4)⟩
          | ct e' S' =>
            rw [em] at z2
            exact fun σ' r' H' e4 he4 s4 => ⟨r', S', kill ks e', x2.trans (x3.trans e4), he4.kill ks, s4, z2.shift (x3.trans e4)⟩
          | brk e' S' =>
            rw [em] at z2
            exact fun σ' r' H' e4 he4 s4 => z2 σ' r' H' (x3.trans e4) (he4.kill ks) s4
          | ret v S' =>
            rw [em] at z2
            exact fun v r' H' e4 s4 q4 => z2 v r' H' (x3.trans e4) s4 (q4.from fun _ => x3.back)
          | err e' c ds S' =>
            rw [em] at z2
            exact fun cls oe σ' r' H' e4 he4 s4 q4 => z2 cls oe σ' r' H' (x3.trans e4) he4 s4 q4
          | bad => rw [em] at z2; exact z2
theorem s_while {x : Expr} {body : List Stmt} {c : BX} {sm : SM} (ks : List Nat) (hp : PassesOwn (model X.prog X.w) X.A X.env X.xe) (hc : PT X x (TTI (GX X cA fN) W c)) (hb : PSs X body (TSI (GX X cA fN) W sm)) : PS X (.While x body [] pos) (TSI (GX X cA fN) W (sWhile c sm ks)) := (ps_while hp hc hb).mono fun D σ H h => by
  obtain ⟨r, S, env, he, hs, hp⟩ := h
  unfold sWhile at hp
  split at hp
  · rename_i hn
    revert hp
    generalize hn.choose = n0
    intro hp
    refine ⟨fun m σ2 H2 => ∃ r2 S2 env2, EnvR (GX X cA fN) r2 H2 σ2 env2 ∧ Sim (GX X cA fN) r2 H2 S2 ∧ PostS (GX X cA fN) W D r2 H2 (whileGo c sm ks m env2 S2), ⟨n0, r, S, kill ks env, he.kill ks, hs, hp⟩, ?_⟩
    rintro m σ2 H2 ⟨r2, S2, env2, he2, s2, z2⟩
    cases m with
    | zero => exact z2.elim
    | succ f =>
      unfold whileGo at z2
      refine ⟨r2, S2, env2, he2, s2, PostS.on he2 z2 fun b S3 v r3 H3 e3 s3 q3 z => ?_⟩
      subst q3
      cases v with
      | false => exact z σ2 r3 H3 e3 (he2.ext e3) s3
      | true =>
        simp only [if_true] at z ⊢
        refine ⟨fun σ' H' => ∃ r' S' env', EnvR (GX X cA fN) r' H' σ' env' ∧ Sim (GX X cA fN) r' H' S' ∧ PostS (GX X cA fN) W D r' H' (whileGo c sm ks f env' S'), fun σ' H' q => ⟨f, Nat.lt_succ_self f, q⟩, r3, S3, env2, he2.ext e3, s3, ?_⟩
        cases em : sm env2 S3 with
        | nx e' S' =>
          rw [em] at z
          exact fun σ' r' H' e4 he4 s4 => ⟨r', S', kill ks e', he4.kill ks, s4, z.shift (e3.trans e4)⟩
        | ct e' S' =>
          rw [em] at z
          exact fun σ' r' H' e4 he4 s4 => ⟨r', S', kill ks e', he4.kill ks, s4, z.shift (e3.trans e4)⟩
        | brk e' S' =>
          rw [em] at z
          exact fun σ' r' H' e4 he4 s4 => z σ' r' H' (e3.trans e4) (he4.kill ks) s4
        | ret v S' =>
          rw [em] at z
          exact fun v r' H' e4 s4 q4 => z v r' H' (e3.trans e4) s4 (q4.from fun _ => e3.back)
        | err e' c ds S' =>
          rw [em] at z
          exact fun cls oe σ' r' H' e4 he4 s4 q4 => z cls oe σ' r' H' (e3.trans e4) he4 s4 q4
        | bad => rw [em] at z; exact z
  · exact hp.elim
end
end Cy

set_option Elab.async false
set_option linter.all false
set_option maxRecDepth 100000
set_option maxHeartbeats 2000000
set_option autoImplicit false
/-! Comprehensions, what loops walk, defs and their calls by the mirror. -/
namespace Cy
open PySem L2
abbrev W0 : WX := fun _ _ _ _ => False

/-! ### a list that is being made beside the store -/
section
variable {G : Cfg} {r : List Addr} {H : Hp}
mutual
theorem Rep.poke {p : Addr} {o u : HO} (hp : H p = some o) (mu : Mut (some o)) : ∀ {v : V} {d : D}, Rep G r H v d → Rep G r (upd H p u) v d
  | _, _, .non => .non
  | _, _, .bl b => .bl b
  | _, _, .int i => .int i
  | _, _, .str x => .str x
  | _, _, .tup (a := a) h na q => .tup (by
      have hne : a ≠ p := fun e => by
        subst e
        rcases h with h | ⟨w, h⟩
        · rw [hp] at h; cases h; exact mu
        · rw [hp] at h; cases h; exact mu
      rcases h with h | ⟨w, h⟩
      · exact .inl (by rw [upd_ne hne]; exact h)
      · exact .inr ⟨w, by rw [upd_ne hne]; exact h⟩) na (Reps.poke hp mu q)
  | _, _, .scr (a := a) h => .scr (h.elim (fun ⟨⟨w, h⟩, na⟩ => .inl ⟨⟨w, by
      have hne : a ≠ p := fun e => by
        subst e
        rw [hp] at h; cases h; exact mu
      rw [upd_ne hne]; exact h⟩, na⟩) .inr)
  | _, _, .ref h => .ref h
theorem Reps.poke {p : Addr} {o u : HO} (hp : H p = some o) (mu : Mut (some o)) : ∀ {vs : List V} {ds : List D}, Reps G r H vs ds → Reps G r (upd H p u) vs ds
  | _, _, .nil => .nil
  | _, _, .cons h t => .cons (Rep.poke hp mu h) (Reps.poke hp mu t)
end
theorem ObAt.poke {p a : Addr} {o u : HO} {ob : Ob} (hp : H p = some o) (mu : Mut (some o)) (ne : a ≠ p) (h : ObAt G r H a ob) : ObAt G r (upd H p u) a ob := by
  cases ob with
  | lst ds => obtain ⟨vs, h, q⟩ := h; exact ⟨vs, by rw [upd_ne ne]; exact h, q.poke hp mu⟩
  | dct kvs =>
    obtain ⟨ws, h, q, p, n⟩ := h
    exact ⟨ws, by rw [upd_ne ne]; exact h, q, p.poke hp mu, n⟩
  | ins c ds => obtain ⟨dx, fs, h, q, p⟩ := h; exact ⟨dx, fs, by rw [upd_ne ne]; exact h, q, p.poke hp mu⟩
theorem Sim.poke {p : Addr} {o u : HO} {S : Sto} (hp : H p = some o) (mu : Mut (some o)) (np : p ∉ r) (s : Sim G r H S) : Sim G r (upd H p u) S :=
  ⟨s.len, s.nd, fun n a ob h1 h2 => (s.at_ n a ob h1 h2).poke hp mu fun e => np (by rw [← e]; exact List.mem_of_getElem? h1)⟩
theorem EnvR.poke {p : Addr} {o u : HO} {σ : L2.St} {env : Env} (hp : H p = some o) (mu : Mut (some o)) (h : EnvR G r H σ env) : EnvR G r (upd H p u) σ env :=
  ⟨h.len, fun i d q => let ⟨v, a, b⟩ := h.at_ i d q; ⟨v, a, b.poke hp mu⟩⟩
/-- from before the list was made -/
theorem Ext.poke {r0 : List Addr} {H0 : Hp} {p : Addr} {u : HO} (e : Ext r0 H0 r H) (h0 : H0 p = none) : Ext r0 H0 r (upd H p u) := by
  refine ⟨e.pre, fun a w h n => ?_, fun a w h => ?_⟩
  · obtain ⟨k1, k2⟩ := e.keep a w h n
    exact ⟨by rw [upd_ne (ne_of_none h h0)]; exact k1, k2⟩
  · obtain ⟨w', k⟩ := e.there a w h
    exact ⟨w', by rw [upd_ne (ne_of_none h h0)]; exact k⟩
end
def lcGo (src : Src) (t : Tg) (c : BX) (m : EX) : Nat → Nat → Env → Sto → List D → Rs Rv
  | 0, _, _, _, _ => .bad
  | f + 1, i, env, S, acc => match src.get i S with
    | none => .bad
    | some none => .ok (.fr (.lst acc)) S
    | some (some d) => match t.bind d env with
      | none => .bad
      | some env' => match c env' S with
        | .ok true S1 => match eTo m env' S1 with
          | .ok (.va y) S2 => if acc.length < sizeLine then lcGo src t c m f (i + 1) env S2 (acc ++ [y]) else .bad
          | _ => .bad
        | .ok false S1 => lcGo src t c m f (i + 1) env S1 acc
        | _ => .bad
def bYes : BX := fun _ S => .ok true S
def eLc (it : IX) (t : Tg) (own : List Nat) (c : BX) (m : EX) : EX := fun env S => (it env S).bind fun src S1 => lcGo src t c m (src.len + 1) 0 (kill own env) S1 []
section
variable {X : Cx} {cA : Nat → Addr} {fN : Nat → List Str} {W : WX} {pos : Pos}
theorem cs_nil {Y : Cx} : PTs Y [] (TTI (GX X cA fN) W0 bYes) := ⟨fun pins s σ H Q I h => pts_nil.run pins s σ H Q I (by
  obtain ⟨r, S, env, he, hs, hp⟩ := h
  exact hp true r H (Ext.refl r H) hs rfl)⟩
theorem lc_of {it : IX} {t : Tg} {g : TG} {us : List Nat} {c : BX} {m : EX} (T : TgOk X t g) (hu : ∀ i ∈ t.slots, i ∈ us) {σ : L2.St} {H : Hp} {Q : VK} (h : TI (GX X cA fN) W (eLc it t us c m) σ H Q) :
    tLc (TII (GX X cA fN) W it) g (TTI (GX X cA fN) W0 c) (TI (GX X cA fN) W0 m) us σ H Q := by
  obtain ⟨r, S, env, he, hs, hp⟩ := h
  refine ⟨r, S, env, he, hs, Post.bind hp fun src S1 J r1 H1 e1 s1 q1 z => ?_⟩
  intro Dl hD
  refine ⟨fun i f H2 => ∃ r2 S2 acc vs, Ext r1 H1 r2 H2 ∧ Sim (GX X cA fN) r2 H2 S2 ∧ H2 Dl = some (.lst vs) ∧ Dl ∉ r2 ∧ Reps (GX X cA fN) r2 H2 vs acc ∧ Post (GX X cA fN) W σ r H (RV (GX X cA fN) H) Q (lcGo src t c m f i (kill us env) S2 acc), ⟨src.len + 1, r1, S1, [], [], Ext.new hD, ?_, upd_same, ?_, .nil, z⟩, ?_⟩
  · exact s1.stays (fun a o h => by rw [upd_ne (ne_of_none h hD)]; exact h) (Ext.new hD)
  · intro hm
    obtain ⟨n, hn⟩ := List.mem_iff_getElem?.mp hm
    have hl : n < S1.length := by rw [← s1.len]; exact (List.getElem?_eq_some_iff.mp hn).1
    obtain ⟨u, hu, _⟩ := (s1.at_ n Dl _ hn (List.getElem?_eq_getElem hl)).mut
    rw [hD] at hu
    cases hu
  rintro i f H2 ⟨r2, S2, acc, vs, x2, s2, hD2, nD2, ra, z2⟩
  have hew : EnvR (GX X cA fN) r2 H2 (wipe σ us) (kill us env) := kill_wipe (he.ext (e1.trans x2)) us
  cases f with
  | zero => exact z2.elim
  | succ f =>
    unfold lcGo at z2
    obtain ⟨g1, g2⟩ := q1 r2 H2 S2 i x2 s2
    cases eg : src.get i S2 with
    | none => rw [eg] at z2; exact z2.elim
    | some od =>
      cases od with
      | none =>
        rw [eg] at z2
        exact .inl ⟨g2 eg, z2 (.ref Dl) r2 H2 (e1.trans x2) s2 ⟨Dl, rfl, e1.back hD, nD2, vs, hD2, ra⟩⟩
      | some d =>
        rw [eg] at z2
        dsimp only at z2
        obtain ⟨go, yl⟩ := g1 d eg
        refine .inr ⟨go, fun H' => ∃ r' S' acc vs, Ext r1 H1 r' H' ∧ Sim (GX X cA fN) r' H' S' ∧ H' Dl = some (.lst vs) ∧ Dl ∉ r' ∧ Reps (GX X cA fN) r' H' vs acc ∧ Post (GX X cA fN) W σ r H (RV (GX X cA fN) H) Q (lcGo src t c m f (i + 1) (kill us env) S' acc), fun H' q => ⟨f, Nat.lt_succ_self f, q⟩, fun x H3 y => ?_⟩
        obtain ⟨x3, s3, q3⟩ := yl x H3 y
        cases eb : t.bind d (kill us env) with
        | none => rw [eb] at z2; exact z2.elim
        | some env3 =>
          rw [eb] at z2
          dsimp only at z2
          refine T.run cA fN r2 H3 (wipe σ us) (kill us env) env3 x d _ (hew.ext x3) q3 eb fun σ3 he3 hw => ⟨(hw us hu).trans (wipe_wipe σ us), r2, S2, env3, he3, s3, ?_⟩
          cases ec : c env3 S2 with
          | err c ds S' => rw [ec] at z2; exact z2.elim
          | bad => rw [ec] at z2; exact z2.elim
          | ok b S4 =>
            rw [ec] at z2
            intro b' r4 H4 e4 s4 hb
            subst hb
            have x4 := x3.trans e4
            cases b' with
            | false =>
              simp only [Bool.false_eq_true, if_false]
              dsimp only at z2
              exact ⟨r4, S4, acc, vs, x2.trans x4, s4, (x4.keep _ _ hD2 nD2).1, (x4.keep _ _ hD2 nD2).2, ra.ext x4, z2⟩
            | true =>
              simp only [if_true]
              dsimp only at z2
              refine TI.to ⟨r4, S4, env3, he3.ext e4, s4, ?_⟩
              cases em : eTo m env3 S4 with
              | err c ds S' => rw [em] at z2; exact z2.elim
              | bad => rw [em] at z2; exact z2.elim
              | ok yv S5 =>
                rw [em] at z2
                cases yv with
                | fr o => exact z2.elim
                | va yd =>
                  dsimp only at z2
                  intro y' r5 H5 e5 s5 q5
                  have x5 := x4.trans e5
                  have k := x5.keep _ _ hD2 nD2
                  by_cases hz : acc.length < sizeLine
                  · rw [if_pos hz] at z2
                    have ra5 := ra.ext x5
                    refine ⟨vs, k.1, by rw [ra5.length]; exact hz, r5, S5, acc ++ [yd], vs ++ [y'], (x2.trans x5).poke hD, s5.poke k.1 trivial k.2, upd_same, k.2, (ra5.append (.cons q5 .nil)).poke k.1 trivial, z2⟩
                  · rw [if_neg hz] at z2
                    exact z2.elim
theorem i_lc {elt tg iter : Expr} {ifs : List Expr} {scope : Scope} {own : List (Str × Nat)} {it : IX} {t : Tg} {g : TG} {c : BX} {m : EX} (T : TgOk X t g) (hu : ∀ i ∈ t.slots, i ∈ own.map (·.2)) (hc : X.calm = true) (hN : X.N.Nodup)
    (hi : PI X tg iter (TII (GX X cA fN) W it)) (ok : BlkOk X.N X.env.scope scope own)
    (hg : ∀ (s : Shared) (H : Hp) (C : Addr) (cl : List (Str × Addr)) (fp : List Addr), PG (X.blk s H scope (compEnvC scope cl C X.env) fp) tg g)
    (ht : ∀ (s : Shared) (H : Hp) (C : Addr) (cl : List (Str × Addr)) (fp : List Addr), PTs (X.blk s H scope (compEnvC scope cl C X.env) fp) ifs (TTI (GX X cA fN) W0 c))
    (he : ∀ (s : Shared) (H : Hp) (C : Addr) (cl : List (Str × Addr)) (fp : List Addr), PE (X.blk s H scope (compEnvC scope cl C X.env) fp) elt (TI (GX X cA fN) W0 m)) (hs : ∀ x, foldedSetIterable iter X.env x = pure x := by intro _; rfl) :
    PE X (.ListComp elt [⟨tg, iter, ifs, 0⟩] scope pos) (TI (GX X cA fN) W (eLc it t (own.map (·.2)) c m)) := (pe_lc hc hN hi ok hg ht he hs).mono fun _ _ _ h => lc_of T hu h
theorem s_setLc {i : Nat} {y : Str} {py : Pos} {spos : Pos} {elt tg iter : Expr} {ifs : List Expr} {scope : Scope} {own : List (Str × Nat)} {it : IX} {t : Tg} {g : TG} {c : BX} {m : EX} (T : TgOk X t g) (hu : ∀ i ∈ t.slots, i ∈ own.map (·.2)) (hc : X.calm = true) (hN : X.N.Nodup)
    (hy : X.N[i]? = some y) (hyl : X.env.scope.names.lookup y = some .local) (hsw : swapsWith (.ListComp elt [⟨tg, iter, ifs, 0⟩] scope pos) (some (.Name y py)) spos.line X.env = pure true)
    (hi : PI X tg iter (TII (GX X cA fN) W it)) (ok : BlkOk X.N X.env.scope scope own)
    (hg : ∀ (s : Shared) (H : Hp) (C : Addr) (cl : List (Str × Addr)) (fp : List Addr), PG (X.blk s H scope (compEnvC scope cl C X.env) fp) tg g)
    (ht : ∀ (s : Shared) (H : Hp) (C : Addr) (cl : List (Str × Addr)) (fp : List Addr), PTs (X.blk s H scope (compEnvC scope cl C X.env) fp) ifs (TTI (GX X cA fN) W0 c))
    (he : ∀ (s : Shared) (H : Hp) (C : Addr) (cl : List (Str × Addr)) (fp : List Addr), PE (X.blk s H scope (compEnvC scope cl C X.env) fp) elt (TI (GX X cA fN) W0 m)) (hs : ∀ x, foldedSetIterable iter X.env x = pure x := by intro _; rfl) :
    PS X (.Assign [.Name y py] (.ListComp elt [⟨tg, iter, ifs, 0⟩] scope pos) spos) (TSI (GX X cA fN) W (sAsg (.name i) (eLc it t (own.map (·.2)) c m))) := (ps_setLc hc hN hy hyl hsw hi ok hg ht he hs).mono fun D σ H h => by
  have h1 := asg_of (tg_name (X := X) i) h
  exact lc_of T hu h1

/-! ### what is walked -/
theorem sq_lst {G : Cfg} {r : List Addr} {H : Hp} {a : Addr} {ds : List D} (h : ObAt G r H a (.lst ds)) : ∃ vs, H a = some (.lst vs) ∧ Reps G r H vs ds := h
def ixL (m : EX) : IX := fun env S => (m env S).bind fun x S1 => match x with
  | .va (.ref n) => match S1[n]? with
    | some (.lst ds) => .ok (.live n ds.length) S1
    | _ => .bad
  | .fr (.lst ds) => .ok (.fix ds) S1
  | .va (.scr ns) => .ok (.fix (ns.map .int)) S1
  | _ => .bad
theorem jok_fix {G : Cfg} {r0 : List Addr} {H0 : Hp} {a : Addr} {vs : List V} {ds : List D} (q : Reps G r0 H0 vs ds) (st : ∀ r H, Ext r0 H0 r H → SqL G.K H a vs) : JOk G r0 H0 (Itl G.K a) (.fix ds) := by
  intro r H S i e s
  have h1 := st r H e
  have q' := q.ext e
  refine ⟨fun d hd => ?_, fun hd => ?_⟩
  · have hd' : ds[i]? = some d := Option.some.inj hd
    obtain ⟨v, hv, rv⟩ := q'.get hd'
    refine ⟨⟨vs, v, h1, hv⟩, fun x H' y => ?_⟩
    obtain ⟨rfl, y⟩ := y
    have := y vs h1
    rw [hv] at this
    cases this
    exact ⟨Ext.refl _ _, s, rv⟩
  · have hd' : ds[i]? = none := Option.some.inj hd
    exact ⟨vs, h1, by rw [q'.length]; exact List.getElem?_eq_none_iff.mp hd'⟩
theorem jok_live {G : Cfg} {r0 : List Addr} {H0 : Hp} {a : Addr} {n l : Nat} (ha : r0[n]? = some a) : JOk G r0 H0 (Itl G.K a) (.live n l) := by
  intro r H S i e s
  have ha' := e.at_ ha
  have key : ∀ od, Src.get (.live n l) i S = some od → ∃ ds vs, S[n]? = some (.lst ds) ∧ od = ds[i]? ∧ H a = some (.lst vs) ∧ Reps G r H vs ds := fun od h => by
    have h : (match S[n]? with | some (.lst ds) => some ds[i]? | _ => none) = some od := h
    cases e1 : S[n]? with
    | none => rw [e1] at h; cases h
    | some o =>
      rw [e1] at h
      cases o with
      | lst ds =>
        obtain ⟨vs, h1, h2⟩ := s.at_ n a _ ha' e1
        exact ⟨ds, vs, rfl, (Option.some.inj h).symm, h1, h2⟩
      | dct kvs => cases h
      | ins c ds => cases h
  refine ⟨fun d hd => ?_, fun hd => ?_⟩
  · obtain ⟨ds, vs, h1, h2, h3, h4⟩ := key _ hd
    obtain ⟨v, hv, rv⟩ := h4.get h2.symm
    refine ⟨⟨vs, v, SqL.of h3, hv⟩, fun x H' y => ?_⟩
    obtain ⟨rfl, y⟩ := y
    have := y vs (SqL.of h3)
    rw [hv] at this
    cases this
    exact ⟨Ext.refl _ _, s, rv⟩
  · obtain ⟨ds, vs, h1, h2, h3, h4⟩ := key _ hd
    exact ⟨vs, SqL.of h3, by rw [h4.length]; exact List.getElem?_eq_none_iff.mp h2.symm⟩
variable {iter tg : Expr} {m : EX}
theorem x_list (h : PE X iter (TI (GX X cA fN) W m)) : PI X tg iter (TII (GX X cA fN) W (ixL m)) := (pi_list h).mono fun σ H R h => by
  obtain ⟨r, S, env, he, hs, hp⟩ := h
  refine ⟨r, S, env, he, hs, Post.bind hp fun x S1 v r1 H1 e1 s1 q1 z => ?_⟩
  cases x with
  | fr o =>
    cases o with
    | lst ds =>
      obtain ⟨a, rfl, _, na, vs, hv, rv⟩ := q1
      refine ⟨a, rfl, ⟨vs, SqL.of hv⟩, z (Itl X.K a) r1 H1 e1 s1 (jok_fix (vs := vs) rv fun r2 H2 e2 => ?_)⟩
      exact SqL.of (e2.keep _ _ hv na).1
    | dct kvs => exact z.elim
    | ins c ds => exact z.elim
  | va d =>
    cases d with
    | ref n =>
      dsimp only at z
      cases e2 : S1[n]? with
      | none => rw [e2] at z; exact z.elim
      | some o =>
        rw [e2] at z
        cases o with
        | lst ds =>
          obtain ⟨a, rfl, ha, vs, hv, rv⟩ := s1.get q1 e2
          exact ⟨a, rfl, ⟨vs, SqL.of hv⟩, z (Itl X.K a) r1 H1 e1 s1 (jok_live ha)⟩
        | dct kvs => exact z.elim
        | ins c ds => exact z.elim
    | scr ns =>
      cases q1 with
      | scr h =>
        rename_i a
        have hq : ∀ r2 H2, Ext r1 H1 r2 H2 → SqL X.K H2 a (ns.map V.int) := fun r2 H2 e2 => by
          rcases h with ⟨⟨o, h⟩, na⟩ | h
          · exact .inl (.inr ⟨o, (e2.keep _ _ h na).1⟩)
          · exact h H2
        exact ⟨a, rfl, ⟨_, hq r1 H1 (Ext.refl _ _)⟩, z (Itl X.K a) r1 H1 e1 s1 (jok_fix (vs := ns.map V.int) (Reps.ints ns) hq)⟩
    | _ => exact z.elim
def ixT (m : EX) : IX := fun env S => (m env S).bind fun x S1 => match x with
  | .va (.tup ds) => .ok (.fix ds) S1
  | _ => .bad
theorem x_tup (h : PE X iter (TI (GX X cA fN) W m)) : PI X tg iter (TII (GX X cA fN) W (ixT m)) := (pi_tup h).mono fun σ H R h => by
  obtain ⟨r, S, env, he, hs, hp⟩ := h
  refine ⟨r, S, env, he, hs, Post.bind hp fun x S1 v r1 H1 e1 s1 q1 z => ?_⟩
  cases x with
  | fr o => exact z.elim
  | va d =>
    cases d with
    | tup ds =>
      cases q1 with
      | tup h na q =>
        rename_i a vs
        refine ⟨a, rfl, ⟨vs, .inl h⟩, z (Itt X.K a) r1 H1 e1 s1 fun r H S i e s => ?_⟩
        have h1 : SqT X.K H a vs := .inl (Rd.ext e h na).1
        have q' := q.ext e
        refine ⟨fun d hd => ?_, fun hd => ?_⟩
        · have hd' : ds[i]? = some d := Option.some.inj hd
          obtain ⟨v, hv, rv⟩ := q'.get hd'
          refine ⟨⟨vs, v, h1, hv⟩, fun x H' y => ?_⟩
          obtain ⟨rfl, y⟩ := y
          have := y vs h1
          rw [hv] at this
          cases this
          exact ⟨Ext.refl _ _, s, rv⟩
        · have hd' : ds[i]? = none := Option.some.inj hd
          exact ⟨vs, h1, by rw [q'.length]; exact List.getElem?_eq_none_iff.mp hd'⟩
    | _ => exact z.elim
def signs (x : Str) : List D := x.cps.toList.map fun c => .str ⟨#[c]⟩
def ixS (m : EX) : IX := fun env S => (m env S).bind fun x S1 => match x with
  | .va (.str z) => .ok (.fix (signs z)) S1
  | _ => .bad
theorem x_str (h : PE X iter (TI (GX X cA fN) W m)) : PI X tg iter (TII (GX X cA fN) W (ixS m)) := (pi_str h).mono fun σ H R h => by
  obtain ⟨r, S, env, he, hs, hp⟩ := h
  refine ⟨r, S, env, he, hs, Post.bind hp fun x S1 v r1 H1 e1 s1 q1 z => ?_⟩
  cases x with
  | fr o => exact z.elim
  | va d =>
    cases d with
    | str w =>
      cases q1
      refine ⟨w, rfl, z (Its w) r1 H1 e1 s1 fun r H S i e s => ⟨fun d hd => ?_, fun hd => ?_⟩⟩
      · have hd' : (signs w)[i]? = some d := Option.some.inj hd
        unfold signs at hd'
        rw [List.getElem?_map] at hd'
        cases ec : w.cps.toList[i]? with
        | none => rw [ec] at hd'; cases hd'
        | some c =>
          rw [ec] at hd'
          cases hd'
          have hi : i < w.cps.size := by simpa using (List.getElem?_eq_some_iff.mp ec).1
          refine ⟨hi, fun x H' y => ?_⟩
          obtain ⟨rfl, c', hc, rfl⟩ := y
          have : c' = c := by
            rw [Array.getElem?_toList] at ec
            rw [hc] at ec
            exact Option.some.inj ec
          subst this
          exact ⟨Ext.refl _ _, s, .str _⟩
      · have hd' : (signs w)[i]? = none := Option.some.inj hd
        have := List.getElem?_eq_none_iff.mp hd'
        unfold signs at this
        show w.cps.size ≤ i
        simpa using this
    | _ => exact z.elim
def rangeD (lo hi : Int) : List D := (List.range (hi - lo).toNat).map fun (i : Nat) => .int (lo + (i : Int))
def small62 (i : Int) : Bool := decide (i.natAbs < 4611686018427387904)
theorem small62_ok {i : Int} (h : small62 i = true) : -(2 ^ 62) ≤ i ∧ i < 2 ^ 62 := by
  have h' : i.natAbs < 4611686018427387904 := of_decide_eq_true h
  omega
theorem jok_range {G : Cfg} {r0 : List Addr} {H0 : Hp} (lo hi : Int) : JOk G r0 H0 (Itr lo (hi - lo).toNat) (.fix (rangeD lo hi)) := by
  intro r H S i e s
  refine ⟨fun d hd => ?_, fun hd => ?_⟩
  · have hd' : (rangeD lo hi)[i]? = some d := Option.some.inj hd
    have hi' : i < (hi - lo).toNat := by simpa [rangeD] using (List.getElem?_eq_some_iff.mp hd').1
    have hv : d = .int (lo + (i : Int)) := by
      unfold rangeD at hd'
      rw [List.getElem?_map, List.getElem?_range hi'] at hd'
      exact (Option.some.inj hd').symm
    refine ⟨hi', fun x H' y => ?_⟩
    obtain ⟨rfl, rfl⟩ := y
    exact ⟨Ext.refl _ _, s, by rw [hv]; exact .int _⟩
  · have hd' : (rangeD lo hi)[i]? = none := Option.some.inj hd
    have := List.getElem?_eq_none_iff.mp hd'
    show (hi - lo).toNat ≤ i
    simpa [rangeD] using this
def ixR1 (m : EX) : IX := fun env S => (m env S).bind fun x S1 => match x with
  | .va (.int i) => if small62 i = true then .ok (.fix (rangeD 0 i)) S1 else .bad
  | _ => .bad
theorem ta_one {G : Cfg} {σ : L2.St} {H : Hp} {Q : List V → Hp → Prop} (h : TI G W m σ H fun v H1 => Q [v] H1) : tCons (TI G W m) tNil σ H Q := h
theorem x_range1 {a : Expr} {p : Pos} (hm : X.mg "range" = none) (ha : PE X a (TI (GX X cA fN) W m)) (hg : Gl X "range" := by rfl) (hs : starEach [a] X.env = [(false, eval a X.env)] := by rfl) :
    PI X tg (.Call (.Name "range" p) [a] [] pos) (TII (GX X cA fN) W (ixR1 m)) := (pi_range1 hg hm (pa_cons ha pa_nil hs) hs).mono fun σ H R h => by
  obtain ⟨r, S, env, he, hs, hp⟩ := h
  refine ta_one ⟨r, S, env, he, hs, Post.bind hp fun x S1 v r1 H1 e1 s1 q1 z => ?_⟩
  cases x with
  | fr o => exact z.elim
  | va d =>
    cases d with
    | int i =>
      cases q1
      dsimp only at z
      by_cases hb : small62 i = true
      · rw [if_pos hb] at z
        obtain ⟨b1, b2⟩ := small62_ok hb
        refine ⟨i, rfl, b1, b2, ?_⟩
        have e0 : (i - 0).toNat = i.toNat := by rw [Int.sub_zero]
        rw [← e0]
        exact z _ r1 H1 e1 s1 (jok_range 0 i)
      · rw [if_neg hb] at z
        exact z.elim
    | _ => exact z.elim
def ixR2 (m n : EX) : IX := fun env S => (m env S).bind fun x S1 => (n env S1).bind fun y S2 => match x, y with
  | .va (.int i), .va (.int j) => if small62 i && small62 j then .ok (.fix (rangeD i j)) S2 else .bad
  | _, _ => .bad
theorem x_range2 {a b : Expr} {n : EX} {p : Pos} (hm : X.mg "range" = none) (ha : PE X a (TI (GX X cA fN) W m)) (hb : PE X b (TI (GX X cA fN) W n)) (hg : Gl X "range" := by rfl) (hs : starEach [a, b] X.env = [(false, eval a X.env), (false, eval b X.env)] := by rfl)
    (hs2 : starEach [b] X.env = [(false, eval b X.env)] := by rfl) : PI X tg (.Call (.Name "range" p) [a, b] [] pos) (TII (GX X cA fN) W (ixR2 m n)) := (pi_range2 hg hm (pa_cons ha (pa_cons hb pa_nil hs2) (by rw [hs, hs2])) hs hs2).mono fun σ H R h => by
  obtain ⟨r, S, env, he, hs, hp⟩ := h
  refine ⟨r, S, env, he, hs, Post.bind hp fun x S1 v r1 H1 e1 s1 q1 z => ?_⟩
  refine ⟨r1, S1, env, he.ext e1, s1, Post.bind (z.shift e1 (R' := fun r' H' J src => JOk (GX X cA fN) r' H' J src) fun _ _ _ _ k => k) fun y S2 w r2 H2 e2 s2 q2 z2 => ?_⟩
  have q1' := q1.ext e2
  cases x with
  | fr o => exact z2.elim
  | va d =>
    cases d with
    | int i =>
      cases y with
      | fr o => exact z2.elim
      | va d' =>
        cases d' with
        | int j =>
          cases q1'
          cases q2
          dsimp only at z2
          by_cases hb : (small62 i && small62 j) = true
          · rw [if_pos hb] at z2
            obtain ⟨b1, b2⟩ := Bool.and_eq_true_iff.mp hb
            obtain ⟨c1, c2⟩ := small62_ok b1
            obtain ⟨c3, c4⟩ := small62_ok b2
            exact ⟨i, j, rfl, ⟨c1, c2, c3, c4⟩, z2 _ r2 H2 e2 s2 (jok_range i j)⟩
          · rw [if_neg hb] at z2
            exact z2.elim
        | _ => exact z2.elim
    | _ => exact z2.elim

/-! ### defs -/
def postF (G : Cfg) (E : XK) (r : List Addr) (H : Hp) (Q : VK) (m : Rs Rv) : Prop := Post G (fun c o _ H => E c o H) [] r H (RV G H) Q m
def spI (G : Cfg) (n : Nat) (f : FI) : Sp := fun vs H Q E => vs.length = n ∧ ∃ r S ds, Sim G r H S ∧ Reps G r H vs ds ∧ postF G E r H Q (f ds S)
def fnOf (n ar : Nat) (body : SM) : FI := fun ds S => match body (ds.map some ++ List.replicate (n - ar) none) S with
  | .nx _ S' => .ok (.va .non) S'
  | .ret x S' => .ok x S'
  | .err _ c fs S' => .err c fs S'
  | _ => .bad
/-- nothing is let out -/
def noErr (f : FI) : FI := fun ds S => match f ds S with
  | .ok x S' => .ok x S'
  | _ => .bad
mutual
def eqDD : D → D → Bool
  | .non, .non => true
  | .bl a, .bl b => decide (a = b)
  | .int a, .int b => decide (a = b)
  | .str a, .str b => decide (a = b)
  | .tup a, .tup b => eqDs a b
  | .scr a, .scr b => decide (a = b)
  | .ref a, .ref b => decide (a = b)
  | _, _ => false
def eqDs : List D → List D → Bool
  | [], [] => true
  | a :: r, b :: t => eqDD a b && eqDs r t
  | _, _ => false
end
mutual
theorem eqDD_of : ∀ {a b : D}, eqDD a b = true → a = b
  | .non, b, h => by cases b <;> first | rfl | cases h
  | .bl a, b, h => by cases b <;> first | (cases h; done) | exact congrArg _ (of_decide_eq_true h)
  | .int a, b, h => by cases b <;> first | (cases h; done) | exact congrArg _ (of_decide_eq_true h)
  | .str a, b, h => by cases b <;> first | (cases h; done) | exact congrArg _ (of_decide_eq_true h)
  | .scr a, b, h => by cases b <;> first | (cases h; done) | exact congrArg _ (of_decide_eq_true h)
  | .ref a, b, h => by cases b <;> first | (cases h; done) | exact congrArg _ (of_decide_eq_true h)
  | .tup a, b, h => by cases b <;> first | (cases h; done) | exact congrArg _ (eqDs_of h)
theorem eqDs_of : ∀ {a b : List D}, eqDs a b = true → a = b
  | [], [], _ => rfl
  | [], _ :: _, h => by cases h
  | _ :: _, [], h => by cases h
  | a :: r, b :: t, h => by
    have h' := Bool.and_eq_true_iff.mp h
    rw [eqDD_of h'.1, eqDs_of h'.2]
end
mutual
theorem eqDD_refl : ∀ a : D, eqDD a a = true
  | .non => rfl
  | .bl a => decide_eq_true rfl
  | .int a => decide_eq_true rfl
  | .str a => decide_eq_true rfl
  | .scr a => decide_eq_true rfl
  | .ref a => decide_eq_true rfl
  | .tup a => eqDs_refl a
theorem eqDs_refl : ∀ a : List D, eqDs a a = true
  | [] => rfl
  | a :: r => by
    show (eqDD a a && eqDs r r) = true
    rw [eqDD_refl a, eqDs_refl r]; rfl
end
def eqOb : Ob → Ob → Bool
  | .lst a, .lst b => eqDs a b
  | .dct a, .dct b => eqDs (a.map (·.1)) (b.map (·.1)) && eqDs (a.map (·.2)) (b.map (·.2))
  | .ins c a, .ins d b => decide (c = d) && eqDs a b
  | _, _ => false
theorem pairs_eq : ∀ {a b : List (D × D)}, a.map (·.1) = b.map (·.1) → a.map (·.2) = b.map (·.2) → a = b
  | [], [], _, _ => rfl
  | [], _ :: _, h, _ => by simp at h
  | _ :: _, [], h, _ => by simp at h
  | (x, y) :: a, (z, w) :: b, h, k => by
    simp at h k
    rw [h.1, k.1, pairs_eq h.2 k.2]
theorem eqOb_of : ∀ {a b : Ob}, eqOb a b = true → a = b
  | .lst a, b, h => by cases b <;> first | (cases h; done) | exact congrArg _ (eqDs_of h)
  | .dct a, b, h => by
    cases b <;> first | (cases h; done) | skip
    have h' := Bool.and_eq_true_iff.mp h
    exact congrArg _ (pairs_eq (eqDs_of h'.1) (eqDs_of h'.2))
  | .ins c a, b, h => by
    cases b <;> first | (cases h; done) | skip
    have h' := Bool.and_eq_true_iff.mp h
    rw [of_decide_eq_true h'.1, eqDs_of h'.2]
theorem eqOb_refl : ∀ a : Ob, eqOb a a = true
  | .lst a => eqDs_refl a
  | .dct a => by
    show (eqDs _ _ && eqDs _ _) = true
    rw [eqDs_refl, eqDs_refl]; rfl
  | .ins c a => by
    show (decide (c = c) && eqDs _ _) = true
    rw [eqDs_refl, decide_eq_true rfl]; rfl
def eqSto : Sto → Sto → Bool
  | [], [] => true
  | a :: r, b :: t => eqOb a b && eqSto r t
  | _, _ => false
theorem eqSto_of : ∀ {a b : Sto}, eqSto a b = true → a = b
  | [], [], _ => rfl
  | [], _ :: _, h => by cases h
  | _ :: _, [], h => by cases h
  | a :: r, b :: t, h => by
    have h' := Bool.and_eq_true_iff.mp h
    rw [eqOb_of h'.1, eqSto_of h'.2]
theorem eqSto_refl : ∀ a : Sto, eqSto a a = true
  | [] => rfl
  | a :: r => by
    show (eqOb a a && eqSto r r) = true
    rw [eqOb_refl, eqSto_refl r]; rfl
/-- what nobody can reach any more is dropped -/
def cutB (S S' : Sto) : Bool := eqSto (S'.take S.length) S || (S'.take S.length).all fun o => o.und S.length
def okCut (S S' : Sto) : Prop := S'.take S.length = S ∨ ∀ o ∈ S'.take S.length, o.und S.length = true
theorem cutB_ok {S S' : Sto} (h : cutB S S' = true) : okCut S S' := by
  unfold cutB at h
  rw [Bool.or_eq_true] at h
  rcases h with h | h
  · exact .inl (eqSto_of h)
  · exact .inr fun o ho => by
      have := List.all_eq_true.mp h o ho
      exact this
def clean (f : FI) : FI := fun ds S => match f ds S with
  | .ok (.va d) S' => if (cutB S S' && d.und S.length) = true then .ok (.va d) (S'.take S.length) else
      match d with
      | .ref n => match S'[n]? with
        | some o => if (cutB S S' && (decide (S.length ≤ n) && o.und S.length)) = true then .ok (.fr o) (S'.take S.length) else .ok (.va d) S'
        | none => .ok (.va d) S'
      | _ => .ok (.va d) S'
  | .ok (.fr o) S' => if (cutB S S' && o.und S.length) = true then .ok (.fr o) (S'.take S.length) else .ok (.fr o) S'
  | .err c ds S' => if (cutB S S' && D.unds S.length ds) = true then .err c ds (S'.take S.length) else .err c ds S'
  | .bad => .bad
end
section
variable {G : Cfg} {r : List Addr} {H : Hp} {S : Sto}
theorem cut_sim {r1 : List Addr} {H1 : Hp} {S1 : Sto} (s : Sim G r H S) (e : Ext r H r1 H1) (s1 : Sim G r1 H1 S1) (k : okCut S S1) : Sim G r H1 (S1.take S.length) ∧ Ext r H r H1 := by
  obtain ⟨l, hl⟩ := e.pre
  have hlen : S.length ≤ S1.length := by
    have a := s1.len
    rw [hl, List.length_append, s.len] at a
    omega
  have hu : ∀ o ∈ S1.take S.length, o.und r.length = true := by
    rw [s.len]
    rcases k with k | k
    · rw [k]; exact s.und
    · exact k
  refine ⟨⟨by rw [List.length_take, s.len]; omega, s.nd, fun n a o h1 h2 => ?_⟩, ⟨⟨[], by simp⟩, fun a o h n => ⟨(e.keep a o h n).1, n⟩, e.there⟩⟩
  have hn : n < S.length := by rw [← s.len]; exact (List.getElem?_eq_some_iff.mp h1).1
  have h3 : S1[n]? = some o := by
    rw [List.getElem?_take_of_lt hn] at h2
    exact h2
  have h4 := s1.at_ n a o (e.at_ h1) h3
  rw [hl] at h4
  exact h4.cut (hu o (List.mem_of_getElem? h2))
theorem clean_post {E : XK} {Q : VK} {f : FI} {ds : List D} (s : Sim G r H S) (h : postF G E r H Q (clean f ds S)) : postF G E r H Q (f ds S) := by
  unfold clean at h
  cases ef : f ds S with
  | bad => rw [ef] at h; exact h
  | err c fs S1 =>
    rw [ef] at h
    dsimp only at h
    split at h
    · rename_i k
      have k := Bool.and_eq_true_iff.mp k
      have k := And.intro (cutB_ok k.1) k.2
      intro cls oe r1 H1 e1 s1 q1
      obtain ⟨s2, e2⟩ := cut_sim s e1 s1 k.1
      obtain ⟨l, hl⟩ := e1.pre
      refine h cls oe r H1 e2 s2 ⟨q1.1, ?_⟩
      rcases q1.2 with q | ⟨d, fv, q2, q3, q4, q5, q6⟩
      · exact .inl q
      · subst hl
        exact .inr ⟨d, fv, q2, q3, fun z => q4 (List.mem_append_left _ z), q5, q6.cut (by rw [s.len]; exact k.2)⟩
    · exact h
  | ok x S1 =>
    rw [ef] at h
    cases x with
    | fr o =>
      dsimp only at h
      split at h
      · rename_i k
        have k := Bool.and_eq_true_iff.mp k
        have k := And.intro (cutB_ok k.1) k.2
        intro v r1 H1 e1 s1 q1
        obtain ⟨s2, e2⟩ := cut_sim s e1 s1 k.1
        obtain ⟨l, hl⟩ := e1.pre
        subst hl
        obtain ⟨a, h1, h2, h3, h4⟩ := q1
        exact h v r H1 e2 s2 ⟨a, h1, h2, fun z => h3 (List.mem_append_left _ z), h4.cut (by rw [s.len]; exact k.2)⟩
      · exact h
    | va d =>
      dsimp only at h
      split at h
      · rename_i k
        have k := Bool.and_eq_true_iff.mp k
        have k := And.intro (cutB_ok k.1) k.2
        intro v r1 H1 e1 s1 q1
        obtain ⟨s2, e2⟩ := cut_sim s e1 s1 k.1
        obtain ⟨l, hl⟩ := e1.pre
        subst hl
        exact h v r H1 e2 s2 (Rep.cut q1 (by rw [s.len]; exact k.2))
      · cases d with
        | ref n =>
          dsimp only at h
          cases en : S1[n]? with
          | none => rw [en] at h; exact h
          | some o =>
            rw [en] at h
            dsimp only at h
            split at h
            · rename_i k
              have k := Bool.and_eq_true_iff.mp k
              have k := And.intro (cutB_ok k.1) k.2
              intro v r1 H1 e1 s1 q1
              have k := And.intro k.1 (And.intro (of_decide_eq_true (Bool.and_eq_true_iff.mp k.2).1) (Bool.and_eq_true_iff.mp k.2).2)
              obtain ⟨s2, e2⟩ := cut_sim s e1 s1 k.1
              obtain ⟨a, rfl, ha, hob⟩ := s1.get q1 en
              obtain ⟨l, hl⟩ := e1.pre
              subst hl
              have na : a ∉ r := fun z => by
                obtain ⟨m, hm⟩ := List.mem_iff_getElem?.mp z
                have hm' : m < r.length := (List.getElem?_eq_some_iff.mp hm).1
                have hm2 : (r ++ l)[m]? = some a := by rw [List.getElem?_append_left hm']; exact hm
                have e := Sim.wr.nodup_at s1.nd hm2 ha
                have := s.len
                omega
              refine h (.ref a) r H1 e2 s2 ⟨a, rfl, ?_, na, hob.cut (by rw [s.len]; exact k.2.2)⟩
              cases eH : H a with
              | none => rfl
              | some u => exact absurd (List.mem_of_getElem? ha) (e1.keep a u eH na).2
            · exact h
        | _ => exact h
end
section
variable {P : Program} {w : World} {K : PySem.W.Frag} {mg : Str → Option Value} {base : Heap} {cA : Nat → Addr} {fN : Nat → List Str} {x qual : Str} {params : Arguments} {body : List Stmt} {scope : Scope} {dvs : List V} {kws : List (Str × V)} {f : Addr} {fd : FuncData} {N ps : List Str} {k : Nat}
theorem start_env {G : Cfg} {r : List Addr} {H : Hp} {vs : List V} {ds : List D} (q : Reps G r H vs ds) (n : Nat) : EnvR G r H (vs.map some ++ List.replicate n none) (ds.map some ++ List.replicate n none) := by
  refine ⟨by simp [q.length], fun i d e => ?_⟩
  have hl := q.length
  by_cases hi : i < ds.length
  · rw [List.getElem?_append_left (by simpa using hi), List.getElem?_map] at e
    cases ed : ds[i]? with
    | none => rw [ed] at e; cases e
    | some d' =>
      rw [ed] at e
      cases e
      obtain ⟨v, hv, rv⟩ := q.get ed
      exact ⟨v, by rw [List.getElem?_append_left (by simp; omega), List.getElem?_map, hv]; rfl, rv⟩
  · rw [List.getElem?_append_right (by simp; omega), List.getElem?_replicate] at e
    split at e <;> cases e
/-- a def that lets nothing out -/
theorem fn0 {sm : SM} (F : FunD K x qual params body scope dvs kws f fd) (S : FnScope N ps scope)
    (hb : ∀ (cdv : Value) (A : Around) (outer : List PySem.Env) (s : Shared) (H : Hp) (E : XK), Room k (A.deeper (PyProof.Rows.envOfC qual scope s.heap.objs.size f cdv)) →
      PSs (cxOf CX0 P w K mg base N qual scope f cdv A outer s H E).nox body (TSI ⟨K, cA, fN⟩ W0 sm)) : FnOk P w K mg base CX0 (k + 1) f fd ps (spI ⟨K, cA, fN⟩ ps.length (clean (noErr (fnOf N.length ps.length sm)))) := by
  refine F.ok S (fun vs H Q E h => h.1) fun cdv A outer s H vs Q E hr h => ⟨_, (hb cdv A outer s H E hr).nox, ?_⟩
  obtain ⟨hl, r, S0, ds, hs, hq, hp⟩ := h
  have hp := clean_post hs hp
  unfold noErr fnOf at hp
  unfold L2.start
  rw [hl]
  refine ⟨r, S0, _, start_env hq _, hs, ?_⟩
  cases em : sm (ds.map some ++ List.replicate (N.length - ps.length) none) S0 with
  | nx env S' => rw [em] at hp; exact fun σ' r' H' e he s => hp .non r' H' e s .non
  | ret y S' => rw [em] at hp; exact fun v r' H' e s q => hp v r' H' e s q
  | brk env S' => rw [em] at hp; exact hp.elim
  | ct env S' => rw [em] at hp; exact hp.elim
  | err env c ds S' => rw [em] at hp; exact hp.elim
  | bad => rw [em] at hp; exact hp.elim
/-- a def that may raise -/
theorem fnX {sm : SM} (F : FunD K x qual params body scope dvs kws f fd) (S : FnScope N ps scope)
    (hb : ∀ (cdv : Value) (A : Around) (outer : List PySem.Env) (s : Shared) (H : Hp) (E : XK), Room k (A.deeper (PyProof.Rows.envOfC qual scope s.heap.objs.size f cdv)) →
      PSs (cxOf (L2.CX P w) P w K mg base N qual scope f cdv A outer s H E) body (TSI ⟨K, cA, fN⟩ (fun c o _ H => E c o H) sm)) : FnOk P w K mg base (L2.CX P w) (k + 1) f fd ps (spI ⟨K, cA, fN⟩ ps.length (clean (fnOf N.length ps.length sm))) := by
  refine F.ok S (fun vs H Q E h => h.1) fun cdv A outer s H vs Q E hr h => ⟨_, hb cdv A outer s H E hr, ?_⟩
  obtain ⟨hl, r, S0, ds, hs, hq, hp⟩ := h
  have hp := clean_post hs hp
  unfold fnOf at hp
  unfold L2.start
  rw [hl]
  refine ⟨r, S0, _, start_env hq _, hs, ?_⟩
  cases em : sm (ds.map some ++ List.replicate (N.length - ps.length) none) S0 with
  | nx env S' => rw [em] at hp; exact fun σ' r' H' e he s => hp .non r' H' e s .non
  | ret y S' => rw [em] at hp; exact fun v r' H' e s q => hp v r' H' e s q
  | brk env S' => rw [em] at hp; exact hp.elim
  | ct env S' => rw [em] at hp; exact hp.elim
  | err env c ds S' => rw [em] at hp; exact fun cls oe σ' r' H' e he s q => hp cls oe r' H' e s q
  | bad => rw [em] at hp; exact hp.elim
end

/-! ### calls -/
def unva : List Rv → Option (List D)
  | [] => some []
  | .va d :: r => (unva r).map (d :: ·)
  | .fr _ :: _ => none
theorem unva_ok {G : Cfg} {r : List Addr} {H0 H : Hp} : ∀ {xs : List Rv} {vs : List V} {ds : List D}, RepRs G r H0 H vs xs → unva xs = some ds → Reps G r H vs ds
  | _, _, _, .nil, e => by cases e; exact .nil
  | _, _, _, .cons (x := .va d) (xs := xs) h t, e => by
    unfold unva at e
    cases eu : unva xs with
    | none => rw [eu] at e; cases e
    | some ds' =>
      rw [eu] at e
      cases e
      exact .cons h (unva_ok t eu)
  | _, _, _, .cons (x := .fr o) h t, e => by cases e
def eCall (f : FI) (ms : List EX) (dds : List D) : EX := fun env S => (eArgs ms env S).bind fun xs S1 => match unva xs with
  | some ds => f (ds ++ dds) S1
  | none => .bad
theorem args_len {ms : List EX} {env : Env} : ∀ {S S1 : Sto} {xs : List Rv}, eArgs ms env S = .ok xs S1 → xs.length = ms.length := by
  induction ms with
  | nil => intro S S1 xs h; cases h; rfl
  | cons m ms ih =>
    intro S S1 xs h
    unfold eArgs at h
    cases e1 : m env S with
    | ok x S2 =>
      rw [e1] at h
      cases e2 : eArgs ms env S2 with
      | ok ys S3 =>
        rw [Rs.bind_ok, e2] at h
        cases h
        rw [List.length_cons, List.length_cons, ih e2]
      | err c ds S3 => rw [Rs.bind_ok, e2] at h; cases h
      | bad => rw [Rs.bind_ok, e2] at h; cases h
    | err c ds S2 => rw [e1] at h; cases h
    | bad => rw [e1] at h; cases h
theorem Post.bindE {G : Cfg} {W : WX} {σ : L2.St} {r : List Addr} {H : Hp} {α β γ δ : Type} {R1 : List Addr → Hp → β → α → Prop} {R2 : List Addr → Hp → δ → γ → Prop} {Q1 : β → Hp → Prop} {Q2 : δ → Hp → Prop} {m : Rs α} {k : α → Sto → Rs γ} (h : Post G W σ r H R2 Q2 (m.bind k))
    (step : ∀ x S1 v r1 H1, m = .ok x S1 → Ext r H r1 H1 → Sim G r1 H1 S1 → R1 r1 H1 v x → Post G W σ r H R2 Q2 (k x S1) → Q1 v H1) : Post G W σ r H R1 Q1 m := by
  cases m with
  | ok x S => exact fun v r' H' e s q => step x S v r' H' rfl e s q h
  | err c ds S => exact h
  | bad => exact h
theorem Reps.dvs {G : Cfg} {dvs : List V} {dds : List D} (h : ∀ r H, Reps G r H dvs dds) {r : List Addr} {H : Hp} {vs : List V} {ds : List D} (q : Reps G r H vs ds) : Reps G r H (vs ++ dvs) (ds ++ dds) := q.append (h r H)
section
variable {X : Cx} {cA : Nat → Addr} {fN : Nat → List Str} {W : WX} {k : Nat} {f : Addr} {fd : FuncData} {ps : List Str} {fI : FI} {dvs : List V} {dds : List D} {ds : List Value} {x : Str} {p pos : Pos} {e : Expr} {es : List Expr} {ms : List EX} {m : EX}
theorem call_of {G : Cfg} {E : L2.St → XK} (hE : ∀ σ c o H, W c o σ H → E σ c o H) (hd : ∀ r H, Reps G r H dvs dds) (hn : ms.length + dds.length = ps.length) {σ : L2.St} {H : Hp} {Q : VK} (h : TI G W (eCall fI ms dds) σ H Q) :
    TAI G W (eArgs ms) σ H fun vs H1 => spI G ps.length fI (vs ++ dvs) H1 Q (E σ) := by
  obtain ⟨r, S, env, he, hs, hp⟩ := h
  refine ⟨r, S, env, he, hs, Post.bindE hp fun xs S1 vs r1 H1 e0 e1 s1 q1 z => ?_⟩
  cases eu : unva xs with
  | none => rw [eu] at z; exact z.elim
  | some ds =>
    rw [eu] at z
    have q := (unva_ok q1 eu).dvs hd
    refine ⟨?_, r1, S1, ds ++ dds, s1, q, ?_⟩
    · rw [q.length, List.length_append, ← hn, ← args_len e0]
      congr 1
      have := (unva_ok q1 eu).length
      have h2 : vs.length = xs.length := by
        clear z eu q this e0
        induction q1 with
        | nil => rfl
        | cons _ _ ih => simp [ih]
      omega
    · have z' := z.shift e1 (R' := RV G H1) fun _ _ _ _ k => back_rv e1 k
      unfold postF
      dsimp only at z'
      cases ef : fI (ds ++ dds) S1 with
      | ok y S2 => rw [ef] at z'; exact z'
      | err c fs S2 => rw [ef] at z'; exact fun cls oe r' H' x s q => hE σ _ _ _ (z' cls oe r' H' x s q)
      | bad => rw [ef] at z'; exact z'
/-- f lets nothing out -/
def NoErr (f : FI) : Prop := ∀ ds S c fs S', f ds S ≠ .err c fs S'
theorem ne_clean (f : FI) : NoErr (clean (noErr f)) := by
  intro ds S c fs S' h
  unfold clean at h
  cases e : noErr f ds S with
  | bad => rw [e] at h; cases h
  | err c1 f1 S1 =>
    unfold noErr at e
    split at e <;> cases e
  | ok x S1 =>
    rw [e] at h
    cases x with
    | fr o => dsimp only at h; split at h <;> cases h
    | va d =>
      dsimp only at h
      split at h
      · cases h
      · split at h
        · split at h
          · split at h <;> cases h
          · cases h
        · cases h
theorem call_of0 {G : Cfg} (ne : NoErr fI) (hd : ∀ r H, Reps G r H dvs dds) (hn : ms.length + dds.length = ps.length) {σ : L2.St} {H : Hp} {Q : VK} (h : TI G W (eCall fI ms dds) σ H Q) :
    TAI G W (eArgs ms) σ H fun vs H1 => spI G ps.length fI (vs ++ dvs) H1 Q E0 := by
  obtain ⟨r, S, env, he, hs, hp⟩ := call_of (E := fun σ c o H => W c o σ H) (fun _ _ _ _ z => z) hd hn h
  refine ⟨r, S, env, he, hs, hp.mono fun vs H1 q => ?_⟩
  obtain ⟨h1, r1, S1, ds, h2, h3, h4⟩ := q
  refine ⟨h1, r1, S1, ds, h2, h3, ?_⟩
  unfold postF at h4 ⊢
  cases ef : fI ds S1 with
  | ok y S2 => rw [ef] at h4; exact h4
  | err c fs S2 => exact absurd ef (ne _ _ _ _ _)
  | bad => rw [ef] at h4; exact h4
/-- f(e, ..), f lets nothing out -/
theorem i_call (ne : NoErr fI) (F : FnOk X.prog X.w X.K X.mg X.base CX0 k f fd ps (spI (GX X cA fN) ps.length fI)) (hr : Room k X.A) (hm : X.mg x = some (.ref f)) (hk : PySem.W.keepIn X.K (.ref f) = true) (hb : Binds X.K fd ps ds) (hd : Vals dvs ds) (hdd : ∀ r H, Reps (GX X cA fN) r H dvs dds)
    (ha : PA X (e :: es) (TAI (GX X cA fN) W (eArgs (m :: ms)))) (hn : (m :: ms).length + dds.length = ps.length := by rfl) (hg : Gl X x := by rfl) (hdb : (x == ("__debug__" : Str)) = false := by decide) (he : starEach (e :: es) X.env = (false, eval e X.env) :: starEach es X.env := by rfl)
    (hpl : (backTo pos (starEach es X.env)).any (·.1) = false := by rfl) : PE X (.Call (.Name x p) (e :: es) [] pos) (TI (GX X cA fN) W (eCall fI (m :: ms) dds)) :=
  (pe_call F hr hg hm hk hb hd pass0 ha hdb he hpl).mono fun σ H Q h => call_of0 ne hdd hn h
theorem i_call0 (ne : NoErr fI) (F : FnOk X.prog X.w X.K X.mg X.base CX0 k f fd ps (spI (GX X cA fN) ps.length fI)) (hr : Room k X.A) (hm : X.mg x = some (.ref f)) (hk : PySem.W.keepIn X.K (.ref f) = true) (hb : Binds X.K fd ps ds) (hd : Vals dvs ds) (hdd : ∀ r H, Reps (GX X cA fN) r H dvs dds)
    (hn : dds.length = ps.length := by rfl) (hg : Gl X x := by rfl) (hdb : (x == ("__debug__" : Str)) = false := by decide) : PE X (.Call (.Name x p) [] [] pos) (TI (GX X cA fN) W (eCall fI [] dds)) :=
  (pe_call0 F hr hg hm hk hb hd pass0 hdb).mono fun σ H Q h => by
    have := call_of0 (ps := ps) (dvs := dvs) ne hdd (by simpa using hn) h
    obtain ⟨r, S, env, he, hs, hp⟩ := this
    exact hp [] r H (Ext.refl r H) hs .nil
end
end Cy

set_option Elab.async false
set_option linter.all false
set_option maxRecDepth 100000
set_option maxHeartbeats 2000000
set_option autoImplicit false
/-! Primitives: what Python's operators and built-ins do to the mirror's data. -/
namespace Cy
open PySem L2

section
variable {G : Cfg} {r : List Addr} {H0 H : Hp} {S : Sto}
/-! ### views -/
/-- a list's items -/
def vL (S : Sto) : Rv → Option (List D)
  | .va (.ref n) => match S[n]? with
    | some (.lst ds) => some ds
    | _ => none
  | .fr (.lst ds) => some ds
  | .va (.scr ns) => some (ns.map .int)
  | _ => none
/-- .. of a list that may be changed -/
def vM (S : Sto) : Rv → Option (List D)
  | .va (.ref n) => match S[n]? with
    | some (.lst ds) => some ds
    | _ => none
  | .fr (.lst ds) => some ds
  | _ => none
def vT : Rv → Option (List D)
  | .va (.tup ds) => some ds
  | _ => none
def vQ (S : Sto) (x : Rv) : Option (List D) := match vT x with
  | some ds => some ds
  | none => vL S x
theorem vM_ok {v : V} {x : Rv} {ds : List D} (s : Sim G r H S) (q : RepR G r H0 H v x) (e : vM S x = some ds) : ∃ a vs, v = .ref a ∧ H a = some (.lst vs) ∧ Reps G r H vs ds := by
  cases x with
  | fr o =>
    cases o with
    | lst es =>
      cases e
      obtain ⟨a, rfl, _, _, vs, h1, h2⟩ := q
      exact ⟨a, vs, rfl, h1, h2⟩
    | dct _ => cases e
    | ins _ _ => cases e
  | va d =>
    cases d with
    | ref n =>
      unfold vM at e
      dsimp only at e
      cases e1 : S[n]? with
      | none => rw [e1] at e; cases e
      | some o =>
        rw [e1] at e
        cases o with
        | lst es =>
          cases e
          obtain ⟨a, rfl, _, vs, h1, h2⟩ := s.get q e1
          exact ⟨a, vs, rfl, h1, h2⟩
        | dct _ => cases e
        | ins _ _ => cases e
    | _ => cases e
theorem vM_vL {x : Rv} {ds : List D} (e : vM S x = some ds) : vL S x = some ds := by
  cases x with
  | fr o => cases o <;> exact e
  | va d => cases d <;> first | exact e | cases e
theorem vL_ok {v : V} {x : Rv} {ds : List D} (s : Sim G r H S) (q : RepR G r H0 H v x) (e : vL S x = some ds) : ∃ a vs, v = .ref a ∧ SqL G.K H a vs ∧ Reps G r H vs ds := by
  cases hm : vM S x with
  | some es =>
    obtain ⟨a, vs, h1, h2, h3⟩ := vM_ok s q hm
    have : es = ds := Option.some.inj ((vM_vL hm).symm.trans e)
    subst this
    exact ⟨a, vs, h1, SqL.of h2, h3⟩
  | none =>
    cases x with
    | fr o => cases o with
      | lst _ => cases hm
      | _ => cases e
    | va d =>
      cases d with
      | ref n => rw [show vL S (.va (.ref n)) = vM S (.va (.ref n)) from rfl, hm] at e; cases e
      | scr ns =>
        cases e
        cases q with
        | scr h =>
          rename_i a
          refine ⟨a, ns.map V.int, rfl, ?_, Reps.ints ns⟩
          rcases h with ⟨⟨o, h⟩, _⟩ | h
          · exact .inl (.inr ⟨o, h⟩)
          · exact h H
      | _ => cases e
theorem vT_ok {v : V} {x : Rv} {ds : List D} (q : RepR G r H0 H v x) (e : vT x = some ds) : ∃ a vs, v = .ref a ∧ SqT G.K H a vs ∧ Reps G r H vs ds := by
  cases x with
  | fr o => cases e
  | va d =>
    cases d with
    | tup es =>
      cases e
      cases q with
      | tup h na q => exact ⟨_, _, rfl, .inl h, q⟩
    | _ => cases e
theorem vQ_ok {v : V} {x : Rv} {ds : List D} (s : Sim G r H S) (q : RepR G r H0 H v x) (e : vQ S x = some ds) : ∃ a vs, v = .ref a ∧ (SqL G.K H a vs ∨ SqT G.K H a vs) ∧ Reps G r H vs ds := by
  unfold vQ at e
  cases h : vT x with
  | some es =>
    rw [h] at e
    cases e
    obtain ⟨a, vs, h1, h2, h3⟩ := vT_ok q h
    exact ⟨a, vs, h1, .inr h2, h3⟩
  | none =>
    rw [h] at e
    obtain ⟨a, vs, h1, h2, h3⟩ := vL_ok s q e
    exact ⟨a, vs, h1, .inl h2, h3⟩
theorem reps1 {vs : List V} {x : Rv} (q : RepRs G r H0 H vs [x]) : ∃ v, vs = [v] ∧ RepR G r H0 H v x := by
  cases q with
  | cons h t => cases t; exact ⟨_, rfl, h⟩
theorem reps2 {vs : List V} {x y : Rv} (q : RepRs G r H0 H vs [x, y]) : ∃ v w, vs = [v, w] ∧ RepR G r H0 H v x ∧ RepR G r H0 H w y := by
  cases q with
  | cons h t => cases t with
    | cons h2 t => cases t; exact ⟨_, _, rfl, h, h2⟩
/-- a new object: fresh, or a tuple -/
theorem fin_same {v : V} {z : Rv} {Q : VK} (k : ∀ v H', Ext r H r H' → (∀ a o, H a = some o → H' a = some o) → RepR G r H0 H' v z → Q v H') (q : RepR G r H0 H v z) : Q v H := k v H (Ext.refl r H) (fun _ _ h => h) q
theorem fin_lst {ds : List D} {vs : List V} {Q : VK} (s : Sim G r H S) (b : ∀ p, H p = none → H0 p = none) (k : ∀ v H', Ext r H r H' → (∀ a o, H a = some o → H' a = some o) → RepR G r H0 H' v (.fr (.lst ds)) → Q v H') (q : Reps G r H vs ds) :
    ∀ p, H p = none → Q (.ref p) (upd H p (.lst vs)) := fun p hp => by
  have e : Ext r H r (upd H p (.lst vs)) := Ext.new hp
  refine k (.ref p) _ e (fun a o h => by rw [upd_ne (ne_of_none h hp)]; exact h) ⟨p, rfl, b p hp, fun hm => ?_, vs, upd_same, q.ext e⟩
  obtain ⟨n, hn⟩ := List.mem_iff_getElem?.mp hm
  have hl : n < S.length := by rw [← s.len]; exact (List.getElem?_eq_some_iff.mp hn).1
  obtain ⟨u, hu, _⟩ := (s.at_ n p _ hn (List.getElem?_eq_getElem hl)).mut
  rw [hp] at hu
  cases hu
theorem fin_tup {ds : List D} {vs : List V} {Q : VK} (s : Sim G r H S) (k : ∀ v H', Ext r H r H' → (∀ a o, H a = some o → H' a = some o) → RepR G r H0 H' v (.va (.tup ds)) → Q v H') (q : Reps G r H vs ds) :
    ∀ p, H p = none → Q (.ref p) (upd H p (.tup vs)) := fun p hp => by
  have e : Ext r H r (upd H p (.tup vs)) := Ext.new hp
  refine k (.ref p) _ e (fun a o h => by rw [upd_ne (ne_of_none h hp)]; exact h) (.tup (.inl upd_same) (fun hm => ?_) (q.ext e))
  obtain ⟨n, hn⟩ := List.mem_iff_getElem?.mp hm
  have hl : n < S.length := by rw [← s.len]; exact (List.getElem?_eq_some_iff.mp hn).1
  obtain ⟨u, hu, _⟩ := (s.at_ n p _ hn (List.getElem?_eq_getElem hl)).mut
  rw [hp] at hu
  cases hu

/-! ### ints -/
def pII (g : Int → Int → Option D) : Sto → List Rv → Option Rv := fun _ xs => match xs with
  | [.va (.int i), .va (.int j)] => (g i j).map .va
  | _ => none
@[simp] theorem pII_int (g : Int → Int → Option D) (S : Sto) (i j : Int) : pII g S [.va (.int i), .va (.int j)] = (g i j).map .va := rfl
theorem pII_inv {g : Int → Int → Option D} {xs : List Rv} {z : Rv} (e : pII g S xs = some z) : ∃ i j d, xs = [.va (.int i), .va (.int j)] ∧ g i j = some d ∧ z = .va d := by
  unfold pII at e
  split at e
  · rename_i i j
    cases eg : g i j with
    | none => rw [eg] at e; cases e
    | some d => rw [eg] at e; cases e; exact ⟨i, j, d, rfl, eg, rfl⟩
  · cases e
theorem ok_II {C : Int → Int → Prop} {gv : Int → Int → V} {g : Int → Int → Option D} (h : ∀ i j d, g i j = some d → C i j ∧ ∀ r H, Rep G r H (gv i j) d) : Pure1 G (L22 (rI C gv)) (pII g) := by
  intro r H0 H S xs z vs Q s b q e k
  obtain ⟨i, j, d, rfl, eg, rfl⟩ := pII_inv e
  obtain ⟨v, w, rfl, q1, q2⟩ := reps2 q
  cases q1
  cases q2
  obtain ⟨hc, hd⟩ := h i j d eg
  exact ⟨_, _, rfl, i, j, rfl, rfl, hc, fin_same k (hd r H)⟩
theorem ok_II0 {gv : Int → Int → V} {g : Int → Int → Option D} (h : ∀ i j d, g i j = some d → ∀ r H, Rep G r H (gv i j) d) : Pure1 G (L22 (rI0 gv)) (pII g) := by
  intro r H0 H S xs z vs Q s b q e k
  obtain ⟨i, j, d, rfl, eg, rfl⟩ := pII_inv e
  obtain ⟨v, w, rfl, q1, q2⟩ := reps2 q
  cases q1
  cases q2
  exact ⟨_, _, rfl, i, j, rfl, rfl, fin_same k (h i j d eg r H)⟩
def gSub (i j : Int) : Option D := some (.int (i - j))
theorem ok_sub : Pure1 G (L22 (rI0 fun i j => .int (i - j))) (pII gSub) := ok_II0 fun i j d e _ _ => by cases e; exact .int _
/-- factors that the rule takes -/
def mulOk (i j : Int) : Bool := decide (i.natAbs.log2 + j.natAbs.log2 < 1000000)
def gMul (i j : Int) : Option D := if mulOk i j = true then some (.int (i * j)) else none
theorem ok_mul : Pure1 G (L22 (rI CMulW fun i j => .int (i * j))) (pII gMul) := ok_II fun i j d e => by
  unfold gMul at e
  split at e
  · rename_i h
    cases e
    exact ⟨(show i.natAbs.log2 + j.natAbs.log2 < 1000000 from of_decide_eq_true h), fun _ _ => .int _⟩
  · cases e
theorem mulOk_of {i j : Int} {a b : Nat} (ha : i.natAbs < 2 ^ a) (hb : j.natAbs < 2 ^ b) (h0 : 0 < a) (h1 : 0 < b) (h : a + b ≤ 1000000) : mulOk i j = true := decide_eq_true (show i.natAbs.log2 + j.natAbs.log2 < 1000000 from wide_mul ha hb h0 h1 h)
def divOk (j : Int) : Bool := decide (0 < j) && decide (j.natAbs.log2 < 9000)
def gDiv (i j : Int) : Option D := if divOk j = true then some (.int (i / j)) else none
theorem ok_fdiv : Pure1 G (L22 (rI CDivW fun i j => .int (i / j))) (pII gDiv) := ok_II fun i j d e => by
  unfold gDiv at e
  split at e
  · rename_i h
    cases e
    have h' := Bool.and_eq_true_iff.mp h
    exact ⟨⟨of_decide_eq_true h'.1, of_decide_eq_true h'.2⟩, fun _ _ => .int _⟩
  · cases e
def gMod (i j : Int) : Option D := if 0 < j then some (.int (i % j)) else none
theorem ok_mod : Pure1 G (L22 (rI (fun _ j => 0 < j) fun i j => .int (i % j))) (pII gMod) := ok_II fun i j d e => by
  unfold gMod at e
  split at e
  · rename_i h
    cases e
    exact ⟨h, fun _ _ => .int _⟩
  · cases e
def powOk (i j : Int) : Bool := decide (0 ≤ j) && decide (j.natAbs ≤ 1000000) && decide (i.natAbs < 18446744073709551616)
theorem powOk_c {i j : Int} (h : powOk i j = true) : CPow i j := by
  unfold powOk at h
  rw [Bool.and_eq_true, Bool.and_eq_true, decide_eq_true_eq, decide_eq_true_eq, decide_eq_true_eq] at h
  exact ⟨h.1.1, by have := h.1.2; have := h.1.1; omega, h.2⟩
theorem powOk_of {i j : Int} (h0 : 0 ≤ j) (h1 : j ≤ 1000000) (h2 : i.natAbs < 18446744073709551616) : powOk i j = true := by
  unfold powOk
  rw [decide_eq_true h0, decide_eq_true (show j.natAbs ≤ 1000000 by omega), decide_eq_true h2]; rfl
def gPow (i j : Int) : Option D := if powOk i j = true then some (.int (i ^ j.toNat)) else none
theorem ok_pow : Pure1 G (L22 (rI CPow fun i j => .int (i ^ j.toNat))) (pII gPow) := ok_II fun i j d e => by
  unfold gPow at e
  split at e
  · rename_i h
    cases e
    exact ⟨powOk_c h, fun _ _ => .int _⟩
  · cases e
def gShl (i j : Int) : Option D := if powOk i j = true then some (.int (i * 2 ^ j.toNat)) else none
theorem ok_shl : Pure1 G (L22 (rI CPow fun i j => .int (i * 2 ^ j.toNat))) (pII gShl) := ok_II fun i j d e => by
  unfold gShl at e
  split at e
  · rename_i h
    cases e
    exact ⟨powOk_c h, fun _ _ => .int _⟩
  · cases e
def gShr (i j : Int) : Option D := if 0 ≤ j then some (.int (i / 2 ^ j.toNat)) else none
theorem ok_shr : Pure1 G (L22 (rI (fun _ j => 0 ≤ j) fun i j => .int (i / 2 ^ j.toNat))) (pII gShr) := ok_II fun i j d e => by
  unfold gShr at e
  split at e
  · rename_i h
    cases e
    exact ⟨h, fun _ _ => .int _⟩
  · cases e
def gAnd (i j : Int) : Option D := some (.int (Builtin.bitAnd i j))
theorem ok_and : Pure1 G (L22 (rI0 fun i j => .int (Builtin.bitAnd i j))) (pII gAnd) := ok_II0 fun i j d e _ _ => by cases e; exact .int _
def gOr (i j : Int) : Option D := some (.int (Builtin.bitOr i j))
theorem ok_or : Pure1 G (L22 (rI0 fun i j => .int (Builtin.bitOr i j))) (pII gOr) := ok_II0 fun i j d e _ _ => by cases e; exact .int _
def gXor (i j : Int) : Option D := some (.int (Builtin.bitXor i j))
theorem ok_xor : Pure1 G (L22 (rI0 fun i j => .int (Builtin.bitXor i j))) (pII gXor) := ok_II0 fun i j d e _ _ => by cases e; exact .int _
def gLt (i j : Int) : Option D := some (.bl (decide (i < j)))
theorem ok_lt : Pure1 G (L22 (rI0 fun i j => .bl (decide (i < j)))) (pII gLt) := ok_II0 fun i j d e _ _ => by cases e; exact .bl _
def gLe (i j : Int) : Option D := some (.bl (decide (i ≤ j)))
theorem ok_le : Pure1 G (L22 (rI0 fun i j => .bl (decide (i ≤ j)))) (pII gLe) := ok_II0 fun i j d e _ _ => by cases e; exact .bl _
def gGt (i j : Int) : Option D := some (.bl (decide (j < i)))
theorem ok_gt : Pure1 G (L22 (rI0 fun i j => .bl (decide (j < i)))) (pII gGt) := ok_II0 fun i j d e _ _ => by cases e; exact .bl _
def gGe (i j : Int) : Option D := some (.bl (decide (j ≤ i)))
theorem ok_ge : Pure1 G (L22 (rI0 fun i j => .bl (decide (j ≤ i)))) (pII gGe) := ok_II0 fun i j d e _ _ => by cases e; exact .bl _
/-- -a -/
def pNeg : Sto → List Rv → Option Rv := fun _ xs => match xs with
  | [.va (.int i)] => some (.va (.int (-i)))
  | _ => none
theorem ok_neg : Pure1 G (L21 (rU fun i => .int (-i))) pNeg := by
  intro r H0 H S xs z vs Q s b q e k
  unfold pNeg at e
  split at e
  · rename_i i
    cases e
    obtain ⟨v, rfl, q1⟩ := reps1 q
    cases q1
    exact ⟨_, rfl, i, rfl, fin_same k (.int _)⟩
  · cases e

/-! ### a + b -/
def pAdd : Sto → List Rv → Option Rv := fun S xs => match xs with
  | [.va (.int i), .va (.int j)] => some (.va (.int (i + j)))
  | [.va (.str x), .va (.str y)] => if x.length + y.length ≤ sizeLine then some (.va (.str (x ++ y))) else none
  | [.va (.tup x), .va (.tup y)] => if x.length + y.length ≤ sizeLine then some (.va (.tup (x ++ y))) else none
  | [x, y] => match vM S x, vM S y with
    | some a, some b => if a.length + b.length ≤ sizeLine then some (.fr (.lst (a ++ b))) else none
    | _, _ => none
  | _ => none
def rAddA (K : PySem.W.Frag) : R2 := fun x y H Q => rI0 (fun i j => .int (i + j)) x y H Q ∨ (∃ i j, x = .str i ∧ y = .str j ∧ i.length + j.length ≤ sizeLine ∧ Q (.str (i ++ j)) H) ∨ rCatA K x y H Q ∨ rCat x y H Q
theorem op_addA {X : Cx} : OpR X (binaryOp .Add) (rAddA X.K) := op_add.or (op_add_str.or (op_catA.or op_cat))
theorem ok_add : Pure1 G (L22 (rAddA G.K)) pAdd := by
  intro r H0 H S xs z vs Q s b q e k
  unfold pAdd at e
  split at e
  · rename_i i j
    cases e
    obtain ⟨v, w, rfl, q1, q2⟩ := reps2 q
    cases q1
    cases q2
    exact ⟨_, _, rfl, .inl ⟨i, j, rfl, rfl, fin_same k (.int _)⟩⟩
  · rename_i x y
    split at e
    · rename_i hz
      cases e
      obtain ⟨v, w, rfl, q1, q2⟩ := reps2 q
      cases q1
      cases q2
      exact ⟨_, _, rfl, .inr (.inl ⟨x, y, rfl, rfl, hz, fin_same k (.str _)⟩)⟩
    · cases e
  · rename_i x y
    split at e
    · rename_i hz
      cases e
      obtain ⟨v, w, rfl, q1, q2⟩ := reps2 q
      obtain ⟨a, xs, rfl, ha, ra⟩ := vT_ok q1 rfl
      obtain ⟨c, ys, rfl, hc, rc⟩ := vT_ok q2 rfl
      have l1 := ra.length
      have l2 := rc.length
      refine ⟨_, _, rfl, .inr (.inr (.inl ⟨a, c, xs, ys, rfl, rfl, ha, hc, by omega, fun e0 => ?_, fun _ e0 => ?_, fun _ _ => ?_⟩))⟩
      · subst e0
        cases ra
        exact fin_same k q2
      · subst e0
        cases rc
        rw [List.append_nil] at k
        exact fin_same k q1
      · exact fin_tup s k (ra.append rc)
    · cases e
  · rename_i x y _ _ _
    cases e1 : vM S x with
    | none => rw [e1] at e; cases e
    | some a =>
      cases e2 : vM S y with
      | none => rw [e1, e2] at e; cases e
      | some c =>
        rw [e1, e2] at e
        dsimp only at e
        split at e
        · rename_i hz
          cases e
          obtain ⟨v, w, rfl, q1, q2⟩ := reps2 q
          obtain ⟨p, xs, rfl, hp, rp⟩ := vM_ok s q1 e1
          obtain ⟨p2, ys, rfl, hp2, rp2⟩ := vM_ok s q2 e2
          have l1 := rp.length
          have l2 := rp2.length
          exact ⟨_, _, rfl, .inr (.inr (.inr ⟨p, p2, xs, ys, rfl, rfl, hp, hp2, by omega, fin_lst s b k (rp.append rp2)⟩))⟩
        · cases e
  · cases e

/-! ### equality -/
def eqS : D → D → Option Bool
  | .int i, .int j => some (decide (i = j))
  | .bl i, .bl j => some (decide (i = j))
  | .str i, .str j => some (decide (i = j))
  | .non, .non => some true
  | .non, .int _ => some false | .int _, .non => some false
  | .non, .bl _ => some false | .bl _, .non => some false
  | .non, .str _ => some false | .str _, .non => some false
  | .int _, .str _ => some false | .str _, .int _ => some false
  | .bl _, .str _ => some false | .str _, .bl _ => some false
  | _, _ => none
theorem eqS_ok {v w : V} {d e : D} {b : Bool} (q1 : Rep G r H v d) (q2 : Rep G r H w e) (h : eqS d e = some b) : scal v w = true ∧ decide (v = w) = b := by
  cases q1 <;> cases q2 <;> first
    | (cases h; exact ⟨rfl, by simp⟩)
    | cases h
def pyAll (g : D → Option PyData) : List D → Option (List PyData)
  | [] => some []
  | d :: r => match g d, pyAll g r with
    | some p, some ps => some (p :: ps)
    | _, _ => none
/-- a datum with what it holds, to so great a depth -/
def py : Nat → Sto → D → Option PyData
  | 0, _, _ => none
  | _ + 1, _, .non => some .none
  | _ + 1, _, .bl b => some (.bool b)
  | _ + 1, _, .int i => some (.int i)
  | _ + 1, _, .str x => some (.str x)
  | f + 1, S, .tup ds => (pyAll (py f S) ds).map .tuple
  | _ + 1, _, .scr ns => some (.list (ns.map .int))
  | f + 1, S, .ref n => match S[n]? with
    | some (.lst ds) => (pyAll (py f S) ds).map .list
    | _ => none
def pyR (S : Sto) : Rv → Option PyData
  | .va d => py 12 S d
  | .fr (.lst ds) => (pyAll (py 12 S) ds).map .list
  | _ => none
theorem pyAll_ok {g : D → Option PyData} (hg : ∀ v d p, Rep G r H v d → g d = some p → Dp G.K H v p) : ∀ {vs : List V} {ds : List D} {ps : List PyData}, Reps G r H vs ds → pyAll g ds = some ps → DpAll G.K H vs ps
  | _, _, _, .nil, e => by cases e; exact .nil
  | _, _, _, .cons (d := d) (ds := ds) h t, e => by
    unfold pyAll at e
    cases e1 : g d with
    | none => rw [e1] at e; cases e
    | some p =>
      cases e2 : pyAll g ds with
      | none => rw [e1, e2] at e; cases e
      | some ps =>
        rw [e1, e2] at e
        cases e
        exact .cons (hg _ _ _ h e1) (pyAll_ok hg t e2)
theorem dp_ints (ns : List Int) : DpAll G.K H (ns.map V.int) (ns.map PyData.int) := by
  induction ns with
  | nil => exact .nil
  | cons n ns ih => exact .cons (.int n) ih
theorem py_ok (s : Sim G r H S) : ∀ (f : Nat) (v : V) (d : D) (p : PyData), Rep G r H v d → py f S d = some p → Dp G.K H v p
  | 0, _, _, _, _, e => by cases e
  | f + 1, _, _, _, .non, e => by cases e; exact .non
  | f + 1, _, _, _, .bl b, e => by cases e; exact .bl b
  | f + 1, _, _, _, .int i, e => by cases e; exact .int i
  | f + 1, _, _, _, .str x, e => by cases e; exact .str x
  | f + 1, _, _, p, .tup (ds := ds) h na q, e => by
    unfold py at e
    cases e1 : pyAll (py f S) ds with
    | none => rw [e1] at e; cases e
    | some ps =>
      rw [e1] at e
      cases e
      exact .tup (.inl h) (pyAll_ok (fun v d p => py_ok s f v d p) q e1)
  | f + 1, _, _, p, .scr (ns := ns) h, e => by
    cases e
    refine .lst (xs := ns.map V.int) ?_ (dp_ints ns)
    rcases h with ⟨⟨o, h⟩, _⟩ | h
    · exact .inl (.inr ⟨o, h⟩)
    · exact h H
  | f + 1, _, _, p, .ref (n := n) h, e => by
    unfold py at e
    cases e1 : S[n]? with
    | none => rw [e1] at e; cases e
    | some o =>
      rw [e1] at e
      cases o with
      | lst ds =>
        dsimp only at e
        cases e2 : pyAll (py f S) ds with
        | none => rw [e2] at e; cases e
        | some ps =>
          rw [e2] at e
          cases e
          obtain ⟨vs, h1, h2⟩ := s.at_ n _ _ h e1
          exact .lst (SqL.of h1) (pyAll_ok (fun v d p => py_ok s f v d p) h2 e2)
      | dct _ => cases e
      | ins _ _ => cases e
theorem pyR_ok (s : Sim G r H S) {v : V} {x : Rv} {p : PyData} (q : RepR G r H0 H v x) (e : pyR S x = some p) : Dp G.K H v p := by
  cases x with
  | va d => exact py_ok s 12 v d p q e
  | fr o =>
    cases o with
    | lst ds =>
      unfold pyR at e
      dsimp only at e
      cases e2 : pyAll (py 12 S) ds with
      | none => rw [e2] at e; cases e
      | some ps =>
        rw [e2] at e
        cases e
        obtain ⟨a, rfl, _, _, vs, h1, h2⟩ := q
        exact .lst (SqL.of h1) (pyAll_ok (fun v d p => py_ok s 12 v d p) h2 e2)
    | dct _ => cases e
    | ins _ _ => cases e
def eqD (S : Sto) (x y : Rv) : Option Bool := match pyR S x, pyR S y with
  | some p, some q => if SeqAt.shaped p && SeqAt.shaped q then some (PyData.eqv p q) else none
  | _, _ => none
def eqB (S : Sto) (x y : Rv) : Option Bool := match x, y with
  | .va d, .va e => match eqS d e with
    | some b => some b
    | none => eqD S x y
  | _, _ => eqD S x y
def pEq : Sto → List Rv → Option Rv := fun S xs => match xs with
  | [x, y] => (eqB S x y).map fun b => .va (.bl b)
  | _ => none
def pNe : Sto → List Rv → Option Rv := fun S xs => match xs with
  | [x, y] => (eqB S x y).map fun b => .va (.bl (!b))
  | _ => none
def rEqA (K : PySem.W.Frag) : R2 := fun x y H Q => rEq x y H Q ∨ rEqD K x y H Q
def rNeA (K : PySem.W.Frag) : R2 := fun x y H Q => rNe x y H Q ∨ rNeD K x y H Q
theorem op_eqA {X : Cx} (hu : X.A.units + 64 < cLine) : OpR X (compareOp .Eq) (rEqA X.K) := op_eq.or (op_eqD hu)
theorem op_neA {X : Cx} (hu : X.A.units + 64 < cLine) : OpR X (compareOp .NotEq) (rNeA X.K) := op_ne.or (op_neD hu)
theorem eqD_ok (s : Sim G r H S) {v w : V} {x y : Rv} {b : Bool} (q1 : RepR G r H0 H v x) (q2 : RepR G r H0 H w y) (e : eqD S x y = some b) :
    ∃ p q, Dp G.K H v p ∧ Dp G.K H w q ∧ SeqAt.shaped p = true ∧ SeqAt.shaped q = true ∧ PyData.eqv p q = b := by
  unfold eqD at e
  cases e1 : pyR S x with
  | none => rw [e1] at e; cases e
  | some p =>
    cases e2 : pyR S y with
    | none => rw [e1, e2] at e; cases e
    | some q =>
      rw [e1, e2] at e
      dsimp only at e
      split at e
      · rename_i h
        have h' := Bool.and_eq_true_iff.mp h
        exact ⟨p, q, pyR_ok s q1 e1, pyR_ok s q2 e2, h'.1, h'.2, Option.some.inj e⟩
      · cases e
theorem eqB_ok (s : Sim G r H S) {v w : V} {x y : Rv} {b : Bool} (q1 : RepR G r H0 H v x) (q2 : RepR G r H0 H w y) (e : eqB S x y = some b) :
    (scal v w = true ∧ decide (v = w) = b) ∨ ∃ p q, Dp G.K H v p ∧ Dp G.K H w q ∧ SeqAt.shaped p = true ∧ SeqAt.shaped q = true ∧ PyData.eqv p q = b := by
  unfold eqB at e
  split at e
  · rename_i d e'
    cases es : eqS d e' with
    | none => rw [es] at e; exact .inr (eqD_ok s q1 q2 e)
    | some c =>
      rw [es] at e
      cases e
      exact .inl (eqS_ok q1 q2 es)
  · exact .inr (eqD_ok s q1 q2 e)
theorem ok_eq : Pure1 G (L22 (rEqA G.K)) pEq := by
  intro r H0 H S xs z vs Q s b q e k
  unfold pEq at e
  split at e
  · rename_i x y
    cases e1 : eqB S x y with
    | none => rw [e1] at e; cases e
    | some c =>
      rw [e1] at e
      cases e
      obtain ⟨v, w, rfl, q1, q2⟩ := reps2 q
      rcases eqB_ok s q1 q2 e1 with ⟨h1, h2⟩ | ⟨p, p', h1, h2, h3, h4, h5⟩
      · exact ⟨_, _, rfl, .inl ⟨h1, by rw [h2]; exact fin_same k (.bl _)⟩⟩
      · exact ⟨_, _, rfl, .inr ⟨p, p', h1, h2, h3, h4, by rw [h5]; exact fin_same k (.bl _)⟩⟩
  · cases e
theorem ok_ne : Pure1 G (L22 (rNeA G.K)) pNe := by
  intro r H0 H S xs z vs Q s b q e k
  unfold pNe at e
  split at e
  · rename_i x y
    cases e1 : eqB S x y with
    | none => rw [e1] at e; cases e
    | some c =>
      rw [e1] at e
      cases e
      obtain ⟨v, w, rfl, q1, q2⟩ := reps2 q
      rcases eqB_ok s q1 q2 e1 with ⟨h1, h2⟩ | ⟨p, p', h1, h2, h3, h4, h5⟩
      · exact ⟨_, _, rfl, .inl ⟨h1, by rw [h2]; exact fin_same k (.bl _)⟩⟩
      · exact ⟨_, _, rfl, .inr ⟨p, p', h1, h2, h3, h4, by rw [h5]; exact fin_same k (.bl _)⟩⟩
  · cases e
/-- is None, is not None -/
def isN : Rv → Bool
  | .va .non => true
  | _ => false
theorem isN_ok {v : V} {x : Rv} (q : RepR G r H0 H v x) : decide (v = .non) = isN x := by
  cases x with
  | fr o => obtain ⟨a, rfl, _⟩ := q; rfl
  | va d => cases q <;> rfl
def pIsN : Sto → List Rv → Option Rv := fun _ xs => match xs with
  | [x, .va .non] => some (.va (.bl (isN x)))
  | _ => none
def pNotN : Sto → List Rv → Option Rv := fun _ xs => match xs with
  | [x, .va .non] => some (.va (.bl (!isN x)))
  | _ => none
theorem ok_isN : Pure1 G (L22 fun x y H Q => y = .non ∧ Q (.bl (decide (x = .non))) H) pIsN := by
  intro r H0 H S xs z vs Q s b q e k
  unfold pIsN at e
  split at e
  · cases e
    obtain ⟨v, w, rfl, q1, q2⟩ := reps2 q
    cases q2
    exact ⟨_, _, rfl, rfl, by rw [isN_ok q1]; exact fin_same k (.bl _)⟩
  · cases e
theorem ok_notN : Pure1 G (L22 fun x y H Q => y = .non ∧ Q (.bl (!decide (x = .non))) H) pNotN := by
  intro r H0 H S xs z vs Q s b q e k
  unfold pNotN at e
  split at e
  · cases e
    obtain ⟨v, w, rfl, q1, q2⟩ := reps2 q
    cases q2
    exact ⟨_, _, rfl, rfl, by rw [isN_ok q1]; exact fin_same k (.bl _)⟩
  · cases e

/-! ### subscripts, slices, displays -/
def pIx : Sto → List Rv → Option Rv := fun S xs => match xs with
  | [.va (.str x), .va (.int i)] => if x.length ≤ sizeLine then (atI x.cps.toList i).map fun c => .va (.str ⟨#[c]⟩) else none
  | [x, .va (.int i)] => match vQ S x with
    | some ds => (atI ds i).map .va
    | none => none
  | _ => none
theorem atI_reps {vs : List V} {ds : List D} (q : Reps G r H vs ds) {i : Int} {d : D} (e : atI ds i = some d) : ∃ v, atI vs i = some v ∧ Rep G r H v d := by
  unfold atI at e ⊢
  rw [q.length]
  cases ei : ixN ds.length i with
  | none => rw [ei] at e; cases e
  | some j =>
    rw [ei] at e
    exact q.get (i := j) e
theorem ok_ix : Pure1 G (L22 (rIx G.K)) pIx := by
  intro r H0 H S xs z vs Q s b q e k
  unfold pIx at e
  split at e
  · rename_i x i
    split at e
    · rename_i hz
      cases e1 : atI x.cps.toList i with
      | none => rw [e1] at e; cases e
      | some c =>
        rw [e1] at e
        cases e
        obtain ⟨v, w, rfl, q1, q2⟩ := reps2 q
        cases q1
        cases q2
        exact ⟨_, _, rfl, .inr (.inr ⟨x, i, c, rfl, rfl, hz, e1, fin_same k (.str _)⟩)⟩
    · cases e
  · rename_i x i _
    cases e1 : vQ S x with
    | none => rw [e1] at e; cases e
    | some ds =>
      rw [e1] at e
      dsimp only at e
      cases e2 : atI ds i with
      | none => rw [e2] at e; cases e
      | some d =>
        rw [e2] at e
        cases e
        obtain ⟨v, w, rfl, q1, q2⟩ := reps2 q
        cases q2
        obtain ⟨a, us, rfl, hq, rq⟩ := vQ_ok s q1 e1
        obtain ⟨u, hu, ru⟩ := atI_reps rq e2
        rcases hq with hq | hq
        · exact ⟨_, _, rfl, .inl ⟨a, us, i, u, rfl, rfl, hq, hu, fin_same k ru⟩⟩
        · exact ⟨_, _, rfl, .inr (.inl ⟨a, us, i, u, rfl, rfl, hq, hu, fin_same k ru⟩)⟩
  · cases e
end
/-! slices -/
def cutD (ds : List D) (lo hi : Option Int) : List D := (ds.drop (HT.sIx ds.length 0 lo)).take (HT.sIx ds.length ds.length hi - HT.sIx ds.length 0 lo)
theorem cut_reps {G : Cfg} {r : List Addr} {H : Hp} {vs : List V} {ds : List D} (q : Reps G r H vs ds) (lo hi : Option Int) : Reps G r H (cutV vs lo hi) (cutD ds lo hi) := by
  unfold cutV cutD
  rw [q.length]
  exact (q.drop _).take _
def rSlice (K : PySem.W.Frag) : V → Option Int → Option Int → Hp → VK → Prop := fun x lo hi H Q => rSlL K x lo hi H Q ∨ rSlA K x lo hi H Q ∨ rSlS x lo hi H Q
theorem sl_any {X : Cx} : SlR X (rSlice X.K) := sl_list.or (sl_tupA.or sl_str)
def cutR (S : Sto) (x : Rv) (lo hi : Option Int) : Option Rv := match x with
  | .va (.str z) => if z.length ≤ sizeLine then some (.va (.str (cutS z lo hi))) else none
  | .va (.tup ds) => some (.va (.tup (cutD ds lo hi)))
  | x => (vL S x).map fun ds => .fr (.lst (cutD ds lo hi))
/-- a part of a slice -/
abbrev OX := Env → Sto → Rs (Option Int)
def oNone : OX := fun _ S => .ok none S
def oSome (m : EX) : OX := fun env S => (m env S).bind fun x S1 => match x with
  | .va (.int i) => .ok (some i) S1
  | _ => .bad
def TOI (G : Cfg) (W : WX) (m : OX) : TO := fun σ H Q => ∃ r S env, EnvR G r H σ env ∧ Sim G r H S ∧ Post G W σ r H (fun _ _ a b => a = b) Q (m env S)
theorem _root_.L2.PO.mono {X : Cx} {e : Option Expr} {t t' : TO} (h : PO X e t) (k : ∀ σ H Q, t' σ H Q → t σ H Q) : PO X e t' := ⟨fun pins s σ H Q I q => h.run pins s σ H Q I (k σ H Q q)⟩
def eSl (m : EX) (lo hi : OX) : EX := fun env S => (m env S).bind fun x S1 => (lo env S1).bind fun a S2 => (hi env S2).bind fun b S3 => match cutR S3 x a b with
  | some z => .ok z S3
  | none => .bad
section
variable {X : Cx} {cA : Nat → Addr} {fN : Nat → List Str} {W : WX} {e a b : Expr} {es : List Expr} {pos p2 : Pos} {m : EX}
theorem o_none : PO X none (TOI (GX X cA fN) W oNone) := po_none.mono fun σ H Q h => by
  obtain ⟨r, S, env, he, hs, hp⟩ := h
  exact hp none r H (Ext.refl r H) hs rfl
theorem o_some (h : PE X e (TI (GX X cA fN) W m)) : PO X (some e) (TOI (GX X cA fN) W (oSome m)) := (po_some h).mono fun σ H Q h => by
  obtain ⟨r, S, env, he, hs, hp⟩ := h
  refine ⟨r, S, env, he, hs, Post.bind hp fun x S1 v r1 H1 e1 s1 q1 z => ?_⟩
  cases x with
  | fr o => exact z.elim
  | va d =>
    cases d with
    | int i => cases q1; exact ⟨i, rfl, z (some i) r1 H1 e1 s1 rfl⟩
    | _ => exact z.elim
theorem i_slice {lo hi : Option Expr} {ol oh : OX} (h : PE X e (TI (GX X cA fN) W m)) (h1 : PO X lo (TOI (GX X cA fN) W ol)) (h2 : PO X hi (TOI (GX X cA fN) W oh)) : PE X (.Subscript e (.Slice lo hi none p2) pos) (TI (GX X cA fN) W (eSl m ol oh)) :=
  (pe_slice sl_any h h1 h2).mono fun σ H Q h => by
  obtain ⟨r, S, env, he, hs, hp⟩ := h
  refine ⟨r, S, env, he, hs, Post.bind hp fun x S1 v r1 H1 e1 s1 q1 z => ?_⟩
  refine ⟨r1, S1, env, he.ext e1, s1, Post.bind (z.shift e1 (R' := RV _ H) fun _ _ _ _ k => k) fun lo S2 lo' r2 H2 e2 s2 q2 z2 => ?_⟩
  subst q2
  refine ⟨r2, S2, env, (he.ext e1).ext e2, s2, Post.bind (z2.shift e2 (R' := RV _ H) fun _ _ _ _ k => k) fun hi S3 hi' r3 H3 e3 s3 q3 z3 => ?_⟩
  subst q3
  have q1' : RepR (GX X cA fN) r3 H H3 v x := (q1.ext e2).ext e3
  have x2 := e1.trans (e2.trans e3)
  unfold cutR at z3
  split at z3
  · rename_i z he
    split at he
    · rename_i w
      split at he
      · rename_i hz
        cases he
        cases q1'
        exact .inr (.inr ⟨w, rfl, hz, z3 _ r3 H3 e3 s3 (.str _)⟩)
      · cases he
    · rename_i ds
      cases he
      obtain ⟨a, us, rfl, ha, ra⟩ := vT_ok q1' rfl
      refine .inr (.inl ⟨a, us, rfl, ha, fun hw => ?_, fun hw p hp => ?_⟩)
      · refine z3 _ r3 H3 e3 s3 ?_
        have : cutD ds lo' hi' = ds := by
          unfold cutD
          rw [← ra.length, hw.1, hw.2, List.drop_zero, Nat.sub_zero, ra.length, List.take_length]
        rw [this]
        exact q1'
      · exact fin_tup (H0 := H) (Q := Q) s3 (fun v H' x st q => z3 v r3 H' (e3.trans x) (s3.stays st x) q) (cut_reps ra lo' hi') p hp
    · cases ev : vL S3 x with
      | none => rw [ev] at he; cases he
      | some ds =>
        rw [ev] at he
        cases he
        obtain ⟨a, us, rfl, ha, ra⟩ := vL_ok s3 q1' ev
        exact .inl ⟨a, us, rfl, ha, fin_lst (H0 := H) (Q := Q) s3 (fun p hp => x2.back hp) (fun v H' x st q => z3 v r3 H' (e3.trans x) (s3.stays st x) q) (cut_reps ra lo' hi')⟩
  · exact z3.elim
end
end Cy

set_option Elab.async false
set_option linter.all false
set_option maxRecDepth 100000
set_option maxHeartbeats 2000000
set_option autoImplicit false
/-! Displays, calls of built-ins, methods of built-in types by the mirror. -/
namespace Cy
open PySem L2

section
variable {X : Cx} {cA : Nat → Addr} {fN : Nat → List Str} {W : WX} {e o a b : Expr} {es : List Expr} {pos p apos : Pos} {m mo ma mb : EX} {ms : List EX} {x : Str}
def eTup (ms : List EX) : EX := fun env S => (eArgs ms env S).bind fun xs S1 => match unva xs with
  | some ds => if ds.length ≤ sizeLine then .ok (.va (.tup ds)) S1 else .bad
  | none => .bad
def eLst (ms : List EX) : EX := fun env S => (eArgs ms env S).bind fun xs S1 => match unva xs with
  | some ds => if ds.length ≤ sizeLine then .ok (.fr (.lst ds)) S1 else .bad
  | none => .bad
theorem i_tup {k : Nat} (h : PA X es (TAI (GX X cA fN) W (eArgs ms))) : PE X (.Tuple es k pos) (TI (GX X cA fN) W (eTup ms)) := (pe_tup h).mono fun σ H Q h => by
  obtain ⟨r, S, env, he, hs, hp⟩ := h
  refine ⟨r, S, env, he, hs, Post.bind hp fun xs S1 vs r1 H1 e1 s1 q1 z => ?_⟩
  cases eu : unva xs with
  | none => rw [eu] at z; exact z.elim
  | some ds =>
    rw [eu] at z
    dsimp only at z
    split at z
    · rename_i hz
      have q := unva_ok q1 eu
      exact ⟨by rw [q.length]; exact hz, fin_tup (H0 := H) s1 (fun v H' x st q => z v r1 H' (e1.trans x) (s1.stays st x) q) q⟩
    · exact z.elim
theorem i_lst (h : PA X es (TAI (GX X cA fN) W (eArgs ms))) : PE X (.List es pos) (TI (GX X cA fN) W (eLst ms)) := (pe_lst h).mono fun σ H Q h => by
  obtain ⟨r, S, env, he, hs, hp⟩ := h
  refine ⟨r, S, env, he, hs, Post.bind hp fun xs S1 vs r1 H1 e1 s1 q1 z => ?_⟩
  cases eu : unva xs with
  | none => rw [eu] at z; exact z.elim
  | some ds =>
    rw [eu] at z
    dsimp only at z
    split at z
    · rename_i hz
      have q := unva_ok q1 eu
      exact ⟨by rw [q.length]; exact hz, fin_lst (H0 := H) s1 (fun p hp => e1.back hp) (fun v H' x st q => z v r1 H' (e1.trans x) (s1.stays st x) q) q⟩
    · exact z.elim
theorem i_ix {f : Prim} {ro : R2} (hr : IxR X ro) (P : PrimOk (GX X cA fN) (L22 ro) f) (ha : PE X a (TI (GX X cA fN) W ma)) (hb : PE X b (TI (GX X cA fN) W mb)) (hs : PlainIx b := by exact fun _ _ => rfl) : PE X (.Subscript a b pos) (TI (GX X cA fN) W (eP f [ma, mb])) :=
  (pe_ix hr ha hb hs).mono fun _ _ _ h => two_of P (fun _ _ _ k => k) h
theorem cb_of {G : Cfg} {rd : List V → Hp → VK → Prop} {f : Prim} (P : PrimOk G rd f) {σ : L2.St} {H : Hp} {Q : VK} (h : TI G W (eP f ms) σ H Q) : tCB rd (TAI G W (eArgs ms)) σ H Q := by
  obtain ⟨r, S, env, he, hs, hp⟩ := h
  exact ⟨r, S, env, he, hs, prim_post P hp⟩
theorem i_cb {id : String} {rd : List V → Hp → VK → Prop} {f : Prim} (hc : CallR X (.builtin id) rd) (P : PrimOk (GX X cA fN) rd f) (hm : X.mg x = none) (hv : bootBuiltins x = some (.builtin id)) (ha : PA X (e :: es) (TAI (GX X cA fN) W (eArgs ms)))
    (hg : Gl X x := by rfl) (hn : x ≠ "__name__" := by decide) (hdb : (x == ("__debug__" : Str)) = false := by decide) (he : starEach (e :: es) X.env = (false, eval e X.env) :: starEach es X.env := by rfl) (hpl : (backTo pos (starEach es X.env)).any (·.1) = false := by rfl) :
    PE X (.Call (.Name x p) (e :: es) [] pos) (TI (GX X cA fN) W (eP f ms)) := (pe_callB hc hg hm hv ha hn hdb he hpl).mono fun _ _ _ h => cb_of P h
theorem i_ct {T : String} {rd : List V → Hp → VK → Prop} {f : Prim} (hc : CallR X (.type T) rd) (P : PrimOk (GX X cA fN) rd f) (hm : X.mg x = none) (hv : bootBuiltins x = some (.type T)) (ha : PA X (e :: es) (TAI (GX X cA fN) W (eArgs ms)))
    (hg : Gl X x := by rfl) (hn : x ≠ "__name__" := by decide) (hdb : (x == ("__debug__" : Str)) = false := by decide) (he : starEach (e :: es) X.env = (false, eval e X.env) :: starEach es X.env := by rfl) (hpl : (backTo pos (starEach es X.env)).any (·.1) = false := by rfl) :
    PE X (.Call (.Name x p) (e :: es) [] pos) (TI (GX X cA fN) W (eP f ms)) := (pe_callTy hc hg hm hv ha hn hdb he hpl).mono fun _ _ _ h => cb_of P h
/-! methods of a text, of a list -/
def isS : Rv → Bool
  | .va (.str _) => true
  | _ => false
def eM (isT : Sto → Rv → Bool) (f : Prim) (mo : EX) (ms : List EX) : EX := fun env S => (mo env S).bind fun x S1 => if isT S1 x = true then (eArgs ms env S1).bind fun xs S2 => match f S2 (x :: xs) with
  | some (z, S3) => .ok z S3
  | none => .bad else .bad
def rdM (r : V → List V → Hp → VK → Prop) : List V → Hp → VK → Prop := fun vs H Q => ∃ x xs, vs = x :: xs ∧ r x xs H Q
theorem m_of {G : Cfg} {T : String} {isT : Sto → Rv → Bool} {f : Prim} {rm : V → List V → Hp → VK → Prop} (hT : ∀ r H0 H S v x, Sim G r H S → RepR G r H0 H v x → isT S x = true → tyV G.K T v H) (P : PrimOk G (rdM rm) f) {σ : L2.St} {H : Hp} {Q : VK}
    (h : TI G W (eM isT f mo ms) σ H Q) : tBM G.K T rm (TI G W mo) (TAI G W (eArgs ms)) σ H Q := by
  obtain ⟨r, S, env, he, hs, hp⟩ := h
  refine ⟨r, S, env, he, hs, Post.bind hp fun x S1 v r1 H1 e1 s1 q1 z => ?_⟩
  split at z
  · rename_i ht
    refine ⟨hT r1 H H1 S1 v x s1 q1 ht, r1, S1, env, he.ext e1, s1, Post.bind (z.shift e1 (R' := RV G H) fun _ _ _ _ k => k) fun xs S2 vs r2 H2 e2 s2 q2 z2 => ?_⟩
    cases ef : f S2 (x :: xs) with
    | none => rw [ef] at z2; exact z2.elim
    | some p =>
      obtain ⟨y, S3⟩ := p
      rw [ef] at z2
      obtain ⟨x', xs', ee, k⟩ := P r2 H H2 S2 S3 (x :: xs) y (v :: vs) Q s2 (fun p hp => e1.back (e2.back hp)) (.cons (q1.ext e2) (q2.from fun _ => e1.back)) ef fun u r3 H3 e3 s3 q3 => z2 u r3 H3 (e2.trans e3) s3 q3
      cases ee
      exact k
  · exact z.elim
theorem tyS_ok {G : Cfg} {r : List Addr} {H0 H : Hp} {S : Sto} {v : V} {x : Rv} (s : Sim G r H S) (q : RepR G r H0 H v x) (h : (fun (_ : Sto) x => isS x) S x = true) : tyV G.K "str" v H := by
  cases x with
  | fr o => cases h
  | va d =>
    cases d with
    | str z => cases q; rfl
    | _ => cases h
def isSt (_ : Sto) (x : Rv) : Bool := isS x
def isL (S : Sto) (x : Rv) : Bool := (vL S x).isSome
theorem tyL_ok {G : Cfg} {r : List Addr} {H0 H : Hp} {S : Sto} {v : V} {x : Rv} (s : Sim G r H S) (q : RepR G r H0 H v x) (h : isL S x = true) : tyV G.K "list" v H := by
  unfold isL at h
  cases e : vL S x with
  | none => rw [e] at h; cases h
  | some ds =>
    obtain ⟨a, vs, rfl, h1, _⟩ := vL_ok s q e
    exact .inl ⟨rfl, vs, h1⟩
theorem i_ms {name : Str} {id : String} {rm : V → List V → Hp → VK → Prop} {f : Prim} (slot : Slot "str" name id) (hty : typeOf (.builtin id) = pure (.type "method_descriptor")) (hm : MtR X id rm) (P : PrimOk (GX X cA fN) (rdM rm) f)
    (ho : PE X o (TI (GX X cA fN) W mo)) (ha : PA X (e :: es) (TAI (GX X cA fN) W (eArgs ms)))
    (hbase : attributeBase o name X.env (eval o X.env) = eval o X.env := by rfl)
    (hfew : ((backTo pos (starEach (e :: es) X.env)).all (fun x => !x.1) && (backToKw pos (keywordEach [] X.env)).all (fun x => x.1.isSome)
      && decide ((e :: es).length + ([] : List Keyword).length + (if ([] : List Keyword).isEmpty then 0 else 1) < 30)) = true := by rfl)
    (hline : (apos.endLine == pos.line) = true := by rfl) (hs : starEach (e :: es) X.env = (false, eval e X.env) :: starEach es X.env := by rfl) (hplain : (backTo pos (starEach es X.env)).any (·.1) = false := by rfl) :
    PE X (.Call (.Attribute o name apos) (e :: es) [] pos) (TI (GX X cA fN) W (eM (fun _ x => isS x) f mo ms)) := (pe_bm PySem.F.plainAttrs_str slot hty hm ho ha hbase hfew hline hs hplain).mono fun _ _ _ h => m_of (fun _ _ _ _ _ _ s q t => tyS_ok s q t) P h
theorem i_ml {name : Str} {id : String} {rm : V → List V → Hp → VK → Prop} {f : Prim} (slot : Slot "list" name id) (hty : typeOf (.builtin id) = pure (.type "method_descriptor")) (hm : MtR X id rm) (P : PrimOk (GX X cA fN) (rdM rm) f)
    (ho : PE X o (TI (GX X cA fN) W mo)) (ha : PA X (e :: es) (TAI (GX X cA fN) W (eArgs ms)))
    (hbase : attributeBase o name X.env (eval o X.env) = eval o X.env := by rfl)
    (hfew : ((backTo pos (starEach (e :: es) X.env)).all (fun x => !x.1) && (backToKw pos (keywordEach [] X.env)).all (fun x => x.1.isSome)
      && decide ((e :: es).length + ([] : List Keyword).length + (if ([] : List Keyword).isEmpty then 0 else 1) < 30)) = true := by rfl)
    (hline : (apos.endLine == pos.line) = true := by rfl) (hs : starEach (e :: es) X.env = (false, eval e X.env) :: starEach es X.env := by rfl) (hplain : (backTo pos (starEach es X.env)).any (·.1) = false := by rfl) :
    PE X (.Call (.Attribute o name apos) (e :: es) [] pos) (TI (GX X cA fN) W (eM isL f mo ms)) := (pe_bm PySem.F.plainAttrs_list slot hty hm ho ha hbase hfew hline hs hplain).mono fun _ _ _ h => m_of (fun _ _ _ _ _ _ s q t => tyL_ok s q t) P h
end
section
variable {G : Cfg} {r : List Addr} {H0 H : Hp} {S : Sto}
/-! ### len -/
def pLen : Sto → List Rv → Option Rv := fun S xs => match xs with
  | [.va (.str x)] => if x.length ≤ sizeLine then some (.va (.int x.length)) else none
  | [x] => (vQ S x).map fun ds => .va (.int ds.length)
  | _ => none
theorem ok_len : Pure1 G (fun xs H Q => ∃ x n, xs = [x] ∧ LenV G.K x H n ∧ Q (.int n) H) pLen := by
  intro r H0 H S xs z vs Q s b q e k
  unfold pLen at e
  split at e
  · rename_i x
    split at e
    · rename_i hz
      cases e
      obtain ⟨v, rfl, q1⟩ := reps1 q
      cases q1
      exact ⟨.str x, x.length, rfl, ⟨hz, rfl⟩, fin_same k (.int _)⟩
    · cases e
  · rename_i x _
    cases e1 : vQ S x with
    | none => rw [e1] at e; cases e
    | some ds =>
      rw [e1] at e
      cases e
      obtain ⟨v, rfl, q1⟩ := reps1 q
      obtain ⟨a, us, rfl, hq, rq⟩ := vQ_ok s q1 e1
      refine ⟨.ref a, ds.length, rfl, ?_, fin_same k (.int _)⟩
      rcases hq with hq | hq
      · exact .inl ⟨us, hq, rq.length.symm⟩
      · exact .inr ⟨us, hq, rq.length.symm⟩
  · cases e
/-! ### isinstance by a built-in class -/
def tyN (S : Sto) : Rv → Option String
  | .va .non => some "NoneType"
  | .va (.bl _) => some "bool"
  | .va (.int _) => some "int"
  | .va (.str _) => some "str"
  | .va (.tup _) => some "tuple"
  | x => match vL S x with
    | some _ => some "list"
    | none => none
theorem tyN_ok (s : Sim G r H S) {v : V} {x : Rv} {T : String} (q : RepR G r H0 H v x) (e : tyN S x = some T) : TyX G.K H v (.type T) := by
  unfold tyN at e
  split at e
  · cases e; cases q; exact .base .non
  · cases e; cases q; exact .base (.bl _)
  · cases e; cases q; exact .base (.int _)
  · cases e; cases q; exact .base (.str _)
  · cases e
    cases q with
    | tup h na q =>
      rcases h with h | ⟨o, h⟩
      · exact .base (.tup h)
      · exact .fTuple h
  · split at e
    · rename_i ds e1
      cases e
      obtain ⟨a, vs, rfl, h1, _⟩ := vL_ok s q e1
      rcases h1 with (h1 | ⟨o, h1⟩) | ⟨o, its, n, h1, h2, _⟩
      · exact .base (.lst h1)
      · exact .base (.frz h1)
      · exact .kList h1 h2
    · cases e
def isiB (T C : String) : Option Bool := L2.kitB T C
def pIsi (C : String) : Sto → List Rv → Option Rv := fun S xs => match xs with
  | [x] => match tyN S x with
    | some T => (isiB T C).map fun b => .va (.bl b)
    | none => none
  | _ => none
def rIsi1 (K : PySem.W.Frag) (C : String) : List V → Hp → VK → Prop := fun vs H Q => ∃ x, vs = [x] ∧ ∃ t b, TyX K H x t ∧ PySem.W.kitOne K t (.type C) = some b ∧ Q (.bl b) H
theorem ok_isi (C : String) : Pure1 G (rIsi1 G.K C) (pIsi C) := by
  intro r H0 H S xs z vs Q s b q e k
  unfold pIsi at e
  split at e
  · rename_i x
    cases e1 : tyN S x with
    | none => rw [e1] at e; cases e
    | some T =>
      rw [e1] at e
      dsimp only at e
      cases e2 : isiB T C with
      | none => rw [e2] at e; cases e
      | some c =>
        rw [e2] at e
        cases e
        obtain ⟨v, rfl, q1⟩ := reps1 q
        exact ⟨v, rfl, .type T, c, tyN_ok s q1 e1, kit_ty e2, fin_same k (.bl _)⟩
  · cases e
/-! ### texts -/
def pStr : Sto → List Rv → Option Rv := fun _ xs => match xs with
  | [.va (.int i)] => if i.natAbs.log2 < 1920 then some (.va (.str (toString i))) else none
  | _ => none
theorem ok_str : Pure1 G (fun xs H Q => ∃ i, xs = [.int i] ∧ i.natAbs.log2 < 1920 ∧ Q (.str (toString i)) H) pStr := by
  intro r H0 H S xs z vs Q s b q e k
  unfold pStr at e
  split at e
  · rename_i i
    split at e
    · rename_i hz
      cases e
      obtain ⟨v, rfl, q1⟩ := reps1 q
      cases q1
      exact ⟨i, rfl, hz, fin_same k (.str _)⟩
    · cases e
  · cases e
/-- int(text), int(n), int(flag) -/
def pInt : Sto → List Rv → Option Rv := fun _ xs => match xs with
  | [.va (.int i)] => some (.va (.int i))
  | [.va (.bl c)] => some (.va (.int (if c then 1 else 0)))
  | [.va (.str x)] => if x.length ≤ 640 then (PySem.intText? x).map fun n => .va (.int n) else none
  | _ => none
def rIntA : List V → Hp → VK → Prop := fun xs H Q => ((∃ i, xs = [.int i] ∧ Q (.int i) H) ∨ ∃ k, xs = [.bl k] ∧ Q (.int (if k then 1 else 0)) H) ∨ ∃ a n, xs = [.str a] ∧ PySem.intText? a = some n ∧ a.length ≤ 640 ∧ Q (.int n) H
theorem cr_intA {X : Cx} : CallR X (.type "int") rIntA := call_int1.or call_int_str
theorem ok_int : Pure1 G rIntA pInt := by
  intro r H0 H S xs z vs Q s b q e k
  unfold pInt at e
  split at e
  · cases e
    obtain ⟨v, rfl, q1⟩ := reps1 q
    cases q1
    exact .inl (.inl ⟨_, rfl, fin_same k (.int _)⟩)
  · cases e
    obtain ⟨v, rfl, q1⟩ := reps1 q
    cases q1
    exact .inl (.inr ⟨_, rfl, fin_same k (.int _)⟩)
  · rename_i x
    split at e
    · rename_i hz
      cases en : PySem.intText? x with
      | none => rw [en] at e; cases e
      | some n =>
        rw [en] at e
        cases e
        obtain ⟨v, rfl, q1⟩ := reps1 q
        cases q1
        exact .inr ⟨x, n, rfl, en, hz, fin_same k (.int _)⟩
    · cases e
  · cases e
/-- text.m(text) -/
def pSS (g : Str → Str → Option D) : Sto → List Rv → Option Rv := fun _ xs => match xs with
  | [.va (.str x), .va (.str y)] => (g x y).map .va
  | _ => none
theorem ok_SS {C : Str → Str → Prop} {gv : Str → Str → V} {g : Str → Str → Option D} (h : ∀ x y d, g x y = some d → C x y ∧ ∀ r H, Rep G r H (gv x y) d) : Pure1 G (rdM fun x xs H Q => ∃ a b, x = .str a ∧ xs = [.str b] ∧ C a b ∧ Q (gv a b) H) (pSS g) := by
  intro r H0 H S xs z vs Q s b q e k
  unfold pSS at e
  split at e
  · rename_i x y
    cases eg : g x y with
    | none => rw [eg] at e; cases e
    | some d =>
      rw [eg] at e
      cases e
      obtain ⟨v, w, rfl, q1, q2⟩ := reps2 q
      cases q1
      cases q2
      obtain ⟨hc, hd⟩ := h x y d eg
      exact ⟨_, _, rfl, x, y, rfl, rfl, hc, fin_same k (hd r H)⟩
  · cases e
def gStrip (x y : Str) : Option D := if x.length ≤ sizeLine then some (.str (Txt.stripChars x y)) else none
theorem ok_strip : Pure1 G (rdM fun x xs H Q => ∃ a b, x = .str a ∧ xs = [.str b] ∧ a.length ≤ sizeLine ∧ Q (.str (Txt.stripChars a b)) H) (pSS gStrip) := ok_SS (C := fun a _ => a.length ≤ sizeLine) fun x y d e => by
  unfold gStrip at e
  split at e
  · rename_i h
    cases e
    exact ⟨h, fun _ _ => .str _⟩
  · cases e
def gFind (x y : Str) : Option D := some (.int (Txt.find x y))
theorem ok_find : Pure1 G (rdM fun x xs H Q => ∃ a b, x = .str a ∧ xs = [.str b] ∧ Q (.int (Txt.find a b)) H) (pSS gFind) := by
  have h := ok_SS (G := G) (C := fun _ _ => True) (gv := fun a b => V.int (Txt.find a b)) (g := gFind) fun x y d e => by cases e; exact ⟨trivial, fun _ _ => .int _⟩
  intro r H0 H S xs z vs Q s b q e k
  obtain ⟨x, xs', h1, a, c, h2, h3, _, h4⟩ := h r H0 H S xs z vs Q s b q e k
  exact ⟨x, xs', h1, a, c, h2, h3, h4⟩
/-! ### list methods -/
theorem ok_wr {rd : List V → Hp → VK → Prop} {f : Prim} (h : ∀ (r : List Addr) (H0 H : Hp) (S S' : Sto) (xs : List Rv) (z : Rv) (vs : List V) (Q : VK), Sim G r H S → RepRs G r H0 H vs xs → f S xs = some (z, S') →
    (∀ v r' H', Ext r H r' H' → Sim G r' H' S' → RepR G r' H0 H' v z → Q v H') → rd vs H Q) : PrimOk G rd f := fun r H0 H S S' xs z vs Q s _ q e k => h r H0 H S S' xs z vs Q s q e k
def pApp : Prim := fun S xs => match xs with
  | [.va (.ref n), .va d] => match S[n]? with
    | some (.lst ds) => if ds.length < sizeLine then some (.va .non, S.set n (.lst (ds ++ [d]))) else none
    | _ => none
  | _ => none
theorem ok_app : PrimOk G (rdM rAppend) pApp := ok_wr fun r H0 H S S' xs z vs Q s q e k => by
  unfold pApp at e
  split at e
  · rename_i n d
    cases e1 : S[n]? with
    | none => rw [e1] at e; cases e
    | some o =>
      rw [e1] at e
      cases o with
      | lst ds =>
        dsimp only at e
        split at e
        · rename_i hz
          cases e
          obtain ⟨v, w, rfl, q1, q2⟩ := reps2 q
          obtain ⟨a, rfl, ha, us, hu, ru⟩ := s.get q1 e1
          have hm : a ∈ r := List.mem_of_getElem? ha
          have e : Ext r H r (upd H a (.lst (us ++ [w]))) := Ext.wr hm
          refine ⟨.ref a, [w], rfl, a, us, w, rfl, rfl, hu, by rw [ru.length]; exact hz, k .non r _ e (s.wr ha ⟨_, upd_same, ?_⟩) .non⟩
          exact (ru.ext e).append (.cons (Rep.ext e q2) .nil)
        · cases e
      | dct _ => cases e
      | ins _ _ => cases e
  · cases e
/-- xs.pop(i) -/
def pPopAt : Prim := fun S xs => match xs with
  | [.va (.ref n), .va (.int i)] => match S[n]? with
    | some (.lst ds) => if i.natAbs < 9223372036854775808 then match seqIndex? i ds.length with
      | some k => match ds[k]? with
        | some d => some (.va d, S.set n (.lst (ds.eraseIdx k)))
        | none => none
      | none => none else none
    | _ => none
  | _ => none
theorem ok_popAt : PrimOk G (rdM rPopAt) pPopAt := ok_wr fun r H0 H S S' xs z vs Q s q e k => by
  unfold pPopAt at e
  split at e
  · rename_i n i
    cases e1 : S[n]? with
    | none => rw [e1] at e; cases e
    | some o =>
      rw [e1] at e
      cases o with
      | lst ds =>
        dsimp only at e
        split at e
        · rename_i hz
          cases e2 : seqIndex? i ds.length with
          | none => rw [e2] at e; cases e
          | some j =>
            rw [e2] at e
            dsimp only at e
            cases e3 : ds[j]? with
            | none => rw [e3] at e; cases e
            | some d =>
              rw [e3] at e
              cases e
              obtain ⟨v, w, rfl, q1, q2⟩ := reps2 q
              cases q2
              obtain ⟨a, rfl, ha, us, hu, ru⟩ := s.get q1 e1
              obtain ⟨y, hy, ry⟩ := ru.get e3
              have hm : a ∈ r := List.mem_of_getElem? ha
              have e : Ext r H r (upd H a (.lst (us.eraseIdx j))) := Ext.wr hm
              exact ⟨.ref a, [.int i], rfl, a, us, i, j, y, rfl, rfl, hu, by omega, by omega, by rw [ru.length]; exact e2, hy, k y r _ e (s.wr ha ⟨_, upd_same, (ru.ext e).eraseIdx j⟩) (Rep.ext e ry)⟩
        · cases e
      | dct _ => cases e
      | ins _ _ => cases e
  · cases e
/-! ### list(x), tuple(x) -/
def pTupOf : Sto → List Rv → Option Rv := fun S xs => match xs with
  | [.va (.tup ds)] => some (.va (.tup ds))
  | [x] => (vL S x).map fun ds => .va (.tup ds)
  | _ => none
theorem ok_tupOf : Pure1 G (fun xs H Q => ∃ p ys, xs = [.ref p] ∧ ((SqL G.K H p ys ∧ ∀ l, H l = none → Q (.ref l) (upd H l (.tup ys))) ∨ (SqT G.K H p ys ∧ Q (.ref p) H))) pTupOf := by
  intro r H0 H S xs z vs Q s b q e k
  unfold pTupOf at e
  split at e
  · cases e
    obtain ⟨v, rfl, q1⟩ := reps1 q
    obtain ⟨a, us, rfl, ha, ra⟩ := vT_ok q1 rfl
    exact ⟨a, us, rfl, .inr ⟨ha, fin_same k q1⟩⟩
  · rename_i x _
    cases e1 : vL S x with
    | none => rw [e1] at e; cases e
    | some ds =>
      rw [e1] at e
      cases e
      obtain ⟨v, rfl, q1⟩ := reps1 q
      obtain ⟨a, us, rfl, ha, ra⟩ := vL_ok s q1 e1
      exact ⟨a, us, rfl, .inl ⟨ha, fin_tup s k ra⟩⟩
  · cases e
def pLstOf : Sto → List Rv → Option Rv := fun S xs => match xs with
  | [x] => (vQ S x).map fun ds => .fr (.lst ds)
  | _ => none
theorem ok_lstOf : Pure1 G (fun xs H Q => ∃ p ys, xs = [.ref p] ∧ (SqL G.K H p ys ∨ SqT G.K H p ys) ∧ ∀ l, H l = none → Q (.ref l) (upd H l (.lst ys))) pLstOf := by
  intro r H0 H S xs z vs Q s b q e k
  unfold pLstOf at e
  split at e
  · rename_i x
    cases e1 : vQ S x with
    | none => rw [e1] at e; cases e
    | some ds =>
      rw [e1] at e
      cases e
      obtain ⟨v, rfl, q1⟩ := reps1 q
      obtain ⟨a, us, rfl, ha, ra⟩ := vQ_ok s q1 e1
      exact ⟨a, us, rfl, ha, fin_lst s b k ra⟩
  · cases e
end
section
variable {X : Cx} {cA : Nat → Addr} {fN : Nat → List Str} {W : WX} {e o a b : Expr} {es : List Expr} {pos p apos p2 : Pos} {m mo ma mb : EX} {ms : List EX} {x : Str}
/-- isinstance(x, C), C a built-in class -/
theorem i_isi {C : Str} {cs : String} (hm : X.mg "isinstance" = none) (hmC : X.mg C = none) (hvC : bootBuiltins C = some (.type cs)) (ha : PE X a (TI (GX X cA fN) W ma)) (hg : Gl X "isinstance" := by rfl) (hgC : Gl X C := by rfl) (hnC : C ≠ "__name__" := by decide) (hdC : (C == ("__debug__" : Str)) = false := by decide)
    (hst : starEach [a, .Name C p2] X.env = (false, eval a X.env) :: starEach [.Name C p2] X.env := by rfl) (hst2 : starEach [Expr.Name C p2] X.env = (false, eval (.Name C p2) X.env) :: starEach [] X.env := by rfl) (hpl : (backTo pos (starEach [Expr.Name C p2] X.env)).any (·.1) = false := by rfl) :
    PE X (.Call (.Name "isinstance" p) [a, .Name C p2] [] pos) (TI (GX X cA fN) W (eP (lift (pIsi cs)) [ma])) :=
  (pe_callB call_isi hg hm (by decide +kernel) (pa_cons ha (pa_cons (pe_bltn (v := .ty cs) hgC hmC hvC rfl hnC hdC) pa_nil hst2) hst) (by decide) (by decide) hst hpl).mono fun σ H Q h => by
  obtain ⟨r, S, env, he, hs, hp⟩ := h
  have hq := prim_post (ok_isi cs).ok hp
  refine ⟨r, S, env, he, hs, Post.bind hq fun x S1 v r1 H1 e1 s1 q1 z => ?_⟩
  obtain ⟨x', e, t, c, h1, h2, h3⟩ := z [v] r1 H1 e1 s1 (.cons q1 .nil)
  cases e
  exact ⟨v, .ty cs, t, .type cs, c, rfl, .ty cs, h1, h2, h3⟩
/-- list(range(..)) -/
def eLr1 (m : EX) : EX := fun env S => (m env S).bind fun x S1 => match x with
  | .va (.int i) => if small62 i = true ∧ i.toNat ≤ 16777216 then .ok (.fr (.lst (rangeD 0 i))) S1 else .bad
  | _ => .bad
theorem rg_reps {G : Cfg} {r : List Addr} {H : Hp} (i j : Int) : Reps G r H (rgV i j) (rangeD i j) := by
  unfold rgV rangeD
  generalize List.range (j - i).toNat = l
  induction l with
  | nil => exact .nil
  | cons n l ih => exact .cons (.int _) ih
theorem i_lr1 {pos' : Pos} (hml : X.mg "list" = none) (hm : X.mg "range" = none) (ha : PE X a (TI (GX X cA fN) W ma)) (hc : X.calm = true := by rfl) (hgl : Gl X "list" := by rfl) (hg : Gl X "range" := by rfl) (na : starEach [a] X.env = (false, eval a X.env) :: starEach [] X.env := by rfl)
    (nb : starEach [Expr.Call (.Name "range" p2) [a] [] pos'] X.env = (false, eval (.Call (.Name "range" p2) [a] [] pos') X.env) :: starEach [] X.env := by rfl) :
    PE X (.Call (.Name "list" p) [.Call (.Name "range" p2) [a] [] pos'] [] pos) (TI (GX X cA fN) W (eLr1 ma)) := (pe_listRg hc hgl hml (prg_1 hg hm ha na) nb).mono fun σ H Q h => by
  obtain ⟨r, S, env, he, hs, hp⟩ := h
  refine ⟨r, S, env, he, hs, Post.bind hp fun x S1 v r1 H1 e1 s1 q1 z => ?_⟩
  cases x with
  | fr o => exact z.elim
  | va d =>
    cases d with
    | int i =>
      cases q1
      dsimp only at z
      split at z
      · rename_i hb
        obtain ⟨b1, b2⟩ := small62_ok hb.1
        refine ⟨i, rfl, ⟨by omega, by omega, b1, b2, by have := hb.2; omega⟩, ?_⟩
        exact fin_lst (H0 := H) (Q := Q) s1 (fun p hp => e1.back hp) (fun v H' x st q => z v r1 H' (e1.trans x) (s1.stays st x) q) (rg_reps 0 i)
      · exact z.elim
    | _ => exact z.elim
end
end Cy

set_option Elab.async false
set_option linter.all false
set_option maxRecDepth 100000
set_option maxHeartbeats 2000000
set_option autoImplicit false
/-! What the printed walks name: callees, more operators and built-ins, the law's own promise. -/
namespace Cy
open PySem L2
/-! ### callees -/
structure Callee (P : Program) (w : World) (K : PySem.W.Frag) (mg : Str → Option Value) (base : Heap) (cA : Nat → Addr) (fN : Nat → List Str) (k : Nat) (x : Str) (ps : List Str) (dds : List D) (fI : FI) : Prop where
  ne : NoErr fI
  got : ∃ (f : Addr) (fd : FuncData) (ds : List Value) (dvs : List V), mg x = some (.ref f) ∧ PySem.W.keepIn K (.ref f) = true ∧ Binds K fd ps ds ∧ Vals dvs ds ∧ (∀ r H, Reps ⟨K, cA, fN⟩ r H dvs dds) ∧ FnOk P w K mg base CX0 k f fd ps (spI ⟨K, cA, fN⟩ ps.length fI)
section
variable {P : Program} {w : World} {K : PySem.W.Frag} {mg : Str → Option Value} {base : Heap} {cA : Nat → Addr} {fN : Nat → List Str} {k : Nat} {x : Str} {ps : List Str} {f : FI}
theorem Callee.mkN {fI : FI} {a : Addr} {fd : FuncData} {ds : List Value} {dvs : List V} {dds : List D} (ne : NoErr fI) (hm : mg x = some (.ref a)) (hk : PySem.W.keepIn K (.ref a) = true) (hb : Binds K fd ps ds) (hv : Vals dvs ds) (hd : ∀ r H, Reps ⟨K, cA, fN⟩ r H dvs dds)
    (F : FnOk P w K mg base CX0 k a fd ps (spI ⟨K, cA, fN⟩ ps.length fI)) : Callee P w K mg base cA fN k x ps dds fI := ⟨ne, a, fd, ds, dvs, hm, hk, hb, hv, hd, F⟩
end
section
variable {X : Cx} {cA : Nat → Addr} {fN : Nat → List Str} {W : WX} {k : Nat} {ps : List Str} {fI : FI} {dds : List D} {x : Str} {p pos : Pos} {e : Expr} {es : List Expr} {ms : List EX} {m : EX}
theorem i_callC (hr : Room k X.A) (C : Callee X.prog X.w X.K X.mg X.base cA fN k x ps dds fI) (ha : PA X (e :: es) (TAI (GX X cA fN) W (eArgs (m :: ms)))) (hn : (m :: ms).length + dds.length = ps.length := by rfl) (hg : Gl X x := by rfl) (hdb : (x == ("__debug__" : Str)) = false := by decide)
    (he : starEach (e :: es) X.env = (false, eval e X.env) :: starEach es X.env := by rfl) (hpl : (backTo pos (starEach es X.env)).any (·.1) = false := by rfl) : PE X (.Call (.Name x p) (e :: es) [] pos) (TI (GX X cA fN) W (eCall fI (m :: ms) dds)) := by
  obtain ⟨f, fd, ds, dvs, h1, h2, h3, h4, h5, h6⟩ := C.got
  exact i_call C.ne h6 hr h1 h2 h3 h4 h5 ha hn hg hdb he hpl
theorem i_callC0 (hr : Room k X.A) (C : Callee X.prog X.w X.K X.mg X.base cA fN k x ps dds fI) (hn : dds.length = ps.length := by rfl) (hg : Gl X x := by rfl) (hdb : (x == ("__debug__" : Str)) = false := by decide) : PE X (.Call (.Name x p) [] [] pos) (TI (GX X cA fN) W (eCall fI [] dds)) := by
  obtain ⟨f, fd, ds, dvs, h1, h2, h3, h4, h5, h6⟩ := C.got
  exact i_call0 C.ne h6 hr h1 h2 h3 h4 h5 hn hg hdb
theorem s_doc {pos' : Pos} {j : Nat} {z : Str} : PS X (.Expr (.Constant (.str z) j pos) pos') (TSI (GX X cA fN) W sNil) := ps_doc.mono fun D σ H h => by
  obtain ⟨r, S, env, he, hs, hp⟩ := h
  exact hp σ r H (Ext.refl r H) he hs
theorem mtM {id : String} {r : V → List V → Hp → VK → Prop} (h : MtM X id r) : MtR X id r := h
end
theorem he_str {K : PySem.W.Frag} {h : Heap} {mg : Str → Option Value} {x z : Str} (X : K.In h) (G : h.Ns mainGlobals mg) (c : (He.Fa.str x z).ok K = true) : ∃ t, mg x = some (.str z t) := He.str_ok X G c
theorem he_int {K : PySem.W.Frag} {h : Heap} {mg : Str → Option Value} {x : Str} {i : Int} (X : K.In h) (G : h.Ns mainGlobals mg) (c : (He.Fa.int x i).ok K = true) : ∃ t, mg x = some (.int i t) := He.int_ok X G c
/-! ### the law -/
theorem law_sp {K : PySem.W.Frag} {cA : Nat → Addr} {fN : Nat → List Str} {m : FI} {H : Hp} {a : Addr} {ns : List Int} (hO : Only H) (hS : SqL K H a (ns.map V.int)) (h : ∃ S', m [.scr ns] [] = .ok (.va (.bl true)) S') :
    spI ⟨K, cA, fN⟩ 1 m [.ref a] H (fun v _ => v = .bl true) fun _ _ _ => False := by
  obtain ⟨S', h⟩ := h
  refine ⟨rfl, [], [], [.scr ns], ⟨rfl, List.nodup_nil, fun n a o h => by simp at h⟩, .cons (.scr ?_) .nil, ?_⟩
  · rcases hS with (h1 | ⟨o, h1⟩) | h1
    · rcases hO a with h2 | ⟨o, xs, h2⟩
      · rw [h1] at h2; cases h2
      · rw [h1] at h2; cases h2
    · exact .inl ⟨⟨o, h1⟩, by simp⟩
    · exact .inr fun H' => .inr h1
  · unfold postF
    rw [h]
    intro v r' H' _ _ q
    cases q
    rfl
section
variable {G : Cfg} {r : List Addr} {H0 H : Hp} {S : Sto}
/-! ### a * b -/
def mulB (i j : Int) : Bool := decide (i.natAbs < 18446744073709551616) || decide (j.natAbs < 18446744073709551616) || decide (Builtin.Int.intBits i + Builtin.Int.intBits j ≤ 134217728)
theorem mulB_l {i j : Int} (h : -(2 ^ 64) < i ∧ i < 2 ^ 64) : mulB i j = true := by
  unfold mulB
  rw [decide_eq_true (show i.natAbs < 18446744073709551616 by omega)]; rfl
theorem mulB_r {i j : Int} (h : -(2 ^ 64) < j ∧ j < 2 ^ 64) : mulB i j = true := by
  unfold mulB
  rw [decide_eq_true (show j.natAbs < 18446744073709551616 by omega), Bool.or_true]; rfl
theorem mulB_w {i j : Int} {a b : Nat} (ha : i.natAbs < 2 ^ a) (hb : j.natAbs < 2 ^ b) (h : a + b ≤ 134217728) : mulB i j = true := by
  have : (Builtin.Int.intBits i : Int) + (Builtin.Int.intBits j : Int) ≤ 134217728 := mulx_ok ha hb h
  unfold mulB
  rw [decide_eq_true (show Builtin.Int.intBits i + Builtin.Int.intBits j ≤ 134217728 by omega), Bool.or_true]
def pMul : Sto → List Rv → Option Rv := fun S xs => match xs with
  | [.va (.int i), .va (.int j)] => if mulB i j = true then some (.va (.int (i * j))) else none
  | [.va (.str x), .va (.int k)] => if decide (k.natAbs ≤ 1000) && decide (x.length ≤ 1000) then some (.va (.str (Txt.mul x k))) else none
  | [.va (.tup ds), .va (.int k)] => if !ds.isEmpty && decide (2 ≤ k) && decide (k.natAbs ≤ 1000) && decide (ds.length ≤ 1000) then some (.va (.tup (List.replicate k.toNat ds).flatten)) else none
  | [x, .va (.int k)] => match vM S x with
    | some ds => if decide (k.natAbs < 9223372036854775808) && decide (ds.length * k.toNat ≤ sizeLine) then some (.fr (.lst (List.replicate k.toNat ds).flatten)) else none
    | none => none
  | _ => none
def rMulS : R2 := fun x y H Q => ∃ a n, x = .str a ∧ y = .int n ∧ MulOk a n ∧ Q (.str (Txt.mul a n)) H
theorem op_mulS {X : Cx} : OpR X (binaryOp .Mult) rMulS := by
  intro pins s σ H x y v u Q I rx ry h
  obtain ⟨a, n, rfl, rfl, hm, q⟩ := h
  obtain ⟨t, rfl⟩ := rx
  obtain ⟨t', rfl⟩ := ry
  exact SB.mul hm fun t2 k => ⟨.str _, H, I.tok _, ⟨_, rfl⟩, q⟩
theorem mulS_ok {x : Str} {k : Int} (hk : k.natAbs ≤ 1000) (hx : x.length ≤ 1000) : MulOk x k := by
  refine ⟨?_, fun h1 _ => ?_, fun h1 _ => ?_⟩
  · rw [decide_eq_false (by omega), decide_eq_false (by omega)]; rfl
  · have h2 : (1000 : Int) ≤ (2 ^ 63 - 1) / k := by
      have hk0 : 0 < k := by omega
      rw [Int.le_ediv_iff_mul_le hk0]
      omega
    omega
  · unfold Builtin.Str.tooLong
    have : x.length * k.toNat ≤ 1000 * 1000 := Nat.mul_le_mul hx (by omega)
    have hz : (1000 * 1000 : Nat) ≤ sizeLine := by decide +kernel
    exact decide_eq_false (by omega)
def rMulA (K : PySem.W.Frag) : R2 := fun x y H Q => rMulS x y H Q ∨ ((rI CMul fun i j => .int (i * j)) x y H Q ∨ (rI CMulX fun i j => .int (i * j)) x y H Q) ∨ rRepT K x y H Q ∨ rRep x y H Q
theorem op_mulA {X : Cx} : OpR X (binaryOp .Mult) (rMulA X.K) := op_mulS.or <| (op_mul.or op_mulX).or (op_repT.or op_rep)
theorem Reps.rep {vs : List V} {ds : List D} (q : Reps G r H vs ds) : ∀ k : Nat, Reps G r H (List.replicate k vs).flatten (List.replicate k ds).flatten
  | 0 => .nil
  | k + 1 => by
    rw [List.replicate_succ, List.replicate_succ, List.flatten_cons, List.flatten_cons]
    exact q.append (Reps.rep q k)
theorem ok_mulA : Pure1 G (L22 (rMulA G.K)) pMul := by
  intro r H0 H S xs z vs Q s b q e k
  unfold pMul at e
  split at e
  · rename_i i j
    split at e
    · rename_i hm
      cases e
      obtain ⟨v, w, rfl, q1, q2⟩ := reps2 q
      cases q1
      cases q2
      unfold mulB at hm
      rw [Bool.or_eq_true, Bool.or_eq_true, decide_eq_true_eq, decide_eq_true_eq, decide_eq_true_eq] at hm
      refine ⟨_, _, rfl, .inr (.inl ?_)⟩
      rcases hm with (hm | hm) | hm
      · exact .inl ⟨i, j, rfl, rfl, .inl (by omega), fin_same k (.int _)⟩
      · exact .inl ⟨i, j, rfl, rfl, .inr (by omega), fin_same k (.int _)⟩
      · exact .inr ⟨i, j, rfl, rfl, (by show _ ≤ _; omega), fin_same k (.int _)⟩
    · cases e
  · split at e
    · rename_i hm
      cases e
      obtain ⟨v, w, rfl, q1, q2⟩ := reps2 q
      cases q1
      cases q2
      have hm' := Bool.and_eq_true_iff.mp hm
      exact ⟨_, _, rfl, .inl ⟨_, _, rfl, rfl, mulS_ok (of_decide_eq_true hm'.1) (of_decide_eq_true hm'.2), fin_same k (.str _)⟩⟩
    · cases e
  · rename_i ds j
    split at e
    · rename_i hm
      cases e
      obtain ⟨v, w, rfl, q1, q2⟩ := reps2 q
      cases q2
      rw [Bool.and_eq_true, Bool.and_eq_true, Bool.and_eq_true, decide_eq_true_eq, decide_eq_true_eq, decide_eq_true_eq] at hm
      obtain ⟨a, us, rfl, ha, ra⟩ := vT_ok q1 rfl
      have hl := ra.length
      refine ⟨_, _, rfl, .inr (.inr (.inl ⟨a, j, us, rfl, rfl, ha, fun e0 => ?_, hm.1.1.2, by have := hm.1.2; have := hm.1.1.2; omega, by omega, fin_tup s k (ra.rep _)⟩))⟩
      subst e0
      cases ra
      have := hm.1.1.1
      simp at this
    · cases e
  · rename_i x j _ _ _
    cases e1 : vM S x with
    | none => rw [e1] at e; cases e
    | some ds =>
      rw [e1] at e
      dsimp only at e
      split at e
      · rename_i hm
        cases e
        obtain ⟨v, w, rfl, q1, q2⟩ := reps2 q
        cases q2
        rw [Bool.and_eq_true, decide_eq_true_eq, decide_eq_true_eq] at hm
        obtain ⟨a, us, rfl, ha, ra⟩ := vM_ok s q1 e1
        have hl := ra.length
        exact ⟨_, _, rfl, .inr (.inr (.inr ⟨a, j, us, rfl, rfl, ha, by have := hm.1; omega, by have := hm.1; omega, by rw [hl]; exact hm.2, fin_lst s b k (ra.rep _)⟩))⟩
      · cases e
  · cases e
/-! ### a < b -/
def pLt : Sto → List Rv → Option Rv := fun _ xs => match xs with
  | [.va (.int i), .va (.int j)] => some (.va (.bl (decide (i < j))))
  | [.va (.str i), .va (.str j)] => some (.va (.bl (decide (i.cps.toList < j.cps.toList))))
  | _ => none
def rLtA : R2 := fun x y H Q => rI0 (fun i j => .bl (decide (i < j))) x y H Q ∨ ∃ i j, x = .str i ∧ y = .str j ∧ Q (.bl (decide (i.cps.toList < j.cps.toList))) H
theorem op_ltA {X : Cx} : OpR X (compareOp .Lt) rLtA := op_lt.or op_lt_str
theorem ok_ltA : Pure1 G (L22 rLtA) pLt := by
  intro r H0 H S xs z vs Q s b q e k
  unfold pLt at e
  split at e
  · cases e
    obtain ⟨v, w, rfl, q1, q2⟩ := reps2 q
    cases q1
    cases q2
    exact ⟨_, _, rfl, .inl ⟨_, _, rfl, rfl, fin_same k (.bl _)⟩⟩
  · cases e
    obtain ⟨v, w, rfl, q1, q2⟩ := reps2 q
    cases q1
    cases q2
    exact ⟨_, _, rfl, .inr ⟨_, _, rfl, rfl, fin_same k (.bl _)⟩⟩
  · cases e
/-! ### built-ins -/
def dInts : List D → Option (List Int)
  | [] => some []
  | .int i :: r => (dInts r).map (i :: ·)
  | _ :: _ => none
theorem dInts_ok : ∀ {vs : List V} {ds : List D} {ns : List Int}, Reps G r H vs ds → dInts ds = some ns → vs = ns.map V.int
  | _, _, _, .nil, e => by cases e; rfl
  | _, _, _, .cons (d := d) (ds := ds) h t, e => by
    cases d with
    | int i =>
      have e : (dInts ds).map (i :: ·) = some _ := e
      cases e1 : dInts ds with
      | none => rw [e1] at e; cases e
      | some ns =>
        rw [e1] at e
        cases e
        cases h
        rw [dInts_ok t e1, List.map_cons]
    | _ => cases e
def dBls : List D → Option (List Bool)
  | [] => some []
  | .bl i :: r => (dBls r).map (i :: ·)
  | _ :: _ => none
theorem dBls_ok : ∀ {vs : List V} {ds : List D} {ns : List Bool}, Reps G r H vs ds → dBls ds = some ns → vs = ns.map V.bl
  | _, _, _, .nil, e => by cases e; rfl
  | _, _, _, .cons (d := d) (ds := ds) h t, e => by
    cases d with
    | bl i =>
      have e : (dBls ds).map (i :: ·) = some _ := e
      cases e1 : dBls ds with
      | none => rw [e1] at e; cases e
      | some ns =>
        rw [e1] at e
        cases e
        cases h
        rw [dBls_ok t e1, List.map_cons]
    | _ => cases e
def pAll : Sto → List Rv → Option Rv := fun S xs => match xs with
  | [x] => match vL S x with
    | some ds => (dBls ds).map fun bs => .va (.bl (bs.all id))
    | none => none
  | _ => none
theorem ok_all : Pure1 G (rAll G.K) pAll := by
  intro r H0 H S xs z vs Q s b q e k
  unfold pAll at e
  split at e
  · rename_i x
    cases e1 : vL S x with
    | none => rw [e1] at e; cases e
    | some ds =>
      rw [e1] at e
      dsimp only at e
      cases e2 : dBls ds with
      | none => rw [e2] at e; cases e
      | some bs =>
        rw [e2] at e
        cases e
        obtain ⟨v, rfl, q1⟩ := reps1 q
        obtain ⟨a, us, rfl, ha, ra⟩ := vL_ok s q1 e1
        have := dBls_ok ra e2
        subst this
        exact ⟨a, bs, rfl, ha, fin_same k (.bl _)⟩
  · cases e
def pSum : Sto → List Rv → Option Rv := fun S xs => match xs with
  | [x] => match vL S x with
    | some ds => (dInts ds).map fun ns => .va (.int ns.sum)
    | none => none
  | _ => none
theorem ok_sum : Pure1 G (rSum G.K) pSum := by
  intro r H0 H S xs z vs Q s b q e k
  unfold pSum at e
  split at e
  · rename_i x
    cases e1 : vL S x with
    | none => rw [e1] at e; cases e
    | some ds =>
      rw [e1] at e
      dsimp only at e
      cases e2 : dInts ds with
      | none => rw [e2] at e; cases e
      | some bs =>
        rw [e2] at e
        cases e
        obtain ⟨v, rfl, q1⟩ := reps1 q
        obtain ⟨a, us, rfl, ha, ra⟩ := vL_ok s q1 e1
        have := dInts_ok ra e2
        subst this
        exact ⟨a, bs, rfl, ha, fin_same k (.int _)⟩
  · cases e
def maxI : List Int → Int
  | [] => 0
  | [a] => a
  | a :: r => if a < maxI r then maxI r else a
def minI : List Int → Int
  | [] => 0
  | [a] => a
  | a :: r => if minI r < a then minI r else a
theorem maxI_ok : ∀ (ns : List Int), ns ≠ [] → maxI ns ∈ ns ∧ ∀ y ∈ ns, y ≤ maxI ns
  | [], h => absurd rfl h
  | [a], _ => ⟨by simp [maxI], fun y h => by simp at h; simp [maxI, h]⟩
  | a :: b :: r, _ => by
    obtain ⟨h1, h2⟩ := maxI_ok (b :: r) (by simp)
    rw [show maxI (a :: b :: r) = if a < maxI (b :: r) then maxI (b :: r) else a from rfl]
    split
    · refine ⟨List.mem_cons_of_mem _ h1, fun y h => ?_⟩
      rcases List.mem_cons.mp h with h | h
      · omega
      · exact h2 y h
    · refine ⟨List.mem_cons_self, fun y h => ?_⟩
      rcases List.mem_cons.mp h with h | h
      · omega
      · have := h2 y h; omega
theorem minI_ok : ∀ (ns : List Int), ns ≠ [] → minI ns ∈ ns ∧ ∀ y ∈ ns, minI ns ≤ y
  | [], h => absurd rfl h
  | [a], _ => ⟨by simp [minI], fun y h => by simp at h; simp [minI, h]⟩
  | a :: b :: r, _ => by
    obtain ⟨h1, h2⟩ := minI_ok (b :: r) (by simp)
    rw [show minI (a :: b :: r) = if minI (b :: r) < a then minI (b :: r) else a from rfl]
    split
    · refine ⟨List.mem_cons_of_mem _ h1, fun y h => ?_⟩
      rcases List.mem_cons.mp h with h | h
      · omega
      · exact h2 y h
    · refine ⟨List.mem_cons_self, fun y h => ?_⟩
      rcases List.mem_cons.mp h with h | h
      · omega
      · have := h2 y h; omega
def pMaxL : Sto → List Rv → Option Rv := fun S xs => match xs with
  | [x] => match vL S x with
    | some ds => match dInts ds with
      | some [] => none
      | some ns => some (.va (.int (maxI ns)))
      | none => none
    | none => none
  | _ => none
theorem ok_maxL : Pure1 G (rMax G.K) pMaxL := by
  intro r H0 H S xs z vs Q s b q e k
  unfold pMaxL at e
  split at e
  · rename_i x
    cases e1 : vL S x with
    | none => rw [e1] at e; cases e
    | some ds =>
      rw [e1] at e
      dsimp only at e
      split at e
      · cases e
      · rename_i ns hn e2
        cases e
        obtain ⟨v, rfl, q1⟩ := reps1 q
        obtain ⟨a, us, rfl, ha, ra⟩ := vL_ok s q1 e1
        have := dInts_ok ra e2
        subst this
        have hne : ns ≠ [] := hn
        obtain ⟨m1, m2⟩ := maxI_ok ns hne
        refine ⟨a, ns, rfl, ha, List.length_pos_iff.mpr hne, fun m h1 h2 => ?_⟩
        have : m = maxI ns := by
          have := h2 _ m1
          have := m2 _ h1
          omega
        subst this
        exact fin_same k (.int _)
      · cases e
  · cases e
def pMinL : Sto → List Rv → Option Rv := fun S xs => match xs with
  | [x] => match vL S x with
    | some ds => match dInts ds with
      | some [] => none
      | some ns => some (.va (.int (minI ns)))
      | none => none
    | none => none
  | _ => none
theorem ok_minL : Pure1 G (rMin G.K) pMinL := by
  intro r H0 H S xs z vs Q s b q e k
  unfold pMinL at e
  split at e
  · rename_i x
    cases e1 : vL S x with
    | none => rw [e1] at e; cases e
    | some ds =>
      rw [e1] at e
      dsimp only at e
      split at e
      · cases e
      · rename_i ns hn e2
        cases e
        obtain ⟨v, rfl, q1⟩ := reps1 q
        obtain ⟨a, us, rfl, ha, ra⟩ := vL_ok s q1 e1
        have := dInts_ok ra e2
        subst this
        have hne : ns ≠ [] := hn
        obtain ⟨m1, m2⟩ := minI_ok ns hne
        refine ⟨a, ns, rfl, ha, List.length_pos_iff.mpr hne, fun m h1 h2 => ?_⟩
        have : m = minI ns := by
          have := h2 _ m1
          have := m2 _ h1
          omega
        subst this
        exact fin_same k (.int _)
      · cases e
  · cases e
def gMax (i j : Int) : Option D := some (.int (if j > i then j else i))
def gMin (i j : Int) : Option D := some (.int (if j < i then j else i))
theorem ok_2I {gv : Int → Int → V} {g : Int → Int → Option D} (h : ∀ i j d, g i j = some d → ∀ r H, Rep G r H (gv i j) d) : Pure1 G (fun xs H Q => ∃ i j, xs = [.int i, .int j] ∧ Q (gv i j) H) (pII g) := by
  intro r H0 H S xs z vs Q s b q e k
  obtain ⟨i, j, d, rfl, eg, rfl⟩ := pII_inv e
  obtain ⟨v, w, rfl, q1, q2⟩ := reps2 q
  cases q1
  cases q2
  exact ⟨i, j, rfl, fin_same k (h i j d eg r H)⟩
theorem ok_max2 : Pure1 G (fun xs H Q => ∃ i j, xs = [.int i, .int j] ∧ Q (.int (if j > i then j else i)) H) (pII gMax) := ok_2I fun i j d e r H => by cases e; exact .int _
theorem ok_min2 : Pure1 G (fun xs H Q => ∃ i j, xs = [.int i, .int j] ∧ Q (.int (if j < i then j else i)) H) (pII gMin) := ok_2I fun i j d e r H => by cases e; exact .int _
def pAbs : Sto → List Rv → Option Rv := fun _ xs => match xs with
  | [.va (.int i)] => some (.va (.int (if i < 0 then -i else i)))
  | _ => none
theorem ok_abs : Pure1 G (fun xs H Q => ∃ i, xs = [.int i] ∧ Q (.int (if i < 0 then -i else i)) H) pAbs := by
  intro r H0 H S xs z vs Q s b q e k
  unfold pAbs at e
  split at e
  · cases e
    obtain ⟨v, rfl, q1⟩ := reps1 q
    cases q1
    exact ⟨_, rfl, fin_same k (.int _)⟩
  · cases e
/-! ### in -/
def pInB (neg : Bool) : Sto → List Rv → Option Rv := fun S xs => match xs with
  | [x, y] => match pyR S x, pyR S y with
    | some d, some (.list ds) => if SeqAt.shaped d && SeqAt.shaped (.list ds) then some (.va (.bl (if neg then !(ds.any fun z => PyData.eqv z d) else ds.any fun z => PyData.eqv z d))) else none
    | _, _ => none
  | _ => none
abbrev pIn := pInB false
abbrev pNotIn := pInB true
def rInDN (K : PySem.W.Frag) (neg : Bool) : R2 := fun x y H Q => ∃ d ds, Dp K H x d ∧ Dp K H y (.list ds) ∧ SeqAt.shaped d = true ∧ SeqAt.shaped (.list ds) = true ∧ Q (.bl (if neg then !(ds.any fun z => PyData.eqv z d) else ds.any fun z => PyData.eqv z d)) H
theorem units65 {k : Nat} {A : Around} (r : Room k A) : A.units + 65 < cLine := by have := r.un; omega
theorem op_inA {X : Cx} (hu : X.A.units + 65 < cLine) : OpR X (compareOp .In) (rInDN X.K false) := op_inD hu
theorem op_notInA {X : Cx} (hu : X.A.units + 65 < cLine) : OpR X (compareOp .NotIn) (rInDN X.K true) := op_notInD hu
theorem ok_inB (neg : Bool) : Pure1 G (L22 (rInDN G.K neg)) (pInB neg) := by
  intro r H0 H S xs z vs Q s b q e k
  unfold pInB at e
  split at e
  · rename_i x y
    split at e
    · rename_i d ds e1 e2
      split at e
      · rename_i hs
        cases e
        obtain ⟨v, w, rfl, q1, q2⟩ := reps2 q
        have hs' := Bool.and_eq_true_iff.mp hs
        exact ⟨v, w, rfl, d, ds, pyR_ok s q1 e1, pyR_ok s q2 e2, hs'.1, hs'.2, fin_same k (.bl _)⟩
      · cases e
    · cases e
  · cases e
theorem ok_in : Pure1 G (L22 (rInDN G.K false)) pIn := ok_inB false
theorem ok_notIn : Pure1 G (L22 (rInDN G.K true)) pNotIn := ok_inB true
/-! ### a += b, of names -/
def rIaddA : TIp := fun x y H Q => (ipI fun i j => i + j) x y H Q ∨ ∃ i j, x = .str i ∧ y = .str j ∧ i.length + j.length ≤ sizeLine ∧ Q (.str (i ++ j)) H
theorem ip_addA {X : Cx} : PIp X .Add rIaddA := by
  intro pins s σ H x y v u Q I r1 r2 h
  rcases h with h | h
  · exact ip_add pins s σ H x y v u Q I r1 r2 h
  · exact iop_add_str pins s σ H x y v u Q I r1 r2 h
def pIadd : Sto → List Rv → Option Rv := fun _ xs => match xs with
  | [.va (.int i), .va (.int j)] => some (.va (.int (i + j)))
  | [.va (.str x), .va (.str y)] => if x.length + y.length ≤ sizeLine then some (.va (.str (x ++ y))) else none
  | _ => none
theorem ok_iadd : Pure1 G (L22 rIaddA) pIadd := by
  intro r H0 H S xs z vs Q s b q e k
  unfold pIadd at e
  split at e
  · cases e
    obtain ⟨v, w, rfl, q1, q2⟩ := reps2 q
    cases q1
    cases q2
    exact ⟨_, _, rfl, .inl ⟨_, _, rfl, rfl, fin_same k (.int _)⟩⟩
  · split at e
    · rename_i hz
      cases e
      obtain ⟨v, w, rfl, q1, q2⟩ := reps2 q
      cases q1
      cases q2
      exact ⟨_, _, rfl, .inr ⟨_, _, rfl, rfl, hz, fin_same k (.str _)⟩⟩
    · cases e
  · cases e
end
/-! ### what a def tells, by what its body does -/
section
variable {n ar : Nat} {b : SM} {ds : List D} {S T : Sto}
theorem cutB_app : cutB S (S ++ T) = true := by
  unfold cutB
  rw [List.take_left, eqSto_refl]; rfl
theorem fn_va {d : D} (h : b (ds.map some ++ List.replicate (n - ar) none) S = .ret (.va d) (S ++ T)) (u : d.und S.length = true) : clean (noErr (fnOf n ar b)) ds S = .ok (.va d) S := by
  unfold clean noErr fnOf
  rw [h]
  dsimp only
  rw [cutB_app, u, List.take_left]; rfl
theorem fn_va0 {d : D} (h : b (ds.map some ++ List.replicate (n - ar) none) S = .ret (.va d) S) (u : d.und S.length = true) : clean (noErr (fnOf n ar b)) ds S = .ok (.va d) S := fn_va (T := []) (by rw [List.append_nil]; exact h) u
theorem fn_fr {o : Ob} (h : b (ds.map some ++ List.replicate (n - ar) none) S = .ret (.fr o) (S ++ T)) (u : o.und S.length = true) : clean (noErr (fnOf n ar b)) ds S = .ok (.fr o) S := by
  unfold clean noErr fnOf
  rw [h]
  dsimp only
  rw [cutB_app, u, List.take_left]; rfl
theorem fn_fr0 {o : Ob} (h : b (ds.map some ++ List.replicate (n - ar) none) S = .ret (.fr o) S) (u : o.und S.length = true) : clean (noErr (fnOf n ar b)) ds S = .ok (.fr o) S := fn_fr (T := []) (by rw [List.append_nil]; exact h) u
theorem und_ref (k : Nat) : (D.ref (S.length + k)).und S.length = false := by
  show decide (S.length + k < S.length) = false
  exact decide_eq_false (by omega)
theorem fn_ref {k : Nat} {o : Ob} (h : b (ds.map some ++ List.replicate (n - ar) none) S = .ret (.va (.ref (S.length + k))) (S ++ T)) (e : T[k]? = some o) (u : o.und S.length = true) : clean (noErr (fnOf n ar b)) ds S = .ok (.fr o) S := by
  unfold clean noErr fnOf
  rw [h]
  dsimp only
  have e1 : (S ++ T)[S.length + k]? = some o := by
    rw [List.getElem?_append_right (by omega), Nat.add_sub_cancel_left]; exact e
  rw [cutB_app, und_ref, e1, List.take_left]
  dsimp only
  rw [u, decide_eq_true (show S.length ≤ S.length + k by omega)]; rfl
theorem fn_non (h : ∃ env, b (ds.map some ++ List.replicate (n - ar) none) S = .nx env (S ++ T)) : clean (noErr (fnOf n ar b)) ds S = .ok (.va .non) S := by
  obtain ⟨env, h⟩ := h
  unfold clean noErr fnOf
  rw [h]
  dsimp only
  rw [cutB_app, List.take_left]; rfl
end
theorem ref0 {S : Sto} : S.length = S.length + 0 := rfl
end Cy

set_option Elab.async false
set_option linter.all false
set_option maxRecDepth 100000
set_option maxHeartbeats 2000000
set_option autoImplicit false
/-! More of what is walked, more built-ins, stores at a place. -/
namespace Cy
open PySem L2 RZ
def seqSrc (S : Sto) : Rv → Option Src
  | .va (.ref n) => match S[n]? with
    | some (.lst ds) => some (.live n ds.length)
    | _ => none
  | .fr (.lst ds) => some (.fix ds)
  | .va (.scr ns) => some (.fix (ns.map .int))
  | _ => none
def tupSrc : Rv → Option Src
  | .va (.tup ds) => some (.fix ds)
  | _ => none
section
variable {G : Cfg} {r : List Addr} {H0 H : Hp} {S : Sto}
theorem seqSrc_ok {v : V} {x : Rv} {src : Src} (s : Sim G r H S) (q1 : RepR G r H0 H v x) (e : seqSrc S x = some src) : ∃ a xs, v = .ref a ∧ SqL G.K H a xs ∧ JOk G r H (Itl G.K a) src := by
  cases x with
  | fr o =>
    cases o with
    | lst ds =>
      cases e
      obtain ⟨a, rfl, _, na, vs, hv, rv⟩ := q1
      exact ⟨a, vs, rfl, SqL.of hv, jok_fix (vs := vs) rv fun r2 H2 e2 => SqL.of (e2.keep _ _ hv na).1⟩
    | dct kvs => cases e
    | ins c ds => cases e
  | va d =>
    cases d with
    | ref n =>
      unfold seqSrc at e
      dsimp only at e
      cases e2 : S[n]? with
      | none => rw [e2] at e; cases e
      | some o =>
        rw [e2] at e
        cases o with
        | lst ds =>
          cases e
          obtain ⟨a, rfl, ha, vs, hv, rv⟩ := s.get q1 e2
          exact ⟨a, vs, rfl, SqL.of hv, jok_live ha⟩
        | dct kvs => cases e
        | ins c ds => cases e
    | scr ns =>
      cases e
      cases q1 with
      | scr h =>
        rename_i a
        have hq : ∀ r2 H2, Ext r H r2 H2 → SqL G.K H2 a (ns.map V.int) := fun r2 H2 e2 => by
          rcases h with ⟨⟨o, h⟩, na⟩ | h
          · exact .inl (.inr ⟨o, (e2.keep _ _ h na).1⟩)
          · exact h H2
        exact ⟨a, _, rfl, hq r H (Ext.refl _ _), jok_fix (vs := ns.map V.int) (Reps.ints ns) hq⟩
    | _ => cases e
theorem tupSrc_ok {v : V} {x : Rv} {src : Src} (q1 : RepR G r H0 H v x) (e : tupSrc x = some src) : ∃ a xs, v = .ref a ∧ SqT G.K H a xs ∧ JOk G r H (Itt G.K a) src := by
  cases x with
  | fr o => cases e
  | va d =>
    cases d with
    | tup ds =>
      cases e
      cases q1 with
      | tup h na q =>
        rename_i a vs
        refine ⟨a, vs, rfl, .inl h, fun r2 H2 S2 i e2 s2 => ?_⟩
        have h1 : SqT G.K H2 a vs := .inl (Rd.ext e2 h na).1
        have q' := q.ext e2
        refine ⟨fun d hd => ?_, fun hd => ?_⟩
        · have hd' : ds[i]? = some d := Option.some.inj hd
          obtain ⟨v, hv, rv⟩ := q'.get hd'
          refine ⟨⟨vs, v, h1, hv⟩, fun x H' y => ?_⟩
          obtain ⟨rfl, y⟩ := y
          have := y vs h1
          rw [hv] at this
          cases this
          exact ⟨Ext.refl _ _, s2, rv⟩
        · have hd' : ds[i]? = none := Option.some.inj hd
          exact ⟨vs, h1, by rw [q'.length]; exact List.getElem?_eq_none_iff.mp hd'⟩
    | _ => cases e
theorem notin_none {a : Addr} (s : Sim G r H S) (h : H a = none) : a ∉ r := fun hm => by
  obtain ⟨n, hn⟩ := List.mem_iff_getElem?.mp hm
  have hl : n < S.length := by rw [← s.len]; exact (List.getElem?_eq_some_iff.mp hn).1
  obtain ⟨u, hu, _⟩ := (s.at_ n a _ hn (List.getElem?_eq_getElem hl)).mut
  rw [h] at hu
  cases hu
theorem new_tup {T : Addr} {vs : List V} {ds : List D} (s : Sim G r H S) (hT : H T = none) (q : Reps G r H vs ds) : Ext r H r (upd H T (.tup vs)) ∧ Sim G r (upd H T (.tup vs)) S ∧ Rep G r (upd H T (.tup vs)) (.ref T) (.tup ds) := by
  have e : Ext r H r (upd H T (.tup vs)) := Ext.new hT
  exact ⟨e, s.stays (fun a o h => by rw [upd_ne (ne_of_none h hT)]; exact h) e, .tup (.inl upd_same) (notin_none s hT) (q.ext e)⟩
/-! enumerate -/
def enGet (src : Src) (i : Nat) (S : Sto) : Option (Option D) := match src.get i S with
  | some (some d) => some (some (.tup [.int (i : Nat), d]))
  | some none => some none
  | none => none
def enSrc (src : Src) : Src := .gen (enGet src) src.len
theorem jok_en {a : Addr} {src : Src} (h : JOk G r H (Itl G.K a) src) : JOk G r H (Ite G.K a) (enSrc src) := by
  intro r2 H2 S2 i e s
  obtain ⟨g1, g2⟩ := h r2 H2 S2 i e s
  have key : ∀ o, Src.get (enSrc src) i S2 = some o → enGet src i S2 = some o := fun o h => h
  refine ⟨fun d hd => ?_, fun hd => ?_⟩
  · have hd := key _ hd
    unfold enGet at hd
    cases eg : src.get i S2 with
    | none => rw [eg] at hd; cases hd
    | some o =>
      rw [eg] at hd
      cases o with
      | none => cases hd
      | some d' =>
        cases hd
        obtain ⟨go, yl⟩ := g1 d' eg
        refine ⟨go, fun x H' y => ?_⟩
        obtain ⟨T, v, rfl, hT, rfl, hx⟩ := y
        obtain ⟨_, _, rv⟩ := yl v H2 ⟨rfl, hx⟩
        exact new_tup s hT (.cons (.int _) (.cons rv .nil))
  · have hd := key _ hd
    unfold enGet at hd
    cases eg : src.get i S2 with
    | none => rw [eg] at hd; cases hd
    | some o =>
      rw [eg] at hd
      cases o with
      | none => exact g2 eg
      | some d' => cases hd
/-! zip -/
def zpGet (a b : Src) (i : Nat) (S : Sto) : Option (Option D) := match a.get i S, b.get i S with
  | some (some d), some (some e) => some (some (.tup [d, e]))
  | some none, some _ => some none
  | some (some _), some none => some none
  | _, _ => none
def zpSrc (a b : Src) : Src := .gen (zpGet a b) (min a.len b.len)
theorem jok_zp {p1 p2 : Addr} {a b : Src} (h : JOk G r H (Itl G.K p1) a) (k : JOk G r H (Itl G.K p2) b) : JOk G r H (Itz G.K p1 p2) (zpSrc a b) := by
  intro r2 H2 S2 i e s
  obtain ⟨g1, g2⟩ := h r2 H2 S2 i e s
  obtain ⟨k1, k2⟩ := k r2 H2 S2 i e s
  have key : ∀ o, Src.get (zpSrc a b) i S2 = some o → zpGet a b i S2 = some o := fun o h => h
  refine ⟨fun d hd => ?_, fun hd => ?_⟩
  · have hd := key _ hd
    unfold zpGet at hd
    split at hd
    · rename_i d1 d2 ea eb
      cases hd
      obtain ⟨⟨xs, x, h1, h2⟩, yl1⟩ := g1 _ ea
      obtain ⟨⟨ys, y, h3, h4⟩, yl2⟩ := k1 _ eb
      refine ⟨⟨xs, ys, x, y, h1, h3, h2, h4⟩, fun v H' z => ?_⟩
      obtain ⟨T, x, y, rfl, hT, rfl, hx, hy⟩ := z
      exact new_tup s hT (.cons (yl1 x H2 ⟨rfl, hx⟩).2.2 (.cons (yl2 y H2 ⟨rfl, hy⟩).2.2 .nil))
    · cases hd
    · cases hd
    · cases hd
  · have hd := key _ hd
    unfold zpGet at hd
    split at hd
    · cases hd
    · rename_i o ea eb
      obtain ⟨xs, h1, h2⟩ := g2 ea
      cases o with
      | none =>
        obtain ⟨ys, h3, h4⟩ := k2 eb
        exact ⟨xs, ys, h1, h3, .inl h2⟩
      | some d =>
        obtain ⟨⟨ys, y, h3, h4⟩, _⟩ := k1 _ eb
        exact ⟨xs, ys, h1, h3, .inl h2⟩
    · rename_i o ea eb
      obtain ⟨⟨xs, x, h1, h2⟩, _⟩ := g1 _ ea
      obtain ⟨ys, h3, h4⟩ := k2 eb
      exact ⟨xs, ys, h1, h3, .inr h4⟩
    · cases hd
theorem jok_zpT {p1 p2 : Addr} {a b : Src} (h : JOk G r H (Itt G.K p1) a) (k : JOk G r H (Itt G.K p2) b) : JOk G r H (ItzT G.K p1 p2) (zpSrc a b) := by
  intro r2 H2 S2 i e s
  obtain ⟨g1, g2⟩ := h r2 H2 S2 i e s
  obtain ⟨k1, k2⟩ := k r2 H2 S2 i e s
  have key : ∀ o, Src.get (zpSrc a b) i S2 = some o → zpGet a b i S2 = some o := fun o h => h
  refine ⟨fun d hd => ?_, fun hd => ?_⟩
  · have hd := key _ hd
    unfold zpGet at hd
    split at hd
    · rename_i d1 d2 ea eb
      cases hd
      obtain ⟨⟨xs, x, h1, h2⟩, yl1⟩ := g1 _ ea
      obtain ⟨⟨ys, y, h3, h4⟩, yl2⟩ := k1 _ eb
      refine ⟨⟨xs, ys, x, y, h1, h3, h2, h4⟩, fun v H' z => ?_⟩
      obtain ⟨T, x, y, rfl, hT, rfl, hx, hy⟩ := z
      exact new_tup s hT (.cons (yl1 x H2 ⟨rfl, hx⟩).2.2 (.cons (yl2 y H2 ⟨rfl, hy⟩).2.2 .nil))
    · cases hd
    · cases hd
    · cases hd
  · have hd := key _ hd
    unfold zpGet at hd
    split at hd
    · cases hd
    · rename_i o ea eb
      obtain ⟨xs, h1, h2⟩ := g2 ea
      cases o with
      | none =>
        obtain ⟨ys, h3, h4⟩ := k2 eb
        exact ⟨xs, ys, h1, h3, .inl h2⟩
      | some d =>
        obtain ⟨⟨ys, y, h3, h4⟩, _⟩ := k1 _ eb
        exact ⟨xs, ys, h1, h3, .inl h2⟩
    · rename_i o ea eb
      obtain ⟨⟨xs, x, h1, h2⟩, _⟩ := g1 _ ea
      obtain ⟨ys, h3, h4⟩ := k2 eb
      exact ⟨xs, ys, h1, h3, .inr h4⟩
    · cases hd
/-! reversed -/
def rvSrc (ds : List D) : Src := .fix ds.reverse
end
section
variable {X : Cx} {cA : Nat → Addr} {fN : Nat → List Str} {W : WX} {pos p tpos : Pos} {e e2 : Expr} {elts : List Expr} {kk : Nat} {m n : EX}
def ixE (m : EX) : IX := fun env S => (m env S).bind fun x S1 => match seqSrc S1 x with
  | some s => .ok (enSrc s) S1
  | none => .bad
theorem x_enum (hm : X.mg "enumerate" = none) (h : PE X e (TI (GX X cA fN) W m)) (hg : Gl X "enumerate" := by rfl) (hs : starEach [e] X.env = [(false, eval e X.env)] := by rfl) : PI X (.Tuple elts kk tpos) (.Call (.Name "enumerate" p) [e] [] pos) (TII (GX X cA fN) W (ixE m)) :=
  (pi_enum hg hm (pa_cons h pa_nil hs) hs).mono fun σ H R h => by
  obtain ⟨r, S, env, he, hs, hp⟩ := h
  refine ta_one ⟨r, S, env, he, hs, Post.bind hp fun x S1 v r1 H1 e1 s1 q1 z => ?_⟩
  cases es : seqSrc S1 x with
  | none => rw [es] at z; exact z.elim
  | some src =>
    rw [es] at z
    obtain ⟨a, xs, rfl, h1, h2⟩ := seqSrc_ok s1 q1 es
    exact ⟨a, xs, rfl, h1, z _ r1 H1 e1 s1 (jok_en h2)⟩
def zSrc (S : Sto) (x y : Rv) : Option Src := match tupSrc x, tupSrc y with
  | some a, some b => some (zpSrc a b)
  | _, _ => match seqSrc S x, seqSrc S y with
    | some a, some b => some (zpSrc a b)
    | _, _ => none
def ixZ (m n : EX) : IX := fun env S => (m env S).bind fun x S1 => (n env S1).bind fun y S2 => match zSrc S2 x y with
  | some s => .ok s S2
  | none => .bad
theorem x_zip (hm : X.mg "zip" = none) (h : PE X e (TI (GX X cA fN) W m)) (k : PE X e2 (TI (GX X cA fN) W n)) (hg : Gl X "zip" := by rfl) (hs : starEach [e, e2] X.env = (false, eval e X.env) :: starEach [e2] X.env := by rfl) (hs2 : starEach [e2] X.env = (false, eval e2 X.env) :: starEach [] X.env := by rfl)
    (hpl : (backTo pos (starEach [e2] X.env)).any (·.1) = false := by rfl) : PI X (.Tuple elts kk tpos) (.Call (.Name "zip" p) [e, e2] [] pos) (TII (GX X cA fN) W (ixZ m n)) :=
  (pi_zipA hg hm (pa_cons h (pa_cons k pa_nil hs2) hs) hs hpl).mono fun σ H R h => by
  obtain ⟨r, S, env, he, hs, hp⟩ := h
  refine ⟨r, S, env, he, hs, Post.bind hp fun x S1 v r1 H1 e1 s1 q1 z => ?_⟩
  refine ⟨r1, S1, env, he.ext e1, s1, Post.bind (z.shift e1 (R' := fun r' H' J src => JOk (GX X cA fN) r' H' J src) fun _ _ _ _ k => k) fun y S2 w r2 H2 e2 s2 q2 z2 => ?_⟩
  have q1' := q1.ext e2
  unfold zSrc at z2
  cases et : tupSrc x with
  | some a =>
    cases eu : tupSrc y with
    | some b =>
      rw [et, eu] at z2
      obtain ⟨p1, xs, rfl, h1, h2⟩ := tupSrc_ok q1' et
      obtain ⟨p2, ys, rfl, h3, h4⟩ := tupSrc_ok q2 eu
      exact ⟨p1, p2, xs, ys, rfl, .inr ⟨h1, h3, z2 _ r2 H2 e2 s2 (jok_zpT h2 h4)⟩⟩
    | none =>
      rw [et, eu] at z2
      cases ea : seqSrc S2 x with
      | none => rw [ea] at z2; exact z2.elim
      | some a =>
        cases eb : seqSrc S2 y with
        | none => rw [ea, eb] at z2; exact z2.elim
        | some b =>
          rw [ea, eb] at z2
          obtain ⟨p1, xs, rfl, h1, h2⟩ := seqSrc_ok s2 q1' ea
          obtain ⟨p2, ys, rfl, h3, h4⟩ := seqSrc_ok s2 q2 eb
          exact ⟨p1, p2, xs, ys, rfl, .inl ⟨h1, h3, z2 _ r2 H2 e2 s2 (jok_zp h2 h4)⟩⟩
  | none =>
    rw [et] at z2
    cases ea : seqSrc S2 x with
    | none => rw [ea] at z2; exact z2.elim
    | some a =>
      cases eb : seqSrc S2 y with
      | none => rw [ea, eb] at z2; exact z2.elim
      | some b =>
        rw [ea, eb] at z2
        obtain ⟨p1, xs, rfl, h1, h2⟩ := seqSrc_ok s2 q1' ea
        obtain ⟨p2, ys, rfl, h3, h4⟩ := seqSrc_ok s2 q2 eb
        exact ⟨p1, p2, xs, ys, rfl, .inl ⟨h1, h3, z2 _ r2 H2 e2 s2 (jok_zp h2 h4)⟩⟩
/-! xs[i] = v -/
def pSetL (S : Sto) (o i : Rv) (d : D) : Option Sto := match o, i with
  | .va (.ref n), .va (.int k) => match S[n]? with
    | some (.lst ds) => (ixN ds.length k).map fun j => S.set n (.lst (ds.set j d))
    | _ => none
  | _, _ => none
def sSub (o i m : EX) : SM := fun env S => (eTo m env S).on env fun x S1 => match x with
  | .va d => (o env S1).on env fun ox S2 => (i env S2).on env fun ixv S3 => match pSetL S3 ox ixv d with
    | some S4 => .nx env S4
    | none => .bad
  | .fr _ => .bad
theorem s_sub {mo mi : EX} {o i : Expr} {pos' : Pos} (ho : PE X o (TI (GX X cA fN) W mo)) (hi : PE X i (TI (GX X cA fN) W mi)) (h : PE X e (TI (GX X cA fN) W m))
    (hs : swapsWithSole [.Subscript o i pos'] e pos.line X.env = pure false := by rfl) (hw : swappedStores [.Subscript o i pos'] e X.env = pure none := by rfl)
    (h1 : (assignEach [.Subscript o i pos'] X.env).map (·.2) = [assign (.Subscript o i pos') X.env] := by rfl)
    (ha : ∀ v, assign (.Subscript o i pos') X.env v = (do
      let ov ← holding [v] (eval o X.env)
      let iv ← holding [v, ov] (eval i X.env)
      standAt pos'
      holding [v, ov, iv] (setItem ov iv v)
      release [v, ov, iv] []) := by intro _; rfl) : PS X (.Assign [.Subscript o i pos'] e pos) (TSI (GX X cA fN) W (sSub mo mi m)) := (ps_asg h (pg_sub ho hi set_list ha) hs hw h1).mono fun D σ H h => by
  obtain ⟨r, S, env, he, hs, hp⟩ := h
  refine TI.to ⟨r, S, env, he, hs, PostS.on he hp fun x S1 v r1 H1 e1 s1 q1 z => ?_⟩
  cases x with
  | fr o => exact z.elim
  | va d =>
    dsimp only at z
    have he1 := he.ext e1
    refine ⟨r1, S1, env, he1, s1, PostS.on he1 (z.shift e1) fun ox S2 w r2 H2 e2 s2 q2 z2 => ?_⟩
    have he2 := he1.ext e2
    refine ⟨r2, S2, env, he2, s2, PostS.on he2 (z2.shift e2) fun ixv S3 u r3 H3 e3 s3 q3 z3 => ?_⟩
    cases ep : pSetL S3 ox ixv d with
    | none => rw [ep] at z3; exact z3.elim
    | some S4 =>
      rw [ep] at z3
      unfold pSetL at ep
      have q1' := (Rep.ext e2 q1).ext e3
      have q2' := q2.ext e3
      split at ep
      · rename_i n k
        cases en : S3[n]? with
        | none => rw [en] at ep; cases ep
        | some ob =>
          rw [en] at ep
          cases ob with
          | lst ds =>
            dsimp only at ep
            cases ej : ixN ds.length k with
            | none => rw [ej] at ep; cases ep
            | some j =>
              rw [ej] at ep
              cases ep
              obtain ⟨a, rfl, ha, us, hu, ru⟩ := s3.get q2' en
              cases q3
              have hm : a ∈ r3 := List.mem_of_getElem? ha
              have ew : Ext r3 H3 r3 (upd H3 a (.lst (us.set j v))) := Ext.wr hm
              exact ⟨a, us, k, j, rfl, rfl, hu, by rw [ru.length]; exact ej, z3 σ r3 _ (e3.trans ew) ((he2.ext e3).ext ew) (s3.wr ha ⟨_, upd_same, (ru.ext ew).set j (Rep.ext ew q1')⟩)⟩
          | dct _ => cases ep
          | ins _ _ => cases ep
      · cases ep
end
/-! ### join, sorted -/
def dStrs : List D → Option (List Str)
  | [] => some []
  | .str i :: r => (dStrs r).map (i :: ·)
  | _ :: _ => none
section
variable {G : Cfg} {r : List Addr} {H0 H : Hp} {S : Sto}
theorem dStrs_ok : ∀ {vs : List V} {ds : List D} {ns : List Str}, Reps G r H vs ds → dStrs ds = some ns → vs = ns.map V.str
  | _, _, _, .nil, e => by cases e; rfl
  | _, _, _, .cons (d := d) (ds := ds) h t, e => by
    cases d with
    | str i =>
      have e : (dStrs ds).map (i :: ·) = some _ := e
      cases e1 : dStrs ds with
      | none => rw [e1] at e; cases e
      | some ns =>
        rw [e1] at e
        cases e
        cases h
        rw [dStrs_ok t e1, List.map_cons]
    | _ => cases e
def pJoin : Sto → List Rv → Option Rv := fun S xs => match xs with
  | [.va (.str a), x] => match vQ S x with
    | some ds => match dStrs ds with
      | some ys => if (ys.map (·.length)).sum + ys.length * a.length ≤ 16777216 then some (.va (.str (Txt.join a ys))) else none
      | none => none
    | none => none
  | _ => none
theorem ok_join : Pure1 G (rdM fun x xs H Q => ∃ a p, ∃ ys : List Str, x = .str a ∧ xs = [.ref p] ∧ (SqL G.K H p (ys.map V.str) ∨ SqT G.K H p (ys.map V.str)) ∧ (ys.map (·.length)).sum + ys.length * a.length ≤ 16777216 ∧ Q (.str (Txt.join a ys)) H) pJoin := by
  intro r H0 H S xs z vs Q s b q e k
  unfold pJoin at e
  split at e
  · rename_i a x
    cases e1 : vQ S x with
    | none => rw [e1] at e; cases e
    | some ds =>
      rw [e1] at e
      dsimp only at e
      cases e2 : dStrs ds with
      | none => rw [e2] at e; cases e
      | some ys =>
        rw [e2] at e
        dsimp only at e
        split at e
        · rename_i hz
          cases e
          obtain ⟨v, w, rfl, q1, q2⟩ := reps2 q
          cases q1
          obtain ⟨p, us, rfl, hq, rq⟩ := vQ_ok s q2 e1
          have := dStrs_ok rq e2
          subst this
          exact ⟨_, _, rfl, a, p, ys, rfl, rfl, hq, hz, fin_same k (.str _)⟩
        · cases e
  · cases e
def sortI (ns : List Int) : List Int := ns.mergeSort fun a b => decide (a ≤ b)
theorem sortI_eq {ns ms : List Int} (p : ms.Perm ns) (s : ms.Pairwise (· ≤ ·)) : ms = sortI ns := by
  have h1 : (sortI ns).Perm ns := List.mergeSort_perm ns _
  have h2 : (sortI ns).Pairwise fun a b => decide (a ≤ b) = true := by
    unfold sortI
    refine List.pairwise_mergeSort (le := fun (a b : Int) => decide (a ≤ b)) ?_ ?_ ns
    · intro a b c h1 h2
      exact decide_eq_true (Int.le_trans (of_decide_eq_true h1) (of_decide_eq_true h2))
    · intro a b
      rcases Int.le_total a b with h | h
      · rw [decide_eq_true h]; rfl
      · rw [decide_eq_true h, Bool.or_true]
  refine List.Perm.eq_of_pairwise (le := (· ≤ ·)) (fun a b _ _ h1 h2 => Int.le_antisymm h1 h2) s (h2.imp fun h => of_decide_eq_true h) (p.trans h1.symm)
def pSortI : Sto → List Rv → Option Rv := fun S xs => match xs with
  | [x] => match vL S x with
    | some ds => (dInts ds).map fun ns => .fr (.lst ((sortI ns).map .int))
    | none => none
  | _ => none
theorem ok_sortI : Pure1 G (rSortedI G.K) pSortI := by
  intro r H0 H S xs z vs Q s b q e k
  unfold pSortI at e
  split at e
  · rename_i x
    cases e1 : vL S x with
    | none => rw [e1] at e; cases e
    | some ds =>
      rw [e1] at e
      dsimp only at e
      cases e2 : dInts ds with
      | none => rw [e2] at e; cases e
      | some ns =>
        rw [e2] at e
        cases e
        obtain ⟨v, rfl, q1⟩ := reps1 q
        obtain ⟨a, us, rfl, ha, ra⟩ := vL_ok s q1 e1
        have := dInts_ok ra e2
        subst this
        refine ⟨a, ns, rfl, ha, fun ns' p h1 h2 hp => ?_⟩
        have := sortI_eq h1 h2
        subst this
        exact fin_lst s b k (Reps.ints _) p hp
  · cases e
end
theorem fn_bad {P : Program} {w : World} {K : PySem.W.Frag} {mg : Str → Option Value} {base : Heap} {G : Cfg} {k : Nat} {f : Addr} {fd : FuncData} {ps : List Str} : FnOk P w K mg base CX0 k f fd ps (spI G ps.length fun _ _ => .bad) :=
  ⟨fun vs H Q E h => h.1, fun A outer s H args us vs Q E hr he hb hv hs => by obtain ⟨_, _, _, _, _, _, hp⟩ := hs; exact hp.elim⟩
theorem ne_bad : NoErr fun _ _ => .bad := fun ds S c fs S' h => by cases h
end Cy

set_option Elab.async false
set_option linter.all false
set_option maxRecDepth 100000
set_option maxHeartbeats 2000000
set_option autoImplicit false
/-! enumerate over a tuple. -/
namespace Cy
open PySem PySem.Spec PyProof.Rows L2 PySem.Builtin
def EnO (N : Nat) : Obj := { cls := .type "enumerate", data := .fields #[.none, .bool false, .ref N, rawInt 0, .none, .none] }
def ItO (l : Addr) : Obj := { cls := .type "tuple_iterator", data := .fields #[.ref l, .int 0 0] }
set_option maxHeartbeats 4000000 in
theorem enT_new (l : Addr) (its : Array Value) : Meets (Builtin.«enumerate.__new__» ⟨[.type "enumerate", .ref l], []⟩) fun _ R s => s.heap.IsTuple l its ∧ R (.ok (.ret (.ref (s.heap.push (ItO l)).objs.size))) { s with heap := (s.heap.push (ItO l)).push (EnO s.heap.objs.size) } := .of_wp fun prog w A R s hyp => by
  obtain ⟨hp0, g0, d0, k0, o0⟩ := s
  obtain ⟨ht, hyp⟩ := hyp
  have hsub := sub_enumerate
  have it0 : ∀ {A1 : Around} {E1 : Value → Shared → Prop} {Q1 : Value → Shared → Prop}, Q1 (.ref hp0.objs.size) ⟨hp0.push (ItO l), g0, d0, k0, o0⟩ → wpAny (model prog w) A1 (pyIter (.ref l)) Q1 E1 ⟨hp0, g0, d0, k0, o0⟩ := fun q1 => wpAny_pyIter_tuple (s := ⟨hp0, g0, d0, k0, o0⟩) ht q1
  wp_walk using it0
  refine wpAny_stack_any fun _ => wpAny_pure ?_
  split
  · rename_i cc _ _ _ _ _
    cases (cc == Value.type "enumerate") <;> wp_walk using it0 <;> exact ⟨_, rfl, hyp⟩
  · wp_walk using it0 <;> exact ⟨_, rfl, hyp⟩
theorem enT_call {prog : Program} {w : World} {A : Around} {E : Value → Shared → Prop} {s : Shared} {l : Addr} {its : Array Value} {Q : Value → Shared → Prop} (ht : s.heap.IsTuple l its)
    (fin : ∀ h1 : Heap, IsEnum h1 (s.heap.objs.size + 1) s.heap.objs.size 0 .none ∧ h1.IsTupleIter s.heap.objs.size l 0 → (∀ b o, s.heap.get? b = some o → h1.get? b = some o) → Q (.ref (s.heap.objs.size + 1)) { s with heap := h1 }) : wpAny (model prog w) A (call (.type "enumerate") [.ref l]) Q E s := by
  refine callType_new F.called_enumerate (by decide) (F.typeCall_enumerate_1 _) (F.newCall_enumerate_1 _) (fun obj => F.args_object_init_2 obj _) F.entry_enumerate_new (enT_new l its) ⟨ht, ?_⟩
  have sz : (s.heap.push (ItO l)).objs.size = s.heap.objs.size + 1 := Heap.size_push ..
  have en : IsEnum ((s.heap.push (ItO l)).push (EnO s.heap.objs.size)) (s.heap.objs.size + 1) s.heap.objs.size 0 .none := by
    have q0 := Heap.get?_push_size (s.heap.push (ItO l)) (o := EnO s.heap.objs.size) rfl
    rw [sz] at q0
    exact q0
  show _ ∧ _
  rw [sz]
  exact ⟨⟨_, en, rfl⟩, fin _ ⟨en, ⟨_, Heap.get?_push_of_some _ (Heap.get?_push_size _ rfl), rfl, rfl⟩⟩ fun b o q => Heap.get?_push_of_some _ (Heap.get?_push_of_some _ q)⟩
/-- at the end of the tuple -/
theorem drawn_out {prog : Program} {w : World} {A : Around} (hh : A.handled = none) (j a : Addr) (vals : Array Value) (i : Nat) (hx : vals[i]? = none) : Draws prog w A j [j, a] i (fun _ _ => False) fun n h => n = i ∧ h.IsTupleIter j a i ∧ h.IsTuple a vals where
  live := fun _ _ st => let ⟨o, ho, _⟩ := st.2.1; ⟨o, ho⟩
  frame := fun _ _ _ st kp => ⟨st.1, st.2.1.at fun o q => kp j (by simp) o q, st.2.2.at fun o q => kp a (by simp) o q⟩
  item := fun n s Q E lt st _ => absurd st.1 (by omega)
  done := fun s Q E st out => wpAny_nextOf_tuple_end hh st.2.1 st.2.2 hx out
/-- the tuple's items, each in a new pair with its place -/
def IteT (K : PySem.W.Frag) (a : Addr) : It where
  go := fun i H => ∃ (xs : List V) (x : V), SqT K H a xs ∧ xs[i]? = some x
  yld := fun i H v H' => ∃ T x, v = .ref T ∧ H T = none ∧ H' = upd H T (.tup [.int (i : Nat), x]) ∧ ∀ zs, SqT K H a zs → zs[i]? = some x
  stop := fun i H => ∃ xs : List V, SqT K H a xs ∧ xs.length ≤ i
theorem turnT {P : Program} {w : World} {K : PySem.W.Frag} {elts : List Expr} {kk : Nat} {tpos : Pos} (a e j : Addr) (haj : a ≠ j) (hae : e ≠ a) : Turn P w K (.Tuple elts kk tpos) (IteT K a) [e, j] e fun i h => (∃ old, IsEnum h e j ((i : Nat) : Int) old) ∧ h.IsTupleIter j a i ∧ e ≠ j where
  mem := by simp
  obj := fun i h st b hb => by
    obtain ⟨⟨_, se⟩, ⟨oj, sj, _, dj⟩, _⟩ := st
    have hb2 : b = e ∨ b = j := by simpa using hb
    rcases hb2 with hb2 | hb2
    · subst hb2
      exact ⟨_, se, fun v q => nomatch q⟩
    · subst hb2
      exact ⟨oj, sj, fun v q => by rw [dj] at q; cases q⟩
  keep := fun i h h2 st kp => by
    obtain ⟨⟨old, se⟩, sj, ne⟩ := st
    exact ⟨⟨old, kp e (by simp) _ se⟩, sj.at fun o q => kp j (by simp) o q, ne⟩
  item := by
    intro X eP ew eK calm i pins s σ H E I apart st more
    subst eP ew eK
    obtain ⟨⟨old, se⟩, sj, ne⟩ := st
    obtain ⟨xs, x, hq, hx⟩ := more
    obtain ⟨vals, rel, tp, _⟩ := I.tuple hq
    obtain ⟨u, hu, ru⟩ := rel.get hx
    have le : e < s.heap.objs.size := Heap.lt_size se
    have lj : j < s.heap.objs.size := by
      obtain ⟨_, q, _⟩ := sj
      exact Heap.lt_size q
    have lti : i < vals.toArray.size := by
      have := (List.getElem?_eq_some_iff.mp hu).1
      simpa using this
    refine wpAny_pyNext_enum_itemD (Draws.tuple (by first | exact I.ok.hd calm | exact (I.ok.hd calm)) j a haj vals.toArray) se ⟨sj, tp⟩ lti ne (by simp [ne, hae]) fun y h1 tk py out st1 hT _ kp => ?_
    have ey : y = u := by
      have py' : vals.toArray[i]? = some y := py
      have hu' : vals.toArray[i]? = some u := by simpa using hu
      rw [hu'] at py'
      exact (Option.some.inj py').symm
    subst ey
    refine ⟨_, rfl, wpAny_letOwnedTupleGo_enum (s := { s with heap := h1, toks := tk + 1 }) out fun h2 se2 sb => ?_⟩
    have hT2 := (sb.2 _ (Nat.ne_of_gt le)).trans hT
    have okN : ObjOk X.prog X.w (upd H s.heap.objs.size (.tup [.int (i : Nat), x])) h2 s.heap.objs.size (.tup [.int (i : Nat), x]) := ⟨by show 2 ≤ sizeLine; decide, [.int i tk, y], .cons ⟨_, rfl⟩ (.cons ru .nil), ⟨_, hT2, rfl, _, rfl⟩⟩
    have I2 : Inv X pins σ (upd H s.heap.objs.size (.tup [.int (i : Nat), x])) { s with heap := h2, toks := tk + 1 } :=
      I.turnedNew (ch := [e, j]) (fun b ob nb q => (sb.2 b fun z => nb (by simp [z])).trans (kp b ob (fun z => nb (by simp [z])) (fun z => nb (by simp [z])) q)) apart (Nat.le_refl _) okN
    refine ⟨.ref s.heap.objs.size, _, I2, rfl, ⟨_, x, rfl, I.hok.fresh (Nat.le_refl _), rfl, fun zs hz => by rw [I.tuple_inj hz hq]; exact hx⟩, ⟨⟨y, ?_⟩, st1.1.at fun o q => (sb.2 j (Ne.symm ne)).trans q, ne⟩, fun b hb => ?_⟩
    · rw [show ((i + 1 : Nat) : Int) = (i : Int) + 1 from by omega]
      exact se2
    · have lb : b < s.heap.objs.size := by
        have hb2 : b = e ∨ b = j := by simpa using hb
        rcases hb2 with z | z <;> rw [z] <;> assumption
      rw [upd_ne (Nat.ne_of_lt lb)]
      exact (apart b hb).1
  done := by
    intro X eP ew eK calm i pins s σ H E I apart st over
    subst eP ew eK
    obtain ⟨⟨old, se⟩, sj, ne⟩ := st
    obtain ⟨xs, hq, hx⟩ := over
    obtain ⟨vals, rel, tp, _⟩ := I.tuple hq
    obtain ⟨f0, f1, f2, f3, f4, f5⟩ := apart j (by simp)
    have hl := rel.length
    have out : vals.toArray[i]? = none := by simp; omega
    exact wpAny_pyNext_enum_endD (drawn_out (by exact I.ok.hd calm) j a vals.toArray i out) se ⟨rfl, sj, tp⟩ fun h1 eb => ⟨rfl, I.turned (t' := s.toks) (fun b o nb q => eb b o nb q) f0 f1 f3 f4 f5⟩
  self := fun A i s Q E st h => by
    obtain ⟨⟨_, se⟩, _⟩ := st
    exact wpAny_pyIter_enum se h
def iEnumT (K : PySem.W.Frag) (ta : TA) : L2.TI := fun σ H R => ta σ H fun vs H1 => ∃ a xs, vs = [.ref a] ∧ SqT K H1 a xs ∧ R (IteT K a) H1
theorem pi_enumT {X : Cx} {e : Expr} {ta : TA} {p pos tpos : Pos} {elts : List Expr} {kk : Nat} (hg : Gl X "enumerate") (hm : X.mg "enumerate" = none) (ha : PA X [e] ta) (hs : starEach [e] X.env = [(false, eval e X.env)] := by rfl) : PI X (.Tuple elts kk tpos) (.Call (.Name "enumerate" p) [e] [] pos) (iEnumT X.K ta) := ⟨fun pins s σ H R I h => by
  refine Call_ (ld_blt I hg hm boot_enumerate (PyProof.Rows.callWith_type1 (thn (ha.run pos pins s σ H _ I h) fun us s1 ⟨vs, H1, I1, rel, q1⟩ => ?_) hs rfl))
  obtain ⟨a, xs, ex, hq, q⟩ := q1
  subst ex
  cases rel with
  | cons r0 rest =>
    cases rest
    cases r0
    obtain ⟨vals, rv, tp, _⟩ := I1.tuple hq
    have la : a < s1.heap.objs.size := by
      obtain ⟨_, q, _⟩ := id tp
      exact Heap.lt_size q
    refine enT_call tp fun h1 both kp => wpAny_pyIter_enum both.1 ?_
    refine ⟨s1.heap.objs.size + 1, [s1.heap.objs.size + 1, s1.heap.objs.size], _, _, H1, rfl, I1.kept (t' := s1.toks) kp, turnT a (s1.heap.objs.size + 1) s1.heap.objs.size (Nat.ne_of_lt la) (Nat.ne_of_gt (Nat.lt_succ_of_lt la)), ⟨⟨.none, both.1⟩, both.2, Nat.succ_ne_self _⟩, fun b hb => ?_, q⟩
    have ge : s1.heap.objs.size ≤ b := by
      have hb2 : b = s1.heap.objs.size + 1 ∨ b = s1.heap.objs.size := by simpa using hb
      rcases hb2 with z | z
      · rw [z]
        exact Nat.le_succ _
      · rw [z]
        exact Nat.le_refl _
    exact I1.fpOk ge (I1.hok.fresh ge)⟩
section
variable {G : Cfg} {r : List Addr} {H0 H : Hp} {S : Sto}
theorem jok_enT {a : Addr} {src : Src} (h : JOk G r H (Itt G.K a) src) : JOk G r H (IteT G.K a) (enSrc src) := by
  intro r2 H2 S2 i e s
  obtain ⟨g1, g2⟩ := h r2 H2 S2 i e s
  have key : ∀ o, Src.get (enSrc src) i S2 = some o → enGet src i S2 = some o := fun o h => h
  refine ⟨fun d hd => ?_, fun hd => ?_⟩
  · have hd := key _ hd
    unfold enGet at hd
    cases eg : src.get i S2 with
    | none => rw [eg] at hd; cases hd
    | some o =>
      rw [eg] at hd
      cases o with
      | none => cases hd
      | some d' =>
        cases hd
        obtain ⟨go, yl⟩ := g1 d' eg
        refine ⟨go, fun x H' y => ?_⟩
        obtain ⟨T, v, rfl, hT, rfl, hx⟩ := y
        obtain ⟨_, _, rv⟩ := yl v H2 ⟨rfl, hx⟩
        exact new_tup s hT (.cons (.int _) (.cons rv .nil))
  · have hd := key _ hd
    unfold enGet at hd
    cases eg : src.get i S2 with
    | none => rw [eg] at hd; cases hd
    | some o =>
      rw [eg] at hd
      cases o with
      | none => exact g2 eg
      | some d' => cases hd
variable {X : Cx} {cA : Nat → Addr} {fN : Nat → List Str} {W : WX} {pos p tpos : Pos} {e : Expr} {elts : List Expr} {kk : Nat} {m : EX}
def ixET (m : EX) : IX := fun env S => (m env S).bind fun x S1 => match tupSrc x with
  | some s => .ok (enSrc s) S1
  | none => .bad
theorem x_enumT (hm : X.mg "enumerate" = none) (h : PE X e (TI (GX X cA fN) W m)) (hg : Gl X "enumerate" := by rfl) (hs : starEach [e] X.env = [(false, eval e X.env)] := by rfl) : PI X (.Tuple elts kk tpos) (.Call (.Name "enumerate" p) [e] [] pos) (TII (GX X cA fN) W (ixET m)) :=
  (pi_enumT hg hm (pa_cons h pa_nil hs) hs).mono fun σ H R h => by
  obtain ⟨r, S, env, he, hs, hp⟩ := h
  refine ta_one ⟨r, S, env, he, hs, Post.bind hp fun x S1 v r1 H1 e1 s1 q1 z => ?_⟩
  cases es : tupSrc x with
  | none => rw [es] at z; exact z.elim
  | some src =>
    rw [es] at z
    obtain ⟨a, xs, rfl, h1, h2⟩ := tupSrc_ok q1 es
    exact ⟨a, xs, rfl, h1, z _ r1 H1 e1 s1 (jok_enT h2)⟩
end
end Cy

set_option Elab.async false
set_option linter.all false
set_option maxRecDepth 100000
set_option maxHeartbeats 2000000
set_option autoImplicit false
/-! Dicts by ints and texts. -/
namespace Cy
open PySem L2
def keyEq : D → D → Bool
  | .int i, .int j => decide (i = j)
  | .str i, .str j => decide (i = j)
  | _, _ => false
def isKey : D → Bool
  | .int _ => true
  | .str _ => true
  | _ => false
def dGetD (kvs : List (D × D)) (k : D) : Option D := (kvs.find? fun kv => keyEq kv.1 k).map (·.2)
def dPutD (kvs : List (D × D)) (k v : D) : List (D × D) := if (kvs.any fun kv => keyEq kv.1 k) = true then kvs.map (fun kv => if keyEq kv.1 k = true then (kv.1, v) else kv) else kvs ++ [(k, v)]
theorem keyEq_key (j k : Key) : keyEq (keyD j) (keyD k) = decide (j = k) := by
  cases j <;> cases k <;> simp [keyEq, keyD]
section
variable {G : Cfg} {r : List Addr} {H0 H : Hp} {S : Sto}
theorem key_rep {v : V} {d : D} (q : Rep G r H v d) (h : isKey d = true) : ∃ k : Key, d = keyD k ∧ v = kV k := by
  cases d with
  | int i =>
    cases q
    exact ⟨.inl i, rfl, rfl⟩
  | str x =>
    cases q
    exact ⟨.inr x, rfl, rfl⟩
  | _ => cases h
theorem dget_ok : ∀ {ws : List (Key × V)} {kvs : List (D × D)} (k : Key), kvs.map (·.1) = ws.map (fun w => keyD w.1) → Reps G r H (ws.map (·.2)) (kvs.map (·.2)) → (∀ d, dGetD kvs (keyD k) = some d → ∃ v, valV ws k = some v ∧ Rep G r H v d) ∧ (dGetD kvs (keyD k) = none → valV ws k = none)
  | [], [], k, _, _ => ⟨fun d h => (by cases h), fun _ => rfl⟩
  | [], _ :: _, k, h, _ => by simp at h
  | _ :: _, [], k, h, _ => by simp at h
  | w :: ws, kv :: kvs, k, h, q => by
    simp only [List.map_cons, List.cons.injEq] at h
    obtain ⟨h1, h2⟩ := h
    cases q with
    | cons q1 q2 =>
      obtain ⟨i1, i2⟩ := dget_ok k h2 q2
      have hk : keyEq kv.1 (keyD k) = decide (w.1 = k) := by rw [h1, keyEq_key]
      have hd : dGetD (kv :: kvs) (keyD k) = if keyEq kv.1 (keyD k) = true then some kv.2 else dGetD kvs (keyD k) := by
        unfold dGetD
        rw [List.find?_cons]
        cases keyEq kv.1 (keyD k) <;> rfl
      by_cases e : w.1 = k
      · rw [hk, decide_eq_true e, if_pos rfl] at hd
        rw [hd, valV_pos e]
        exact ⟨fun d h => ⟨w.2, rfl, (by cases h; exact q1)⟩, fun h => (by cases h)⟩
      · rw [hk, decide_eq_false e, if_neg Bool.false_ne_true] at hd
        rw [hd, valV_neg e]
        exact ⟨i1, i2⟩
theorem any_ok : ∀ {ws : List (Key × V)} {kvs : List (D × D)} (k : Key), kvs.map (·.1) = ws.map (fun w => keyD w.1) → (kvs.any fun kv => keyEq kv.1 (keyD k)) = ws.any fun w => decide (w.1 = k)
  | [], [], k, _ => rfl
  | [], _ :: _, k, h => by simp at h
  | _ :: _, [], k, h => by simp at h
  | w :: ws, kv :: kvs, k, h => by
    simp only [List.map_cons, List.cons.injEq] at h
    rw [List.any_cons, List.any_cons, any_ok k h.2, h.1, keyEq_key]
theorem dput_map : ∀ {ws : List (Key × V)} {kvs : List (D × D)} (k : Key) {v : V} {d : D}, kvs.map (·.1) = ws.map (fun w => keyD w.1) → Reps G r H (ws.map (·.2)) (kvs.map (·.2)) → Rep G r H v d →
    (kvs.map fun kv => if keyEq kv.1 (keyD k) = true then (kv.1, d) else kv).map (·.1) = (ws.map fun w => if w.1 = k then (w.1, v) else w).map (fun w => keyD w.1) ∧ Reps G r H ((ws.map fun w => if w.1 = k then (w.1, v) else w).map (·.2)) ((kvs.map fun kv => if keyEq kv.1 (keyD k) = true then (kv.1, d) else kv).map (·.2))
  | [], [], k, _, _, _, _, _ => ⟨rfl, .nil⟩
  | [], _ :: _, k, _, _, h, _, _ => by simp at h
  | _ :: _, [], k, _, _, h, _, _ => by simp at h
  | w :: ws, kv :: kvs, k, v, d, h, q, rv => by
    simp only [List.map_cons, List.cons.injEq] at h
    obtain ⟨h1, h2⟩ := h
    cases q with
    | cons q1 q2 =>
      obtain ⟨i1, i2⟩ := dput_map k h2 q2 rv
      have hk : keyEq kv.1 (keyD k) = decide (w.1 = k) := by rw [h1, keyEq_key]
      simp only [List.map_cons]
      by_cases e : w.1 = k
      · rw [hk, decide_eq_true e, if_pos rfl, if_pos e]
        exact ⟨by rw [i1, h1], .cons rv i2⟩
      · rw [hk, decide_eq_false e, if_neg Bool.false_ne_true, if_neg e]
        exact ⟨by rw [i1, h1], .cons q1 i2⟩
theorem dput_ok {ws : List (Key × V)} {kvs : List (D × D)} (k : Key) {v : V} {d : D} (h : kvs.map (·.1) = ws.map (fun w => keyD w.1)) (q : Reps G r H (ws.map (·.2)) (kvs.map (·.2))) (nd : (ws.map (·.1)).Nodup) (rv : Rep G r H v d) :
    (dPutD kvs (keyD k) d).map (·.1) = (putK ws k v).map (fun w => keyD w.1) ∧ Reps G r H ((putK ws k v).map (·.2)) ((dPutD kvs (keyD k) d).map (·.2)) ∧ ((putK ws k v).map (·.1)).Nodup := by
  unfold dPutD putK
  rw [any_ok k h]
  by_cases ha : (ws.any fun w => decide (w.1 = k)) = true
  · rw [if_pos ha, if_pos ha]
    obtain ⟨a, b⟩ := dput_map k h q rv
    refine ⟨a, b, ?_⟩
    have : (ws.map fun w => if w.1 = k then (w.1, v) else w).map (·.1) = ws.map (·.1) := by
      rw [List.map_map]
      refine List.map_congr_left fun w _ => ?_
      show (if w.1 = k then (w.1, v) else w).1 = w.1
      split <;> rfl
    rw [this]
    exact nd
  · rw [if_neg ha, if_neg ha]
    refine ⟨by rw [List.map_append, List.map_append, h]; rfl, by rw [List.map_append, List.map_append]; exact q.append (.cons rv .nil), ?_⟩
    rw [List.map_append, List.nodup_append]
    refine ⟨nd, by simp, fun a h1 b h2 e => ha ?_⟩
    have hb : b = k := by simpa using h2
    obtain ⟨w, hw, e2⟩ := List.mem_map.mp h1
    exact List.any_eq_true.mpr ⟨w, hw, decide_eq_true (by rw [e2, e, hb])⟩
def vD (S : Sto) : Rv → Option (List (D × D))
  | .va (.ref n) => match S[n]? with
    | some (.dct kvs) => some kvs
    | _ => none
  | .fr (.dct kvs) => some kvs
  | _ => none
theorem vD_ok {v : V} {x : Rv} {kvs : List (D × D)} (s : Sim G r H S) (q : RepR G r H0 H v x) (e : vD S x = some kvs) : ∃ a, v = .ref a ∧ ObAt G r H a (.dct kvs) := by
  cases x with
  | fr o =>
    cases o with
    | dct es =>
      cases e
      obtain ⟨a, rfl, _, _, h⟩ := q
      exact ⟨a, rfl, h⟩
    | lst _ => cases e
    | ins _ _ => cases e
  | va d =>
    cases d with
    | ref n =>
      unfold vD at e
      dsimp only at e
      cases e1 : S[n]? with
      | none => rw [e1] at e; cases e
      | some o =>
        rw [e1] at e
        cases o with
        | dct es =>
          cases e
          obtain ⟨a, rfl, _, h⟩ := s.get q e1
          exact ⟨a, rfl, h⟩
        | lst _ => cases e
        | ins _ _ => cases e
    | _ => cases e
end
theorem units1 {k : Nat} {A : Around} (r : Room k A) : A.units + 1 < cLine := by have := r.un; omega
section
variable {X : Cx} {cA : Nat → Addr} {fN : Nat → List Str} {W : WX} {pos : Pos} {o i e : Expr} {m mo mi : EX}
def eDNew : EX := fun _ S => .ok (.fr (.dct [])) S
theorem i_dnew : PE X (.Dict [] [] pos) (TI (GX X cA fN) W eDNew) := pe_dnewK.mono fun σ H Q h => by
  obtain ⟨r, S, env, he, hs, hp⟩ := h
  intro p hpn
  have e : Ext r H r (upd H p (.dK [])) := Ext.new hpn
  exact hp (.ref p) r _ e (hs.stays (fun a o h => by rw [upd_ne (ne_of_none h hpn)]; exact h) e) ⟨p, rfl, hpn, notin_none hs hpn, [], upd_same, rfl, .nil, List.nodup_nil⟩
def eDIn (neg : Bool) (mi mo : EX) : EX := fun env S => (mi env S).bind fun k S1 => (mo env S1).bind fun x S2 => match k, vD S2 x with
  | .va kd, some kvs => if isKey kd = true then .ok (.va (.bl (if neg then !(dGetD kvs kd).isSome else (dGetD kvs kd).isSome))) S2 else .bad
  | _, _ => .bad
theorem din_of {neg : Bool} {σ : L2.St} {H : Hp} {Q : VK} (h : TI (GX X cA fN) W (eDIn neg mi mo) σ H Q) : TI (GX X cA fN) W mi σ H fun y H1 => TI (GX X cA fN) W mo σ H1 fun x H2 => ∃ a ov, x = .ref a ∧ DGet H2 a y ov ∧ Q (.bl (if neg then !ov.isSome else ov.isSome)) H2 := by
  obtain ⟨r, S, env, he, hs, hp⟩ := h
  refine ⟨r, S, env, he, hs, Post.bind hp fun k S1 v r1 H1 e1 s1 q1 z => ?_⟩
  refine ⟨r1, S1, env, he.ext e1, s1, Post.bind (z.shift e1 (R' := RV _ H) fun _ _ _ _ k => k) fun x S2 w r2 H2 e2 s2 q2 z2 => ?_⟩
  cases k with
  | fr ob => exact z2.elim
  | va kd =>
    cases ed : vD S2 x with
    | none => rw [ed] at z2; exact z2.elim
    | some kvs =>
      rw [ed] at z2
      dsimp only at z2
      split at z2
      · rename_i hk
        obtain ⟨key, rfl, rfl⟩ := key_rep (Rep.ext e2 q1) hk
        obtain ⟨a, rfl, ws, ha, h1, h2, h3⟩ := vD_ok s2 q2 ed
        obtain ⟨g1, g2⟩ := dget_ok key h1 h2
        refine ⟨a, valV ws key, rfl, DGet.k ha, ?_⟩
        have : (valV ws key).isSome = (dGetD kvs (keyD key)).isSome := by
          cases ex : dGetD kvs (keyD key) with
          | none => rw [g2 ex]; rfl
          | some d => obtain ⟨v, hv, _⟩ := g1 d ex; rw [hv]; rfl
        rw [this]
        exact z2 _ r2 H2 e2 s2 (.bl _)
      · exact z2.elim
theorem i_din (hu : X.A.units + 1 < cLine) (hi : PE X i (TI (GX X cA fN) W mi)) (ho : PE X o (TI (GX X cA fN) W mo)) (hb : behindInMarks .In o = false := by rfl) : PE X (.Compare i [.In] [o] pos) (TI (GX X cA fN) W (eDIn false mi mo)) := (pe_cmp (pc_din hu hi ho) hb).mono fun _ _ _ h => din_of h
theorem i_dnotin (hu : X.A.units + 1 < cLine) (hi : PE X i (TI (GX X cA fN) W mi)) (ho : PE X o (TI (GX X cA fN) W mo)) (hb : behindInMarks .NotIn o = false := by rfl) : PE X (.Compare i [.NotIn] [o] pos) (TI (GX X cA fN) W (eDIn true mi mo)) := (pe_cmp (pc_dnotin hu hi ho) hb).mono fun _ _ _ h => din_of h
theorem t_din (hu : X.A.units + 1 < cLine) (hi : PE X i (TI (GX X cA fN) W mi)) (ho : PE X o (TI (GX X cA fN) W mo)) (hb : behindInMarks .In o = false := by rfl) : PT X (.Compare i [.In] [o] pos) (TTI (GX X cA fN) W (bB (eDIn false mi mo))) := (pt_cmp (pc_din hu hi ho) hb).mono fun σ H Q h => by
  obtain ⟨r, S, env, he, hs, hp⟩ := h
  have := din_of (neg := false) (bB_ok ⟨r, S, env, he, hs, hp⟩)
  obtain ⟨r1, S1, env1, he1, hs1, hp1⟩ := this
  refine ⟨r1, S1, env1, he1, hs1, hp1.mono fun y H1 ⟨r2, S2, env2, he2, hs2, hp2⟩ => ⟨r2, S2, env2, he2, hs2, hp2.mono fun x H2 ⟨a, ov, h1, h2, h3⟩ => ?_⟩⟩
  exact ⟨a, ov, h1, h2, h3⟩
def eDGet (mo mi : EX) : EX := fun env S => (mo env S).bind fun x S1 => (mi env S1).bind fun k S2 => match k, vD S2 x with
  | .va kd, some kvs => if isKey kd = true then (match dGetD kvs kd with
    | some d => .ok (.va d) S2
    | none => .bad) else .bad
  | _, _ => .bad
theorem i_dget (hu : X.A.units + 1 < cLine) (ho : PE X o (TI (GX X cA fN) W mo)) (hi : PE X i (TI (GX X cA fN) W mi)) (hs : NoSl i := by exact fun _ _ => rfl) : PE X (.Subscript o i pos) (TI (GX X cA fN) W (eDGet mo mi)) := (pe_dget hu ho hi hs).mono fun σ H Q h => by
  obtain ⟨r, S, env, he, hs, hp⟩ := h
  refine ⟨r, S, env, he, hs, Post.bind hp fun x S1 v r1 H1 e1 s1 q1 z => ?_⟩
  refine ⟨r1, S1, env, he.ext e1, s1, Post.bind (z.shift e1 (R' := RV _ H) fun _ _ _ _ k => k) fun k S2 w r2 H2 e2 s2 q2 z2 => ?_⟩
  cases k with
  | fr ob => exact z2.elim
  | va kd =>
    cases ed : vD S2 x with
    | none => rw [ed] at z2; exact z2.elim
    | some kvs =>
      rw [ed] at z2
      dsimp only at z2
      split at z2
      · rename_i hk
        obtain ⟨key, rfl, rfl⟩ := key_rep q2 hk
        obtain ⟨a, rfl, ws, ha, h1, h2, h3⟩ := vD_ok s2 (q1.ext e2) ed
        obtain ⟨g1, g2⟩ := dget_ok key h1 h2
        cases ex : dGetD kvs (keyD key) with
        | none => rw [ex] at z2; exact z2.elim
        | some d =>
          rw [ex] at z2
          obtain ⟨u, hu, ru⟩ := g1 d ex
          exact ⟨a, u, rfl, by rw [← hu]; exact DGet.k ha, z2 u r2 H2 e2 s2 ru⟩
      · exact z2.elim
def sDPut (o i m : EX) : SM := fun env S => (eTo m env S).on env fun x S1 => match x with
  | .va d => (o env S1).on env fun ox S2 => (i env S2).on env fun k S3 => match ox, k with
    | .va (.ref n), .va kd => match S3[n]? with
      | some (.dct kvs) => if isKey kd = true ∧ kvs.length < sizeLine then .nx env (S3.set n (.dct (dPutD kvs kd d))) else .bad
      | _ => .bad
    | _, _ => .bad
  | .fr _ => .bad
theorem s_dput {pos' : Pos} (hu : X.A.units + 1 < cLine) (ho : PE X o (TI (GX X cA fN) W mo)) (hi : PE X i (TI (GX X cA fN) W mi)) (h : PE X e (TI (GX X cA fN) W m)) (hs : swapsWith e (some (.Subscript o i pos')) pos.line X.env = pure false := by rfl) : PS X (.Assign [.Subscript o i pos'] e pos) (TSI (GX X cA fN) W (sDPut mo mi m)) :=
  (ps_dput hu ho hi h hs).mono fun D σ H h => by
  obtain ⟨r, S, env, he, hs, hp⟩ := h
  refine TI.to ⟨r, S, env, he, hs, PostS.on he hp fun x S1 v r1 H1 e1 s1 q1 z => ?_⟩
  cases x with
  | fr o => exact z.elim
  | va d =>
    dsimp only at z
    have he1 := he.ext e1
    refine ⟨r1, S1, env, he1, s1, PostS.on he1 (z.shift e1) fun ox S2 w r2 H2 e2 s2 q2 z2 => ?_⟩
    have he2 := he1.ext e2
    refine ⟨r2, S2, env, he2, s2, PostS.on he2 (z2.shift e2) fun kx S3 u r3 H3 e3 s3 q3 z3 => ?_⟩
    have q1' := (Rep.ext e2 q1).ext e3
    have q2' := q2.ext e3
    split at z3
    · rename_i n kd
      cases en : S3[n]? with
      | none => rw [en] at z3; exact z3.elim
      | some ob =>
        rw [en] at z3
        cases ob with
        | dct kvs =>
          dsimp only at z3
          split at z3
          · rename_i hk
            obtain ⟨key, rfl, rfl⟩ := key_rep q3 hk.1
            obtain ⟨a, rfl, ha, ws, hw, h1, h2, h3⟩ := s3.get q2' en
            have hm : a ∈ r3 := List.mem_of_getElem? ha
            have ew : Ext r3 H3 r3 (upd H3 a (.dK (putK ws key v))) := Ext.wr hm
            have hl : ws.length = kvs.length := by
              have := congrArg List.length h1
              simpa using this.symm
            obtain ⟨p1, p2, p3⟩ := dput_ok key h1 (h2.ext ew) h3 (Rep.ext ew q1')
            exact ⟨a, _, rfl, DPut.k hw (by rw [hl]; exact hk.2), z3 σ r3 _ (e3.trans ew) ((he2.ext e3).ext ew) (s3.wr ha ⟨_, upd_same, p1, p2, p3⟩)⟩
          · exact z3.elim
        | lst _ => exact z3.elim
        | ins _ _ => exact z3.elim
    · exact z3.elim
end
end Cy

set_option Elab.async false
set_option linter.all false
set_option maxRecDepth 100000
set_option maxHeartbeats 2000000
set_option autoImplicit false
/-! Rules for what the mirror's loops do, and laws about texts. -/
namespace Cy
open PySem
/-! ### loops -/
def turn (t : Tg) (body : SM) (ks : List Nat) (d : D) (env : Env) (S : Sto) : SR := match t.bind d env with
  | none => .bad
  | some env' => match body env' S with
    | .nx e' S' => .nx (kill ks e') S'
    | .ct e' S' => .nx (kill ks e') S'
    | .brk e' S' => .brk (kill ks e') S'
    | m => m
def tn (ks : List Nat) (I : Env → Sto → Prop) (P : SR → Prop) : SR → Prop
  | .nx e S => I (kill ks e) S
  | .ct e S => I (kill ks e) S
  | .brk e S => P (.nx (kill ks e) S)
  | m => P m
/-- the same, not to be unfolded -/
structure Tn (ks : List Nat) (I : Env → Sto → Prop) (P : SR → Prop) (m : SR) : Prop where
  out : tn ks I P m
theorem tn_nx {ks : List Nat} {I : Env → Sto → Prop} {P : SR → Prop} {m : SR} {e : Env} {S : Sto} (h : m = .nx e S) (k : I (kill ks e) S) : Tn ks I P m := ⟨by rw [h]; exact k⟩
theorem tn_ct {ks : List Nat} {I : Env → Sto → Prop} {P : SR → Prop} {m : SR} {e : Env} {S : Sto} (h : m = .ct e S) (k : I (kill ks e) S) : Tn ks I P m := ⟨by rw [h]; exact k⟩
theorem tn_brk {ks : List Nat} {I : Env → Sto → Prop} {P : SR → Prop} {m : SR} {e : Env} {S : Sto} (h : m = .brk e S) (k : P (.nx (kill ks e) S)) : Tn ks I P m := ⟨by rw [h]; exact k⟩
theorem tn_ret {ks : List Nat} {I : Env → Sto → Prop} {P : SR → Prop} {m : SR} {x : Rv} {S : Sto} (h : m = .ret x S) (k : P (.ret x S)) : Tn ks I P m := ⟨by rw [h]; exact k⟩
section
variable {src : Src} {t : Tg} {body : SM} {ks : List Nat} {env : Env} {S : Sto}
theorem for_go (I : Nat → Env → Sto → Prop) (P : SR → Prop) (N : Nat)
    (step : ∀ i, i < N → ∀ env S, I i env S → ∃ d env', src.get i S = some (some d) ∧ t.bind d env = some env' ∧ Tn ks (I (i + 1)) P (body env' S))
    (fin : ∀ env S, I N env S → src.get N S = some none ∧ P (.nx env S)) : ∀ (k i fuel : Nat) (env : Env) (S : Sto), i + k = N → k < fuel → I i env S → P (forGo src t body ks fuel i env S)
  | k, i, 0, env, S, e, h, hI => absurd h (Nat.not_lt_zero _)
  | 0, i, fuel + 1, env, S, e, h, hI => by
    have e' : i = N := e
    subst e'
    obtain ⟨h1, h2⟩ := fin env S hI
    unfold forGo
    rw [h1]
    exact h2
  | k + 1, i, fuel + 1, env, S, e, h, hI => by
    obtain ⟨d, env', h1, eb, ⟨h2⟩⟩ := step i (by omega) env S hI
    unfold forGo
    rw [h1]
    dsimp only
    rw [eb]
    · dsimp only
      cases em : body env' S with
      | nx e' S' => rw [em] at h2; exact for_go I P N step fin k (i + 1) fuel _ _ (by omega) (by omega) h2
      | ct e' S' => rw [em] at h2; exact for_go I P N step fin k (i + 1) fuel _ _ (by omega) (by omega) h2
      | brk e' S' => rw [em] at h2; exact h2
      | ret x S' => rw [em] at h2; exact h2
      | err e' c ds S' => rw [em] at h2; exact h2
      | bad => rw [em] at h2; exact h2
theorem for_rule (I : Nat → Env → Sto → Prop) (P : SR → Prop) (h0 : I 0 env S)
    (step : ∀ i, i < src.len → ∀ env S, I i env S → ∃ d env', src.get i S = some (some d) ∧ t.bind d env = some env' ∧ Tn ks (I (i + 1)) P (body env' S))
    (fin : ∀ env S, I src.len env S → src.get src.len S = some none ∧ P (.nx env S)) : P (forGo src t body ks (src.len + 1) 0 env S) :=
  for_go I P src.len step fin src.len 0 (src.len + 1) env S (Nat.zero_add _) (Nat.lt_succ_self _) h0
/-- over a fixed row -/
theorem for_fix {ds : List D} (I : Nat → Env → Sto → Prop) (P : SR → Prop) (h0 : I 0 env S)
    (step : ∀ i d, ds[i]? = some d → ∀ env S, I i env S → ∃ env', t.bind d env = some env' ∧ Tn ks (I (i + 1)) P (body env' S))
    (fin : ∀ env S, I ds.length env S → P (.nx env S)) : P (forGo (.fix ds) t body ks (ds.length + 1) 0 env S) :=
  for_rule (src := .fix ds) I P h0 (fun i hi env S h => let ⟨env', h1, h2⟩ := step i _ (List.getElem?_eq_getElem hi) env S h; ⟨ds[i]'hi, env', congrArg some (List.getElem?_eq_getElem hi), h1, h2⟩)
    fun env S h => ⟨congrArg some (List.getElem?_eq_none (Nat.le_refl _)), fin env S h⟩
/-- over a list of the store that stays -/
theorem for_live {ds : List D} {n : Nat} (I : Nat → Env → Sto → Prop) (P : SR → Prop) (hs : ∀ i env S, I i env S → S[n]? = some (.lst ds)) (h0 : I 0 env S)
    (step : ∀ i d, ds[i]? = some d → ∀ env S, I i env S → ∃ env', t.bind d env = some env' ∧ Tn ks (I (i + 1)) P (body env' S))
    (fin : ∀ env S, I ds.length env S → P (.nx env S)) : P (forGo (.live n ds.length) t body ks (ds.length + 1) 0 env S) :=
  for_rule (src := .live n ds.length) I P h0 (fun i hi env S h => by
      have hi' : i < ds.length := hi
      obtain ⟨env', h1, h2⟩ := step i _ (List.getElem?_eq_getElem hi') env S h
      refine ⟨ds[i]'hi', env', ?_, h1, h2⟩
      show (match S[n]? with | some (.lst ds) => some ds[i]? | _ => none) = _
      rw [hs i env S h]
      exact congrArg some (List.getElem?_eq_getElem hi'))
    fun env S h => ⟨by
      show (match S[n]? with | some (.lst es) => some es[ds.length]? | _ => none) = _
      rw [hs _ env S h]
      exact congrArg some (List.getElem?_eq_none (Nat.le_refl _)), fin env S h⟩
def foldGo (t : Tg) (body : SM) (ks : List Nat) : List D → Env → Sto → SR
  | [], env, S => .nx env S
  | d :: r, env, S => match turn t body ks d env S with
    | .nx e S' => foldGo t body ks r e S'
    | .brk e S' => .nx e S'
    | m => m
theorem fold_eq {ds : List D} : ∀ (k i fuel : Nat) (env : Env) (S : Sto), i + k = ds.length → k < fuel → forGo (.fix ds) t body ks fuel i env S = foldGo t body ks (ds.drop i) env S
  | k, i, 0, env, S, e, h => absurd h (Nat.not_lt_zero _)
  | 0, i, fuel + 1, env, S, e, h => by
    have e1 : ds[i]? = none := List.getElem?_eq_none (by omega)
    have e2 : ds.drop i = [] := List.drop_eq_nil_of_le (by omega)
    unfold forGo
    rw [e2, show Src.get (.fix ds) i S = some ds[i]? from rfl, e1]
    rfl
  | k + 1, i, fuel + 1, env, S, e, h => by
    have hi : i < ds.length := by omega
    unfold forGo
    rw [show Src.get (.fix ds) i S = some ds[i]? from rfl, List.getElem?_eq_getElem hi, List.drop_eq_getElem_cons hi]
    unfold foldGo turn
    dsimp only
    cases eb : t.bind ds[i] env with
    | none => rfl
    | some env' =>
      dsimp only
      cases em : body env' S with
      | nx e' S' => exact fold_eq k (i + 1) fuel _ _ (by omega) (by omega)
      | ct e' S' => exact fold_eq k (i + 1) fuel _ _ (by omega) (by omega)
      | brk e' S' => rfl
      | ret x S' => rfl
      | err e' c ds S' => rfl
      | bad => rfl
theorem turn_nx {d : D} {env' e : Env} {S' : Sto} (hb : t.bind d env = some env') (h : body env' S = .nx e S') : turn t body ks d env S = .nx (kill ks e) S' := by
  unfold turn
  rw [hb]
  dsimp only
  rw [h]
theorem turn_ret {d : D} {env' : Env} {x : Rv} {S' : Sto} (hb : t.bind d env = some env') (h : body env' S = .ret x S') : turn t body ks d env S = .ret x S' := by
  unfold turn
  rw [hb]
  dsimp only
  rw [h]
theorem fold_nx {d : D} {r : List D} {env' e : Env} {S' : Sto} (hb : t.bind d env = some env') (h : body env' S = .nx e S') : foldGo t body ks (d :: r) env S = foldGo t body ks r (kill ks e) S' := by
  rw [show foldGo t body ks (d :: r) env S = (match turn t body ks d env S with | .nx e S' => foldGo t body ks r e S' | .brk e S' => .nx e S' | m => m) from rfl, turn_nx hb h]
theorem fold_ret {d : D} {r : List D} {env' : Env} {x : Rv} {S' : Sto} (hb : t.bind d env = some env') (h : body env' S = .ret x S') : foldGo t body ks (d :: r) env S = .ret x S' := by
  rw [show foldGo t body ks (d :: r) env S = (match turn t body ks d env S with | .nx e S' => foldGo t body ks r e S' | .brk e S' => .nx e S' | m => m) from rfl, turn_ret hb h]
theorem fold_nil : foldGo t body ks [] env S = .nx env S := rfl
theorem for_fold {ds : List D} : forGo (.fix ds) t body ks (ds.length + 1) 0 env S = foldGo t body ks ds env S := fold_eq ds.length 0 _ env S (Nat.zero_add _) (Nat.lt_succ_self _)
/-! while -/
theorem while_go {c : BX} (I : Nat → Env → Sto → Prop) (P : SR → Prop)
    (step : ∀ m env S, I m env S → ∃ b S1, c env S = .ok b S1 ∧ if b = true then Tn ks (fun e S => ∃ m', m' < m ∧ I m' e S) P (body env S1) else P (.nx env S1)) : ∀ (m : Nat) (env : Env) (S : Sto), I m env S → ∃ f, P (whileGo c body ks f env S) := by
  intro m
  induction m using Nat.strongRecOn with
  | _ m ih =>
    intro env S h
    obtain ⟨b, S1, h1, h2⟩ := step m env S h
    cases b with
    | false =>
      refine ⟨1, ?_⟩
      unfold whileGo
      rw [h1]
      exact h2
    | true =>
      rw [if_pos rfl] at h2
      replace h2 := h2.out
      cases em : body env S1 with
      | nx e' S' =>
        rw [em] at h2
        obtain ⟨m', hm, hI⟩ := h2
        obtain ⟨f, hf⟩ := ih m' hm _ _ hI
        refine ⟨f + 1, ?_⟩
        unfold whileGo
        rw [h1]
        simp only [Rs.on_ok, if_true, em]
        exact hf
      | ct e' S' =>
        rw [em] at h2
        obtain ⟨m', hm, hI⟩ := h2
        obtain ⟨f, hf⟩ := ih m' hm _ _ hI
        refine ⟨f + 1, ?_⟩
        unfold whileGo
        rw [h1]
        simp only [Rs.on_ok, if_true, em]
        exact hf
      | brk e' S' =>
        rw [em] at h2
        refine ⟨1, ?_⟩
        unfold whileGo
        rw [h1]
        simp only [Rs.on_ok, if_true, em]
        exact h2
      | ret x S' =>
        rw [em] at h2
        refine ⟨1, ?_⟩
        unfold whileGo
        rw [h1]
        simp only [Rs.on_ok, if_true, em]
        exact h2
      | err e' c ds S' =>
        rw [em] at h2
        refine ⟨1, ?_⟩
        unfold whileGo
        rw [h1]
        simp only [Rs.on_ok, if_true, em]
        exact h2
      | bad =>
        rw [em] at h2
        refine ⟨1, ?_⟩
        unfold whileGo
        rw [h1]
        simp only [Rs.on_ok, if_true, em]
        exact h2
theorem while_more {c : BX} : ∀ (f g : Nat) (env : Env) (S : Sto), f ≤ g → whileGo c body ks f env S ≠ .bad → whileGo c body ks g env S = whileGo c body ks f env S
  | 0, g, env, S, _, h => absurd rfl h
  | f + 1, 0, env, S, hl, h => absurd hl (by omega)
  | f + 1, g + 1, env, S, hl, h => by
    unfold whileGo at h ⊢
    cases ec : c env S with
    | err c ds S1 => rfl
    | bad => rfl
    | ok b S1 =>
      rw [ec] at h
      simp only [Rs.on_ok] at h ⊢
      cases b with
      | false => rfl
      | true =>
        simp only [if_true] at h ⊢
        cases em : body env S1 with
        | nx e' S' => rw [em] at h; exact while_more f g _ _ (by omega) h
        | ct e' S' => rw [em] at h; exact while_more f g _ _ (by omega) h
        | brk e' S' => rfl
        | ret x S' => rfl
        | err e' c ds S' => rfl
        | bad => rfl
theorem while_rule {c : BX} (I : Nat → Env → Sto → Prop) (P : SR → Prop) (nb : ¬ P .bad) (m : Nat) (h0 : I m (kill ks env) S)
    (step : ∀ m env S, I m env S → ∃ b S1, c env S = .ok b S1 ∧ if b = true then Tn ks (fun e S => ∃ m', m' < m ∧ I m' e S) P (body env S1) else P (.nx env S1)) : P (sWhile c body ks env S) := by
  obtain ⟨f, hf⟩ := while_go I P step m _ _ h0
  have hb : whileGo c body ks f (kill ks env) S ≠ .bad := fun e => nb (by rw [← e]; exact hf)
  have hx : ∃ n, whileGo c body ks n (kill ks env) S ≠ .bad := ⟨f, hb⟩
  unfold sWhile
  rw [dif_pos hx]
  have h1 := hx.choose_spec
  rcases Nat.le_total f hx.choose with hl | hl
  · rw [while_more f _ _ _ hl hb]; exact hf
  · rw [← while_more _ f _ _ hl h1]; exact hf
/-! comprehensions -/
theorem lc_go {c : BX} {m : EX} {ds : List D} (hsrc : ∀ i, src.get i S = some ds[i]?) (p : D → Bool) (f : D → D) (hl : ds.length ≤ sizeLine)
    (step : ∀ d ∈ ds, ∃ env', t.bind d env = some env' ∧ c env' S = .ok (p d) S ∧ (p d = true → eTo m env' S = .ok (.va (f d)) S)) :
    ∀ (k i fuel : Nat) (acc : List D), i + k = ds.length → k < fuel → acc.length ≤ i → lcGo src t c m fuel i env S acc = .ok (.fr (.lst (acc ++ ((ds.drop i).filter p).map f))) S
  | k, i, 0, acc, e, h, ha => absurd h (Nat.not_lt_zero _)
  | 0, i, fuel + 1, acc, e, h, ha => by
    have e1 : ds[i]? = none := List.getElem?_eq_none (by omega)
    have e2 : ds.drop i = [] := List.drop_eq_nil_of_le (by omega)
    unfold lcGo
    rw [e2, hsrc, e1]
    simp
  | k + 1, i, fuel + 1, acc, e, h, ha => by
    have hi : i < ds.length := by omega
    obtain ⟨env', h1, h2, h3⟩ := step ds[i] (List.getElem_mem hi)
    unfold lcGo
    rw [hsrc, List.getElem?_eq_getElem hi, List.drop_eq_getElem_cons hi]
    dsimp only
    rw [h1]
    dsimp only
    rw [h2]
    cases ep : p ds[i] with
    | false =>
      dsimp only
      rw [lc_go hsrc p f hl step k (i + 1) fuel acc (by omega) (by omega) (by omega), List.filter_cons_of_neg (by rw [ep]; exact Bool.false_ne_true)]
    | true =>
      dsimp only
      rw [h3 ep]
      dsimp only
      rw [if_pos (by omega), lc_go hsrc p f hl step k (i + 1) fuel _ (by omega) (by omega) (by rw [List.length_append, List.length_singleton]; omega), List.filter_cons_of_pos ep, List.map_cons, List.append_assoc]
      rfl
theorem lc_fix {c : BX} {m : EX} {ds : List D} (p : D → Bool) (f : D → D) (hl : ds.length ≤ sizeLine)
    (step : ∀ d ∈ ds, ∃ env', t.bind d env = some env' ∧ c env' S = .ok (p d) S ∧ (p d = true → eTo m env' S = .ok (.va (f d)) S)) : lcGo (.fix ds) t c m (ds.length + 1) 0 env S [] = .ok (.fr (.lst ((ds.filter p).map f))) S := by
  have := lc_go (src := .fix ds) (fun _ => rfl) p f hl step ds.length 0 (ds.length + 1) [] (Nat.zero_add _) (Nat.lt_succ_self _) (Nat.zero_le _)
  simpa using this
theorem lc_live {c : BX} {m : EX} {ds : List D} {n : Nat} (hs : S[n]? = some (.lst ds)) (p : D → Bool) (f : D → D) (hl : ds.length ≤ sizeLine)
    (step : ∀ d ∈ ds, ∃ env', t.bind d env = some env' ∧ c env' S = .ok (p d) S ∧ (p d = true → eTo m env' S = .ok (.va (f d)) S)) : lcGo (.live n ds.length) t c m (ds.length + 1) 0 env S [] = .ok (.fr (.lst ((ds.filter p).map f))) S := by
  have := lc_go (src := .live n ds.length) (fun i => by show (match S[n]? with | some (.lst es) => some es[i]? | _ => none) = _; rw [hs]) p f hl step ds.length 0 (ds.length + 1) [] (Nat.zero_add _) (Nat.lt_succ_self _) (Nat.zero_le _)
  simpa using this
end
/-- a comprehension over values told by a list of anything -/
theorem lc_map {src : Src} {t : Tg} {env : Env} {S : Sto} {m : EX} {α : Type} (xs : List α) (g h : α → D) (hsrc : ∀ i, src.get i S = some ((xs.map g)[i]?)) (hl : xs.length ≤ sizeLine)
    (step : ∀ x ∈ xs, ∃ env', t.bind (g x) env = some env' ∧ eTo m env' S = .ok (.va (h x)) S) : ∀ (suf pre : List α) (fuel : Nat), pre ++ suf = xs → suf.length < fuel → lcGo src t bYes m fuel pre.length env S (pre.map h) = .ok (.fr (.lst (xs.map h))) S
  | suf, pre, 0, e, hf => absurd hf (Nat.not_lt_zero _)
  | [], pre, fuel + 1, e, hf => by
    rw [List.append_nil] at e
    subst e
    unfold lcGo
    rw [hsrc, List.getElem?_eq_none (by simp)]
  | x :: suf, pre, fuel + 1, e, hf => by
    obtain ⟨env', h1, h2⟩ := step x (by rw [← e]; simp)
    have hg : (xs.map g)[pre.length]? = some (g x) := by
      rw [← e, List.getElem?_map, List.getElem?_append_right (Nat.le_refl _)]
      simp
    have hlen : pre.length < xs.length := by rw [← e]; simp
    unfold lcGo
    rw [hsrc, hg]
    dsimp only
    rw [h1]
    dsimp only [bYes]
    rw [h2]
    dsimp only
    rw [if_pos (by rw [List.length_map]; omega)]
    have ih := lc_map xs g h hsrc hl step suf (pre ++ [x]) fuel (by rw [← e]; simp) (by simp at hf; omega)
    rw [List.map_append, List.length_append] at ih
    exact ih
theorem lc_mapF {t : Tg} {env : Env} {S : Sto} {m : EX} {α : Type} (xs : List α) (g h : α → D) (hl : xs.length ≤ sizeLine) (step : ∀ x ∈ xs, ∃ env', t.bind (g x) env = some env' ∧ eTo m env' S = .ok (.va (h x)) S) :
    lcGo (.fix (xs.map g)) t bYes m ((xs.map g).length + 1) 0 env S [] = .ok (.fr (.lst (xs.map h))) S := lc_map xs g h (fun _ => rfl) hl step xs [] _ rfl (by simp)
theorem range_get {lo hi : Int} {i : Nat} {d : D} (h : (rangeD lo hi)[i]? = some d) : d = .int (lo + i) ∧ lo + i < hi := by
  have hi' : i < (hi - lo).toNat := by simpa [rangeD] using (List.getElem?_eq_some_iff.mp h).1
  unfold rangeD at h
  rw [List.getElem?_map, List.getElem?_range hi'] at h
  exact ⟨(Option.some.inj h).symm, by omega⟩
theorem range_len {lo hi : Int} : (rangeD lo hi).length = (hi - lo).toNat := by simp [rangeD]
theorem small62_of {i : Int} (h : -(2 ^ 62) < i ∧ i < 2 ^ 62) : small62 i = true := by
  unfold small62
  exact decide_eq_true (by omega)
/-! ### texts -/
theorem sub_len (x : Str) (i j : Nat) (h : j ≤ x.length) : (Builtin.Str.strSub x i j).length = j - i := by
  have h' : j ≤ x.cps.size := h
  show (x.cps.extract i j).size = j - i
  rw [Array.size_extract]
  omega
theorem len0 (x : Str) : x = ("" : Str) ↔ x.length = 0 := by
  constructor
  · intro h; rw [h]; rfl
  · intro h
    obtain ⟨c⟩ := x
    have : c = #[] := Array.eq_empty_of_size_eq_zero h
    rw [this]
    decide +kernel
theorem strip_none (x y : Str) : decide (Txt.stripChars x y = ("" : Str)) = x.cps.toList.all fun c => decide (c ∈ y.cps.toList) := by
  rw [Bool.eq_iff_iff, decide_eq_true_eq, List.all_eq_true, len0]
  unfold Txt.stripChars
  rw [PyProof.Rows.stripBy_eq]
  obtain ⟨a1, a2, a3⟩ := PyProof.Rows.lo_facts y.cps.contains x
  obtain ⟨b1, b2, b3, b4⟩ := PyProof.Rows.hi_facts y.cps.contains x _ a1
  rw [sub_len _ _ _ b2]
  have goes : ∀ c, y.cps.contains c = true ↔ c ∈ y.cps.toList := fun c => by simp
  have get : ∀ k, k < x.length → x.cps.getD k 0 ∈ x.cps.toList := fun k hk => by
    have hk' : k < x.cps.size := hk
    simp [Array.getD, hk']
  constructor
  · intro h c hc
    rw [decide_eq_true_eq, ← goes]
    obtain ⟨k, hk, e⟩ := List.mem_iff_getElem.mp hc
    have hk' : k < x.cps.size := by simpa using hk
    have e' : x.cps.getD k 0 = c := by simp [Array.getD, hk', ← e]
    rw [← e']
    by_cases hl : k < PySem.stripLo y.cps.contains true x
    · exact a2 k hl
    · exact b3 k (by omega) hk'
  · intro h
    have all : ∀ k, k < x.length → y.cps.contains (x.cps.getD k 0) = true := fun k hk => by
      have := h _ (get k hk)
      rw [decide_eq_true_eq] at this
      exact (goes _).mpr this
    rcases a3 with a3 | a3
    · omega
    · by_cases hl : PySem.stripLo y.cps.contains true x < x.length
      · rw [all _ hl] at a3; cases a3
      · omega
theorem find_neg (x : Str) (c : Nat) : decide (Txt.find x ⟨#[c]⟩ < 0) = !decide (c ∈ x.cps.toList) := by
  rw [← StrLaws.found_one]
  unfold Txt.find
  cases Builtin.Str.occurrences x ⟨#[c]⟩ 0 x.length 1 with
  | nil => rfl
  | cons i r =>
    have : ¬ ((i : Nat) : Int) < 0 := by omega
    simp [this]
end Cy

set_option Elab.async false
set_option linter.all false
set_option maxRecDepth 100000
set_option autoImplicit false
/-! The mirror of the defs of curveyard_k23_stretches_closed, printed by gen.py. -/
namespace Pf
open PySem L2 Cy
/-- numbers_between: 0 rows 1 at -/
noncomputable def b_p_numbers_between : SM := (sRet (eP (lift (pII gSub)) [(eP (lift (pII gSub)) [(eP (lift pIx) [(eP (lift pIx) [(eVar 0), (eP (lift (pAdd)) [(eVar 1), (eC (.int 1))])]), (eC (.int 0))]), (eP (lift pIx) [(eP (lift pIx) [(eVar 0), (eVar 1)]), (eC (.int 1))])]), (eC (.int 1))]))
noncomputable def m_p_numbers_between : FI := clean (noErr (fnOf 2 2 b_p_numbers_between))
/-- joined_but: 0 rows 1 parted 2 found 3 at 4 row -/
noncomputable def lb_p_joined_but_0 : SM := (sIf (bOr (bB (eP (lift (pEq)) [(eVar 3), (eC (.int 0))])) (bB (eDIn false (eP (lift (pII gSub)) [(eVar 3), (eC (.int 1))]) (eVar 1)))) (sEx (eM isL pApp (eVar 2) [(eVar 4)])) (sSub (eVar 2) (eP (lift pNeg) [(eC (.int 1))]) (eTup [(eP (lift pIx) [(eP (lift pIx) [(eVar 2), (eP (lift pNeg) [(eC (.int 1))])]), (eC (.int 0))]), (eP (lift pIx) [(eVar 4), (eC (.int 1))])])))
noncomputable def l_p_joined_but_0 : SM := (sFor (ixE (eVar 0)) (.names [3, 4]) lb_p_joined_but_0 [3, 4])
noncomputable def b_p_joined_but : SM := (sSeq (sAsg (.name 2) (eLst []))
    (sSeq l_p_joined_but_0
    (sRet (eVar 2))))
noncomputable def m_p_joined_but : FI := clean (noErr (fnOf 5 2 b_p_joined_but))
/-- _law_cell: 0 _law_script 1 _law_k -/
noncomputable def b_L_cell : SM := (sSeq (sIf (bB (eP (lift (pLt)) [(eVar 1), (eP (lift pLen) [(eVar 0)])])) (sRet (eP (lift pIx) [(eVar 0), (eVar 1)])) sNil)
    (sRet (eC (.int 0))))
noncomputable def m_L_cell : FI := clean (noErr (fnOf 2 2 b_L_cell))
/-- _law_mix: 0 _law_cell_here 1 _law_one 2 _law_prime 3 _law_drawn -/
noncomputable def b_L_mix : SM := (sSeq (sAsg (.name 3) (eP (lift (pII gMod)) [(eP (lift (pMul)) [(eP (lift (pAdd)) [(eP (lift (pAdd)) [(eP (lift (pAdd)) [(eP (lift (pII gMod)) [(eVar 0), (eVar 2)]), (eC (.int 12345))]), (eP (lift (pMul)) [(eP (lift (pMul)) [(eC (.int 31)), (eVar 1)]), (eVar 1)])]), (eVar 1)]), (eC (.int 48271))]), (eVar 2)]))
    (sRet (eP (lift (pII gDiv)) [(eP (lift (pII gMod)) [(eP (lift (pMul)) [(eVar 3), (eVar 3)]), (eC (.int 998244353))]), (eC (.int 3))])))
noncomputable def m_L_mix : FI := clean (noErr (fnOf 4 3 b_L_mix))
/-- _law_whole: 0 _law_found -/
noncomputable def b_L_whole : SM := (sRet (eAnd (eP (lift (pIsi "int")) [(eVar 0)]) (eNot (eP (lift (pIsi "bool")) [(eVar 0)]))))
noncomputable def m_L_whole : FI := clean (noErr (fnOf 1 1 b_L_whole))
/-- _law_due: 0 _law_rows 1 _law_most 2 _law_due_here 3 _law_k -/
noncomputable def lb_L_due_0 : SM := (sIf (bAnd (bB (eP (lift (pII gGt)) [(eVar 3), (eC (.int 0))])) (bB (eP (lift (pII gLe)) [(eP (lift (pII gSub)) [(eP (lift pIx) [(eP (lift pIx) [(eVar 0), (eVar 3)]), (eC (.int 0))]), (eP (lift pIx) [(eP (lift pIx) [(eVar 0), (eP (lift (pII gSub)) [(eVar 3), (eC (.int 1))])]), (eC (.int 1))])]), (eP (lift (pAdd)) [(eVar 1), (eC (.int 1))])]))) (sSub (eVar 2) (eP (lift pNeg) [(eC (.int 1))]) (eTup [(eP (lift pIx) [(eP (lift pIx) [(eVar 2), (eP (lift pNeg) [(eC (.int 1))])]), (eC (.int 0))]), (eP (lift pIx) [(eP (lift pIx) [(eVar 0), (eVar 3)]), (eC (.int 1))])])) (sEx (eM isL pApp (eVar 2) [(eP (lift pIx) [(eVar 0), (eVar 3)])])))
noncomputable def l_L_due_0 : SM := (sFor (ixR1 (eP (lift pLen) [(eVar 0)])) (.name 3) lb_L_due_0 [3])
noncomputable def b_L_due : SM := (sSeq (sAsg (.name 2) (eLst []))
    (sSeq l_L_due_0
    (sRet (eVar 2))))
noncomputable def m_L_due : FI := clean (noErr (fnOf 4 2 b_L_due))
/-- closed: 0 rows 1 most 2 parted 3 at -/
noncomputable def lb_p_closed_0 : SM := (sIf (bB (eP (lift (pII gGt)) [(eCall m_p_numbers_between [(eVar 0), (eVar 3)] []), (eVar 1)])) (sDPut (eVar 2) (eVar 3) (eC (.bl true))) sNil)
noncomputable def l_p_closed_0 : SM := (sFor (ixR1 (eP (lift (pII gSub)) [(eP (lift pLen) [(eVar 0)]), (eC (.int 1))])) (.name 3) lb_p_closed_0 [3])
noncomputable def b_p_closed : SM := (sSeq (sAsg (.name 2) eDNew)
    (sSeq l_p_closed_0
    (sRet (eCall m_p_joined_but [(eVar 0), (eVar 2)] []))))
noncomputable def m_p_closed : FI := clean (noErr (fnOf 4 2 b_p_closed))
/-- _law_row: 0 _law_cell_here 1 _law_k 2 _law_wide 3 _law_long -/
noncomputable def b_L_row : SM := (sSeq (sAsg (.name 2) (eP (lift pIx) [(eLst [(eC (.int 1)), (eC (.int 1)), (eC (.int 2)), (eC (.int 3)), (eC (.int 7)), (eTo (eP (lift (pAdd)) [(eC (.int 1)), (eP (lift (pII gMod)) [(eVar 0), (eP (lift (pII gPow)) [(eC (.int 10)), (eC (.int 30))])])]))]), (eP (lift (pII gMod)) [(eCall m_L_mix [(eVar 0), (eC (.int 3)), (eC (.int 1000003))] []), (eC (.int 6))])]))
    (sSeq (sAsg (.name 3) (eP (lift pIx) [(eLst [(eC (.int 1)), (eC (.int 1)), (eC (.int 2)), (eC (.int 5)), (eTo (eP (lift (pAdd)) [(eC (.int 1)), (eP (lift (pII gMod)) [(eP (lift (pII gDiv)) [(eVar 0), (eC (.int 3))]), (eP (lift (pII gPow)) [(eC (.int 10)), (eC (.int 30))])])]))]), (eP (lift (pII gMod)) [(eCall m_L_mix [(eVar 0), (eC (.int 4)), (eC (.int 1000033))] []), (eC (.int 5))])]))
    (sRet (eTup [(eVar 2), (eVar 3)]))))
noncomputable def m_L_row : FI := clean (noErr (fnOf 4 2 b_L_row))
/-- _law_pairs: 0 _law_found 1 _law_pair -/
noncomputable def lb_L_pairs_0 : SM := (sIf (bOr (bNot (bB (eP (lift (pIsi "tuple")) [(eVar 1)]))) (bOr (bB (eP (lift (pNe)) [(eP (lift pLen) [(eVar 1)]), (eC (.int 2))])) (bOr (bNot (bB (eCall m_L_whole [(eP (lift pIx) [(eVar 1), (eC (.int 0))])] []))) (bNot (bB (eCall m_L_whole [(eP (lift pIx) [(eVar 1), (eC (.int 1))])] [])))))) (sRet (eC (.bl false))) sNil)
noncomputable def l_L_pairs_0 : SM := (sFor (ixL (eVar 0)) (.name 1) lb_L_pairs_0 [1])
noncomputable def b_L_pairs : SM := (sSeq (sIf (bNot (bB (eP (lift (pIsi "list")) [(eVar 0)]))) (sRet (eC (.bl false))) sNil)
    (sSeq l_L_pairs_0
    (sRet (eC (.bl true)))))
noncomputable def m_L_pairs : FI := clean (noErr (fnOf 2 1 b_L_pairs))
/-- _law_gap: 0 _law_cell_here 1 _law_rows 2 _law_drawn 3 _law_at -/
noncomputable def b_L_gap : SM := (sSeq (sAsg (.name 2) (eCall m_L_mix [(eVar 0), (eC (.int 0)), (eC (.int 1000037))] []))
    (sSeq (sIf (bOr (bB (eP (lift (pEq)) [(eP (lift (pII gMod)) [(eVar 2), (eC (.int 3))]), (eC (.int 0))])) (bB (eP (lift (pLt)) [(eP (lift pLen) [(eVar 1)]), (eC (.int 2))]))) (sRet (eP (lift (pII gMod)) [(eP (lift (pII gDiv)) [(eVar 2), (eC (.int 3))]), (eC (.int 9))])) sNil)
    (sSeq (sIf (bB (eP (lift (pEq)) [(eP (lift (pII gMod)) [(eVar 2), (eC (.int 3))]), (eC (.int 1))])) (sRet (eP (lift (pII gMod)) [(eVar 0), (eP (lift (pII gPow)) [(eC (.int 10)), (eC (.int 30))])])) sNil)
    (sSeq (sAsg (.name 3) (eP (lift (pII gMod)) [(eP (lift (pII gDiv)) [(eVar 2), (eC (.int 3))]), (eP (lift (pII gSub)) [(eP (lift pLen) [(eVar 1)]), (eC (.int 1))])]))
    (sRet (eP (lift (pII gSub)) [(eP (lift (pII gSub)) [(eP (lift (pII gSub)) [(eP (lift pIx) [(eP (lift pIx) [(eVar 1), (eP (lift (pAdd)) [(eVar 3), (eC (.int 1))])]), (eC (.int 0))]), (eP (lift pIx) [(eP (lift pIx) [(eVar 1), (eVar 3)]), (eC (.int 1))])]), (eC (.int 1))]), (eP (lift (pII gMod)) [(eP (lift (pII gDiv)) [(eVar 2), (eC (.int 1000))]), (eC (.int 2))])]))))))
noncomputable def m_L_gap : FI := clean (noErr (fnOf 4 2 b_L_gap))
/-- _law_list: 0 _law_cells 1 _law_start 2 _law_rows 3 _law_at 4 _law_k 5 _law_cell_here 6 _law_wide 7 _law_long -/
noncomputable def lb_L_list_0 : SM := (sSeq (sAsg (.names [6, 7]) (eCall m_L_row [(eVar 5), (eVar 4)] []))
    (sSeq (sIf (bB (eP (lift (pII gGt)) [(eVar 4), (eC (.int 0))])) (sAsg (.name 3) (eP (lift (pAdd)) [(eVar 3), (eVar 6)])) sNil)
    (sSeq (sEx (eM isL pApp (eVar 2) [(eTup [(eVar 3), (eTo (eP (lift (pII gSub)) [(eP (lift (pAdd)) [(eVar 3), (eVar 7)]), (eC (.int 1))]))])]))
    (sAsg (.name 3) (eP (lift (pAdd)) [(eVar 3), (eVar 7)])))))
noncomputable def l_L_list_0 : SM := (sFor (ixE (eVar 0)) (.names [4, 5]) lb_L_list_0 [4, 5, 6, 7])
noncomputable def b_L_list : SM := (sSeq (sAsg (.name 2) (eLst []))
    (sSeq (sAsg (.name 3) (eVar 1))
    (sSeq l_L_list_0
    (sRet (eVar 2)))))
noncomputable def m_L_list : FI := clean (noErr (fnOf 8 2 b_L_list))
/-- law: 0 _law_script 1 _law_rows 2 _law_handed 3 _law_most 4 _law_found -/
noncomputable def lb_L_law_0 : SM := (sSeq (sAsg (.name 4) (eCall m_p_closed [(eVar 2), (eVar 3)] []))
    (sSeq (sIf (bOr (bNot (bB (eCall m_L_pairs [(eVar 4)] []))) (bOr (bB (eP (lift (pNe)) [(eVar 4), (eCall m_L_due [(eVar 1), (eVar 3)] [])])) (bB (eP (lift (pNe)) [(eVar 2), (eVar 1)])))) (sRet (eC (.bl false))) sNil)
    (sSeq (sEx (eM isL pApp (eVar 2) [(eTup [(eTo (eP (lift (pII gPow)) [(eC (.int 10)), (eC (.int 50))])), (eTo (eP (lift (pII gPow)) [(eC (.int 10)), (eC (.int 50))]))])]))
    (sSeq (sIf (bB (eP (lift (pNe)) [(eVar 4), (eCall m_L_due [(eVar 1), (eVar 3)] [])])) (sRet (eC (.bl false))) sNil)
    (sSeq (sEx (eM isL pApp (eVar 4) [(eTup [(eC (.int 0)), (eC (.int 0))])]))
    (sSeq (sAsg (.name 2) (eP (lift pLstOf) [(eVar 1)]))
    (sIf (bB (eP (lift (pNe)) [(eCall m_p_closed [(eVar 2), (eVar 3)] []), (eCall m_L_due [(eVar 1), (eVar 3)] [])])) (sRet (eC (.bl false))) sNil)))))))
noncomputable def l_L_law_0 : SM := (sFor (ixL (eLst [(eTo (eCall m_L_gap [(eTo (eCall m_L_cell [(eVar 0), (eC (.int 0))] [])), (eVar 1)] [])), (eC (.int 0)), (eTo (eCall m_L_gap [(eTo (eP (lift (pAdd)) [(eCall m_L_cell [(eVar 0), (eC (.int 1))] []), (eC (.int 1))])), (eVar 1)] []))])) (.name 3) lb_L_law_0 [3, 4])
noncomputable def b_L_law : SM := (sSeq (sAsg (.name 1) (eCall m_L_list [(eTo (eSl (eVar 0) (oSome (eC (.int 2))) (oSome (eC (.int 62))))), (eTo (eP (lift (pII gMod)) [(eCall m_L_cell [(eVar 0), (eC (.int 1))] []), (eP (lift (pII gPow)) [(eC (.int 10)), (eC (.int 40))])]))] []))
    (sSeq (sAsg (.name 2) (eP (lift pLstOf) [(eVar 1)]))
    (sSeq l_L_law_0
    (sRet (eP (lift (pEq)) [(eCall m_p_closed [(eVar 1), (eC (.int 0))] []), (eVar 1)])))))
noncomputable def m_L_law : FI := clean (noErr (fnOf 5 1 b_L_law))
end Pf

set_option Elab.async false
set_option linter.all false
set_option maxRecDepth 100000
set_option maxHeartbeats 2000000
set_option autoImplicit false
namespace Pf
open PySem Cy
open L2 (atI ixN atI_nat)
theorem dlt {a b : Nat} : decide ((a : Int) < (b : Int)) = decide (a < b) := by simp
theorem line_ge : (1000 : Nat) ≤ sizeLine := by decide +kernel
theorem app_len (x y : Str) : (x ++ y).length = x.length + y.length := by
  show (x.cps ++ y.cps).size = x.cps.size + y.cps.size
  exact Array.size_append
theorem cut_len (x : Str) (lo hi : Option Int) : (L2.cutS x lo hi).length ≤ x.length := by
  show (List.toArray _).size ≤ x.cps.size
  rw [List.size_toArray, List.length_take, List.length_drop, Array.length_toList]
  omega
theorem ints_cut (ns : List Int) (lo hi : Option Int) : cutD (ns.map D.int) lo hi = ((ns.drop (HT.sIx ns.length 0 lo)).take (HT.sIx ns.length ns.length hi - HT.sIx ns.length 0 lo)).map D.int := by
  unfold cutD
  rw [List.length_map, List.map_take, List.map_drop]
theorem cells_cut (ns : List Int) (h : ns.length ≤ 63) (lo hi : Option Int) : ∃ cs : List Int, cutD (ns.map D.int) lo hi = cs.map D.int ∧ cs.length ≤ 63 := ⟨_, ints_cut ns _ _, by rw [List.length_take, List.length_drop]; omega⟩
/-- the sign at a place -/
theorem at_sign (x : Str) (i : Int) (n : Nat) (hn : x.length = n) (h0 : 0 ≤ i) (h1 : i < n) : ∃ c, atI x.cps.toList i = some c := by
  obtain ⟨j, rfl⟩ := Int.eq_ofNat_of_zero_le h0
  have hj : j < x.cps.toList.length := by
    have : x.cps.size = n := hn
    rw [Array.length_toList, this]
    omega
  exact ⟨_, atI_nat (List.getElem?_eq_getElem hj)⟩

theorem f_whole_int (S : Sto) (n : Int) : m_L_whole [.int n] S = .ok (.va (.bl true)) S := by
  refine fn_va0 ?_ rfl
  have k1 : isiB "int" "int" = some true := by decide +kernel
  have k2 : isiB "int" "bool" = some false := by decide +kernel
  simp only [b_L_whole, sNil, sSeq, sEx, sRet, sRetN, sBrk, sCt, sIf, sAsg, sAug, Tg.bind, setAll, Rs.on_ok, Rs.on_err, Rs.on_bad, SR.then_nx, SR.then_brk, SR.then_ct, SR.then_ret, SR.then_err, SR.then_bad, Rs.bind_ok, Rs.bind_err, Rs.bind_bad, eVar, eC, eTo, own, eArgs, eP, bB, bNot, bAnd, bOr, eNot, eAnd, eOr, eIf, eChain, lift, pII_int, pAdd, pMul, pLt, pLen, pIx, pEq, pNe, pIsN, pNotN, isN, pIsi, tyN, pStr, pInt, pSS, isS, isSt, isL, eM, eTup, eLst, eCall, unva, eSl, oNone, oSome, cutR, gSub, gDiv, gMod, gPow, gShl, gShr, gLt, gLe, gGt, gGe, gMax, gMin, gAnd, gXor, gOr, gStrip, gFind, eqB, eqS, List.getElem?_cons_zero, List.getElem?_cons_succ, List.set_cons_zero, List.set_cons_succ, List.map_cons, List.map_nil, List.replicate_succ, List.replicate_zero, List.cons_append, List.nil_append, Option.map_some, Option.map_none, if_true, if_false, Nat.reduceSub, reduceIte, Bool.false_eq_true, decide_true, decide_false, Bool.not_true, Bool.not_false, List.length_cons, List.length_nil, k1, k2]

abbrev P2 := Int × Int
def pr (a f : Int) : D := .tup [.int a, .int f]
def prs (a : List P2) : List D := a.map fun p => pr p.1 p.2
theorem prs_len (a : List P2) : (prs a).length = a.length := List.length_map ..
theorem und_prs (a : List P2) (n : Nat) : D.unds n (prs a) = true := by
  induction a with
  | nil => rfl
  | cons p r ih =>
    show ((true && (true && true)) && D.unds n (prs r)) = true
    rw [ih]; rfl
theorem get_last {S : Sto} {o : Ob} : (S ++ [o])[S.length]? = some o := List.getElem?_concat_length
theorem set_last {S : Sto} {o o' : Ob} : (S ++ [o]).set S.length o' = S ++ [o'] := by
  rw [List.set_append_right _ _ (Nat.le_refl _), Nat.sub_self]; rfl
theorem get_old {S : Sto} {n : Nat} {o : Ob} (h : S[n]? = some o) (p : Ob) : (S ++ [p])[n]? = some o := by
  rw [List.getElem?_append_left (List.getElem?_eq_some_iff.mp h).1]; exact h
theorem at_prs (b : List P2) (i : Int) (h0 : 0 ≤ i) (h1 : i < (b.length : Int)) : atI (prs b) i = some (pr (b.getD i.toNat (0, 0)).1 (b.getD i.toNat (0, 0)).2) := by
  obtain ⟨j, rfl⟩ := Int.eq_ofNat_of_zero_le h0
  have hj : j < b.length := by omega
  refine atI_nat ?_
  unfold prs
  rw [List.getElem?_map, List.getElem?_eq_getElem hj]
  simp [List.getD_eq_getElem?_getD, List.getElem?_eq_getElem hj]
/-! as data -/
def dat1 (a : List P2) : List PyData := a.map fun p => .tuple [.int p.1, .int p.2]
theorem py_prs (f : Nat) (S : Sto) (a : List P2) : pyAll (py (f + 2) S) (prs a) = some (dat1 a) := by
  induction a with
  | nil => rfl
  | cons p r ih =>
    have h1 : py (f + 2) S (pr p.1 p.2) = some (.tuple [.int p.1, .int p.2]) := rfl
    show (match py (f + 2) S (pr p.1 p.2), pyAll (py (f + 2) S) (prs r) with | some p, some ps => some (p :: ps) | _, _ => none) = _
    rw [h1, ih]; rfl
theorem lay_dat (a : List P2) : PyData.canLayAll0 (dat1 a) = true := by
  induction a with
  | nil => rfl
  | cons p r ih =>
    show (PyData.canLay0 (.tuple [.int p.1, .int p.2]) && PyData.canLayAll0 (dat1 r)) = true
    rw [ih]; rfl
theorem deep_dat (a : List P2) : PyData.depthAll (dat1 a) ≤ 1 := by
  induction a with
  | nil => exact Nat.zero_le _
  | cons p r ih =>
    show max (PyData.depth (.tuple [.int p.1, .int p.2])) (PyData.depthAll (dat1 r)) ≤ 1
    have : PyData.depth (.tuple [.int p.1, .int p.2]) = 1 := rfl
    omega
theorem shape_dat (a : List P2) : SeqAt.shaped (.list (dat1 a)) = true := by
  unfold SeqAt.shaped
  have h1 : PyData.canLay0 (.list (dat1 a)) = true := lay_dat a
  have h2 : PyData.depth (.list (dat1 a)) ≤ 64 := by
    show PyData.depthAll (dat1 a) + 1 ≤ 64
    have := deep_dat a
    omega
  rw [h1, decide_eq_true h2]; rfl
theorem eqv_dat (a : List P2) : PyData.eqv (.list (dat1 a)) (.list (dat1 a)) = true := SeqAt.eqv_refl _ (lay_dat a)
theorem pyR_ref {S : Sto} {n : Nat} {a : List P2} (h : S[n]? = some (.lst (prs a))) : pyR S (.va (.ref n)) = some (.list (dat1 a)) := by
  show (match S[n]? with | some (.lst ds) => (pyAll (py 11 S) ds).map PyData.list | _ => none) = _
  rw [h]
  show (pyAll (py (9 + 2) S) (prs a)).map PyData.list = _
  rw [py_prs]; rfl
theorem pyR_fr (S : Sto) (a : List P2) : pyR S (.fr (.lst (prs a))) = some (.list (dat1 a)) := by
  show (pyAll (py (10 + 2) S) (prs a)).map PyData.list = _
  rw [py_prs]; rfl
theorem eqD_of {S : Sto} {x y : Rv} {a : List P2} (h : pyR S x = some (.list (dat1 a))) (k : pyR S y = some (.list (dat1 a))) : eqD S x y = some true := by
  unfold eqD
  rw [h, k]
  dsimp only
  rw [shape_dat, eqv_dat]; rfl
theorem ne_rr {S : Sto} {n m : Nat} {a : List P2} (h : S[n]? = some (.lst (prs a))) (k : S[m]? = some (.lst (prs a))) : pNe S [.va (.ref n), .va (.ref m)] = some (.va (.bl false)) := by
  have e : eqB S (.va (.ref n)) (.va (.ref m)) = some true := eqD_of (pyR_ref h) (pyR_ref k)
  show (eqB S _ _).map _ = _
  rw [e]; rfl
theorem ne_rf {S : Sto} {n : Nat} {a : List P2} (h : S[n]? = some (.lst (prs a))) : pNe S [.va (.ref n), .fr (.lst (prs a))] = some (.va (.bl false)) := by
  have e : eqB S (.va (.ref n)) (.fr (.lst (prs a))) = some true := eqD_of (pyR_ref h) (pyR_fr S a)
  show (eqB S _ _).map _ = _
  rw [e]; rfl
theorem ne_ff (S : Sto) (a : List P2) : pNe S [.fr (.lst (prs a)), .fr (.lst (prs a))] = some (.va (.bl false)) := by
  have e : eqB S (.fr (.lst (prs a))) (.fr (.lst (prs a))) = some true := eqD_of (pyR_fr S a) (pyR_fr S a)
  show (eqB S _ _).map _ = _
  rw [e]; rfl
theorem eq_fr {S : Sto} {n : Nat} {a : List P2} (h : S[n]? = some (.lst (prs a))) : pEq S [.fr (.lst (prs a)), .va (.ref n)] = some (.va (.bl true)) := by
  have e : eqB S (.fr (.lst (prs a))) (.va (.ref n)) = some true := eqD_of (pyR_fr S a) (pyR_ref h)
  show (eqB S _ _).map _ = _
  rw [e]; rfl

def lo (a : List P2) (i : Nat) : Int := (a.getD i (0, 0)).1
def hi (a : List P2) (i : Nat) : Int := (a.getD i (0, 0)).2
def gapAt (a : List P2) (i : Nat) : Int := lo a (i + 1) - hi a i - 1
theorem atN (a : List P2) (i : Nat) (x : Int) (hx : x = (i : Int)) (h : i < a.length) : atI (prs a) x = some (pr (lo a i) (hi a i)) := by
  subst hx
  have := at_prs a (i : Int) (by omega) (by omega)
  rw [Int.toNat_natCast] at this
  exact this
theorem f_between (S : Sto) (n : Nat) (a : List P2) (h : S[n]? = some (.lst (prs a))) (i : Nat) (x : Int) (hx : x = (i : Int)) (hi' : i + 1 < a.length) : m_p_numbers_between [.ref n, .int x] S = .ok (.va (.int (gapAt a i))) S := by
  have h1 := atN a i x hx (by omega)
  have h2 := atN a (i + 1) (x + 1) (by omega) hi'
  refine fn_va0 ?_ rfl
  unfold gapAt
  generalize lo a (i + 1) = p1 at *
  generalize hi a i = p2 at *
  generalize lo a i = p3 at *
  generalize hi a (i + 1) = p4 at *
  have a0 : atI [D.int p1, D.int p4] 0 = some (.int p1) := rfl
  have a1 : atI [D.int p3, D.int p2] 1 = some (.int p2) := rfl
  simp only [b_p_numbers_between, sNil, sSeq, sEx, sRet, sRetN, sBrk, sCt, sIf, sAsg, sAug, Tg.bind, setAll, Rs.on_ok, Rs.on_err, Rs.on_bad, SR.then_nx, SR.then_brk, SR.then_ct, SR.then_ret, SR.then_err, SR.then_bad, Rs.bind_ok, Rs.bind_err, Rs.bind_bad, eVar, eC, eTo, own, eArgs, eP, bB, bNot, bAnd, bOr, eNot, eAnd, eOr, eIf, eChain, lift, pII_int, pAdd, pMul, pLt, pLen, pIx, pEq, pNe, pIsN, pNotN, isN, pIsi, tyN, pStr, pInt, pSS, isS, isSt, isL, eM, eTup, eLst, eCall, unva, eSl, oNone, oSome, cutR, gSub, gDiv, gMod, gPow, gShl, gShr, gLt, gLe, gGt, gGe, gMax, gMin, gAnd, gXor, gOr, gStrip, gFind, eqB, eqS, List.getElem?_cons_zero, List.getElem?_cons_succ, List.set_cons_zero, List.set_cons_succ, List.map_cons, List.map_nil, List.replicate_succ, List.replicate_zero, List.cons_append, List.nil_append, Option.map_some, Option.map_none, if_true, if_false, Nat.reduceSub, reduceIte, Bool.false_eq_true, decide_true, decide_false, Bool.not_true, Bool.not_false, List.length_cons, List.length_nil, vQ, vT, vL, h, h1, h2, pr, a0, a1]
/-- the stretches with some gaps shut: open i tells that the gap behind row i stays -/
def joinN (a : List P2) (opn : Nat → Bool) : Nat → List P2
  | 0 => []
  | i + 1 => if i = 0 ∨ opn (i - 1) = true then joinN a opn i ++ [(lo a i, hi a i)] else (joinN a opn i).dropLast ++ [(((joinN a opn i).getLastD (0, 0)).1, hi a i)]
theorem joinN_len (a : List P2) (opn : Nat → Bool) : ∀ i, (joinN a opn i).length ≤ i ∧ (0 < i → 0 < (joinN a opn i).length)
  | 0 => ⟨Nat.le_refl _, fun h => absurd h (Nat.lt_irrefl _)⟩
  | i + 1 => by
    obtain ⟨h1, h2⟩ := joinN_len a opn i
    unfold joinN
    split
    · rw [List.length_append, List.length_singleton]
      exact ⟨by omega, fun _ => by omega⟩
    · rename_i hc
      have h0 : i ≠ 0 := fun e => hc (.inl e)
      rw [List.length_append, List.length_singleton, List.length_dropLast]
      have := h2 (by omega)
      exact ⟨by omega, fun _ => by omega⟩
theorem last_split (l : List P2) (h : 0 < l.length) : ∃ m p, l = m ++ [p] ∧ l.dropLast = m ∧ l.getLastD (0, 0) = p := by
  have hne : l ≠ [] := List.length_pos_iff.mp h
  refine ⟨l.dropLast, l.getLast hne, (List.dropLast_concat_getLast hne).symm, rfl, ?_⟩
  rw [List.getLastD_eq_getLast?, List.getLast?_eq_some_getLast hne]; rfl
/-- the last of a list is written -/
theorem put_last (S : Sto) (n : Nat) (m : List P2) (p : P2) (x y : Int) (h : S[n]? = some (.lst (prs (m ++ [p])))) : pSetL S (.va (.ref n)) (.va (.int (-1))) (pr x y) = some (S.set n (.lst (prs (m ++ [(x, y)])))) ∧ atI (prs (m ++ [p])) (-1) = some (pr p.1 p.2) := by
  have e : prs (m ++ [p]) = prs m ++ [pr p.1 p.2] := by unfold prs; rw [List.map_append]; rfl
  refine ⟨?_, by rw [e]; exact L2.atI_last _ _⟩
  unfold pSetL
  dsimp only
  rw [h]
  dsimp only
  have hl : (prs (m ++ [p])).length = m.length + 1 := by rw [prs_len, List.length_append]; rfl
  have hx : L2.ixN (m.length + 1) (-1) = some m.length := by
    unfold L2.ixN
    rw [if_neg (by decide), if_pos (by omega)]
    congr 1
    omega
  rw [hl, hx]
  have es : (prs (m ++ [p])).set m.length (pr x y) = prs (m ++ [(x, y)]) := by
    rw [e]
    have hm : m.length = (prs m).length := (prs_len m).symm
    rw [hm, List.set_append_right _ _ (Nat.le_refl _), Nat.sub_self]
    unfold prs
    rw [List.map_append]; rfl
  rw [Option.map_some, es]

theorem prs_app (a : List P2) (p : P2) : prs (a ++ [p]) = prs a ++ [pr p.1 p.2] := by
  unfold prs
  rw [List.map_append]; rfl
theorem body_j1 (S : Sto) (n k : Nat) (x u v : Int) (kvs : List (D × D)) (found : List P2) (hk : S[k]? = some (.dct kvs)) (hc : x = 0 ∨ (dGetD kvs (.int (x - 1))).isSome = true) (hz : (prs found).length < sizeLine) :
    lb_p_joined_but_0 [some (.ref n), some (.ref k), some (.ref S.length), some (.int x), some (pr u v)] (S ++ [.lst (prs found)]) = .nx [some (.ref n), some (.ref k), some (.ref S.length), some (.int x), some (pr u v)] (S ++ [.lst (prs (found ++ [(u, v)]))]) := by
  have hk' : vD (S ++ [.lst (prs found)]) (.va (.ref k)) = some kvs := by
    show (match (S ++ [Ob.lst (prs found)])[k]? with | some (.dct kvs) => some kvs | _ => none) = _
    rw [get_old hk]
  have happ : pApp (S ++ [.lst (prs found)]) [.va (.ref S.length), .va (pr u v)] = some (.va .non, S ++ [.lst (prs (found ++ [(u, v)]))]) := by
    show (match (S ++ [Ob.lst (prs found)])[S.length]? with | some (.lst ds) => if ds.length < sizeLine then some (Rv.va D.non, (S ++ [Ob.lst (prs found)]).set S.length (.lst (ds ++ [pr u v]))) else none | _ => none) = _
    rw [get_last]
    dsimp only
    rw [if_pos hz, set_last, prs_app]
  have hl : isL (S ++ [.lst (prs found)]) (.va (.ref S.length)) = true := by
    show (match (S ++ [Ob.lst (prs found)])[S.length]? with | some (.lst ds) => some ds | _ => none).isSome = true
    rw [get_last]; rfl
  generalize (S ++ [Ob.lst (prs found)]) = S1 at *
  generalize pr u v = R at *
  unfold lb_p_joined_but_0
  by_cases h0 : x = 0
  · simp only [sNil, sSeq, sEx, sRet, sRetN, sBrk, sCt, sIf, sAsg, sAug, Tg.bind, setAll, Rs.on_ok, Rs.on_err, Rs.on_bad, SR.then_nx, SR.then_brk, SR.then_ct, SR.then_ret, SR.then_err, SR.then_bad, Rs.bind_ok, Rs.bind_err, Rs.bind_bad, eVar, eC, eTo, own, eArgs, eP, bB, bNot, bAnd, bOr, eNot, eAnd, eOr, eIf, eChain, lift, pII_int, pSS, isS, isSt, eM, eTup, eLst, eCall, unva, eSl, oNone, oSome, gSub, gDiv, gMod, gPow, gShl, gShr, gLt, gLe, gGt, gGe, gMax, gMin, gAnd, gXor, gOr, gStrip, gFind, List.getElem?_cons_zero, List.getElem?_cons_succ, List.set_cons_zero, List.set_cons_succ, List.map_cons, List.map_nil, List.replicate_succ, List.replicate_zero, List.cons_append, List.nil_append, Option.map_some, Option.map_none, if_true, if_false, Nat.reduceSub, reduceIte, Bool.false_eq_true, decide_true, decide_false, Bool.not_true, Bool.not_false, List.length_cons, List.length_nil, pEq, eqB, eqS, decide_eq_true h0, hl, happ, isL]
    simp only [isL] at hl
    simp only [hl, if_true, Rs.bind_ok, Rs.on_ok, happ]
  · have hb : (dGetD kvs (.int (x - 1))).isSome = true := by
      rcases hc with h | h
      · exact absurd h h0
      · exact h
    simp only [isL] at hl
    simp only [sNil, sSeq, sEx, sRet, sRetN, sBrk, sCt, sIf, sAsg, sAug, Tg.bind, setAll, Rs.on_ok, Rs.on_err, Rs.on_bad, SR.then_nx, SR.then_brk, SR.then_ct, SR.then_ret, SR.then_err, SR.then_bad, Rs.bind_ok, Rs.bind_err, Rs.bind_bad, eVar, eC, eTo, own, eArgs, eP, bB, bNot, bAnd, bOr, eNot, eAnd, eOr, eIf, eChain, lift, pII_int, pSS, isS, isSt, eM, eTup, eLst, eCall, unva, eSl, oNone, oSome, gSub, gDiv, gMod, gPow, gShl, gShr, gLt, gLe, gGt, gGe, gMax, gMin, gAnd, gXor, gOr, gStrip, gFind, List.getElem?_cons_zero, List.getElem?_cons_succ, List.set_cons_zero, List.set_cons_succ, List.map_cons, List.map_nil, List.replicate_succ, List.replicate_zero, List.cons_append, List.nil_append, Option.map_some, Option.map_none, if_true, if_false, Nat.reduceSub, reduceIte, Bool.false_eq_true, decide_true, decide_false, Bool.not_true, Bool.not_false, List.length_cons, List.length_nil, pEq, eqB, eqS, decide_eq_false h0, eDIn, isKey, hk', hb, hl, happ, isL]
theorem body_j2 (S : Sto) (n k : Nat) (x u v : Int) (kvs : List (D × D)) (m : List P2) (p : P2) (hk : S[k]? = some (.dct kvs)) (h0 : x ≠ 0) (hb : (dGetD kvs (.int (x - 1))).isSome = false) :
    lb_p_joined_but_0 [some (.ref n), some (.ref k), some (.ref S.length), some (.int x), some (pr u v)] (S ++ [.lst (prs (m ++ [p]))]) = .nx [some (.ref n), some (.ref k), some (.ref S.length), some (.int x), some (pr u v)] (S ++ [.lst (prs (m ++ [(p.1, v)]))]) := by
  have hk' : vD (S ++ [.lst (prs (m ++ [p]))]) (.va (.ref k)) = some kvs := by
    show (match (S ++ [Ob.lst (prs (m ++ [p]))])[k]? with | some (.dct kvs) => some kvs | _ => none) = _
    rw [get_old hk]
  obtain ⟨q1, q2⟩ := put_last (S ++ [.lst (prs (m ++ [p]))]) S.length m p p.1 v get_last
  rw [set_last] at q1
  have hv : vQ (S ++ [.lst (prs (m ++ [p]))]) (.va (.ref S.length)) = some (prs (m ++ [p])) := by
    show (match (S ++ [Ob.lst (prs (m ++ [p]))])[S.length]? with | some (.lst ds) => some ds | _ => none) = _
    rw [get_last]
  have hz2 : (0 : Nat) + 1 + 1 ≤ sizeLine := by decide +kernel
  have a0 : atI [D.int p.1, D.int p.2] 0 = some (.int p.1) := rfl
  have a1 : atI [D.int u, D.int v] 1 = some (.int v) := rfl
  simp only [pr] at q1 q2 ⊢
  generalize (S ++ [Ob.lst (prs (m ++ [p]))]) = S1 at *
  have hv1 : vQ S1 (.va (.tup [D.int p.1, D.int p.2])) = some [D.int p.1, D.int p.2] := rfl
  have hv2 : vQ S1 (.va (.tup [D.int u, D.int v])) = some [D.int u, D.int v] := rfl
  unfold lb_p_joined_but_0
  simp only [sNil, sSeq, sEx, sRet, sRetN, sBrk, sCt, sIf, sAsg, sAug, Tg.bind, setAll, Rs.on_ok, Rs.on_err, Rs.on_bad, SR.then_nx, SR.then_brk, SR.then_ct, SR.then_ret, SR.then_err, SR.then_bad, Rs.bind_ok, Rs.bind_err, Rs.bind_bad, eVar, eC, eTo, own, eArgs, eP, bB, bNot, bAnd, bOr, eNot, eAnd, eOr, eIf, eChain, lift, pII_int, pSS, isS, isSt, eM, eTup, eLst, eCall, unva, eSl, oNone, oSome, gSub, gDiv, gMod, gPow, gShl, gShr, gLt, gLe, gGt, gGe, gMax, gMin, gAnd, gXor, gOr, gStrip, gFind, List.getElem?_cons_zero, List.getElem?_cons_succ, List.set_cons_zero, List.set_cons_succ, List.map_cons, List.map_nil, List.replicate_succ, List.replicate_zero, List.cons_append, List.nil_append, Option.map_some, Option.map_none, if_true, if_false, Nat.reduceSub, reduceIte, Bool.false_eq_true, decide_true, decide_false, Bool.not_true, Bool.not_false, List.length_cons, List.length_nil, pEq, eqB, eqS, decide_eq_false h0, eDIn, isKey, hk', hb, sSub, pNeg, pIx, hv, hv1, hv2, q1, q2, a0, a1, hz2]
theorem live_get {S : Sto} {n l i : Nat} {ds : List D} (h : S[n]? = some (.lst ds)) : Src.get (.live n l) i S = some ds[i]? := by
  unfold Src.get
  show (match S[n]? with | some (.lst ds) => some ds[i]? | _ => none) = _
  rw [h]
theorem loop_j (S : Sto) (n k : Nat) (a : List P2) (kvs : List (D × D)) (opn : Nat → Bool) (hn : S[n]? = some (.lst (prs a))) (hk : S[k]? = some (.dct kvs)) (ho : ∀ i, i + 1 < a.length → (dGetD kvs (.int (i : Int))).isSome = opn i) (hl : a.length ≤ 100) :
    l_p_joined_but_0 [some (.ref n), some (.ref k), some (.ref S.length), none, none] (S ++ [.lst []]) = .nx [some (.ref n), some (.ref k), some (.ref S.length), none, none] (S ++ [.lst (prs (joinN a opn a.length))]) := by
  have hz : (1000 : Nat) ≤ sizeLine := line_ge
  have hsrc : seqSrc (S ++ [.lst []]) (.va (.ref n)) = some (.live n (prs a).length) := by
    show (match (S ++ [Ob.lst []])[n]? with | some (.lst ds) => some (Src.live n ds.length) | _ => none) = _
    rw [get_old hn]
  unfold l_p_joined_but_0 sFor
  simp only [ixE, sNil, sSeq, sEx, sRet, sRetN, sBrk, sCt, sIf, sAsg, sAug, Tg.bind, setAll, Rs.on_ok, Rs.on_err, Rs.on_bad, SR.then_nx, SR.then_brk, SR.then_ct, SR.then_ret, SR.then_err, SR.then_bad, Rs.bind_ok, Rs.bind_err, Rs.bind_bad, eVar, eC, eTo, own, eArgs, eP, bB, bNot, bAnd, bOr, eNot, eAnd, eOr, eIf, eChain, lift, pII_int, pAdd, pMul, pLt, pLen, pIx, pEq, pNe, pIsN, pNotN, isN, pIsi, tyN, pStr, pInt, pSS, isS, isSt, isL, eM, eTup, eLst, eCall, unva, eSl, oNone, oSome, cutR, gSub, gDiv, gMod, gPow, gShl, gShr, gLt, gLe, gGt, gGe, gMax, gMin, gAnd, gXor, gOr, gStrip, gFind, eqB, eqS, List.getElem?_cons_zero, List.getElem?_cons_succ, List.set_cons_zero, List.set_cons_succ, List.map_cons, List.map_nil, List.replicate_succ, List.replicate_zero, List.cons_append, List.nil_append, Option.map_some, Option.map_none, if_true, if_false, Nat.reduceSub, reduceIte, Bool.false_eq_true, decide_true, decide_false, Bool.not_true, Bool.not_false, List.length_cons, List.length_nil, kill, hsrc]
  refine for_rule (src := enSrc (.live n (prs a).length)) (fun i env S' => S' = S ++ [.lst (prs (joinN a opn i))] ∧ env = [some (.ref n), some (.ref k), some (.ref S.length), none, none]) (· = _) ⟨rfl, rfl⟩ ?_ ?_
  · intro i hlt env S' hI
    obtain ⟨rfl, rfl⟩ := hI
    have hi' : i < a.length := by
      have : i < (prs a).length := hlt
      rw [prs_len] at this; exact this
    obtain ⟨j1, j2⟩ := joinN_len a opn i
    have hai : (prs a)[i]? = some (pr (lo a i) (hi a i)) := by
      unfold prs lo hi
      rw [List.getElem?_map, List.getElem?_eq_getElem hi']
      simp [List.getD_eq_getElem?_getD, List.getElem?_eq_getElem hi']
    have hg : enGet (.live n (prs a).length) i (S ++ [.lst (prs (joinN a opn i))]) = some (some (.tup [.int (i : Nat), pr (lo a i) (hi a i)])) := by
      unfold enGet
      rw [live_get (get_old hn _), hai]
    by_cases hc : i = 0 ∨ opn (i - 1) = true
    · have hb := body_j1 S n k (i : Int) (lo a i) (hi a i) kvs (joinN a opn i) hk (by
        rcases hc with h | h
        · exact .inl (by omega)
        · by_cases h0 : i = 0
          · exact .inl (by omega)
          · refine .inr ?_
            have := ho (i - 1) (by omega)
            rw [show ((i - 1 : Nat) : Int) = (i : Int) - 1 from by omega] at this
            rw [this]; exact h) (by rw [prs_len]; omega)
      refine ⟨_, _, hg, rfl, tn_nx hb ⟨?_, rfl⟩⟩
      show _ = S ++ [.lst (prs (if i = 0 ∨ opn (i - 1) = true then joinN a opn i ++ [(lo a i, hi a i)] else _))]
      rw [if_pos hc]
    · have h0 : i ≠ 0 := fun e => hc (.inl e)
      have hb0 : opn (i - 1) = false := by
        cases e : opn (i - 1) with
        | false => rfl
        | true => exact absurd (.inr e) hc
      obtain ⟨m, p, e1, e2, e3⟩ := last_split (joinN a opn i) (j2 (by omega))
      have hb := body_j2 S n k (i : Int) (lo a i) (hi a i) kvs m p hk (by omega) (by
        have := ho (i - 1) (by omega)
        rw [show ((i - 1 : Nat) : Int) = (i : Int) - 1 from by omega] at this
        rw [this]; exact hb0)
      rw [← e1] at hb
      refine ⟨_, _, hg, rfl, tn_nx hb ⟨?_, rfl⟩⟩
      show _ = S ++ [.lst (prs (if i = 0 ∨ opn (i - 1) = true then _ else (joinN a opn i).dropLast ++ [(((joinN a opn i).getLastD (0, 0)).1, hi a i)]))]
      rw [if_neg hc, e2, e3]
  · intro env S' hI
    obtain ⟨rfl, rfl⟩ := hI
    refine ⟨?_, ?_⟩
    · show enGet _ _ _ = _
      unfold enGet
      rw [live_get (get_old hn _), List.getElem?_eq_none (show (prs a).length ≤ (enSrc (.live n (prs a).length)).len from Nat.le_refl _)]
    · show SR.nx _ (S ++ [.lst (prs (joinN a opn (prs a).length))]) = _
      rw [prs_len]
theorem f_joined (S : Sto) (n k : Nat) (a : List P2) (kvs : List (D × D)) (opn : Nat → Bool) (hn : S[n]? = some (.lst (prs a))) (hk : S[k]? = some (.dct kvs)) (ho : ∀ i, i + 1 < a.length → (dGetD kvs (.int (i : Int))).isSome = opn i) (hl : a.length ≤ 100) :
    m_p_joined_but [.ref n, .ref k] S = .ok (.fr (.lst (prs (joinN a opn a.length)))) S := by
  have key := loop_j S n k a kvs opn hn hk ho hl
  refine fn_ref (k := 0) (T := [.lst (prs (joinN a opn a.length))]) ?_ rfl (und_prs _ _)
  have hz0 : (0 : Nat) ≤ sizeLine := Nat.zero_le _
  simp only [b_p_joined_but, sNil, sSeq, sEx, sRet, sRetN, sBrk, sCt, sIf, sAsg, sAug, Tg.bind, setAll, Rs.on_ok, Rs.on_err, Rs.on_bad, SR.then_nx, SR.then_brk, SR.then_ct, SR.then_ret, SR.then_err, SR.then_bad, Rs.bind_ok, Rs.bind_err, Rs.bind_bad, eVar, eC, eTo, own, eArgs, eP, bB, bNot, bAnd, bOr, eNot, eAnd, eOr, eIf, eChain, lift, pII_int, pAdd, pMul, pLt, pLen, pIx, pEq, pNe, pIsN, pNotN, isN, pIsi, tyN, pStr, pInt, pSS, isS, isSt, isL, eM, eTup, eLst, eCall, unva, eSl, oNone, oSome, cutR, gSub, gDiv, gMod, gPow, gShl, gShr, gLt, gLe, gGt, gGe, gMax, gMin, gAnd, gXor, gOr, gStrip, gFind, eqB, eqS, List.getElem?_cons_zero, List.getElem?_cons_succ, List.set_cons_zero, List.set_cons_succ, List.map_cons, List.map_nil, List.replicate_succ, List.replicate_zero, List.cons_append, List.nil_append, Option.map_some, Option.map_none, if_true, if_false, Nat.reduceSub, reduceIte, Bool.false_eq_true, decide_true, decide_false, Bool.not_true, Bool.not_false, List.length_cons, List.length_nil, hz0, key, Nat.add_zero]
/-! closed -/
def opnD (a : List P2) (most : Int) (i : Nat) : Bool := decide (most < gapAt a i)
def dN (a : List P2) (most : Int) : Nat → List (D × D)
  | 0 => []
  | i + 1 => if opnD a most i = true then dPutD (dN a most i) (.int (i : Int)) (.bl true) else dN a most i
theorem keyEq_int {d : D} {x : Int} (h : keyEq d (.int x) = true) : d = .int x := by
  cases d with
  | int i => exact congrArg _ (of_decide_eq_true h)
  | _ => cases h
theorem dget_map (x y : Int) (v : D) : ∀ kvs : List (D × D), dGetD (kvs.map fun kv => if keyEq kv.1 (.int x) = true then (kv.1, v) else kv) (.int y) = if x = y then (if (kvs.any fun kv => keyEq kv.1 (.int x)) = true then some v else none) else dGetD kvs (.int y)
  | [] => by
    split <;> rfl
  | kv :: r => by
    have ih := dget_map x y v r
    have hd : ∀ (q : D × D) (l : List (D × D)), dGetD (q :: l) (.int y) = if keyEq q.1 (.int y) = true then some q.2 else dGetD l (.int y) := fun q l => by
      unfold dGetD
      rw [List.find?_cons]
      cases keyEq q.1 (.int y) <;> rfl
    rw [List.map_cons, hd, ih, hd, List.any_cons]
    by_cases hk : keyEq kv.1 (.int x) = true
    · have hx := keyEq_int hk
      rw [if_pos hk]
      by_cases e : x = y
      · subst e
        rw [if_pos (show keyEq (kv.1, v).1 (.int x) = true from hk), if_pos rfl, hk]; rfl
      · have hn : keyEq kv.1 (.int y) = false := by
          rw [hx]
          exact decide_eq_false e
        rw [if_neg (show ¬ keyEq (kv.1, v).1 (.int y) = true by rw [show (kv.1, v).1 = kv.1 from rfl, hn]; exact Bool.false_ne_true), if_neg e, if_neg e, if_neg (by rw [hn]; exact Bool.false_ne_true)]
    · rw [if_neg hk]
      have hk' : keyEq kv.1 (.int x) = false := by cases h : keyEq kv.1 (.int x) with | false => rfl | true => exact absurd h hk
      by_cases e : x = y
      · subst e
        rw [if_neg hk, if_pos rfl, if_pos rfl, hk', Bool.false_or]
      · rw [if_neg e, if_neg e]
theorem dget_put (kvs : List (D × D)) (x y : Int) (v : D) : dGetD (dPutD kvs (.int x) v) (.int y) = if x = y then some v else dGetD kvs (.int y) := by
  unfold dPutD
  by_cases ha : (kvs.any fun kv => keyEq kv.1 (.int x)) = true
  · rw [if_pos ha, dget_map, ha]
    simp only [if_true]
  · rw [if_neg ha]
    unfold dGetD
    rw [List.find?_append]
    by_cases e : x = y
    · subst e
      have hn : kvs.find? (fun kv => keyEq kv.1 (.int x)) = none := by
        rw [List.find?_eq_none]
        intro q hq hk
        exact ha (List.any_eq_true.mpr ⟨q, hq, hk⟩)
      rw [hn, if_pos rfl]
      have hxx : keyEq (.int x) (.int x) = true := decide_eq_true rfl
      simp [List.find?_cons, hxx]
    · rw [if_neg e]
      have hxy : keyEq (.int x) (.int y) = false := decide_eq_false e
      cases kvs.find? (fun kv => keyEq kv.1 (.int y)) with
      | some q => rfl
      | none => simp [List.find?_cons, hxy]
theorem dN_get (a : List P2) (most : Int) (j : Nat) : ∀ i, (dGetD (dN a most i) (.int (j : Int))).isSome = (decide (j < i) && opnD a most j)
  | 0 => by
    rw [decide_eq_false (Nat.not_lt_zero j), Bool.false_and]; rfl
  | i + 1 => by
    have ih := dN_get a most j i
    unfold dN
    by_cases h : opnD a most i = true
    · rw [if_pos h, dget_put]
      by_cases e : (i : Int) = (j : Int)
      · have e' : i = j := by omega
        subst e'
        rw [if_pos e, h, decide_eq_true (Nat.lt_succ_self i)]; rfl
      · rw [if_neg e, ih]
        have : decide (j < i) = decide (j < i + 1) := by rw [decide_eq_decide]; omega
        rw [this]
    · rw [if_neg h, ih]
      by_cases e : j = i
      · subst e
        have h' : opnD a most j = false := by cases hh : opnD a most j with | false => rfl | true => exact absurd hh h
        rw [h', Bool.and_false, Bool.and_false]
      · have : decide (j < i) = decide (j < i + 1) := by rw [decide_eq_decide]; omega
        rw [this]
theorem body_c (S : Sto) (n : Nat) (most x g : Int) (kvs : List (D × D)) (hb : m_p_numbers_between [.ref n, .int x] (S ++ [.dct kvs]) = .ok (.va (.int g)) (S ++ [.dct kvs])) (hz : kvs.length < sizeLine) :
    lb_p_closed_0 [some (.ref n), some (.int most), some (.ref S.length), some (.int x)] (S ++ [.dct kvs]) = .nx [some (.ref n), some (.int most), some (.ref S.length), some (.int x)] (S ++ [.dct (if most < g then dPutD kvs (.int x) (.bl true) else kvs)]) := by
  unfold lb_p_closed_0
  by_cases h : most < g
  · rw [if_pos h]
    simp only [sNil, sSeq, sEx, sRet, sRetN, sBrk, sCt, sIf, sAsg, sAug, Tg.bind, setAll, Rs.on_ok, Rs.on_err, Rs.on_bad, SR.then_nx, SR.then_brk, SR.then_ct, SR.then_ret, SR.then_err, SR.then_bad, Rs.bind_ok, Rs.bind_err, Rs.bind_bad, eVar, eC, eTo, own, eArgs, eP, bB, bNot, bAnd, bOr, eNot, eAnd, eOr, eIf, eChain, lift, pII_int, pAdd, pMul, pLt, pLen, pIx, pEq, pNe, pIsN, pNotN, isN, pIsi, tyN, pStr, pInt, pSS, isS, isSt, isL, eM, eTup, eLst, eCall, unva, eSl, oNone, oSome, cutR, gSub, gDiv, gMod, gPow, gShl, gShr, gLt, gLe, gGt, gGe, gMax, gMin, gAnd, gXor, gOr, gStrip, gFind, eqB, eqS, List.getElem?_cons_zero, List.getElem?_cons_succ, List.set_cons_zero, List.set_cons_succ, List.map_cons, List.map_nil, List.replicate_succ, List.replicate_zero, List.cons_append, List.nil_append, Option.map_some, Option.map_none, if_true, if_false, Nat.reduceSub, reduceIte, Bool.false_eq_true, decide_true, decide_false, Bool.not_true, Bool.not_false, List.length_cons, List.length_nil, hb, decide_eq_true h, sDPut, get_last, isKey, hz, and_self, set_last]
  · rw [if_neg h]
    simp only [sNil, sSeq, sEx, sRet, sRetN, sBrk, sCt, sIf, sAsg, sAug, Tg.bind, setAll, Rs.on_ok, Rs.on_err, Rs.on_bad, SR.then_nx, SR.then_brk, SR.then_ct, SR.then_ret, SR.then_err, SR.then_bad, Rs.bind_ok, Rs.bind_err, Rs.bind_bad, eVar, eC, eTo, own, eArgs, eP, bB, bNot, bAnd, bOr, eNot, eAnd, eOr, eIf, eChain, lift, pII_int, pAdd, pMul, pLt, pLen, pIx, pEq, pNe, pIsN, pNotN, isN, pIsi, tyN, pStr, pInt, pSS, isS, isSt, isL, eM, eTup, eLst, eCall, unva, eSl, oNone, oSome, cutR, gSub, gDiv, gMod, gPow, gShl, gShr, gLt, gLe, gGt, gGe, gMax, gMin, gAnd, gXor, gOr, gStrip, gFind, eqB, eqS, List.getElem?_cons_zero, List.getElem?_cons_succ, List.set_cons_zero, List.set_cons_succ, List.map_cons, List.map_nil, List.replicate_succ, List.replicate_zero, List.cons_append, List.nil_append, Option.map_some, Option.map_none, if_true, if_false, Nat.reduceSub, reduceIte, Bool.false_eq_true, decide_true, decide_false, Bool.not_true, Bool.not_false, List.length_cons, List.length_nil, hb, decide_eq_false h]
def closedL (a : List P2) (most : Int) : List P2 := joinN a (opnD a most) a.length
theorem dN_len (a : List P2) (most : Int) : ∀ i, (dN a most i).length ≤ i
  | 0 => Nat.le_refl _
  | i + 1 => by
    have ih := dN_len a most i
    unfold dN
    split
    · unfold dPutD
      split
      · rw [List.length_map]; omega
      · rw [List.length_append, List.length_singleton]; omega
    · omega
theorem f_closed (S : Sto) (n : Nat) (a : List P2) (most : Int) (hn : S[n]? = some (.lst (prs a))) (hl : a.length ≤ 100) : m_p_closed [.ref n, .int most] S = .ok (.fr (.lst (prs (closedL a most)))) S := by
  have hz : (1000 : Nat) ≤ sizeLine := line_ge
  have key : l_p_closed_0 [some (.ref n), some (.int most), some (.ref S.length), none] (S ++ [.dct []]) = .nx [some (.ref n), some (.int most), some (.ref S.length), none] (S ++ [.dct (dN a most (a.length - 1))]) := by
    have hv : vQ (S ++ [.dct []]) (.va (.ref n)) = some (prs a) := by
      show (match (S ++ [Ob.dct []])[n]? with | some (.lst ds) => some ds | _ => none) = _
      rw [get_old hn]
    have hsm : small62 ((a.length : Int) - 1) = true := small62_of (by omega)
    unfold l_p_closed_0 sFor
    simp only [ixR1, sNil, sSeq, sEx, sRet, sRetN, sBrk, sCt, sIf, sAsg, sAug, Tg.bind, setAll, Rs.on_ok, Rs.on_err, Rs.on_bad, SR.then_nx, SR.then_brk, SR.then_ct, SR.then_ret, SR.then_err, SR.then_bad, Rs.bind_ok, Rs.bind_err, Rs.bind_bad, eVar, eC, eTo, own, eArgs, eP, bB, bNot, bAnd, bOr, eNot, eAnd, eOr, eIf, eChain, lift, pII_int, pAdd, pMul, pLt, pLen, pIx, pEq, pNe, pIsN, pNotN, isN, pIsi, tyN, pStr, pInt, pSS, isS, isSt, isL, eM, eTup, eLst, eCall, unva, eSl, oNone, oSome, cutR, gSub, gDiv, gMod, gPow, gShl, gShr, gLt, gLe, gGt, gGe, gMax, gMin, gAnd, gXor, gOr, gStrip, gFind, eqB, eqS, List.getElem?_cons_zero, List.getElem?_cons_succ, List.set_cons_zero, List.set_cons_succ, List.map_cons, List.map_nil, List.replicate_succ, List.replicate_zero, List.cons_append, List.nil_append, Option.map_some, Option.map_none, if_true, if_false, Nat.reduceSub, reduceIte, Bool.false_eq_true, decide_true, decide_false, Bool.not_true, Bool.not_false, List.length_cons, List.length_nil, kill, hv, prs_len, hsm]
    refine for_fix (ds := rangeD 0 ((a.length : Int) - 1)) (P := (· = _)) (fun i env S' => S' = S ++ [.dct (dN a most i)] ∧ env = [some (.ref n), some (.int most), some (.ref S.length), none]) ⟨rfl, rfl⟩ ?_ ?_
    · intro i d hd env S' hI
      obtain ⟨rfl, rfl⟩ := hI
      obtain ⟨rfl, hlt⟩ := range_get hd
      rw [Int.zero_add] at hlt ⊢
      have hb := f_between (S ++ [.dct (dN a most i)]) n a (get_old hn _) i (i : Int) rfl (by omega)
      have hdl := dN_len a most i
      refine ⟨_, rfl, tn_nx (body_c S n most (i : Int) (gapAt a i) (dN a most i) hb (by omega)) ⟨?_, rfl⟩⟩
      show S ++ [Ob.dct (if most < gapAt a i then _ else _)] = S ++ [Ob.dct (if opnD a most i = true then _ else _)]
      unfold opnD
      simp only [decide_eq_true_eq]
    · intro env S' hI
      obtain ⟨rfl, rfl⟩ := hI
      rw [range_len, show ((a.length : Int) - 1 - 0).toNat = a.length - 1 from by omega]
  have hj := f_joined (S ++ [.dct (dN a most (a.length - 1))]) n S.length a (dN a most (a.length - 1)) (opnD a most) (get_old hn _) get_last (fun i hi => by
    rw [dN_get, decide_eq_true (show i < a.length - 1 by omega), Bool.true_and]) hl
  refine fn_fr (T := [.dct (dN a most (a.length - 1))]) ?_ (und_prs _ _)
  simp only [b_p_closed, sNil, sSeq, sEx, sRet, sRetN, sBrk, sCt, sIf, sAsg, sAug, Tg.bind, setAll, Rs.on_ok, Rs.on_err, Rs.on_bad, SR.then_nx, SR.then_brk, SR.then_ct, SR.then_ret, SR.then_err, SR.then_bad, Rs.bind_ok, Rs.bind_err, Rs.bind_bad, eVar, eC, eTo, own, eArgs, eP, bB, bNot, bAnd, bOr, eNot, eAnd, eOr, eIf, eChain, lift, pII_int, pAdd, pMul, pLt, pLen, pIx, pEq, pNe, pIsN, pNotN, isN, pIsi, tyN, pStr, pInt, pSS, isS, isSt, isL, eM, eTup, eLst, eCall, unva, eSl, oNone, oSome, cutR, gSub, gDiv, gMod, gPow, gShl, gShr, gLt, gLe, gGt, gGe, gMax, gMin, gAnd, gXor, gOr, gStrip, gFind, eqB, eqS, List.getElem?_cons_zero, List.getElem?_cons_succ, List.set_cons_zero, List.set_cons_succ, List.map_cons, List.map_nil, List.replicate_succ, List.replicate_zero, List.cons_append, List.nil_append, Option.map_some, Option.map_none, if_true, if_false, Nat.reduceSub, reduceIte, Bool.false_eq_true, decide_true, decide_false, Bool.not_true, Bool.not_false, List.length_cons, List.length_nil, eDNew, key, hj]
  rfl

/-! due -/
theorem vq_old {S : Sto} {n : Nat} {ds : List D} (h : S[n]? = some (.lst ds)) (o : Ob) : vQ (S ++ [o]) (.va (.ref n)) = some ds := by
  show (match (S ++ [o])[n]? with | some (Ob.lst ds) => some ds | _ => none) = _
  rw [get_old h]
theorem vq_last (S : Sto) (ds : List D) : vQ (S ++ [.lst ds]) (.va (.ref S.length)) = some ds := by
  show (match (S ++ [Ob.lst ds])[S.length]? with | some (Ob.lst ds) => some ds | _ => none) = _
  rw [get_last]
theorem vl_last (S : Sto) (ds : List D) : vL (S ++ [.lst ds]) (.va (.ref S.length)) = some ds := by
  show (match (S ++ [Ob.lst ds])[S.length]? with | some (Ob.lst ds) => some ds | _ => none) = _
  rw [get_last]
theorem app_last (S : Sto) (found : List P2) (u v : Int) (hz : (prs found).length < sizeLine) : pApp (S ++ [.lst (prs found)]) [.va (.ref S.length), .va (pr u v)] = some (.va .non, S ++ [.lst (prs (found ++ [(u, v)]))]) := by
  show (match (S ++ [Ob.lst (prs found)])[S.length]? with | some (.lst ds) => if ds.length < sizeLine then some (Rv.va D.non, (S ++ [Ob.lst (prs found)]).set S.length (.lst (ds ++ [pr u v]))) else none | _ => none) = _
  rw [get_last]
  dsimp only
  rw [if_pos hz, set_last, prs_app]
theorem body_d0 (S : Sto) (n : Nat) (most : Int) (a found : List P2) (u v : Int) (hn : S[n]? = some (.lst (prs a))) (ha : atI (prs a) 0 = some (pr u v)) (hz : (prs found).length < sizeLine) :
    lb_L_due_0 [some (.ref n), some (.int most), some (.ref S.length), some (.int 0)] (S ++ [.lst (prs found)]) = .nx [some (.ref n), some (.int most), some (.ref S.length), some (.int 0)] (S ++ [.lst (prs (found ++ [(u, v)]))]) := by
  have e1 := vq_old hn (.lst (prs found))
  have e2 := vl_last S (prs found)
  have e3 := app_last S found u v hz
  generalize (S ++ [Ob.lst (prs found)]) = S1 at *
  generalize pr u v = R at *
  have h0 : decide ((0 : Int) < 0) = false := rfl
  unfold lb_L_due_0
  simp only [sNil, sSeq, sEx, sRet, sRetN, sBrk, sCt, sIf, sAsg, sAug, Tg.bind, setAll, Rs.on_ok, Rs.on_err, Rs.on_bad, SR.then_nx, SR.then_brk, SR.then_ct, SR.then_ret, SR.then_err, SR.then_bad, Rs.bind_ok, Rs.bind_err, Rs.bind_bad, eVar, eC, eTo, own, eArgs, eP, bB, bNot, bAnd, bOr, eNot, eAnd, eOr, eIf, eChain, lift, pII_int, pSS, isS, isSt, eM, eTup, eLst, eCall, unva, eSl, oNone, oSome, gSub, gDiv, gMod, gPow, gShl, gShr, gLt, gLe, gGt, gGe, gMax, gMin, gAnd, gXor, gOr, gStrip, gFind, List.getElem?_cons_zero, List.getElem?_cons_succ, List.set_cons_zero, List.set_cons_succ, List.map_cons, List.map_nil, List.replicate_succ, List.replicate_zero, List.cons_append, List.nil_append, Option.map_some, Option.map_none, if_true, if_false, Nat.reduceSub, reduceIte, Bool.false_eq_true, decide_true, decide_false, Bool.not_true, Bool.not_false, List.length_cons, List.length_nil, h0, isL, e2, Option.isSome_some, pIx, e1, ha, e3]
theorem body_d1 (S : Sto) (n : Nat) (most x : Int) (a found : List P2) (u v p q : Int) (hn : S[n]? = some (.lst (prs a))) (h0 : 0 < x) (ha : atI (prs a) x = some (pr u v)) (hb : atI (prs a) (x - 1) = some (pr p q)) (hc : ¬ u - q ≤ most + 1) (hz : (prs found).length < sizeLine) :
    lb_L_due_0 [some (.ref n), some (.int most), some (.ref S.length), some (.int x)] (S ++ [.lst (prs found)]) = .nx [some (.ref n), some (.int most), some (.ref S.length), some (.int x)] (S ++ [.lst (prs (found ++ [(u, v)]))]) := by
  have e1 := vq_old hn (.lst (prs found))
  have e2 := vl_last S (prs found)
  have e3 := app_last S found u v hz
  have a0 : atI [D.int u, D.int v] 0 = some (.int u) := rfl
  have a1 : atI [D.int p, D.int q] 1 = some (.int q) := rfl
  simp only [pr] at ha hb e3 ⊢
  generalize (S ++ [Ob.lst (prs found)]) = S1 at *
  have hv1 : vQ S1 (.va (.tup [D.int u, D.int v])) = some [D.int u, D.int v] := rfl
  have hv2 : vQ S1 (.va (.tup [D.int p, D.int q])) = some [D.int p, D.int q] := rfl
  unfold lb_L_due_0
  simp only [sNil, sSeq, sEx, sRet, sRetN, sBrk, sCt, sIf, sAsg, sAug, Tg.bind, setAll, Rs.on_ok, Rs.on_err, Rs.on_bad, SR.then_nx, SR.then_brk, SR.then_ct, SR.then_ret, SR.then_err, SR.then_bad, Rs.bind_ok, Rs.bind_err, Rs.bind_bad, eVar, eC, eTo, own, eArgs, eP, bB, bNot, bAnd, bOr, eNot, eAnd, eOr, eIf, eChain, lift, pII_int, pSS, isS, isSt, eM, eTup, eLst, eCall, unva, eSl, oNone, oSome, gSub, gDiv, gMod, gPow, gShl, gShr, gLt, gLe, gGt, gGe, gMax, gMin, gAnd, gXor, gOr, gStrip, gFind, List.getElem?_cons_zero, List.getElem?_cons_succ, List.set_cons_zero, List.set_cons_succ, List.map_cons, List.map_nil, List.replicate_succ, List.replicate_zero, List.cons_append, List.nil_append, Option.map_some, Option.map_none, if_true, if_false, Nat.reduceSub, reduceIte, Bool.false_eq_true, decide_true, decide_false, Bool.not_true, Bool.not_false, List.length_cons, List.length_nil, decide_eq_true h0, isL, e2, Option.isSome_some, pIx, e1, ha, hb, hv1, hv2, a0, a1, pAdd, decide_eq_false hc, e3]
theorem body_d2 (S : Sto) (n : Nat) (most x : Int) (a m : List P2) (k : P2) (u v p q : Int) (hn : S[n]? = some (.lst (prs a))) (h0 : 0 < x) (ha : atI (prs a) x = some (pr u v)) (hb : atI (prs a) (x - 1) = some (pr p q)) (hc : u - q ≤ most + 1) :
    lb_L_due_0 [some (.ref n), some (.int most), some (.ref S.length), some (.int x)] (S ++ [.lst (prs (m ++ [k]))]) = .nx [some (.ref n), some (.int most), some (.ref S.length), some (.int x)] (S ++ [.lst (prs (m ++ [(k.1, v)]))]) := by
  have e1 := vq_old hn (.lst (prs (m ++ [k])))
  have e2 := vq_last S (prs (m ++ [k]))
  obtain ⟨q1, q2⟩ := put_last (S ++ [.lst (prs (m ++ [k]))]) S.length m k k.1 v get_last
  rw [set_last] at q1
  have a0 : atI [D.int u, D.int v] 0 = some (.int u) := rfl
  have a2 : atI [D.int u, D.int v] 1 = some (.int v) := rfl
  have a1 : atI [D.int p, D.int q] 1 = some (.int q) := rfl
  have a3 : atI [D.int k.1, D.int k.2] 0 = some (.int k.1) := rfl
  have hz2 : (0 : Nat) + 1 + 1 ≤ sizeLine := by decide +kernel
  simp only [pr] at ha hb q1 q2 ⊢
  generalize (S ++ [Ob.lst (prs (m ++ [k]))]) = S1 at *
  have hv1 : vQ S1 (.va (.tup [D.int u, D.int v])) = some [D.int u, D.int v] := rfl
  have hv2 : vQ S1 (.va (.tup [D.int p, D.int q])) = some [D.int p, D.int q] := rfl
  have hv3 : vQ S1 (.va (.tup [D.int k.1, D.int k.2])) = some [D.int k.1, D.int k.2] := rfl
  unfold lb_L_due_0
  simp only [sNil, sSeq, sEx, sRet, sRetN, sBrk, sCt, sIf, sAsg, sAug, Tg.bind, setAll, Rs.on_ok, Rs.on_err, Rs.on_bad, SR.then_nx, SR.then_brk, SR.then_ct, SR.then_ret, SR.then_err, SR.then_bad, Rs.bind_ok, Rs.bind_err, Rs.bind_bad, eVar, eC, eTo, own, eArgs, eP, bB, bNot, bAnd, bOr, eNot, eAnd, eOr, eIf, eChain, lift, pII_int, pSS, isS, isSt, eM, eTup, eLst, eCall, unva, eSl, oNone, oSome, gSub, gDiv, gMod, gPow, gShl, gShr, gLt, gLe, gGt, gGe, gMax, gMin, gAnd, gXor, gOr, gStrip, gFind, List.getElem?_cons_zero, List.getElem?_cons_succ, List.set_cons_zero, List.set_cons_succ, List.map_cons, List.map_nil, List.replicate_succ, List.replicate_zero, List.cons_append, List.nil_append, Option.map_some, Option.map_none, if_true, if_false, Nat.reduceSub, reduceIte, Bool.false_eq_true, decide_true, decide_false, Bool.not_true, Bool.not_false, List.length_cons, List.length_nil, decide_eq_true h0, pIx, e1, e2, ha, hb, hv1, hv2, hv3, a0, a1, a2, a3, pAdd, decide_eq_true hc, sSub, pNeg, q1, q2, hz2]
theorem f_due (S : Sto) (n : Nat) (a : List P2) (most : Int) (hn : S[n]? = some (.lst (prs a))) (hl : a.length ≤ 100) : m_L_due [.ref n, .int most] S = .ok (.fr (.lst (prs (closedL a most)))) S := by
  have hz : (1000 : Nat) ≤ sizeLine := line_ge
  have key : l_L_due_0 [some (.ref n), some (.int most), some (.ref S.length), none] (S ++ [.lst []]) = .nx [some (.ref n), some (.int most), some (.ref S.length), none] (S ++ [.lst (prs (closedL a most))]) := by
    have hv : vQ (S ++ [.lst []]) (.va (.ref n)) = some (prs a) := vq_old hn _
    have hsm : small62 (a.length : Int) = true := small62_of (by omega)
    unfold l_L_due_0 sFor
    simp only [ixR1, sNil, sSeq, sEx, sRet, sRetN, sBrk, sCt, sIf, sAsg, sAug, Tg.bind, setAll, Rs.on_ok, Rs.on_err, Rs.on_bad, SR.then_nx, SR.then_brk, SR.then_ct, SR.then_ret, SR.then_err, SR.then_bad, Rs.bind_ok, Rs.bind_err, Rs.bind_bad, eVar, eC, eTo, own, eArgs, eP, bB, bNot, bAnd, bOr, eNot, eAnd, eOr, eIf, eChain, lift, pII_int, pAdd, pMul, pLt, pLen, pIx, pEq, pNe, pIsN, pNotN, isN, pIsi, tyN, pStr, pInt, pSS, isS, isSt, isL, eM, eTup, eLst, eCall, unva, eSl, oNone, oSome, cutR, gSub, gDiv, gMod, gPow, gShl, gShr, gLt, gLe, gGt, gGe, gMax, gMin, gAnd, gXor, gOr, gStrip, gFind, eqB, eqS, List.getElem?_cons_zero, List.getElem?_cons_succ, List.set_cons_zero, List.set_cons_succ, List.map_cons, List.map_nil, List.replicate_succ, List.replicate_zero, List.cons_append, List.nil_append, Option.map_some, Option.map_none, if_true, if_false, Nat.reduceSub, reduceIte, Bool.false_eq_true, decide_true, decide_false, Bool.not_true, Bool.not_false, List.length_cons, List.length_nil, kill, hv, prs_len, hsm]
    refine for_fix (ds := rangeD 0 (a.length : Int)) (P := (· = _)) (fun i env S' => S' = S ++ [.lst (prs (joinN a (opnD a most) i))] ∧ env = [some (.ref n), some (.int most), some (.ref S.length), none]) ⟨rfl, rfl⟩ ?_ ?_
    · intro i d hd env S' hI
      obtain ⟨rfl, rfl⟩ := hI
      obtain ⟨rfl, hlt⟩ := range_get hd
      rw [Int.zero_add] at hlt ⊢
      obtain ⟨j1, j2⟩ := joinN_len a (opnD a most) i
      have ha := atN a i (i : Int) rfl (by omega)
      by_cases h0 : i = 0
      · subst h0
        refine ⟨_, rfl, tn_nx (body_d0 S n most a _ (lo a 0) (hi a 0) hn ha (by rw [prs_len]; omega)) ⟨?_, rfl⟩⟩
        show _ = S ++ [.lst (prs (if 0 = 0 ∨ _ then _ else _))]
        rw [if_pos (.inl rfl)]
      · have hb := atN a (i - 1) ((i : Int) - 1) (by omega) (by omega)
        by_cases hc : lo a i - hi a (i - 1) ≤ most + 1
        · obtain ⟨m, p, e1, e2, e3⟩ := last_split (joinN a (opnD a most) i) (j2 (by omega))
          have hbd := body_d2 S n most (i : Int) a m p _ _ _ _ hn (by omega) ha hb hc
          rw [← e1] at hbd
          refine ⟨_, rfl, tn_nx hbd ⟨?_, rfl⟩⟩
          have hcc : ¬ (i = 0 ∨ opnD a most (i - 1) = true) := by
            intro h
            rcases h with h | h
            · exact h0 h
            · unfold opnD gapAt at h
              rw [decide_eq_true_eq, show i - 1 + 1 = i from by omega] at h
              omega
          show _ = S ++ [.lst (prs (if i = 0 ∨ opnD a most (i - 1) = true then _ else (joinN a (opnD a most) i).dropLast ++ [(((joinN a (opnD a most) i).getLastD (0, 0)).1, hi a i)]))]
          rw [if_neg hcc, e2, e3]
        · refine ⟨_, rfl, tn_nx (body_d1 S n most (i : Int) a _ _ _ _ _ hn (by omega) ha hb hc (by rw [prs_len]; omega)) ⟨?_, rfl⟩⟩
          have hcc : i = 0 ∨ opnD a most (i - 1) = true := by
            refine .inr ?_
            unfold opnD gapAt
            rw [decide_eq_true_eq, show i - 1 + 1 = i from by omega]
            omega
          show _ = S ++ [.lst (prs (if i = 0 ∨ opnD a most (i - 1) = true then joinN a (opnD a most) i ++ [(lo a i, hi a i)] else _))]
          rw [if_pos hcc]
    · intro env S' hI
      obtain ⟨rfl, rfl⟩ := hI
      rw [range_len, show ((a.length : Int) - 0).toNat = a.length from by omega]; rfl
  have hz0 : (0 : Nat) ≤ sizeLine := Nat.zero_le _
  refine fn_ref (k := 0) (T := [.lst (prs (closedL a most))]) ?_ rfl (und_prs _ _)
  simp only [b_L_due, sNil, sSeq, sEx, sRet, sRetN, sBrk, sCt, sIf, sAsg, sAug, Tg.bind, setAll, Rs.on_ok, Rs.on_err, Rs.on_bad, SR.then_nx, SR.then_brk, SR.then_ct, SR.then_ret, SR.then_err, SR.then_bad, Rs.bind_ok, Rs.bind_err, Rs.bind_bad, eVar, eC, eTo, own, eArgs, eP, bB, bNot, bAnd, bOr, eNot, eAnd, eOr, eIf, eChain, lift, pII_int, pAdd, pMul, pLt, pLen, pIx, pEq, pNe, pIsN, pNotN, isN, pIsi, tyN, pStr, pInt, pSS, isS, isSt, isL, eM, eTup, eLst, eCall, unva, eSl, oNone, oSome, cutR, gSub, gDiv, gMod, gPow, gShl, gShr, gLt, gLe, gGt, gGe, gMax, gMin, gAnd, gXor, gOr, gStrip, gFind, eqB, eqS, List.getElem?_cons_zero, List.getElem?_cons_succ, List.set_cons_zero, List.set_cons_succ, List.map_cons, List.map_nil, List.replicate_succ, List.replicate_zero, List.cons_append, List.nil_append, Option.map_some, Option.map_none, if_true, if_false, Nat.reduceSub, reduceIte, Bool.false_eq_true, decide_true, decide_false, Bool.not_true, Bool.not_false, List.length_cons, List.length_nil, hz0, key, Nat.add_zero]
/-! pairs -/
theorem body_p (S : Sto) (N : D) (x f : Int) : lb_L_pairs_0 [some N, some (.tup [.int x, .int f])] S = .nx [some N, some (.tup [.int x, .int f])] S := by
  have k1 : isiB "tuple" "tuple" = some true := by decide +kernel
  have a0 : atI [D.int x, D.int f] 0 = some (.int x) := rfl
  have a1 : atI [D.int x, D.int f] 1 = some (.int f) := rfl
  have hw0 := f_whole_int S x
  have hw1 := f_whole_int S f
  have n22 : pNe S [.va (.int ((([D.int x, D.int f] : List D).length : Nat) : Int)), .va (.int 2)] = some (.va (.bl false)) := rfl
  have e4 : pLen S [.va (.tup [.int x, .int f])] = some (.va (.int ((([D.int x, D.int f] : List D).length : Nat) : Int))) := rfl
  have hv1 : vQ S (.va (.tup [D.int x, D.int f])) = some [D.int x, D.int f] := rfl
  unfold lb_L_pairs_0
  generalize ((([D.int x, D.int f] : List D).length : Nat) : Int) = N2 at *
  simp only [sNil, sSeq, sEx, sRet, sRetN, sBrk, sCt, sIf, sAsg, sAug, Tg.bind, setAll, Rs.on_ok, Rs.on_err, Rs.on_bad, SR.then_nx, SR.then_brk, SR.then_ct, SR.then_ret, SR.then_err, SR.then_bad, Rs.bind_ok, Rs.bind_err, Rs.bind_bad, eVar, eC, eTo, own, eArgs, eP, bB, bNot, bAnd, bOr, eNot, eAnd, eOr, eIf, eChain, lift, pII_int, pSS, isS, isSt, eM, eTup, eLst, eCall, unva, eSl, oNone, oSome, gSub, gDiv, gMod, gPow, gShl, gShr, gLt, gLe, gGt, gGe, gMax, gMin, gAnd, gXor, gOr, gStrip, gFind, List.getElem?_cons_zero, List.getElem?_cons_succ, List.set_cons_zero, List.set_cons_succ, List.map_cons, List.map_nil, List.replicate_succ, List.replicate_zero, List.cons_append, List.nil_append, Option.map_some, Option.map_none, if_true, if_false, Nat.reduceSub, reduceIte, Bool.false_eq_true, decide_true, decide_false, Bool.not_true, Bool.not_false, List.length_cons, List.length_nil, pIsi, tyN, k1, e4, n22, pIx, hv1, a0, a1, hw0, hw1]
theorem f_pairs (S : Sto) (n : Nat) (a : List P2) (hn : S[n]? = some (.lst (prs a))) : m_L_pairs [.ref n] S = .ok (.va (.bl true)) S := by
  have key : l_L_pairs_0 [some (.ref n), none] S = .nx [some (.ref n), none] S := by
    unfold l_L_pairs_0 sFor
    simp only [ixL, sNil, sSeq, sEx, sRet, sRetN, sBrk, sCt, sIf, sAsg, sAug, Tg.bind, setAll, Rs.on_ok, Rs.on_err, Rs.on_bad, SR.then_nx, SR.then_brk, SR.then_ct, SR.then_ret, SR.then_err, SR.then_bad, Rs.bind_ok, Rs.bind_err, Rs.bind_bad, eVar, eC, eTo, own, eArgs, eP, bB, bNot, bAnd, bOr, eNot, eAnd, eOr, eIf, eChain, lift, pII_int, pAdd, pMul, pLt, pLen, pIx, pEq, pNe, pIsN, pNotN, isN, pIsi, tyN, pStr, pInt, pSS, isS, isSt, isL, eM, eTup, eLst, eCall, unva, eSl, oNone, oSome, cutR, gSub, gDiv, gMod, gPow, gShl, gShr, gLt, gLe, gGt, gGe, gMax, gMin, gAnd, gXor, gOr, gStrip, gFind, eqB, eqS, List.getElem?_cons_zero, List.getElem?_cons_succ, List.set_cons_zero, List.set_cons_succ, List.map_cons, List.map_nil, List.replicate_succ, List.replicate_zero, List.cons_append, List.nil_append, Option.map_some, Option.map_none, if_true, if_false, Nat.reduceSub, reduceIte, Bool.false_eq_true, decide_true, decide_false, Bool.not_true, Bool.not_false, List.length_cons, List.length_nil, kill, hn]
    refine for_live (ds := prs a) (P := (· = _)) (fun i env S' => S' = S ∧ env = [some (.ref n), none]) (fun i env S' h => by rw [h.1]; exact hn) ⟨rfl, rfl⟩ ?_ ?_
    · intro i d hd env S' hI
      obtain ⟨rfl, rfl⟩ := hI
      unfold prs at hd
      rw [List.getElem?_map] at hd
      cases ea : a[i]? with
      | none => rw [ea] at hd; cases hd
      | some p =>
        rw [ea] at hd
        cases hd
        exact ⟨_, rfl, tn_nx (body_p S' (.ref n) p.1 p.2) ⟨rfl, rfl⟩⟩
    · intro env S' hI
      obtain ⟨rfl, rfl⟩ := hI
      rfl
  have k1 : isiB "list" "list" = some true := by decide +kernel
  have e1 : tyN S (.va (.ref n)) = some "list" := by
    show (match (match S[n]? with | some (Ob.lst ds) => some ds | _ => none) with | some _ => some "list" | none => none) = _
    rw [hn]
  refine fn_va0 ?_ rfl
  simp only [b_L_pairs, sNil, sSeq, sEx, sRet, sRetN, sBrk, sCt, sIf, sAsg, sAug, Tg.bind, setAll, Rs.on_ok, Rs.on_err, Rs.on_bad, SR.then_nx, SR.then_brk, SR.then_ct, SR.then_ret, SR.then_err, SR.then_bad, Rs.bind_ok, Rs.bind_err, Rs.bind_bad, eVar, eC, eTo, own, eArgs, eP, bB, bNot, bAnd, bOr, eNot, eAnd, eOr, eIf, eChain, lift, pII_int, pSS, isS, isSt, eM, eTup, eLst, eCall, unva, eSl, oNone, oSome, gSub, gDiv, gMod, gPow, gShl, gShr, gLt, gLe, gGt, gGe, gMax, gMin, gAnd, gXor, gOr, gStrip, gFind, List.getElem?_cons_zero, List.getElem?_cons_succ, List.set_cons_zero, List.set_cons_succ, List.map_cons, List.map_nil, List.replicate_succ, List.replicate_zero, List.cons_append, List.nil_append, Option.map_some, Option.map_none, if_true, if_false, Nat.reduceSub, reduceIte, Bool.false_eq_true, decide_true, decide_false, Bool.not_true, Bool.not_false, List.length_cons, List.length_nil, pIsi, e1, k1, key]

/-! what is drawn -/
theorem f_mix (S : Sto) (c one prime : Int) (h1 : -(2 ^ 20) < one ∧ one < 2 ^ 20) (hp : 0 < prime ∧ prime < 2 ^ 40) : ∃ d : Int, 0 ≤ d ∧ m_L_mix [.int c, .int one, .int prime] S = .ok (.va (.int d)) S := by
  have a1 : mulB 31 one = true := mulB_l (by decide)
  have a2 : mulB (31 * one) one = true := mulB_r (by omega)
  have a3 : mulB (c % prime + 12345 + 31 * one * one + one) 48271 = true := mulB_r (by decide)
  have m0 := Int.emod_nonneg ((c % prime + 12345 + 31 * one * one + one) * 48271) (show prime ≠ 0 by omega)
  have m1 := Int.emod_lt_of_pos ((c % prime + 12345 + 31 * one * one + one) * 48271) hp.1
  have hp1 := hp.1
  have d3 : divOk 3 = true := by decide +kernel
  have a4 : mulB ((c % prime + 12345 + 31 * one * one + one) * 48271 % prime) ((c % prime + 12345 + 31 * one * one + one) * 48271 % prime) = true := mulB_l (by omega)
  have m2 := Int.emod_nonneg ((c % prime + 12345 + 31 * one * one + one) * 48271 % prime * ((c % prime + 12345 + 31 * one * one + one) * 48271 % prime)) (show (998244353 : Int) ≠ 0 by decide)
  have key : b_L_mix [some (.int c), some (.int one), some (.int prime), none] S = .ret (.va (.int ((c % prime + 12345 + 31 * one * one + one) * 48271 % prime * ((c % prime + 12345 + 31 * one * one + one) * 48271 % prime) % 998244353 / 3))) S := by
    simp only [b_L_mix, sNil, sSeq, sEx, sRet, sRetN, sBrk, sCt, sIf, sAsg, sAug, Tg.bind, setAll, Rs.on_ok, Rs.on_err, Rs.on_bad, SR.then_nx, SR.then_brk, SR.then_ct, SR.then_ret, SR.then_err, SR.then_bad, Rs.bind_ok, Rs.bind_err, Rs.bind_bad, eVar, eC, eTo, own, eArgs, eP, bB, bNot, bAnd, bOr, eNot, eAnd, eOr, eIf, eChain, lift, pII_int, pAdd, pMul, pLt, pLen, pIx, pEq, pNe, pIsN, pNotN, isN, pIsi, tyN, pStr, pInt, pSS, isS, isSt, isL, eM, eTup, eLst, eCall, unva, eSl, oNone, oSome, cutR, gSub, gDiv, gMod, gPow, gShl, gShr, gLt, gLe, gGt, gGe, gMax, gMin, gAnd, gXor, gOr, gStrip, gFind, eqB, eqS, List.getElem?_cons_zero, List.getElem?_cons_succ, List.set_cons_zero, List.set_cons_succ, List.map_cons, List.map_nil, List.replicate_succ, List.replicate_zero, List.cons_append, List.nil_append, Option.map_some, Option.map_none, if_true, if_false, Nat.reduceSub, reduceIte, Bool.false_eq_true, decide_true, decide_false, Bool.not_true, Bool.not_false, List.length_cons, List.length_nil, a1, a2, a3, a4, hp1, d3, show (0 : Int) < 998244353 from by decide]
  exact ⟨_, by omega, fn_va0 key rfl⟩
theorem at_pos (l : List D) (i : Int) (h0 : 0 ≤ i) (h1 : i < (l.length : Int)) (hs : ∀ d ∈ l, ∃ w : Int, 1 ≤ w ∧ d = .int w) : ∃ w : Int, 1 ≤ w ∧ atI l i = some (.int w) := by
  obtain ⟨j, rfl⟩ := Int.eq_ofNat_of_zero_le h0
  have hj : j < l.length := by omega
  obtain ⟨w, hw, e⟩ := hs _ (List.getElem_mem hj)
  exact ⟨w, hw, atI_nat (by rw [List.getElem?_eq_getElem hj, e])⟩
def pw30 : Int := 10 ^ Int.toNat 30
theorem ko30 : powOk 10 30 = true := by decide +kernel
theorem pk30 : (10 : Int) ^ Int.toNat 30 = pw30 := rfl
theorem p30 : (0 : Int) < pw30 := by decide +kernel
theorem f_row (S : Sto) (c k : Int) : ∃ w l : Int, 1 ≤ w ∧ m_L_row [.int c, .int k] S = .ok (.va (.tup [.int w, .int l])) S := by
  obtain ⟨d, hd, e1⟩ := f_mix S c 3 1000003 (by decide) (by decide)
  obtain ⟨d2, hd2, e2⟩ := f_mix S c 4 1000033 (by decide) (by decide)
  have q1 := Int.emod_nonneg c (show pw30 ≠ 0 by decide +kernel)
  have q2 := Int.emod_nonneg (c / 3) (show pw30 ≠ 0 by decide +kernel)
  have r1 := Int.emod_nonneg d (show (6 : Int) ≠ 0 by decide)
  have r2 := Int.emod_lt_of_pos d (show (0 : Int) < 6 by decide)
  have r3 := Int.emod_nonneg d2 (show (5 : Int) ≠ 0 by decide)
  have r4 := Int.emod_lt_of_pos d2 (show (0 : Int) < 5 by decide)
  obtain ⟨w, hw, a1⟩ := at_pos [.int 1, .int 1, .int 2, .int 3, .int 7, .int (1 + c % pw30)] (d % 6) r1 r2 (fun x hx => by
    simp only [List.mem_cons, List.not_mem_nil, or_false] at hx
    rcases hx with rfl | rfl | rfl | rfl | rfl | rfl <;> exact ⟨_, by omega, rfl⟩)
  obtain ⟨l, hl, a2⟩ := at_pos [.int 1, .int 1, .int 2, .int 5, .int (1 + c / 3 % pw30)] (d2 % 5) r3 r4 (fun x hx => by
    simp only [List.mem_cons, List.not_mem_nil, or_false] at hx
    rcases hx with rfl | rfl | rfl | rfl | rfl <;> exact ⟨_, by omega, rfl⟩)
  refine ⟨w, l, hw, fn_va0 ?_ rfl⟩
  have d3 : divOk 3 = true := by decide +kernel
  have l6 : (0 : Nat) + 1 + 1 + 1 + 1 + 1 + 1 ≤ sizeLine := by decide +kernel
  have l5 : (0 : Nat) + 1 + 1 + 1 + 1 + 1 ≤ sizeLine := by decide +kernel
  have l2 : (0 : Nat) + 1 + 1 ≤ sizeLine := by decide +kernel
  have hp := p30
  simp only [b_L_row, sNil, sSeq, sEx, sRet, sRetN, sBrk, sCt, sIf, sAsg, sAug, Tg.bind, setAll, Rs.on_ok, Rs.on_err, Rs.on_bad, SR.then_nx, SR.then_brk, SR.then_ct, SR.then_ret, SR.then_err, SR.then_bad, Rs.bind_ok, Rs.bind_err, Rs.bind_bad, eVar, eC, eTo, own, eArgs, eP, bB, bNot, bAnd, bOr, eNot, eAnd, eOr, eIf, eChain, lift, pII_int, pAdd, pMul, pLt, pLen, pIx, pEq, pNe, pIsN, pNotN, isN, pIsi, tyN, pStr, pInt, pSS, isS, isSt, isL, eM, eTup, eLst, eCall, unva, eSl, oNone, oSome, cutR, gSub, gDiv, gMod, gPow, gShl, gShr, gLt, gLe, gGt, gGe, gMax, gMin, gAnd, gXor, gOr, gStrip, gFind, eqB, eqS, List.getElem?_cons_zero, List.getElem?_cons_succ, List.set_cons_zero, List.set_cons_succ, List.map_cons, List.map_nil, List.replicate_succ, List.replicate_zero, List.cons_append, List.nil_append, Option.map_some, Option.map_none, if_true, if_false, Nat.reduceSub, reduceIte, Bool.false_eq_true, decide_true, decide_false, Bool.not_true, Bool.not_false, List.length_cons, List.length_nil, e1, e2, ko30, pk30, hp, d3, l6, l5, l2, vQ, vT, vL, a1, a2, show (0 : Int) < 6 from by decide, show (0 : Int) < 5 from by decide]
theorem f_gap (S : Sto) (c : Int) (n : Nat) (a : List P2) (hn : S[n]? = some (.lst (prs a))) : ∃ g : Int, m_L_gap [.int c, .ref n] S = .ok (.va (.int g)) S := by
  obtain ⟨d, hd, e1⟩ := f_mix S c 0 1000037 (by decide) (by decide)
  have d3 : divOk 3 = true := by decide +kernel
  have d1000 : divOk 1000 = true := by decide +kernel
  have hp := p30
  have hv : vQ S (.va (.ref n)) = some (prs a) := by
    show (match S[n]? with | some (Ob.lst ds) => some ds | _ => none) = _
    rw [hn]
  by_cases h0 : d % 3 = 0
  · exact ⟨_, fn_va0 (by simp only [b_L_gap, sNil, sSeq, sEx, sRet, sRetN, sBrk, sCt, sIf, sAsg, sAug, Tg.bind, setAll, Rs.on_ok, Rs.on_err, Rs.on_bad, SR.then_nx, SR.then_brk, SR.then_ct, SR.then_ret, SR.then_err, SR.then_bad, Rs.bind_ok, Rs.bind_err, Rs.bind_bad, eVar, eC, eTo, own, eArgs, eP, bB, bNot, bAnd, bOr, eNot, eAnd, eOr, eIf, eChain, lift, pII_int, pAdd, pMul, pLt, pLen, pIx, pEq, pNe, pIsN, pNotN, isN, pIsi, tyN, pStr, pInt, pSS, isS, isSt, isL, eM, eTup, eLst, eCall, unva, eSl, oNone, oSome, cutR, gSub, gDiv, gMod, gPow, gShl, gShr, gLt, gLe, gGt, gGe, gMax, gMin, gAnd, gXor, gOr, gStrip, gFind, eqB, eqS, List.getElem?_cons_zero, List.getElem?_cons_succ, List.set_cons_zero, List.set_cons_succ, List.map_cons, List.map_nil, List.replicate_succ, List.replicate_zero, List.cons_append, List.nil_append, Option.map_some, Option.map_none, if_true, if_false, Nat.reduceSub, reduceIte, Bool.false_eq_true, decide_true, decide_false, Bool.not_true, Bool.not_false, List.length_cons, List.length_nil, e1, decide_eq_true h0, d3, show (0 : Int) < 3 from by decide, show (0 : Int) < 9 from by decide]; rfl) rfl⟩
  · by_cases h1 : (a.length : Int) < 2
    · exact ⟨_, fn_va0 (by simp only [b_L_gap, sNil, sSeq, sEx, sRet, sRetN, sBrk, sCt, sIf, sAsg, sAug, Tg.bind, setAll, Rs.on_ok, Rs.on_err, Rs.on_bad, SR.then_nx, SR.then_brk, SR.then_ct, SR.then_ret, SR.then_err, SR.then_bad, Rs.bind_ok, Rs.bind_err, Rs.bind_bad, eVar, eC, eTo, own, eArgs, eP, bB, bNot, bAnd, bOr, eNot, eAnd, eOr, eIf, eChain, lift, pII_int, pAdd, pMul, pLt, pLen, pIx, pEq, pNe, pIsN, pNotN, isN, pIsi, tyN, pStr, pInt, pSS, isS, isSt, isL, eM, eTup, eLst, eCall, unva, eSl, oNone, oSome, cutR, gSub, gDiv, gMod, gPow, gShl, gShr, gLt, gLe, gGt, gGe, gMax, gMin, gAnd, gXor, gOr, gStrip, gFind, eqB, eqS, List.getElem?_cons_zero, List.getElem?_cons_succ, List.set_cons_zero, List.set_cons_succ, List.map_cons, List.map_nil, List.replicate_succ, List.replicate_zero, List.cons_append, List.nil_append, Option.map_some, Option.map_none, if_true, if_false, Nat.reduceSub, reduceIte, Bool.false_eq_true, decide_true, decide_false, Bool.not_true, Bool.not_false, List.length_cons, List.length_nil, e1, decide_eq_false h0, hv, prs_len, decide_eq_true h1, d3, show (0 : Int) < 3 from by decide, show (0 : Int) < 9 from by decide]; rfl) rfl⟩
    · by_cases h2 : d % 3 = 1
      · exact ⟨_, fn_va0 (by simp only [b_L_gap, sNil, sSeq, sEx, sRet, sRetN, sBrk, sCt, sIf, sAsg, sAug, Tg.bind, setAll, Rs.on_ok, Rs.on_err, Rs.on_bad, SR.then_nx, SR.then_brk, SR.then_ct, SR.then_ret, SR.then_err, SR.then_bad, Rs.bind_ok, Rs.bind_err, Rs.bind_bad, eVar, eC, eTo, own, eArgs, eP, bB, bNot, bAnd, bOr, eNot, eAnd, eOr, eIf, eChain, lift, pII_int, pAdd, pMul, pLt, pLen, pIx, pEq, pNe, pIsN, pNotN, isN, pIsi, tyN, pStr, pInt, pSS, isS, isSt, isL, eM, eTup, eLst, eCall, unva, eSl, oNone, oSome, cutR, gSub, gDiv, gMod, gPow, gShl, gShr, gLt, gLe, gGt, gGe, gMax, gMin, gAnd, gXor, gOr, gStrip, gFind, eqB, eqS, List.getElem?_cons_zero, List.getElem?_cons_succ, List.set_cons_zero, List.set_cons_succ, List.map_cons, List.map_nil, List.replicate_succ, List.replicate_zero, List.cons_append, List.nil_append, Option.map_some, Option.map_none, if_true, if_false, Nat.reduceSub, reduceIte, Bool.false_eq_true, decide_true, decide_false, Bool.not_true, Bool.not_false, List.length_cons, List.length_nil, e1, decide_eq_false h0, hv, prs_len, decide_eq_false h1, decide_eq_true h2, d3, ko30, pk30, hp, show (0 : Int) < 3 from by decide]; rfl) rfl⟩
      · have hl : (0 : Int) < (a.length : Int) - 1 := by omega
        have r0 := Int.emod_nonneg (d / 3) (show (a.length : Int) - 1 ≠ 0 by omega)
        have r1 := Int.emod_lt_of_pos (d / 3) hl
        generalize hat : d / 3 % ((a.length : Int) - 1) = x at *
        have q1 := at_prs a x r0 (by omega)
        have q2 := at_prs a (x + 1) (by omega) (by omega)
        generalize (a.getD x.toNat (0, 0)).1 = u1 at *
        generalize (a.getD x.toNat (0, 0)).2 = u2 at *
        generalize (a.getD (x + 1).toNat (0, 0)).1 = u3 at *
        generalize (a.getD (x + 1).toNat (0, 0)).2 = u4 at *
        have a0 : atI [D.int u3, D.int u4] 0 = some (.int u3) := rfl
        have a1 : atI [D.int u1, D.int u2] 1 = some (.int u2) := rfl
        simp only [pr] at q1 q2
        have hv1 : vQ S (.va (.tup [D.int u3, D.int u4])) = some [D.int u3, D.int u4] := rfl
        have hv2 : vQ S (.va (.tup [D.int u1, D.int u2])) = some [D.int u1, D.int u2] := rfl
        generalize hN : (a.length : Int) = N at *
        exact ⟨_, fn_va0 (by simp only [b_L_gap, sNil, sSeq, sEx, sRet, sRetN, sBrk, sCt, sIf, sAsg, sAug, Tg.bind, setAll, Rs.on_ok, Rs.on_err, Rs.on_bad, SR.then_nx, SR.then_brk, SR.then_ct, SR.then_ret, SR.then_err, SR.then_bad, Rs.bind_ok, Rs.bind_err, Rs.bind_bad, eVar, eC, eTo, own, eArgs, eP, bB, bNot, bAnd, bOr, eNot, eAnd, eOr, eIf, eChain, lift, pII_int, pAdd, pMul, pLt, pLen, pIx, pEq, pNe, pIsN, pNotN, isN, pIsi, tyN, pStr, pInt, pSS, isS, isSt, isL, eM, eTup, eLst, eCall, unva, eSl, oNone, oSome, cutR, gSub, gDiv, gMod, gPow, gShl, gShr, gLt, gLe, gGt, gGe, gMax, gMin, gAnd, gXor, gOr, gStrip, gFind, eqB, eqS, List.getElem?_cons_zero, List.getElem?_cons_succ, List.set_cons_zero, List.set_cons_succ, List.map_cons, List.map_nil, List.replicate_succ, List.replicate_zero, List.cons_append, List.nil_append, Option.map_some, Option.map_none, if_true, if_false, Nat.reduceSub, reduceIte, Bool.false_eq_true, decide_true, decide_false, Bool.not_true, Bool.not_false, List.length_cons, List.length_nil, e1, decide_eq_false h0, hv, prs_len, hN, decide_eq_false h1, decide_eq_false h2, d3, d1000, hl, hat, q1, q2, hv1, hv2, a0, a1, show (0 : Int) < 3 from by decide, show (0 : Int) < 2 from by decide]; rfl) rfl⟩
theorem f_cell (S : Sto) (ns : List Int) (k : Nat) : ∃ c : Int, m_L_cell [.scr ns, .int k] S = .ok (.va (.int c)) S := by
  by_cases hk : k < ns.length
  · have h1 : atI (ns.map D.int) (k : Int) = some (.int (ns.getD k 0)) := atI_nat (by rw [List.getElem?_map, List.getElem?_eq_getElem hk]; simp [List.getElem?_eq_getElem hk])
    exact ⟨_, fn_va0 (by simp only [b_L_cell, sNil, sSeq, sEx, sRet, sRetN, sBrk, sCt, sIf, sAsg, sAug, Tg.bind, setAll, Rs.on_ok, Rs.on_err, Rs.on_bad, SR.then_nx, SR.then_brk, SR.then_ct, SR.then_ret, SR.then_err, SR.then_bad, Rs.bind_ok, Rs.bind_err, Rs.bind_bad, eVar, eC, eTo, own, eArgs, eP, bB, bNot, bAnd, bOr, eNot, eAnd, eOr, eIf, eChain, lift, pII_int, pAdd, pMul, pLt, pLen, pIx, pEq, pNe, pIsN, pNotN, isN, pIsi, tyN, pStr, pInt, pSS, isS, isSt, isL, eM, eTup, eLst, eCall, unva, eSl, oNone, oSome, cutR, gSub, gDiv, gMod, gPow, gShl, gShr, gLt, gLe, gGt, gGe, gMax, gMin, gAnd, gXor, gOr, gStrip, gFind, eqB, eqS, List.getElem?_cons_zero, List.getElem?_cons_succ, List.set_cons_zero, List.set_cons_succ, List.map_cons, List.map_nil, List.replicate_succ, List.replicate_zero, List.cons_append, List.nil_append, Option.map_some, Option.map_none, if_true, if_false, Nat.reduceSub, reduceIte, Bool.false_eq_true, decide_true, decide_false, Bool.not_true, Bool.not_false, List.length_cons, List.length_nil, vQ, vT, vL, List.length_map, dlt, decide_eq_true hk, h1]; rfl) rfl⟩
  · exact ⟨_, fn_va0 (by simp only [b_L_cell, sNil, sSeq, sEx, sRet, sRetN, sBrk, sCt, sIf, sAsg, sAug, Tg.bind, setAll, Rs.on_ok, Rs.on_err, Rs.on_bad, SR.then_nx, SR.then_brk, SR.then_ct, SR.then_ret, SR.then_err, SR.then_bad, Rs.bind_ok, Rs.bind_err, Rs.bind_bad, eVar, eC, eTo, own, eArgs, eP, bB, bNot, bAnd, bOr, eNot, eAnd, eOr, eIf, eChain, lift, pII_int, pAdd, pMul, pLt, pLen, pIx, pEq, pNe, pIsN, pNotN, isN, pIsi, tyN, pStr, pInt, pSS, isS, isSt, isL, eM, eTup, eLst, eCall, unva, eSl, oNone, oSome, cutR, gSub, gDiv, gMod, gPow, gShl, gShr, gLt, gLe, gGt, gGe, gMax, gMin, gAnd, gXor, gOr, gStrip, gFind, eqB, eqS, List.getElem?_cons_zero, List.getElem?_cons_succ, List.set_cons_zero, List.set_cons_succ, List.map_cons, List.map_nil, List.replicate_succ, List.replicate_zero, List.cons_append, List.nil_append, Option.map_some, Option.map_none, if_true, if_false, Nat.reduceSub, reduceIte, Bool.false_eq_true, decide_true, decide_false, Bool.not_true, Bool.not_false, List.length_cons, List.length_nil, vQ, vT, vL, List.length_map, dlt, decide_eq_false hk]; rfl) rfl⟩

theorem body_l (S : Sto) (A B : D) (t k c w l t' : Int) (a : List P2) (hr : m_L_row [.int c, .int k] (S ++ [.lst (prs a)]) = .ok (.va (.tup [.int w, .int l])) (S ++ [.lst (prs a)])) (ht : t' = if 0 < k then t + w else t) (hz : (prs a).length < sizeLine) :
    lb_L_list_0 [some A, some B, some (.ref S.length), some (.int t), some (.int k), some (.int c), none, none] (S ++ [.lst (prs a)]) = .nx [some A, some B, some (.ref S.length), some (.int (t' + l)), some (.int k), some (.int c), some (.int w), some (.int l)] (S ++ [.lst (prs (a ++ [(t', t' + l - 1)]))]) := by
  have e2 := vl_last S (prs a)
  have e3 := app_last S a t' (t' + l - 1) hz
  have hz2 : (0 : Nat) + 1 + 1 ≤ sizeLine := by decide +kernel
  simp only [pr] at e3
  generalize (S ++ [Ob.lst (prs a)]) = S1 at *
  unfold lb_L_list_0
  by_cases h : 0 < k
  · rw [if_pos h] at ht
    subst ht
    simp only [sNil, sSeq, sEx, sRet, sRetN, sBrk, sCt, sIf, sAsg, sAug, Tg.bind, setAll, Rs.on_ok, Rs.on_err, Rs.on_bad, SR.then_nx, SR.then_brk, SR.then_ct, SR.then_ret, SR.then_err, SR.then_bad, Rs.bind_ok, Rs.bind_err, Rs.bind_bad, eVar, eC, eTo, own, eArgs, eP, bB, bNot, bAnd, bOr, eNot, eAnd, eOr, eIf, eChain, lift, pII_int, pSS, isS, isSt, eM, eTup, eLst, eCall, unva, eSl, oNone, oSome, gSub, gDiv, gMod, gPow, gShl, gShr, gLt, gLe, gGt, gGe, gMax, gMin, gAnd, gXor, gOr, gStrip, gFind, List.getElem?_cons_zero, List.getElem?_cons_succ, List.set_cons_zero, List.set_cons_succ, List.map_cons, List.map_nil, List.replicate_succ, List.replicate_zero, List.cons_append, List.nil_append, Option.map_some, Option.map_none, if_true, if_false, Nat.reduceSub, reduceIte, Bool.false_eq_true, decide_true, decide_false, Bool.not_true, Bool.not_false, List.length_cons, List.length_nil, hr, decide_eq_true h, pAdd, isL, e2, Option.isSome_some, hz2, e3]
  · rw [if_neg h] at ht
    subst ht
    simp only [sNil, sSeq, sEx, sRet, sRetN, sBrk, sCt, sIf, sAsg, sAug, Tg.bind, setAll, Rs.on_ok, Rs.on_err, Rs.on_bad, SR.then_nx, SR.then_brk, SR.then_ct, SR.then_ret, SR.then_err, SR.then_bad, Rs.bind_ok, Rs.bind_err, Rs.bind_bad, eVar, eC, eTo, own, eArgs, eP, bB, bNot, bAnd, bOr, eNot, eAnd, eOr, eIf, eChain, lift, pII_int, pSS, isS, isSt, eM, eTup, eLst, eCall, unva, eSl, oNone, oSome, gSub, gDiv, gMod, gPow, gShl, gShr, gLt, gLe, gGt, gGe, gMax, gMin, gAnd, gXor, gOr, gStrip, gFind, List.getElem?_cons_zero, List.getElem?_cons_succ, List.set_cons_zero, List.set_cons_succ, List.map_cons, List.map_nil, List.replicate_succ, List.replicate_zero, List.cons_append, List.nil_append, Option.map_some, Option.map_none, if_true, if_false, Nat.reduceSub, reduceIte, Bool.false_eq_true, decide_true, decide_false, Bool.not_true, Bool.not_false, List.length_cons, List.length_nil, hr, decide_eq_false h, pAdd, isL, e2, Option.isSome_some, hz2, e3]
def okRows (a : List P2) : Prop := ∀ j, j + 1 < a.length → 0 < gapAt a j
theorem lo_app (a : List P2) (p : P2) (j : Nat) : lo (a ++ [p]) j = if j < a.length then lo a j else if j = a.length then p.1 else 0 := by
  unfold lo
  rw [List.getD_eq_getElem?_getD, List.getD_eq_getElem?_getD]
  by_cases h : j < a.length
  · rw [if_pos h, List.getElem?_append_left h]
  · rw [if_neg h, List.getElem?_append_right (by omega)]
    by_cases e : j = a.length
    · rw [if_pos e, e, Nat.sub_self]; rfl
    · rw [if_neg e, List.getElem?_eq_none (by simp; omega)]; rfl
theorem hi_app (a : List P2) (p : P2) (j : Nat) : hi (a ++ [p]) j = if j < a.length then hi a j else if j = a.length then p.2 else 0 := by
  unfold hi
  rw [List.getD_eq_getElem?_getD, List.getD_eq_getElem?_getD]
  by_cases h : j < a.length
  · rw [if_pos h, List.getElem?_append_left h]
  · rw [if_neg h, List.getElem?_append_right (by omega)]
    by_cases e : j = a.length
    · rw [if_pos e, e, Nat.sub_self]; rfl
    · rw [if_neg e, List.getElem?_eq_none (by simp; omega)]; rfl
theorem f_list (S : Sto) (n : Nat) (cs : List Int) (start : Int) (hn : S[n]? = some (.lst (cs.map .int))) (hl : cs.length ≤ 63) : ∃ a : List P2, a.length ≤ 63 ∧ okRows a ∧ m_L_list [.ref n, .int start] S = .ok (.fr (.lst (prs a))) S := by
  have hz : (1000 : Nat) ≤ sizeLine := line_ge
  have key : ∃ (a : List P2) (t : Int), a.length = cs.length ∧ okRows a ∧ l_L_list_0 [some (.ref n), some (.int start), some (.ref S.length), some (.int start), none, none, none, none] (S ++ [.lst []]) = .nx [some (.ref n), some (.int start), some (.ref S.length), some (.int t), none, none, none, none] (S ++ [.lst (prs a)]) := by
    have hsrc : seqSrc (S ++ [.lst []]) (.va (.ref n)) = some (.live n (cs.map D.int).length) := by
      show (match (S ++ [Ob.lst []])[n]? with | some (.lst ds) => some (Src.live n ds.length) | _ => none) = _
      rw [get_old hn]
    unfold l_L_list_0 sFor
    simp only [ixE, sNil, sSeq, sEx, sRet, sRetN, sBrk, sCt, sIf, sAsg, sAug, Tg.bind, setAll, Rs.on_ok, Rs.on_err, Rs.on_bad, SR.then_nx, SR.then_brk, SR.then_ct, SR.then_ret, SR.then_err, SR.then_bad, Rs.bind_ok, Rs.bind_err, Rs.bind_bad, eVar, eC, eTo, own, eArgs, eP, bB, bNot, bAnd, bOr, eNot, eAnd, eOr, eIf, eChain, lift, pII_int, pAdd, pMul, pLt, pLen, pIx, pEq, pNe, pIsN, pNotN, isN, pIsi, tyN, pStr, pInt, pSS, isS, isSt, isL, eM, eTup, eLst, eCall, unva, eSl, oNone, oSome, cutR, gSub, gDiv, gMod, gPow, gShl, gShr, gLt, gLe, gGt, gGe, gMax, gMin, gAnd, gXor, gOr, gStrip, gFind, eqB, eqS, List.getElem?_cons_zero, List.getElem?_cons_succ, List.set_cons_zero, List.set_cons_succ, List.map_cons, List.map_nil, List.replicate_succ, List.replicate_zero, List.cons_append, List.nil_append, Option.map_some, Option.map_none, if_true, if_false, Nat.reduceSub, reduceIte, Bool.false_eq_true, decide_true, decide_false, Bool.not_true, Bool.not_false, List.length_cons, List.length_nil, kill, hsrc]
    refine for_rule (src := enSrc (.live n (cs.map D.int).length)) (fun i env S' => ∃ (a : List P2) (t : Int), a.length = i ∧ okRows a ∧ (0 < i → t = hi a (i - 1) + 1) ∧ S' = S ++ [.lst (prs a)] ∧ env = [some (.ref n), some (.int start), some (.ref S.length), some (.int t), none, none, none, none]) (fun m => ∃ (a : List P2) (t : Int), a.length = cs.length ∧ okRows a ∧ m = .nx [some (.ref n), some (.int start), some (.ref S.length), some (.int t), none, none, none, none] (S ++ [.lst (prs a)]))
      ⟨[], start, rfl, fun j hj => absurd hj (by simp), fun h => absurd h (Nat.lt_irrefl _), rfl, rfl⟩ ?_ ?_
    · intro i hlt env S' hI
      obtain ⟨a, t, la, ok, ht, rfl, rfl⟩ := hI
      have hi' : i < cs.length := by
        have : i < (cs.map D.int).length := hlt
        rw [List.length_map] at this; exact this
      obtain ⟨w, l, hw, hr⟩ := f_row (S ++ [.lst (prs a)]) (cs[i]'hi') (i : Int)
      have hb := body_l S (.ref n) (.int start) t (i : Int) (cs[i]'hi') w l _ a hr rfl (by rw [prs_len]; omega)
      refine ⟨.tup [.int (i : Nat), .int (cs[i]'hi')], _, ?_, rfl, tn_nx hb ⟨_, _, ?_, ?_, ?_, rfl, rfl⟩⟩
      · show enGet _ _ _ = _
        unfold enGet
        rw [live_get (get_old hn _), List.getElem?_map, List.getElem?_eq_getElem hi']; rfl
      · rw [List.length_append, la]; rfl
      · intro j hj
        rw [List.length_append, List.length_singleton] at hj
        unfold gapAt
        rw [lo_app, hi_app, if_pos (show j < a.length by omega)]
        by_cases h1 : j + 1 < a.length
        · rw [if_pos h1]
          exact ok j h1
        · rw [if_neg h1, if_pos (show j + 1 = a.length by omega)]
          have := ht (by omega)
          rw [if_pos (show (0 : Int) < (i : Int) by omega), this, show i - 1 = j from by omega]
          omega
      · intro _
        have x1 : ¬ (i + 1 - 1 < a.length) := by omega
        have x2 : i + 1 - 1 = a.length := by omega
        rw [hi_app, if_neg x1, if_pos x2]
        omega
    · intro env S' hI
      obtain ⟨a, t, la, ok, _, rfl, rfl⟩ := hI
      have hlen : (enSrc (.live n (cs.map D.int).length)).len = cs.length := by
        show (cs.map D.int).length = _
        rw [List.length_map]
      refine ⟨?_, a, t, by rw [la, hlen], ok, rfl⟩
      show enGet _ _ _ = _
      unfold enGet
      rw [live_get (get_old hn _), List.getElem?_eq_none (show (cs.map D.int).length ≤ (enSrc (.live n (cs.map D.int).length)).len from Nat.le_refl _)]
  obtain ⟨a, t, la, ok, hk⟩ := key
  refine ⟨a, by omega, ok, ?_⟩
  have hz0 : (0 : Nat) ≤ sizeLine := Nat.zero_le _
  refine fn_ref (k := 0) (T := [.lst (prs a)]) ?_ rfl (und_prs _ _)
  simp only [b_L_list, sNil, sSeq, sEx, sRet, sRetN, sBrk, sCt, sIf, sAsg, sAug, Tg.bind, setAll, Rs.on_ok, Rs.on_err, Rs.on_bad, SR.then_nx, SR.then_brk, SR.then_ct, SR.then_ret, SR.then_err, SR.then_bad, Rs.bind_ok, Rs.bind_err, Rs.bind_bad, eVar, eC, eTo, own, eArgs, eP, bB, bNot, bAnd, bOr, eNot, eAnd, eOr, eIf, eChain, lift, pII_int, pAdd, pMul, pLt, pLen, pIx, pEq, pNe, pIsN, pNotN, isN, pIsi, tyN, pStr, pInt, pSS, isS, isSt, isL, eM, eTup, eLst, eCall, unva, eSl, oNone, oSome, cutR, gSub, gDiv, gMod, gPow, gShl, gShr, gLt, gLe, gGt, gGe, gMax, gMin, gAnd, gXor, gOr, gStrip, gFind, eqB, eqS, List.getElem?_cons_zero, List.getElem?_cons_succ, List.set_cons_zero, List.set_cons_succ, List.map_cons, List.map_nil, List.replicate_succ, List.replicate_zero, List.cons_append, List.nil_append, Option.map_some, Option.map_none, if_true, if_false, Nat.reduceSub, reduceIte, Bool.false_eq_true, decide_true, decide_false, Bool.not_true, Bool.not_false, List.length_cons, List.length_nil, hz0, hk, Nat.add_zero]
/-! none shut -/
theorem join_all (a : List P2) (opn : Nat → Bool) (h : ∀ j, j + 1 < a.length → opn j = true) : ∀ i, i ≤ a.length → joinN a opn i = a.take i
  | 0, _ => rfl
  | i + 1, hl => by
    have ih := join_all a opn h i (by omega)
    unfold joinN
    have hlt : i < a.length := by omega
    have hc : i = 0 ∨ opn (i - 1) = true := by
      by_cases e : i = 0
      · exact .inl e
      · exact .inr (h (i - 1) (by omega))
    have e1 : (lo a i, hi a i) = a[i] := by
      unfold lo hi
      rw [List.getD_eq_getElem?_getD, List.getElem?_eq_getElem hlt]; rfl
    rw [if_pos hc, ih, e1, List.take_add_one, List.getElem?_eq_getElem hlt]; rfl
theorem closed0 (a : List P2) (ok : okRows a) : closedL a 0 = a := by
  unfold closedL
  rw [join_all a (opnD a 0) (fun j hj => decide_eq_true (ok j hj)) a.length (Nat.le_refl _), List.take_length]
/-! the law -/
def pw50 : Int := 10 ^ Int.toNat 50
theorem ko50 : powOk 10 50 = true := by decide +kernel
theorem pk50 : (10 : Int) ^ Int.toNat 50 = pw50 := rfl
theorem body_law (S S1 S2 S3 S4 : Sto) (ns : List Int) (h f h2 : Nat) (most : Int) (C A : List D) (hf : S.length = f) (e1 : S ++ [.lst C] = S1) (c1 : m_p_closed [.ref h, .int most] S = .ok (.fr (.lst C)) S) (c2 : m_L_pairs [.ref f] S1 = .ok (.va (.bl true)) S1)
    (c3 : m_L_due [.ref 1, .int most] S1 = .ok (.fr (.lst C)) S1) (n1 : pNe S1 [.va (.ref f), .fr (.lst C)] = some (.va (.bl false))) (n2 : pNe S1 [.va (.ref h), .va (.ref 1)] = some (.va (.bl false))) (i1 : isL S1 (.va (.ref h)) = true) (p1 : pApp S1 [.va (.ref h), .va (.tup [.int pw50, .int pw50])] = some (.va .non, S2))
    (c4 : m_L_due [.ref 1, .int most] S2 = .ok (.fr (.lst C)) S2) (n3 : pNe S2 [.va (.ref f), .fr (.lst C)] = some (.va (.bl false))) (i2 : isL S2 (.va (.ref f)) = true) (p2 : pApp S2 [.va (.ref f), .va (.tup [.int 0, .int 0])] = some (.va .non, S3)) (l1 : pLstOf S3 [.va (.ref 1)] = some (.fr (.lst A))) (hh : S3.length = h2) (e4 : S3 ++ [.lst A] = S4)
    (c5 : m_p_closed [.ref h2, .int most] S4 = .ok (.fr (.lst C)) S4) (c6 : m_L_due [.ref 1, .int most] S4 = .ok (.fr (.lst C)) S4) (n4 : pNe S4 [.fr (.lst C), .fr (.lst C)] = some (.va (.bl false))) :
    lb_L_law_0 [some (.scr ns), some (.ref 1), some (.ref h), some (.int most), none] S = .nx [some (.scr ns), some (.ref 1), some (.ref h2), some (.int most), some (.ref f)] S4 := by
  have hz2 : (0 : Nat) + 1 + 1 ≤ sizeLine := by decide +kernel
  have hz2' : (1 : Nat) + 1 ≤ sizeLine := by decide +kernel
  unfold lb_L_law_0
  simp only [sNil, sSeq, sEx, sRet, sRetN, sBrk, sCt, sIf, sAsg, sAug, Tg.bind, setAll, Rs.on_ok, Rs.on_err, Rs.on_bad, SR.then_nx, SR.then_brk, SR.then_ct, SR.then_ret, SR.then_err, SR.then_bad, Rs.bind_ok, Rs.bind_err, Rs.bind_bad, eVar, eC, eTo, own, eArgs, eP, bB, bNot, bAnd, bOr, eNot, eAnd, eOr, eIf, eChain, lift, pII_int, pSS, isS, isSt, eM, eTup, eLst, eCall, unva, eSl, oNone, oSome, gSub, gDiv, gMod, gPow, gShl, gShr, gLt, gLe, gGt, gGe, gMax, gMin, gAnd, gXor, gOr, gStrip, gFind, List.getElem?_cons_zero, List.getElem?_cons_succ, List.set_cons_zero, List.set_cons_succ, List.map_cons, List.map_nil, List.replicate_succ, List.replicate_zero, List.cons_append, List.nil_append, Option.map_some, Option.map_none, if_true, if_false, Nat.reduceSub, reduceIte, Bool.false_eq_true, decide_true, decide_false, Bool.not_true, Bool.not_false, List.length_cons, List.length_nil, c1, hf, e1, c2, c3, n1, n2, i1, ko50, pk50, hz2, p1, c4, n3, i2, p2, l1, hh, e4, c5, c6, n4]

theorem lstOf_ref {S : Sto} {n : Nat} {ds : List D} (h : S[n]? = some (.lst ds)) : pLstOf S [.va (.ref n)] = some (.fr (.lst ds)) := by
  show (match S[n]? with | some (Ob.lst ds) => some ds | _ => none).map (fun ds => Rv.fr (.lst ds)) = _
  rw [h]; rfl
theorem isL_ref {S : Sto} {n : Nat} {ds : List D} (h : S[n]? = some (.lst ds)) : isL S (.va (.ref n)) = true := by
  show (match S[n]? with | some (Ob.lst ds) => some ds | _ => none).isSome = true
  rw [h]; rfl
theorem app_ref {S : Sto} {n : Nat} {ds : List D} {d : D} (h : S[n]? = some (.lst ds)) (hz : ds.length < sizeLine) : pApp S [.va (.ref n), .va d] = some (.va .non, S.set n (.lst (ds ++ [d]))) := by
  show (match S[n]? with | some (.lst ds) => if ds.length < sizeLine then some (Rv.va D.non, S.set n (.lst (ds ++ [d]))) else none | _ => none) = _
  rw [h]
  dsimp only
  rw [if_pos hz]
theorem get_set_ne {S : Sto} {n m : Nat} {o p : Ob} (h : S[n]? = some o) (ne : n ≠ m) : (S.set m p)[n]? = some o := by
  rw [List.getElem?_set_ne (Ne.symm ne)]; exact h
theorem closed_len (a : List P2) (most : Int) : (closedL a most).length ≤ a.length := (joinN_len a (opnD a most) a.length).1
theorem turn_law (S : Sto) (ns : List Int) (h : Nat) (most : Int) (a : List P2) (hl : a.length ≤ 63) (h1 : S[1]? = some (.lst (prs a))) (hh : S[h]? = some (.lst (prs a))) (ne : h ≠ 1) :
    ∃ (S' : Sto) (h2 : Nat), lb_L_law_0 [some (.scr ns), some (.ref 1), some (.ref h), some (.int most), none] S = .nx [some (.scr ns), some (.ref 1), some (.ref h2), some (.int most), some (.ref S.length)] S' ∧ S'[1]? = some (.lst (prs a)) ∧ S'[h2]? = some (.lst (prs a)) ∧ h2 ≠ 1 := by
  have hz : (1000 : Nat) ≤ sizeLine := line_ge
  have l1 : 1 < S.length := (List.getElem?_eq_some_iff.mp h1).1
  have lh : h < S.length := (List.getElem?_eq_some_iff.mp hh).1
  have hcl := closed_len a most
  have hpl := prs_len a
  have hpc := prs_len (closedL a most)
  have g1 := get_old h1 (.lst (prs (closedL a most)))
  have gh := get_old hh (.lst (prs (closedL a most)))
  have gf : (S ++ [Ob.lst (prs (closedL a most))])[S.length]? = some (.lst (prs (closedL a most))) := get_last
  have p1 := app_ref (d := .tup [.int pw50, .int pw50]) gh (by omega)
  have g1' := get_set_ne (m := h) (p := .lst (prs a ++ [.tup [.int pw50, .int pw50]])) g1 (Ne.symm ne)
  have gf' := get_set_ne (m := h) (p := .lst (prs a ++ [.tup [.int pw50, .int pw50]])) gf (by omega)
  have p2 := app_ref (d := .tup [.int 0, .int 0]) gf' (by omega)
  have g1'' := get_set_ne (m := S.length) (p := .lst (prs (closedL a most) ++ [.tup [.int 0, .int 0]])) g1' (by omega)
  refine ⟨_, _, body_law S _ _ _ _ ns h S.length _ most (prs (closedL a most)) (prs a) rfl rfl (f_closed S h a most hh (by omega)) (f_pairs _ _ _ gf) (f_due _ 1 a most g1 (by omega)) (ne_rf gf) (ne_rr gh g1) (isL_ref gh) p1 (f_due _ 1 a most g1' (by omega)) (ne_rf gf') (isL_ref gf') p2 (lstOf_ref g1'') rfl rfl
    (f_closed _ _ a most get_last (by omega)) (f_due _ 1 a most (get_old g1'' _) (by omega)) (ne_ff _ _), get_old g1'' _, get_last, ?_⟩
  rw [List.length_set, List.length_set, List.length_append, List.length_singleton]
  omega
theorem loop_law (S : Sto) (ns : List Int) (ds : List D) (hds : ∀ d ∈ ds, ∃ m : Int, d = .int m) (a : List P2) (hl : a.length ≤ 63) (h : Nat) (h1 : S[1]? = some (.lst (prs a))) (hh : S[h]? = some (.lst (prs a))) (ne : h ≠ 1) :
    ∃ (S' : Sto) (h2 : Nat), forGo (.fix ds) (.name 3) lb_L_law_0 [3, 4] (ds.length + 1) 0 [some (.scr ns), some (.ref 1), some (.ref h), none, none] S = .nx [some (.scr ns), some (.ref 1), some (.ref h2), none, none] S' ∧ S'[1]? = some (.lst (prs a)) := by
  refine for_fix (P := fun m => ∃ (S' : Sto) (h2 : Nat), m = .nx [some (.scr ns), some (.ref 1), some (.ref h2), none, none] S' ∧ S'[1]? = some (.lst (prs a)))
    (fun i env S' => ∃ h2 : Nat, S'[1]? = some (.lst (prs a)) ∧ S'[h2]? = some (.lst (prs a)) ∧ h2 ≠ 1 ∧ env = [some (.scr ns), some (.ref 1), some (.ref h2), none, none]) ⟨h, h1, hh, ne, rfl⟩ ?_ ?_
  · intro i d hd env S' hI
    obtain ⟨h2, k1, k2, k3, rfl⟩ := hI
    obtain ⟨m, rfl⟩ := hds d (List.mem_of_getElem? hd)
    obtain ⟨S2, h3, e, q1, q2, q3⟩ := turn_law S' ns h2 m a hl k1 k2 k3
    exact ⟨_, rfl, tn_nx e ⟨h3, q1, q2, q3, rfl⟩⟩
  · intro env S' hI
    obtain ⟨h2, k1, k2, k3, rfl⟩ := hI
    exact ⟨S', h2, rfl, k1⟩
def pw40 : Int := 10 ^ Int.toNat 40
theorem ko40 : powOk 10 40 = true := by decide +kernel
theorem pk40 : (10 : Int) ^ Int.toNat 40 = pw40 := rfl
theorem body_all (ns cs : List Int) (a : List P2) (c1 c2 c0 g0 g1 : Int) (S' : Sto) (h2 : Nat) (hcs : cutD (ns.map D.int) (some 2) (some 62) = cs.map D.int) (e1 : m_L_cell [.scr ns, .int 1] [.lst (cs.map .int)] = .ok (.va (.int c1)) [.lst (cs.map .int)]) (e2 : m_L_list [.ref 0, .int (c1 % pw40)] [.lst (cs.map .int)] = .ok (.fr (.lst (prs a))) [.lst (cs.map .int)])
    (S3 : Sto) (hS3 : [.lst (cs.map .int), .lst (prs a), .lst (prs a)] = S3) (hl2 : pLstOf [.lst (cs.map .int), .lst (prs a)] [.va (.ref 1)] = some (.fr (.lst (prs a)))) (e3 : m_L_cell [.scr ns, .int 0] S3 = .ok (.va (.int c0)) S3) (e4 : m_L_gap [.int c0, .ref 1] S3 = .ok (.va (.int g0)) S3) (e5 : m_L_cell [.scr ns, .int 1] S3 = .ok (.va (.int c2)) S3) (e6 : m_L_gap [.int (c2 + 1), .ref 1] S3 = .ok (.va (.int g1)) S3)
    (e7 : forGo (.fix [.int g0, .int 0, .int g1]) (.name 3) lb_L_law_0 [3, 4] (3 + 1) 0 [some (.scr ns), some (.ref 1), some (.ref 2), none, none] S3 = .nx [some (.scr ns), some (.ref 1), some (.ref h2), none, none] S') (e8 : m_p_closed [.ref 1, .int 0] S' = .ok (.fr (.lst (prs a))) S') (e9 : pEq S' [.fr (.lst (prs a)), .va (.ref 1)] = some (.va (.bl true))) :
    b_L_law [some (.scr ns), none, none, none, none] [] = .ret (.va (.bl true)) S' := by
  have p40 : (0 : Int) < pw40 := by decide +kernel
  have l3 : (0 : Nat) + 1 + 1 + 1 ≤ sizeLine := by decide +kernel
  have hlen1 : List.length ([Ob.lst (cs.map D.int)] : Sto) = 1 := rfl
  have hlen2 : List.length ([Ob.lst (cs.map D.int)] ++ [Ob.lst (prs a)] : Sto) = 2 := rfl
  have key : l_L_law_0 [some (.scr ns), some (.ref 1), some (.ref 2), none, none] S3 = .nx [some (.scr ns), some (.ref 1), some (.ref h2), none, none] S' := by
    unfold l_L_law_0 sFor
    simp only [ixL, sNil, sSeq, sEx, sRet, sRetN, sBrk, sCt, sIf, sAsg, sAug, Tg.bind, setAll, Rs.on_ok, Rs.on_err, Rs.on_bad, SR.then_nx, SR.then_brk, SR.then_ct, SR.then_ret, SR.then_err, SR.then_bad, Rs.bind_ok, Rs.bind_err, Rs.bind_bad, eVar, eC, eTo, own, eArgs, eP, bB, bNot, bAnd, bOr, eNot, eAnd, eOr, eIf, eChain, lift, pII_int, pSS, isS, isSt, eM, eTup, eLst, eCall, unva, eSl, oNone, oSome, gSub, gDiv, gMod, gPow, gShl, gShr, gLt, gLe, gGt, gGe, gMax, gMin, gAnd, gXor, gOr, gStrip, gFind, List.getElem?_cons_zero, List.getElem?_cons_succ, List.set_cons_zero, List.set_cons_succ, List.map_cons, List.map_nil, List.replicate_succ, List.replicate_zero, List.cons_append, List.nil_append, Option.map_some, Option.map_none, if_true, if_false, Nat.reduceSub, reduceIte, Bool.false_eq_true, decide_true, decide_false, Bool.not_true, Bool.not_false, List.length_cons, List.length_nil, pAdd, e3, e4, e5, e6, l3, kill]
    exact e7
  simp only [b_L_law, sNil, sSeq, sEx, sRet, sRetN, sBrk, sCt, sIf, sAsg, sAug, Tg.bind, setAll, Rs.on_ok, Rs.on_err, Rs.on_bad, SR.then_nx, SR.then_brk, SR.then_ct, SR.then_ret, SR.then_err, SR.then_bad, Rs.bind_ok, Rs.bind_err, Rs.bind_bad, eVar, eC, eTo, own, eArgs, eP, bB, bNot, bAnd, bOr, eNot, eAnd, eOr, eIf, eChain, lift, pII_int, pSS, isS, isSt, eM, eTup, eLst, eCall, unva, eSl, oNone, oSome, gSub, gDiv, gMod, gPow, gShl, gShr, gLt, gLe, gGt, gGe, gMax, gMin, gAnd, gXor, gOr, gStrip, gFind, List.getElem?_cons_zero, List.getElem?_cons_succ, List.set_cons_zero, List.set_cons_succ, List.map_cons, List.map_nil, List.replicate_succ, List.replicate_zero, List.cons_append, List.nil_append, Option.map_some, Option.map_none, if_true, if_false, Nat.reduceSub, reduceIte, Bool.false_eq_true, decide_true, decide_false, Bool.not_true, Bool.not_false, List.length_cons, List.length_nil, cutR, vL, hcs, Nat.reduceAdd, e1, e2, ko40, pk40, p40, hl2, hS3, key, e8, e9]
theorem law_true (ns : List Int) (h : ns.length ≤ 63) : ∃ S', m_L_law [.scr ns] [] = .ok (.va (.bl true)) S' := by
  obtain ⟨cs, hcs, hl⟩ := cells_cut ns h (some 2) (some 62)
  obtain ⟨c1, e1⟩ : ∃ c, m_L_cell [.scr ns, .int 1] [.lst (cs.map .int)] = .ok (.va (.int c)) [.lst (cs.map .int)] := f_cell _ ns 1
  obtain ⟨a, la, ok, e2⟩ := f_list [.lst (cs.map .int)] 0 cs (c1 % pw40) rfl hl
  have hS3 : ∃ S3 : Sto, [.lst (cs.map .int), .lst (prs a), .lst (prs a)] = S3 := ⟨_, rfl⟩
  obtain ⟨S3, hS3⟩ := hS3
  have k1 : S3[1]? = some (.lst (prs a)) := by rw [← hS3]; rfl
  have k2 : S3[2]? = some (.lst (prs a)) := by rw [← hS3]; rfl
  obtain ⟨c0, e3⟩ : ∃ c, m_L_cell [.scr ns, .int 0] S3 = .ok (.va (.int c)) S3 := f_cell _ ns 0
  obtain ⟨c2, e5⟩ : ∃ c, m_L_cell [.scr ns, .int 1] S3 = .ok (.va (.int c)) S3 := f_cell _ ns 1
  obtain ⟨g0, e4⟩ := f_gap S3 c0 1 a k1
  obtain ⟨g1, e6⟩ := f_gap S3 (c2 + 1) 1 a k1
  obtain ⟨S', h2, e7, k3⟩ := loop_law S3 ns [.int g0, .int 0, .int g1] (by
    intro d hd
    simp only [List.mem_cons, List.not_mem_nil, or_false] at hd
    rcases hd with rfl | rfl | rfl <;> exact ⟨_, rfl⟩) a la 2 k1 k2 (by decide)
  have e8 := f_closed S' 1 a 0 k3 (by omega)
  rw [closed0 a ok] at e8
  exact ⟨[], fn_va (T := S') (body_all ns cs a c1 c2 c0 g0 g1 S' h2 hcs e1 e2 S3 hS3 rfl e3 e4 e5 e6 e7 e8 (eq_fr k3)) rfl⟩
end Pf

set_option Elab.async false
set_option linter.all false
set_option maxRecDepth 100000
set_option maxHeartbeats 0
set_option autoImplicit false
/-! The walk of curveyard_k23_stretches_closed, printed by gen.py. -/
namespace Pf
open PySem PySem.Spec PyProof.Rows L2 Cy
def topS (i : Nat) : Stmt := PySem.Challenge.pw_curveyard_k23_stretches_closed.main.body.getD i (.Pass ⟨0, 0, 0, 0⟩)
abbrev s_p_numbers_between : Stmt := topS 1
abbrev N_p_numbers_between : List Str := ["rows", "at"]
theorem sc_p_numbers_between : FnScope N_p_numbers_between ["rows", "at"] (defScope s_p_numbers_between) := ⟨rfl, rfl, rfl, by decide +kernel, rfl, by decide +kernel, by decide +kernel⟩
abbrev s_p_joined_but : Stmt := topS 2
abbrev N_p_joined_but : List Str := ["rows", "parted", "found", "at", "row"]
theorem sc_p_joined_but : FnScope N_p_joined_but ["rows", "parted"] (defScope s_p_joined_but) := ⟨rfl, rfl, rfl, by decide +kernel, rfl, by decide +kernel, by decide +kernel⟩
abbrev s_L_cell : Stmt := topS 5
abbrev N_L_cell : List Str := ["_law_script", "_law_k"]
theorem sc_L_cell : FnScope N_L_cell ["_law_script", "_law_k"] (defScope s_L_cell) := ⟨rfl, rfl, rfl, by decide +kernel, rfl, by decide +kernel, by decide +kernel⟩
abbrev s_L_mix : Stmt := topS 6
abbrev N_L_mix : List Str := ["_law_cell_here", "_law_one", "_law_prime", "_law_drawn"]
theorem sc_L_mix : FnScope N_L_mix ["_law_cell_here", "_law_one", "_law_prime"] (defScope s_L_mix) := ⟨rfl, rfl, rfl, by decide +kernel, rfl, by decide +kernel, by decide +kernel⟩
abbrev s_L_whole : Stmt := topS 7
abbrev N_L_whole : List Str := ["_law_found"]
theorem sc_L_whole : FnScope N_L_whole ["_law_found"] (defScope s_L_whole) := ⟨rfl, rfl, rfl, by decide +kernel, rfl, by decide +kernel, by decide +kernel⟩
abbrev s_L_due : Stmt := topS 12
abbrev N_L_due : List Str := ["_law_rows", "_law_most", "_law_due_here", "_law_k"]
theorem sc_L_due : FnScope N_L_due ["_law_rows", "_law_most"] (defScope s_L_due) := ⟨rfl, rfl, rfl, by decide +kernel, rfl, by decide +kernel, by decide +kernel⟩
abbrev s_p_closed : Stmt := topS 3
abbrev N_p_closed : List Str := ["rows", "most", "parted", "at"]
theorem sc_p_closed : FnScope N_p_closed ["rows", "most"] (defScope s_p_closed) := ⟨rfl, rfl, rfl, by decide +kernel, rfl, by decide +kernel, by decide +kernel⟩
abbrev s_L_row : Stmt := topS 8
abbrev N_L_row : List Str := ["_law_cell_here", "_law_k", "_law_wide", "_law_long"]
theorem sc_L_row : FnScope N_L_row ["_law_cell_here", "_law_k"] (defScope s_L_row) := ⟨rfl, rfl, rfl, by decide +kernel, rfl, by decide +kernel, by decide +kernel⟩
abbrev s_L_pairs : Stmt := topS 10
abbrev N_L_pairs : List Str := ["_law_found", "_law_pair"]
theorem sc_L_pairs : FnScope N_L_pairs ["_law_found"] (defScope s_L_pairs) := ⟨rfl, rfl, rfl, by decide +kernel, rfl, by decide +kernel, by decide +kernel⟩
abbrev s_L_gap : Stmt := topS 11
abbrev N_L_gap : List Str := ["_law_cell_here", "_law_rows", "_law_drawn", "_law_at"]
theorem sc_L_gap : FnScope N_L_gap ["_law_cell_here", "_law_rows"] (defScope s_L_gap) := ⟨rfl, rfl, rfl, by decide +kernel, rfl, by decide +kernel, by decide +kernel⟩
abbrev s_L_list : Stmt := topS 9
abbrev N_L_list : List Str := ["_law_cells", "_law_start", "_law_rows", "_law_at", "_law_k", "_law_cell_here", "_law_wide", "_law_long"]
theorem sc_L_list : FnScope N_L_list ["_law_cells", "_law_start"] (defScope s_L_list) := ⟨rfl, rfl, rfl, by decide +kernel, rfl, by decide +kernel, by decide +kernel⟩
abbrev s_L_law : Stmt := topS 13
abbrev N_L_law : List Str := ["_law_script", "_law_rows", "_law_handed", "_law_most", "_law_found"]
theorem sc_L_law : FnScope N_L_law ["_law_script"] (defScope s_L_law) := ⟨rfl, rfl, rfl, by decide +kernel, rfl, by decide +kernel, by decide +kernel⟩
abbrev fn : List He.DefD := [⟨("numbers_between", none), "numbers_between", "numbers_between", defArgs s_p_numbers_between, defBody s_p_numbers_between, defScope s_p_numbers_between, [], []⟩,
  ⟨("joined_but", none), "joined_but", "joined_but", defArgs s_p_joined_but, defBody s_p_joined_but, defScope s_p_joined_but, [], []⟩,
  ⟨("_law_cell", none), "_law_cell", "_law_cell", defArgs s_L_cell, defBody s_L_cell, defScope s_L_cell, [], []⟩,
  ⟨("_law_mix", none), "_law_mix", "_law_mix", defArgs s_L_mix, defBody s_L_mix, defScope s_L_mix, [], []⟩,
  ⟨("_law_whole", none), "_law_whole", "_law_whole", defArgs s_L_whole, defBody s_L_whole, defScope s_L_whole, [], []⟩,
  ⟨("_law_due", none), "_law_due", "_law_due", defArgs s_L_due, defBody s_L_due, defScope s_L_due, [], []⟩,
  ⟨("closed", none), "closed", "closed", defArgs s_p_closed, defBody s_p_closed, defScope s_p_closed, [], []⟩,
  ⟨("_law_row", none), "_law_row", "_law_row", defArgs s_L_row, defBody s_L_row, defScope s_L_row, [], []⟩,
  ⟨("_law_pairs", none), "_law_pairs", "_law_pairs", defArgs s_L_pairs, defBody s_L_pairs, defScope s_L_pairs, [], []⟩,
  ⟨("_law_gap", none), "_law_gap", "_law_gap", defArgs s_L_gap, defBody s_L_gap, defScope s_L_gap, [], []⟩,
  ⟨("_law_list", none), "_law_list", "_law_list", defArgs s_L_list, defBody s_L_list, defScope s_L_list, [], []⟩,
  ⟨("law", none), "law", "law", defArgs s_L_law, defBody s_L_law, defScope s_L_law, [], []⟩]
abbrev fa : List He.Fa := [.free "enumerate", .free "len", .free "range", .free "isinstance", .free "int", .free "bool", .free "tuple", .free "list", .glo "numbers_between", .glo "joined_but", .glo "_law_cell", .glo "_law_mix", .glo "_law_whole", .glo "_law_due", .glo "closed", .glo "_law_row", .glo "_law_pairs", .glo "_law_gap", .glo "_law_list", .glo "law"]
def cA (K : PySem.W.Frag) : Nat → Addr := fun _ => 0
def fN : Nat → List Str := fun _ => []
section
variable {P : Program} {w : World} {K : PySem.W.Frag} {mg : Str → Option Value} {base hp : Heap}
theorem ok_p_numbers_between (hX : K.In hp) (hG : hp.Ns mainGlobals mg) (hc : He.SaysD fa fn K) {fd : FuncData} (F : FunD K "numbers_between" "numbers_between" (defArgs s_p_numbers_between) (defBody s_p_numbers_between) (defScope s_p_numbers_between) [] [] (He.fAd K ("numbers_between", none)) fd) : FnOk P w K mg base CX0 1 (He.fAd K ("numbers_between", none)) fd ["rows", "at"] (spI ⟨K, cA K, fN⟩ 2 m_p_numbers_between) := by
  refine fn0 F sc_p_numbers_between fun cdv A outer s H E hr => ?_
  exact (ss_one (s_ret (i_op op_sub ok_sub.ok (i_op op_sub ok_sub.ok (i_ix ix_seq ok_ix.ok (i_ix ix_seq ok_ix.ok (iv 0) (i_op op_addA ok_add.ok (iv 1) ic_int)) ic_int) (i_ix ix_seq ok_ix.ok (i_ix ix_seq ok_ix.ok (iv 0) (iv 1)) ic_int)) ic_int)))
theorem ok_p_joined_but (hX : K.In hp) (hG : hp.Ns mainGlobals mg) (hc : He.SaysD fa fn K) {fd : FuncData} (F : FunD K "joined_but" "joined_but" (defArgs s_p_joined_but) (defBody s_p_joined_but) (defScope s_p_joined_but) [] [] (He.fAd K ("joined_but", none)) fd) : FnOk P w K mg base CX0 1 (He.fAd K ("joined_but", none)) fd ["rows", "parted"] (spI ⟨K, cA K, fN⟩ 2 m_p_joined_but) := by
  refine fn0 F sc_p_joined_but fun cdv A outer s H E hr => ?_
  exact (ss_cons (s_set 2 sc_p_joined_but.nd (i_lst ia_nil))
    (ss_cons (s_for [3, 4] PassesOwn.never rfl (tg_names [3, 4]) (x_enum (He.free_ok hX hG (hc.fact 0)) (iv 0)) (pg_tup rfl (pgs_cons (g_name 3 sc_p_joined_but.nd) (pgs_cons (g_name 4 sc_p_joined_but.nd) pgs_nil))) (ss_one (s_if (PW.pt (w_or (t_cmp (op_eqA hr.units) ok_eq.ok (iv 3) ic_int (nomark _)) (w_or1 (t_din (units1 hr) (i_op op_sub ok_sub.ok (iv 3) ic_int) (iv 1))))) (ss_one (s_ex (i_ml PySem.F.slot_list_append PySem.F.type_list_append (mtM mt_append) ok_app (iv 2) (ia_cons (iv 4) ia_nil)))) (ss_one (s_sub (iv 2) (i_un un_neg ok_neg.ok ic_int) (i_tup (ia_cons (i_ix ix_seq ok_ix.ok (i_ix ix_seq ok_ix.ok (iv 2) (i_un un_neg ok_neg.ok ic_int)) ic_int) (ia_cons (i_ix ix_seq ok_ix.ok (iv 4) ic_int) ia_nil))))))))
    (ss_one (s_ret (iv 2)))))
theorem ok_L_cell (hX : K.In hp) (hG : hp.Ns mainGlobals mg) (hc : He.SaysD fa fn K) {fd : FuncData} (F : FunD K "_law_cell" "_law_cell" (defArgs s_L_cell) (defBody s_L_cell) (defScope s_L_cell) [] [] (He.fAd K ("_law_cell", none)) fd) : FnOk P w K mg base CX0 1 (He.fAd K ("_law_cell", none)) fd ["_law_script", "_law_k"] (spI ⟨K, cA K, fN⟩ 2 m_L_cell) := by
  refine fn0 F sc_L_cell fun cdv A outer s H E hr => ?_
  exact (ss_cons (s_if (t_cmp op_ltA ok_ltA.ok (iv 1) (i_cb call_len ok_len.ok (He.free_ok hX hG (hc.fact 1)) (by decide +kernel) (ia_cons (iv 0) ia_nil)) (nomark _)) (ss_one (s_ret (i_ix ix_seq ok_ix.ok (iv 0) (iv 1)))) ss_nil)
    (ss_one (s_ret ic_int)))
theorem ok_L_mix (hX : K.In hp) (hG : hp.Ns mainGlobals mg) (hc : He.SaysD fa fn K) {fd : FuncData} (F : FunD K "_law_mix" "_law_mix" (defArgs s_L_mix) (defBody s_L_mix) (defScope s_L_mix) [] [] (He.fAd K ("_law_mix", none)) fd) : FnOk P w K mg base CX0 1 (He.fAd K ("_law_mix", none)) fd ["_law_cell_here", "_law_one", "_law_prime"] (spI ⟨K, cA K, fN⟩ 3 m_L_mix) := by
  refine fn0 F sc_L_mix fun cdv A outer s H E hr => ?_
  exact (ss_cons (s_set 3 sc_L_mix.nd (i_op op_mod ok_mod.ok (i_op op_mulA ok_mulA.ok (i_op op_addA ok_add.ok (i_op op_addA ok_add.ok (i_op op_addA ok_add.ok (i_op op_mod ok_mod.ok (iv 0) (iv 2)) ic_int) (i_op op_mulA ok_mulA.ok (i_op op_mulA ok_mulA.ok ic_int (iv 1)) (iv 1))) (iv 1)) ic_int) (iv 2)))
    (ss_one (s_ret (i_op op_fdivW ok_fdiv.ok (i_op op_mod ok_mod.ok (i_op op_mulA ok_mulA.ok (iv 3) (iv 3)) ic_int) ic_int))))
theorem ok_L_whole (hX : K.In hp) (hG : hp.Ns mainGlobals mg) (hc : He.SaysD fa fn K) {fd : FuncData} (F : FunD K "_law_whole" "_law_whole" (defArgs s_L_whole) (defBody s_L_whole) (defScope s_L_whole) [] [] (He.fAd K ("_law_whole", none)) fd) : FnOk P w K mg base CX0 1 (He.fAd K ("_law_whole", none)) fd ["_law_found"] (spI ⟨K, cA K, fN⟩ 1 m_L_whole) := by
  refine fn0 F sc_L_whole fun cdv A outer s H E hr => ?_
  exact (ss_one (s_ret (i_and (i_isi (He.free_ok hX hG (hc.fact 3)) (He.free_ok hX hG (hc.fact 4)) (by decide +kernel) (iv 0)) (i_one (i_not (i_isi (He.free_ok hX hG (hc.fact 3)) (He.free_ok hX hG (hc.fact 5)) (by decide +kernel) (iv 0)))))))
theorem ok_L_due (hX : K.In hp) (hG : hp.Ns mainGlobals mg) (hc : He.SaysD fa fn K) {fd : FuncData} (F : FunD K "_law_due" "_law_due" (defArgs s_L_due) (defBody s_L_due) (defScope s_L_due) [] [] (He.fAd K ("_law_due", none)) fd) : FnOk P w K mg base CX0 1 (He.fAd K ("_law_due", none)) fd ["_law_rows", "_law_most"] (spI ⟨K, cA K, fN⟩ 2 m_L_due) := by
  refine fn0 F sc_L_due fun cdv A outer s H E hr => ?_
  exact (ss_cons (s_set 2 sc_L_due.nd (i_lst ia_nil))
    (ss_cons (s_for [3] PassesOwn.never rfl (tg_name 3) (x_range1 (He.free_ok hX hG (hc.fact 2)) (i_cb call_len ok_len.ok (He.free_ok hX hG (hc.fact 1)) (by decide +kernel) (ia_cons (iv 0) ia_nil))) (g_name 3 sc_L_due.nd) (ss_one (s_if (PW.pt (w_and (t_cmp op_gt ok_gt.ok (iv 3) ic_int (nomark _)) (w_and1 (t_cmp op_le ok_le.ok (i_op op_sub ok_sub.ok (i_ix ix_seq ok_ix.ok (i_ix ix_seq ok_ix.ok (iv 0) (iv 3)) ic_int) (i_ix ix_seq ok_ix.ok (i_ix ix_seq ok_ix.ok (iv 0) (i_op op_sub ok_sub.ok (iv 3) ic_int)) ic_int)) (i_op op_addA ok_add.ok (iv 1) ic_int) (nomark _))))) (ss_one (s_sub (iv 2) (i_un un_neg ok_neg.ok ic_int) (i_tup (ia_cons (i_ix ix_seq ok_ix.ok (i_ix ix_seq ok_ix.ok (iv 2) (i_un un_neg ok_neg.ok ic_int)) ic_int) (ia_cons (i_ix ix_seq ok_ix.ok (i_ix ix_seq ok_ix.ok (iv 0) (iv 3)) ic_int) ia_nil))))) (ss_one (s_ex (i_ml PySem.F.slot_list_append PySem.F.type_list_append (mtM mt_append) ok_app (iv 2) (ia_cons (i_ix ix_seq ok_ix.ok (iv 0) (iv 3)) ia_nil)))))))
    (ss_one (s_ret (iv 2)))))
theorem ok_p_closed (hX : K.In hp) (hG : hp.Ns mainGlobals mg) (hc : He.SaysD fa fn K) (C_p_joined_but_0 : Callee P w K mg base (cA K) fN 1 "joined_but" ["rows", "parted"] [] m_p_joined_but) (C_p_numbers_between_0 : Callee P w K mg base (cA K) fN 1 "numbers_between" ["rows", "at"] [] m_p_numbers_between) {fd : FuncData} (F : FunD K "closed" "closed" (defArgs s_p_closed) (defBody s_p_closed) (defScope s_p_closed) [] [] (He.fAd K ("closed", none)) fd) : FnOk P w K mg base CX0 2 (He.fAd K ("closed", none)) fd ["rows", "most"] (spI ⟨K, cA K, fN⟩ 2 m_p_closed) := by
  refine fn0 F sc_p_closed fun cdv A outer s H E hr => ?_
  exact (ss_cons (s_set 2 sc_p_closed.nd i_dnew)
    (ss_cons (s_for [3] PassesOwn.never rfl (tg_name 3) (x_range1 (He.free_ok hX hG (hc.fact 2)) (i_op op_sub ok_sub.ok (i_cb call_len ok_len.ok (He.free_ok hX hG (hc.fact 1)) (by decide +kernel) (ia_cons (iv 0) ia_nil)) ic_int)) (g_name 3 sc_p_closed.nd) (ss_one (s_if (t_cmp op_gt ok_gt.ok (i_callC (hr.mono (by omega)) C_p_numbers_between_0 (ia_cons (iv 0) (ia_cons (iv 3) ia_nil))) (iv 1) (nomark _)) (ss_one (s_dput (units1 hr) (iv 2) (iv 3) ic_bl)) ss_nil)))
    (ss_one (s_ret (i_callC (hr.mono (by omega)) C_p_joined_but_0 (ia_cons (iv 0) (ia_cons (iv 2) ia_nil)))))))
theorem ok_L_row (hX : K.In hp) (hG : hp.Ns mainGlobals mg) (hc : He.SaysD fa fn K) (C_L_mix_0 : Callee P w K mg base (cA K) fN 1 "_law_mix" ["_law_cell_here", "_law_one", "_law_prime"] [] m_L_mix) {fd : FuncData} (F : FunD K "_law_row" "_law_row" (defArgs s_L_row) (defBody s_L_row) (defScope s_L_row) [] [] (He.fAd K ("_law_row", none)) fd) : FnOk P w K mg base CX0 2 (He.fAd K ("_law_row", none)) fd ["_law_cell_here", "_law_k"] (spI ⟨K, cA K, fN⟩ 2 m_L_row) := by
  refine fn0 F sc_L_row fun cdv A outer s H E hr => ?_
  exact (ss_cons (s_set 2 sc_L_row.nd (i_ix ix_seq ok_ix.ok (i_lst (ia_cons ic_int (ia_cons ic_int (ia_cons ic_int (ia_cons ic_int (ia_cons ic_int (ia_cons (iv_to (i_op op_addA ok_add.ok ic_int (i_op op_mod ok_mod.ok (iv 0) (i_op op_pow ok_pow.ok ic_int ic_int)))) ia_nil))))))) (i_op op_mod ok_mod.ok (i_callC (hr.mono (by omega)) C_L_mix_0 (ia_cons (iv 0) (ia_cons ic_int (ia_cons ic_int ia_nil)))) ic_int)))
    (ss_cons (s_set 3 sc_L_row.nd (i_ix ix_seq ok_ix.ok (i_lst (ia_cons ic_int (ia_cons ic_int (ia_cons ic_int (ia_cons ic_int (ia_cons (iv_to (i_op op_addA ok_add.ok ic_int (i_op op_mod ok_mod.ok (i_op op_fdivW ok_fdiv.ok (iv 0) ic_int) (i_op op_pow ok_pow.ok ic_int ic_int)))) ia_nil)))))) (i_op op_mod ok_mod.ok (i_callC (hr.mono (by omega)) C_L_mix_0 (ia_cons (iv 0) (ia_cons ic_int (ia_cons ic_int ia_nil)))) ic_int)))
    (ss_one (s_ret (i_tup (ia_cons (iv 2) (ia_cons (iv 3) ia_nil)))))))
theorem ok_L_pairs (hX : K.In hp) (hG : hp.Ns mainGlobals mg) (hc : He.SaysD fa fn K) (C_L_whole_0 : Callee P w K mg base (cA K) fN 1 "_law_whole" ["_law_found"] [] m_L_whole) {fd : FuncData} (F : FunD K "_law_pairs" "_law_pairs" (defArgs s_L_pairs) (defBody s_L_pairs) (defScope s_L_pairs) [] [] (He.fAd K ("_law_pairs", none)) fd) : FnOk P w K mg base CX0 2 (He.fAd K ("_law_pairs", none)) fd ["_law_found"] (spI ⟨K, cA K, fN⟩ 1 m_L_pairs) := by
  refine fn0 F sc_L_pairs fun cdv A outer s H E hr => ?_
  exact (ss_cons (s_if (t_not (t_val (i_isi (He.free_ok hX hG (hc.fact 3)) (He.free_ok hX hG (hc.fact 7)) (by decide +kernel) (iv 0)))) (ss_one (s_ret ic_bl)) ss_nil)
    (ss_cons (s_for [1] PassesOwn.never rfl (tg_name 1) (x_list (iv 0)) (g_name 1 sc_L_pairs.nd) (ss_one (s_if (PW.pt (w_or (t_not (t_val (i_isi (He.free_ok hX hG (hc.fact 3)) (He.free_ok hX hG (hc.fact 6)) (by decide +kernel) (iv 1)))) (w_or (t_cmp (op_neA hr.units) ok_ne.ok (i_cb call_len ok_len.ok (He.free_ok hX hG (hc.fact 1)) (by decide +kernel) (ia_cons (iv 1) ia_nil)) ic_int (nomark _)) (w_or (t_not (t_val (i_callC (hr.mono (by omega)) C_L_whole_0 (ia_cons (i_ix ix_seq ok_ix.ok (iv 1) ic_int) ia_nil)))) (w_or1 (t_not (t_val (i_callC (hr.mono (by omega)) C_L_whole_0 (ia_cons (i_ix ix_seq ok_ix.ok (iv 1) ic_int) ia_nil))))))))) (ss_one (s_ret ic_bl)) ss_nil)))
    (ss_one (s_ret ic_bl))))
theorem ok_L_gap (hX : K.In hp) (hG : hp.Ns mainGlobals mg) (hc : He.SaysD fa fn K) (C_L_mix_0 : Callee P w K mg base (cA K) fN 1 "_law_mix" ["_law_cell_here", "_law_one", "_law_prime"] [] m_L_mix) {fd : FuncData} (F : FunD K "_law_gap" "_law_gap" (defArgs s_L_gap) (defBody s_L_gap) (defScope s_L_gap) [] [] (He.fAd K ("_law_gap", none)) fd) : FnOk P w K mg base CX0 2 (He.fAd K ("_law_gap", none)) fd ["_law_cell_here", "_law_rows"] (spI ⟨K, cA K, fN⟩ 2 m_L_gap) := by
  refine fn0 F sc_L_gap fun cdv A outer s H E hr => ?_
  exact (ss_cons (s_set 2 sc_L_gap.nd (i_callC (hr.mono (by omega)) C_L_mix_0 (ia_cons (iv 0) (ia_cons ic_int (ia_cons ic_int ia_nil)))))
    (ss_cons (s_if (PW.pt (w_or (t_cmp (op_eqA hr.units) ok_eq.ok (i_op op_mod ok_mod.ok (iv 2) ic_int) ic_int (nomark _)) (w_or1 (t_cmp op_ltA ok_ltA.ok (i_cb call_len ok_len.ok (He.free_ok hX hG (hc.fact 1)) (by decide +kernel) (ia_cons (iv 1) ia_nil)) ic_int (nomark _))))) (ss_one (s_ret (i_op op_mod ok_mod.ok (i_op op_fdivW ok_fdiv.ok (iv 2) ic_int) ic_int))) ss_nil)
    (ss_cons (s_if (t_cmp (op_eqA hr.units) ok_eq.ok (i_op op_mod ok_mod.ok (iv 2) ic_int) ic_int (nomark _)) (ss_one (s_ret (i_op op_mod ok_mod.ok (iv 0) (i_op op_pow ok_pow.ok ic_int ic_int)))) ss_nil)
    (ss_cons (s_set 3 sc_L_gap.nd (i_op op_mod ok_mod.ok (i_op op_fdivW ok_fdiv.ok (iv 2) ic_int) (i_op op_sub ok_sub.ok (i_cb call_len ok_len.ok (He.free_ok hX hG (hc.fact 1)) (by decide +kernel) (ia_cons (iv 1) ia_nil)) ic_int)))
    (ss_one (s_ret (i_op op_sub ok_sub.ok (i_op op_sub ok_sub.ok (i_op op_sub ok_sub.ok (i_ix ix_seq ok_ix.ok (i_ix ix_seq ok_ix.ok (iv 1) (i_op op_addA ok_add.ok (iv 3) ic_int)) ic_int) (i_ix ix_seq ok_ix.ok (i_ix ix_seq ok_ix.ok (iv 1) (iv 3)) ic_int)) ic_int) (i_op op_mod ok_mod.ok (i_op op_fdivW ok_fdiv.ok (iv 2) ic_int) ic_int))))))))
theorem ok_L_list (hX : K.In hp) (hG : hp.Ns mainGlobals mg) (hc : He.SaysD fa fn K) (C_L_row_0 : Callee P w K mg base (cA K) fN 2 "_law_row" ["_law_cell_here", "_law_k"] [] m_L_row) {fd : FuncData} (F : FunD K "_law_list" "_law_list" (defArgs s_L_list) (defBody s_L_list) (defScope s_L_list) [] [] (He.fAd K ("_law_list", none)) fd) : FnOk P w K mg base CX0 3 (He.fAd K ("_law_list", none)) fd ["_law_cells", "_law_start"] (spI ⟨K, cA K, fN⟩ 2 m_L_list) := by
  refine fn0 F sc_L_list fun cdv A outer s H E hr => ?_
  exact (ss_cons (s_set 2 sc_L_list.nd (i_lst ia_nil))
    (ss_cons (s_set 3 sc_L_list.nd (iv 1))
    (ss_cons (s_for [4, 5, 6, 7] PassesOwn.never rfl (tg_names [4, 5]) (x_enum (He.free_ok hX hG (hc.fact 0)) (iv 0)) (pg_tup rfl (pgs_cons (g_name 4 sc_L_list.nd) (pgs_cons (g_name 5 sc_L_list.nd) pgs_nil))) (ss_cons (s_asg (tg_names [6, 7]) (i_callC (hr.mono (by omega)) C_L_row_0 (ia_cons (iv 5) (ia_cons (iv 4) ia_nil))) (pg_tup rfl (pgs_cons (g_name 6 sc_L_list.nd) (pgs_cons (g_name 7 sc_L_list.nd) pgs_nil))))
    (ss_cons (s_if (t_cmp op_gt ok_gt.ok (iv 4) ic_int (nomark _)) (ss_one (s_set 3 sc_L_list.nd (i_op op_addA ok_add.ok (iv 3) (iv 6)))) ss_nil)
    (ss_cons (s_ex (i_ml PySem.F.slot_list_append PySem.F.type_list_append (mtM mt_append) ok_app (iv 2) (ia_cons (i_tup (ia_cons (iv 3) (ia_cons (iv_to (i_op op_sub ok_sub.ok (i_op op_addA ok_add.ok (iv 3) (iv 7)) ic_int)) ia_nil))) ia_nil)))
    (ss_one (s_set 3 sc_L_list.nd (i_op op_addA ok_add.ok (iv 3) (iv 7))))))))
    (ss_one (s_ret (iv 2))))))
theorem ok_L_law (hX : K.In hp) (hG : hp.Ns mainGlobals mg) (hc : He.SaysD fa fn K) (C_p_closed_0 : Callee P w K mg base (cA K) fN 2 "closed" ["rows", "most"] [] m_p_closed) (C_L_gap_0 : Callee P w K mg base (cA K) fN 2 "_law_gap" ["_law_cell_here", "_law_rows"] [] m_L_gap) (C_L_cell_0 : Callee P w K mg base (cA K) fN 1 "_law_cell" ["_law_script", "_law_k"] [] m_L_cell) (C_L_due_0 : Callee P w K mg base (cA K) fN 1 "_law_due" ["_law_rows", "_law_most"] [] m_L_due) (C_L_pairs_0 : Callee P w K mg base (cA K) fN 2 "_law_pairs" ["_law_found"] [] m_L_pairs) (C_L_list_0 : Callee P w K mg base (cA K) fN 3 "_law_list" ["_law_cells", "_law_start"] [] m_L_list) {fd : FuncData} (F : FunD K "law" "law" (defArgs s_L_law) (defBody s_L_law) (defScope s_L_law) [] [] (He.fAd K ("law", none)) fd) : FnOk P w K mg base CX0 4 (He.fAd K ("law", none)) fd ["_law_script"] (spI ⟨K, cA K, fN⟩ 1 m_L_law) := by
  refine fn0 F sc_L_law fun cdv A outer s H E hr => ?_
  exact (ss_cons (s_set 1 sc_L_law.nd (i_callC (hr.mono (by omega)) C_L_list_0 (ia_cons (iv_to (i_slice (iv 0) (o_some ic_int) (o_some ic_int))) (ia_cons (iv_to (i_op op_mod ok_mod.ok (i_callC (hr.mono (by omega)) C_L_cell_0 (ia_cons (iv 0) (ia_cons ic_int ia_nil))) (i_op op_pow ok_pow.ok ic_int ic_int))) ia_nil))))
    (ss_cons (s_set 2 sc_L_law.nd (i_ct call_list_of ok_lstOf.ok (He.free_ok hX hG (hc.fact 7)) (by decide +kernel) (ia_cons (iv 1) ia_nil)))
    (ss_cons (s_for [3, 4] PassesOwn.never rfl (tg_name 3) (x_list (i_lst (ia_cons (iv_to (i_callC (hr.mono (by omega)) C_L_gap_0 (ia_cons (iv_to (i_callC (hr.mono (by omega)) C_L_cell_0 (ia_cons (iv 0) (ia_cons ic_int ia_nil)))) (ia_cons (iv 1) ia_nil)))) (ia_cons ic_int (ia_cons (iv_to (i_callC (hr.mono (by omega)) C_L_gap_0 (ia_cons (iv_to (i_op op_addA ok_add.ok (i_callC (hr.mono (by omega)) C_L_cell_0 (ia_cons (iv 0) (ia_cons ic_int ia_nil))) ic_int)) (ia_cons (iv 1) ia_nil)))) ia_nil))))) (g_name 3 sc_L_law.nd) (ss_cons (s_set 4 sc_L_law.nd (i_callC (hr.mono (by omega)) C_p_closed_0 (ia_cons (iv 2) (ia_cons (iv 3) ia_nil))))
    (ss_cons (s_if (PW.pt (w_or (t_not (t_val (i_callC (hr.mono (by omega)) C_L_pairs_0 (ia_cons (iv 4) ia_nil)))) (w_or (t_cmp (op_neA hr.units) ok_ne.ok (iv 4) (i_callC (hr.mono (by omega)) C_L_due_0 (ia_cons (iv 1) (ia_cons (iv 3) ia_nil))) (nomark _)) (w_or1 (t_cmp (op_neA hr.units) ok_ne.ok (iv 2) (iv 1) (nomark _)))))) (ss_one (s_ret ic_bl)) ss_nil)
    (ss_cons (s_ex (i_ml PySem.F.slot_list_append PySem.F.type_list_append (mtM mt_append) ok_app (iv 2) (ia_cons (i_tup (ia_cons (iv_to (i_op op_pow ok_pow.ok ic_int ic_int)) (ia_cons (iv_to (i_op op_pow ok_pow.ok ic_int ic_int)) ia_nil))) ia_nil)))
    (ss_cons (s_if (t_cmp (op_neA hr.units) ok_ne.ok (iv 4) (i_callC (hr.mono (by omega)) C_L_due_0 (ia_cons (iv 1) (ia_cons (iv 3) ia_nil))) (nomark _)) (ss_one (s_ret ic_bl)) ss_nil)
    (ss_cons (s_ex (i_ml PySem.F.slot_list_append PySem.F.type_list_append (mtM mt_append) ok_app (iv 4) (ia_cons (i_tup (ia_cons ic_int (ia_cons ic_int ia_nil))) ia_nil)))
    (ss_cons (s_set 2 sc_L_law.nd (i_ct call_list_of ok_lstOf.ok (He.free_ok hX hG (hc.fact 7)) (by decide +kernel) (ia_cons (iv 1) ia_nil)))
    (ss_one (s_if (t_cmp (op_neA hr.units) ok_ne.ok (i_callC (hr.mono (by omega)) C_p_closed_0 (ia_cons (iv 2) (ia_cons (iv 3) ia_nil))) (i_callC (hr.mono (by omega)) C_L_due_0 (ia_cons (iv 1) (ia_cons (iv 3) ia_nil))) (nomark _)) (ss_one (s_ret ic_bl)) ss_nil)))))))))
    (ss_one (s_ret (i_cmp (op_eqA hr.units) ok_eq.ok (i_callC (hr.mono (by omega)) C_p_closed_0 (ia_cons (iv 1) (ia_cons ic_int ia_nil))) (iv 1) (nomark _)))))))
theorem all_ok (hX : K.In hp) (hG : hp.Ns mainGlobals mg) (hc : He.SaysD fa fn K) : ∃ fd : FuncData, (∀ (s : Shared) (v : Value), BindsTo s fd ⟨[v], []⟩ [("_law_script", v)]) ∧ ∀ base : Heap, FnOk P w K mg base CX0 4 (He.fAd K ("law", none)) fd ["_law_script"] (spI ⟨K, cA K, fN⟩ 1 m_L_law) := by
  obtain ⟨fd_p_numbers_between, F_p_numbers_between⟩ := hc.def_ 0 (d := fn[0]) rfl
  obtain ⟨fd_p_joined_but, F_p_joined_but⟩ := hc.def_ 1 (d := fn[1]) rfl
  obtain ⟨fd_L_cell, F_L_cell⟩ := hc.def_ 2 (d := fn[2]) rfl
  obtain ⟨fd_L_mix, F_L_mix⟩ := hc.def_ 3 (d := fn[3]) rfl
  obtain ⟨fd_L_whole, F_L_whole⟩ := hc.def_ 4 (d := fn[4]) rfl
  obtain ⟨fd_L_due, F_L_due⟩ := hc.def_ 5 (d := fn[5]) rfl
  obtain ⟨fd_p_closed, F_p_closed⟩ := hc.def_ 6 (d := fn[6]) rfl
  obtain ⟨fd_L_row, F_L_row⟩ := hc.def_ 7 (d := fn[7]) rfl
  obtain ⟨fd_L_pairs, F_L_pairs⟩ := hc.def_ 8 (d := fn[8]) rfl
  obtain ⟨fd_L_gap, F_L_gap⟩ := hc.def_ 9 (d := fn[9]) rfl
  obtain ⟨fd_L_list, F_L_list⟩ := hc.def_ 10 (d := fn[10]) rfl
  obtain ⟨fd_L_law, F_L_law⟩ := hc.def_ 11 (d := fn[11]) rfl
  refine ⟨fd_L_law, fun s v => FunD.bindsA (ps := ["_law_script"]) F_L_law (fun _ _ _ _ _ _ us hl => match us, hl with | [_], _ => rfl) s [v] rfl, fun base => ?_⟩
  have O_p_numbers_between := ok_p_numbers_between (P := P) (w := w) (base := base) hX hG hc  F_p_numbers_between
  have C_p_numbers_between_0 := Callee.mkN (x := "numbers_between") (ne_clean _) (He.glo_ok hX hG (hc.fact 8)) F_p_numbers_between.kp (F_p_numbers_between.bindsN fun _ _ _ _ _ _ us hl => match us, hl with | [_, _], _ => rfl) .nil (fun _ _ => .nil) O_p_numbers_between
  have O_p_joined_but := ok_p_joined_but (P := P) (w := w) (base := base) hX hG hc  F_p_joined_but
  have C_p_joined_but_0 := Callee.mkN (x := "joined_but") (ne_clean _) (He.glo_ok hX hG (hc.fact 9)) F_p_joined_but.kp (F_p_joined_but.bindsN fun _ _ _ _ _ _ us hl => match us, hl with | [_, _], _ => rfl) .nil (fun _ _ => .nil) O_p_joined_but
  have O_L_cell := ok_L_cell (P := P) (w := w) (base := base) hX hG hc  F_L_cell
  have C_L_cell_0 := Callee.mkN (x := "_law_cell") (ne_clean _) (He.glo_ok hX hG (hc.fact 10)) F_L_cell.kp (F_L_cell.bindsN fun _ _ _ _ _ _ us hl => match us, hl with | [_, _], _ => rfl) .nil (fun _ _ => .nil) O_L_cell
  have O_L_mix := ok_L_mix (P := P) (w := w) (base := base) hX hG hc  F_L_mix
  have C_L_mix_0 := Callee.mkN (x := "_law_mix") (ne_clean _) (He.glo_ok hX hG (hc.fact 11)) F_L_mix.kp (F_L_mix.bindsN fun _ _ _ _ _ _ us hl => match us, hl with | [_, _, _], _ => rfl) .nil (fun _ _ => .nil) O_L_mix
  have O_L_whole := ok_L_whole (P := P) (w := w) (base := base) hX hG hc  F_L_whole
  have C_L_whole_0 := Callee.mkN (x := "_law_whole") (ne_clean _) (He.glo_ok hX hG (hc.fact 12)) F_L_whole.kp (F_L_whole.bindsN fun _ _ _ _ _ _ us hl => match us, hl with | [_], _ => rfl) .nil (fun _ _ => .nil) O_L_whole
  have O_L_due := ok_L_due (P := P) (w := w) (base := base) hX hG hc  F_L_due
  have C_L_due_0 := Callee.mkN (x := "_law_due") (ne_clean _) (He.glo_ok hX hG (hc.fact 13)) F_L_due.kp (F_L_due.bindsN fun _ _ _ _ _ _ us hl => match us, hl with | [_, _], _ => rfl) .nil (fun _ _ => .nil) O_L_due
  have O_p_closed := ok_p_closed (P := P) (w := w) (base := base) hX hG hc C_p_joined_but_0 C_p_numbers_between_0 F_p_closed
  have C_p_closed_0 := Callee.mkN (x := "closed") (ne_clean _) (He.glo_ok hX hG (hc.fact 14)) F_p_closed.kp (F_p_closed.bindsN fun _ _ _ _ _ _ us hl => match us, hl with | [_, _], _ => rfl) .nil (fun _ _ => .nil) O_p_closed
  have O_L_row := ok_L_row (P := P) (w := w) (base := base) hX hG hc C_L_mix_0 F_L_row
  have C_L_row_0 := Callee.mkN (x := "_law_row") (ne_clean _) (He.glo_ok hX hG (hc.fact 15)) F_L_row.kp (F_L_row.bindsN fun _ _ _ _ _ _ us hl => match us, hl with | [_, _], _ => rfl) .nil (fun _ _ => .nil) O_L_row
  have O_L_pairs := ok_L_pairs (P := P) (w := w) (base := base) hX hG hc C_L_whole_0 F_L_pairs
  have C_L_pairs_0 := Callee.mkN (x := "_law_pairs") (ne_clean _) (He.glo_ok hX hG (hc.fact 16)) F_L_pairs.kp (F_L_pairs.bindsN fun _ _ _ _ _ _ us hl => match us, hl with | [_], _ => rfl) .nil (fun _ _ => .nil) O_L_pairs
  have O_L_gap := ok_L_gap (P := P) (w := w) (base := base) hX hG hc C_L_mix_0 F_L_gap
  have C_L_gap_0 := Callee.mkN (x := "_law_gap") (ne_clean _) (He.glo_ok hX hG (hc.fact 17)) F_L_gap.kp (F_L_gap.bindsN fun _ _ _ _ _ _ us hl => match us, hl with | [_, _], _ => rfl) .nil (fun _ _ => .nil) O_L_gap
  have O_L_list := ok_L_list (P := P) (w := w) (base := base) hX hG hc C_L_row_0 F_L_list
  have C_L_list_0 := Callee.mkN (x := "_law_list") (ne_clean _) (He.glo_ok hX hG (hc.fact 18)) F_L_list.kp (F_L_list.bindsN fun _ _ _ _ _ _ us hl => match us, hl with | [_, _], _ => rfl) .nil (fun _ _ => .nil) O_L_list
  exact ok_L_law hX hG hc C_p_closed_0 C_L_gap_0 C_L_cell_0 C_L_due_0 C_L_pairs_0 C_L_list_0 F_L_law
end
def loose0 : List PySem.Str := ["numbers_between", "joined_but", "closed", "_law_cell", "_law_mix", "_law_whole", "_law_row", "_law_list", "_law_pairs", "_law_gap", "_law_due"]
abbrev looseN : List PySem.Str := loose0
abbrev R : PySem.W.OpenRow := PySem.W.OpenLaw.row PySem.Challenge.rw_curveyard_k23_stretches_closed
abbrev hk : PySem.W.Hook := He.hookD 4 fa fn
def ob (s : PySem.W.SharedT) : He.AlD := He.obsDG 4 fa fn (HandSHeadRun.getT s)
theorem ob_eq (s : PySem.W.SharedT) : ob s = hk.obs s.abs := He.obsDG_eq (HandSHeadRun.getT_eq s)
theorem run (w : World) : HandSHeadRun.RunEq R (PySem.W.view R.prog [13]) hk ob 1240 looseN w := by
  intro os
  kernel_rfl
end Pf

open PySem PySem.W PySem.Calls PyProof.Rows
theorem PySem.Challenge.cw_curveyard_k23_stretches_closed_holds : PySem.Challenge.rw_curveyard_k23_stretches_closed.Holds := by
  w_on; o_law
  refine HandSHeadRun.head_any (r := OpenLaw.row PySem.Challenge.rw_curveyard_k23_stretches_closed) (q := view (OpenLaw.row PySem.Challenge.rw_curveyard_k23_stretches_closed).prog [13]) (H := Pf.hk) (ob := Pf.ob) (M := 1240) (loose := Pf.looseN) (d := HandSHeadRun.topDef (OpenLaw.row PySem.Challenge.rw_curveyard_k23_stretches_closed).prog 13) (kwd := []) Pf.ob_eq
    (by kernel_rfl) (fun s => by kernel_rfl) Pf.run (by kernel_rfl) (by kernel_rfl) (by kernel_rfl) (by rfl) (by first | assumption | decide +kernel) (by decide +kernel) ⟨rfl, rfl, rfl, rfl, rfl, by decide +kernel⟩ ?hw ?hc
  case hw => w_witness2
  case hc =>
    refine L2.walk_ofE (l := PySem.Challenge.rw_curveyard_k23_stretches_closed) (n := 63) (k := 4) (x := "_law_script") (CX := L2.CX0) rfl (by decide) (by kernel_rfl) ⟨rfl, by decide, by decide⟩ ?F (fun _ _ _ _ z => z)
    intro w mg fa h Y G hmg0
    obtain ⟨K, KX, c⟩ := Y
    have hmg : mg ("law" : PySem.Str) = some (.ref fa) := by
      have e : (HandSHeadRun.topDef (OpenLaw.row PySem.Challenge.rw_curveyard_k23_stretches_closed).prog 13).name = ("law" : PySem.Str) := by kernel_rfl
      rw [← e]
      exact hmg0
    obtain ⟨fd, hb, hF⟩ := Pf.all_ok (P := (PySem.Challenge.rw_curveyard_k23_stretches_closed).prog) (w := w) KX G c
    have e := hmg.symm.trans (He.glo_ok KX G (c.fact 19))
    cases e
    exact ⟨K, fd, Cy.spI ⟨K, Pf.cA K, Pf.fN⟩ 1 Pf.m_L_law, KX, hb, fun H a ns hl hO hS => Cy.law_sp hO hS (Pf.law_true ns hl), fun base _ _ => hF base⟩
