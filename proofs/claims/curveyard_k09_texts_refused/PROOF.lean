import PyProof.Rows.All
import Wide.All
import OpenK.AllK
import Wide.FinOn
import HandS.ForMost
import HandS.Exc
import HandS.TryOnly
import HandS.ExcOwn
import HandS.WordsExc
import HandS.IsInst
import HandS.StrMore
import HandS.Flow
import HandS.Conv
import HandS.Wide
import HandS.WideBits
import HandS.TupMul
import HandS.TupAny
import HandS.Zip
import HandS.RevRange
import HandS.Dict
import KE.KeyNested
import PyProof.LongRange
import HandS.Defaults
import HandS.CallSlots
import HandS.Deep
import HandS.HeadHook1
import HandS.Rev
import HandS.SortInts
import HandS.SortRule
import KE.GoesMore
import KE.GoesZip
import KE.GoesEnum
import HandS.FStr
import HandS.Flt
import KE.DataMinMax
import HandS.RevTup
import HandS.EndBits
import HandS.HeadEnd
import HandS.Style
import HandS.ExcIs
import HandS.ExcField
import HandS.HeadHook2
import HandS.Head0
import HandS.ExcInit
import HandS.ClsMeth
import HandS.Replace
import HandS.ReplaceLit
import PyProof.P3Eq
import HandS.Head1
import HandS.Head2
import PySem.Challenge.RW_curveyard_k09_texts_refused
section
set_option Elab.async false
set_option linter.all false
set_option maxRecDepth 100000
set_option maxHeartbeats 2000000
set_option autoImplicit false
namespace Cy
open PySem L2
inductive D where
  | non
  | bl (b : Bool)
  | int (i : Int)
  | str (x : Str)
  | tup (ds : List D)
  | frl (ds : List D)
  | obj (c : Nat) (ds : List D)
  | exn (c : Nat) (ds : List D)
  | ref (n : Nat)
inductive Ob where
  | lst (ds : List D)
  | dct (kvs : List (D × D))
  | ins (c : Nat) (ds : List D)
  | lck (kvs : List (D × D))
abbrev Sto := List Ob
abbrev Env := List (Option D)
/-- a class table: the class's address, its fields' names in order -/
structure Cfg where
  K : PySem.W.Frag
  cA : Nat → Addr
  fN : Nat → List Str
  P : Program
  w : World
/-- an exception's object, held fast: of this class, with this dict -/
abbrev exm : HO := .ext fun _ => True
structure ExObj (C : Addr) (d : Option Addr) (oe : Obj) : Prop where
  cls : oe.cls = .ref C
  dct : oe.dict = d
  fld : ∃ vs, oe.data = .fields vs
mutual
inductive Rep (G : Cfg) (r : List Addr) (H : Hp) : V → D → Prop
  | non : Rep G r H .non .non
  | bl (b : Bool) : Rep G r H (.bl b) (.bl b)
  | int (i : Int) : Rep G r H (.int i) (.int i)
  | str (x : Str) : Rep G r H (.str x) (.str x)
  | tup {a : Addr} {vs : List V} {ds : List D} (h : Rd H a (.tup vs)) (na : a ∉ r) (q : Reps G r H vs ds) : Rep G r H (.ref a) (.tup ds)
  | frl {a : Addr} {vs : List V} {ds : List D} (h : ((∃ o, H a = some (.frz o (.lst vs))) ∧ a ∉ r) ∨ ∀ H', SqL G.K H' a vs) (q : Reps G r H vs ds) : Rep G r H (.ref a) (.frl ds)
  | obj {a dx : Addr} {o : Obj} {c : Nat} {fs : List (Str × V)} {ds : List D} (h : H a = some (.frz o (.ins (G.cA c) dx fs))) (na : a ∉ r) (hf : fs.map (·.1) = (G.fN c).take ds.length) (q : Reps G r H (fs.map (·.2)) ds) : Rep G r H (.ref a) (.obj c ds)
  | exn0 {a : Addr} {oe : Obj} {c : Nat} (h : H a = some (.frz oe exm)) (na : a ∉ r) (x : ExObj (G.cA c) none oe) : Rep G r H (.ref a) (.exn c [])
  | exnF {a d : Addr} {oe : Obj} {c : Nat} {fs : List (Str × V)} {ds : List D} (h : H a = some (.frz oe exm)) (na : a ∉ r) (x : ExObj (G.cA c) (some d) oe) (hd : H d = some (.xd fs)) (nd : d ∉ r) (hf : fs.map (·.1) = (G.fN c).take ds.length) (q : Reps G r H (fs.map (·.2)) ds) : Rep G r H (.ref a) (.exn c ds)
  | ref {a : Addr} {n : Nat} (h : r[n]? = some a) : Rep G r H (.ref a) (.ref n)
inductive Reps (G : Cfg) (r : List Addr) (H : Hp) : List V → List D → Prop
  | nil : Reps G r H [] []
  | cons {v : V} {d : D} {vs : List V} {ds : List D} (h : Rep G r H v d) (t : Reps G r H vs ds) : Reps G r H (v :: vs) (d :: ds)
end
/-- later: more is tracked, what is not the store's own stands as it was -/
structure Exw (r : List Addr) (H : Hp) (r' : List Addr) (H' : Hp) : Prop where
  pre : ∃ l, r' = r ++ l
  keep : ∀ a o, H a = some o → a ∉ r → H' a = some o ∧ a ∉ r'
  there : ∀ a o, H a = some o → ∃ o', H' a = some o'
/-- .. and what is held fast stays so -/
structure Ext (r : List Addr) (H : Hp) (r' : List Addr) (H' : Hp) : Prop extends Exw r H r' H' where
  frz : ∀ a o u, H a = some (.frz o u) → H' a = some (.frz o u)
theorem Ext.trans {r r1 r2 : List Addr} {H H1 H2 : Hp} (a : Ext r H r1 H1) (b : Ext r1 H1 r2 H2) : Ext r H r2 H2 := by
  obtain ⟨l, hl⟩ := a.pre
  obtain ⟨m, hm⟩ := b.pre
  refine ⟨⟨⟨l ++ m, by rw [hm, hl, List.append_assoc]⟩, fun p o h n => ?_, fun p o h => ?_⟩, fun p o u h => b.frz p o u (a.frz p o u h)⟩
  · obtain ⟨h1, n1⟩ := a.keep p o h n
    exact b.keep p o h1 n1
  · obtain ⟨o1, h1⟩ := a.there p o h
    exact b.there p o1 h1
theorem Ext.back {r r1 : List Addr} {H H1 : Hp} (a : Ext r H r1 H1) {p : Addr} (h : H1 p = none) : H p = none := by
  cases e : H p with
  | none => rfl
  | some o =>
    obtain ⟨o', e'⟩ := a.there p o e
    rw [h] at e'
    cases e'
theorem Exw.at_ {r r1 : List Addr} {H H1 : Hp} (a : Exw r H r1 H1) {n : Nat} {p : Addr} (h : r[n]? = some p) : r1[n]? = some p := by
  obtain ⟨l, hl⟩ := a.pre
  rw [hl, List.getElem?_append_left (List.getElem?_eq_some_iff.mp h).1]
  exact h
theorem Ext.at_ {r r1 : List Addr} {H H1 : Hp} (a : Ext r H r1 H1) {n : Nat} {p : Addr} (h : r[n]? = some p) : r1[n]? = some p := a.toExw.at_ h
/-- not held fast -/
def Lse (u : HO) : Prop := ∀ o v, u ≠ .frz o v
theorem Lse.mut {u : HO} (h : Mut (some u)) : Lse u := fun o v e => by rw [e] at h; exact h
/-- a new object becomes the store's own -/
theorem Ext.own {r r1 : List Addr} {H H1 : Hp} {p : Addr} (a : Ext r H r1 H1) (h : H p = none) : Ext r H (r1 ++ [p]) H1 := by
  obtain ⟨l, hl⟩ := a.pre
  refine ⟨⟨⟨l ++ [p], by rw [hl, List.append_assoc]⟩, fun b u e n => ?_, a.there⟩, a.frz⟩
  obtain ⟨h1, n1⟩ := a.keep b u e n
  refine ⟨h1, fun z => ?_⟩
  rcases List.mem_append.mp z with z | z
  · exact n1 z
  · have : b = p := by simpa using z
    rw [this, h] at e
    cases e
theorem Rd.exw {r r1 : List Addr} {H H1 : Hp} {a : Addr} {u : HO} (e : Exw r H r1 H1) (h : Rd H a u) (n : a ∉ r) : Rd H1 a u ∧ a ∉ r1 := by
  rcases h with h | ⟨o, h⟩
  · exact ⟨.inl (e.keep a _ h n).1, (e.keep a _ h n).2⟩
  · exact ⟨.inr ⟨o, (e.keep a _ h n).1⟩, (e.keep a _ h n).2⟩
section
variable {G : Cfg} {r r1 : List Addr} {H H1 : Hp}
mutual
theorem Rep.exw (e : Exw r H r1 H1) : ∀ {v : V} {d : D}, Rep G r H v d → Rep G r1 H1 v d
  | _, _, .non => .non
  | _, _, .bl b => .bl b
  | _, _, .int i => .int i
  | _, _, .str x => .str x
  | _, _, .tup h na q => .tup (Rd.exw e h na).1 (Rd.exw e h na).2 (Reps.exw e q)
  | _, _, .frl h q => .frl (h.elim (fun ⟨⟨o, z⟩, n⟩ => .inl ⟨⟨o, (e.keep _ _ z n).1⟩, (e.keep _ _ z n).2⟩) .inr) (Reps.exw e q)
  | _, _, .obj h na hf q => .obj (e.keep _ _ h na).1 (e.keep _ _ h na).2 hf (Reps.exw e q)
  | _, _, .exn0 h na x => .exn0 (e.keep _ _ h na).1 (e.keep _ _ h na).2 x
  | _, _, .exnF h na x hd nd hf q => .exnF (e.keep _ _ h na).1 (e.keep _ _ h na).2 x (e.keep _ _ hd nd).1 (e.keep _ _ hd nd).2 hf (Reps.exw e q)
  | _, _, .ref h => .ref (e.at_ h)
theorem Reps.exw (e : Exw r H r1 H1) : ∀ {vs : List V} {ds : List D}, Reps G r H vs ds → Reps G r1 H1 vs ds
  | _, _, .nil => .nil
  | _, _, .cons h t => .cons (Rep.exw e h) (Reps.exw e t)
end
theorem Rd.ext {a : Addr} {u : HO} (e : Ext r H r1 H1) (h : Rd H a u) (n : a ∉ r) : Rd H1 a u ∧ a ∉ r1 := Rd.exw e.toExw h n
theorem Rep.ext (e : Ext r H r1 H1) {v : V} {d : D} (h : Rep G r H v d) : Rep G r1 H1 v d := Rep.exw e.toExw h
theorem Reps.ext (e : Ext r H r1 H1) {vs : List V} {ds : List D} (h : Reps G r H vs ds) : Reps G r1 H1 vs ds := Reps.exw e.toExw h
/-- not held fast, or a dict that is walked -/
def Gw : HO → Prop
  | .frz _ (.dK _) => True
  | u => Mut (some u)
mutual
/-- an object that is no tuple and not frozen becomes the store's own -/
theorem Rep.grow {p : Addr} {o : HO} (hp : H p = some o) (mu : Gw o) : ∀ {v : V} {d : D}, Rep G r H v d → Rep G (r ++ [p]) H v d
  | _, _, .non => .non
  | _, _, .bl b => .bl b
  | _, _, .int i => .int i
  | _, _, .str x => .str x
  | _, _, .tup (a := a) h na q => .tup h (fun z => by
      rcases List.mem_append.mp z with z | z
      · exact na z
      · have e : a = p := by simpa using z
        subst e
        rcases h with h | ⟨u, h⟩
        · rw [hp] at h; cases h; exact mu
        · rw [hp] at h; cases h; exact mu) (Reps.grow hp mu q)
  | _, _, .frl (a := a) h q => .frl (h.elim (fun ⟨h, na⟩ => by
      by_cases e : a = p
      · subst e
        obtain ⟨u, h⟩ := h
        rw [hp] at h; cases h; exact mu.elim
      · exact .inl ⟨h, fun z => (List.mem_append.mp z).elim na fun z => e (by simpa using z)⟩) .inr) (Reps.grow hp mu q)
  | _, _, .obj (a := a) h na hf q => .obj h (fun z => by
      rcases List.mem_append.mp z with z | z
      · exact na z
      · have e : a = p := by simpa using z
        subst e
        rw [hp] at h; cases h; exact mu) hf (Reps.grow hp mu q)
  | _, _, .exn0 (a := a) h na x => .exn0 h (fun z => by
      rcases List.mem_append.mp z with z | z
      · exact na z
      · have e : a = p := by simpa using z
        subst e
        rw [hp] at h; cases h; exact mu) x
  | _, _, .exnF (a := a) (d := d) h na x hd nd hf q => .exnF h (fun z => by
      rcases List.mem_append.mp z with z | z
      · exact na z
      · have e : a = p := by simpa using z
        subst e
        rw [hp] at h; cases h; exact mu) x hd (fun z => by
      rcases List.mem_append.mp z with z | z
      · exact nd z
      · have e : d = p := by simpa using z
        subst e
        rw [hp] at hd; cases hd; exact mu) hf (Reps.grow hp mu q)
  | _, _, .ref h => .ref (by rw [List.getElem?_append_left (List.getElem?_eq_some_iff.mp h).1]; exact h)
theorem Reps.grow {p : Addr} {o : HO} (hp : H p = some o) (mu : Gw o) : ∀ {vs : List V} {ds : List D}, Reps G r H vs ds → Reps G (r ++ [p]) H vs ds
  | _, _, .nil => .nil
  | _, _, .cons h t => .cons (Rep.grow hp mu h) (Reps.grow hp mu t)
end
theorem Reps.length : ∀ {vs : List V} {ds : List D}, Reps G r H vs ds → vs.length = ds.length
  | _, _, .nil => rfl
  | _, _, .cons _ t => by rw [List.length_cons, List.length_cons, Reps.length t]
theorem Reps.append {vs ws : List V} {ds es : List D} (a : Reps G r H vs ds) (b : Reps G r H ws es) : Reps G r H (vs ++ ws) (ds ++ es) := by
  induction vs generalizing ds with
  | nil => cases a; exact b
  | cons v vs ih => cases a with | cons h t => exact .cons h (ih t)
theorem Reps.take {vs : List V} {ds : List D} (n : Nat) (a : Reps G r H vs ds) : Reps G r H (vs.take n) (ds.take n) := by
  induction vs generalizing ds n with
  | nil => cases a; simp; exact .nil
  | cons v vs ih =>
    cases a with
    | cons h t =>
      cases n with
      | zero => exact .nil
      | succ n => exact .cons h (ih n t)
theorem Reps.set {vs : List V} {ds : List D} {v : V} {d : D} (n : Nat) (a : Reps G r H vs ds) (b : Rep G r H v d) : Reps G r H (vs.set n v) (ds.set n d) := by
  induction vs generalizing ds n with
  | nil => cases a; exact .nil
  | cons w vs ih =>
    cases a with
    | cons h t =>
      cases n with
      | zero => exact .cons b t
      | succ n => exact .cons h (ih n t)
theorem Reps.reverse {vs : List V} {ds : List D} (a : Reps G r H vs ds) : Reps G r H vs.reverse ds.reverse := by
  induction vs generalizing ds with
  | nil => cases a; exact .nil
  | cons w vs ih =>
    cases a with
    | cons h t =>
      rw [List.reverse_cons, List.reverse_cons]
      exact (ih t).append (.cons h .nil)
theorem Reps.ints (ns : List Int) : Reps G r H (ns.map V.int) (ns.map D.int) := by
  induction ns with
  | nil => exact .nil
  | cons n ns ih => exact .cons (.int n) ih
def keyD : Key → D
  | .inl i => .int i
  | .inr x => .str x
mutual
/-- a key, as it is told -/
def keyN : D → Option NestedKey
  | .non => some .none
  | .bl b => some (.num (if b = true then 1 else 0))
  | .int i => some (.num i)
  | .str x => some (.text x)
  | .tup ds => (keysN ds).map .tup
  | _ => none
def keysN : List D → Option (List NestedKey)
  | [] => some []
  | d :: r => (keyN d).bind fun k => (keysN r).map (k :: ·)
end
/-- a dict by tuples; its rows: the key, where the key stands, the value -/
def NestD (P : Program) (w : World) (a : Addr) (rows : List (NestedKey × Addr × V)) : HO := .ext fun h => rows.length ≤ sizeLine ∧ (a == sysModules) = false ∧
  ∃ xs : List (NestedKey × Addr × Value), Paired (fun (p : NestedKey × Addr × V) (q : NestedKey × Addr × Value) => p.1 = q.1 ∧ p.2.1 = q.2.1 ∧ RelV p.2.2 q.2.2) rows xs ∧
  ∃ o es ep, h.get? a = some o ∧ o.ExactDict ∧ o.data = .dict es ep ∧ es.toList = xs.map (entryOfKey (nestedKind P w)) ∧ (xs.map (·.1)).Nodup
def ObFlat (G : Cfg) (r : List Addr) (H : Hp) (a : Addr) (kvs : List (D × D)) : Prop := ∃ ws : List (Key × V), H a = some (.dK ws) ∧ kvs.map (·.1) = ws.map (fun w => keyD w.1) ∧ Reps G r H (ws.map (·.2)) (kvs.map (·.2)) ∧ (ws.map (·.1)).Nodup
def ObNest (G : Cfg) (r : List Addr) (H : Hp) (a : Addr) (kvs : List (D × D)) : Prop := kvs ≠ [] ∧ ∃ rows : List (NestedKey × Addr × V), H a = some (NestD G.P G.w a rows) ∧ kvs.map (fun kv => keyN kv.1) = rows.map (fun x => some x.1) ∧ (∀ x ∈ rows, x.1.depth ≤ 8) ∧
  Reps G r H (rows.map fun x => V.ref x.2.1) (kvs.map (·.1)) ∧ Reps G r H (rows.map (·.2.2)) (kvs.map (·.2)) ∧ (rows.map (·.1)).Nodup
def ObLck (G : Cfg) (r : List Addr) (H : Hp) (a : Addr) (kvs : List (D × D)) : Prop := ∃ (o : Obj) (ws : List (Key × V)), H a = some (.frz o (.dK ws)) ∧ kvs.map (·.1) = ws.map (fun w => keyD w.1) ∧ Reps G r H (ws.map (·.2)) (kvs.map (·.2)) ∧ (ws.map (·.1)).Nodup
def ObAt (G : Cfg) (r : List Addr) (H : Hp) (a : Addr) : Ob → Prop
  | .lst ds => ∃ vs, H a = some (.lst vs) ∧ Reps G r H vs ds
  | .dct kvs => ObFlat G r H a kvs ∨ ObNest G r H a kvs
  | .ins c ds => ∃ dx fs, H a = some (.ins (G.cA c) dx fs) ∧ fs.map (·.1) = (G.fN c).take ds.length ∧ Reps G r H (fs.map (·.2)) ds
  | .lck kvs => ObLck G r H a kvs
theorem ObAt.mut {a : Addr} {o : Ob} (h : ObAt G r H a o) : ∃ u, H a = some u ∧ Gw u := by
  cases o with
  | lst ds => obtain ⟨vs, h, _⟩ := h; exact ⟨_, h, trivial⟩
  | dct kvs =>
    rcases h with ⟨ws, h, _⟩ | ⟨_, rows, h, _⟩
    · exact ⟨_, h, trivial⟩
    · exact ⟨_, h, trivial⟩
  | ins c ds => obtain ⟨dx, fs, h, _⟩ := h; exact ⟨_, h, trivial⟩
  | lck kvs => obtain ⟨o, ws, h, _⟩ := h; exact ⟨_, h, trivial⟩
/-- the object itself stands -/
theorem ObAt.exw {a : Addr} {o : Ob} (e : Exw r H r1 H1) (k : H1 a = H a) (h : ObAt G r H a o) : ObAt G r1 H1 a o := by
  cases o with
  | lst ds => obtain ⟨vs, h, q⟩ := h; exact ⟨vs, k.trans h, q.exw e⟩
  | dct kvs =>
    rcases h with ⟨ws, h, q, p, n⟩ | ⟨z, rows, h, q, y, p, p2, n⟩
    · exact .inl ⟨ws, k.trans h, q, p.exw e, n⟩
    · exact .inr ⟨z, rows, k.trans h, q, y, p.exw e, p2.exw e, n⟩
  | ins c ds => obtain ⟨dx, fs, h, q, p⟩ := h; exact ⟨dx, fs, k.trans h, q, p.exw e⟩
  | lck kvs => obtain ⟨o, ws, h, q, p, n⟩ := h; exact ⟨o, ws, k.trans h, q, p.exw e, n⟩
theorem ObAt.ext {a : Addr} {o : Ob} (e : Ext r H r1 H1) (k : H1 a = H a) (h : ObAt G r H a o) : ObAt G r1 H1 a o := h.exw e.toExw k
theorem ObAt.grow {a p : Addr} {o : Ob} {u : HO} (hp : H p = some u) (mu : Gw u) (h : ObAt G r H a o) : ObAt G (r ++ [p]) H a o := by
  cases o with
  | lst ds => obtain ⟨vs, h, q⟩ := h; exact ⟨vs, h, q.grow hp mu⟩
  | dct kvs =>
    rcases h with ⟨ws, h, q, p, n⟩ | ⟨z, rows, h, q, y, p, p2, n⟩
    · exact .inl ⟨ws, h, q, p.grow hp mu, n⟩
    · exact .inr ⟨z, rows, h, q, y, p.grow hp mu, p2.grow hp mu, n⟩
  | ins c ds => obtain ⟨dx, fs, h, q, p⟩ := h; exact ⟨dx, fs, h, q, p.grow hp mu⟩
  | lck kvs => obtain ⟨o, ws, h, q, p, n⟩ := h; exact ⟨o, ws, h, q, p.grow hp mu, n⟩
structure Sim (G : Cfg) (r : List Addr) (H : Hp) (S : Sto) : Prop where
  len : r.length = S.length
  nd : r.Nodup
  at_ : ∀ (n : Nat) (a : Addr) (o : Ob), r[n]? = some a → S[n]? = some o → ObAt G r H a o
variable {S : Sto}
/-- new objects were laid, nothing else changed -/
theorem Sim.stays (s : Sim G r H S) (e : ∀ a o, H a = some o → H1 a = some o) (x : Ext r H r H1) : Sim G r H1 S := by
  refine ⟨s.len, s.nd, fun n a o h1 h2 => ?_⟩
  have h := s.at_ n a o h1 h2
  obtain ⟨u, hu, _⟩ := h.mut
  exact h.ext x ((e a u hu).trans hu.symm)
/-- a fresh object becomes the store's own -/
theorem Sim.own (s : Sim G r H S) {a : Addr} {o : Ob} (na : a ∉ r) (h : ObAt G r H a o) : Sim G (r ++ [a]) H (S ++ [o]) := by
  obtain ⟨u, hu, mu⟩ := h.mut
  refine ⟨by rw [List.length_append, List.length_append, s.len] <;> rfl, ?_, fun n b p h1 h2 => ?_⟩
  · rw [List.nodup_append]
    refine ⟨s.nd, by simp, fun x hx y hy => ?_⟩
    have e : y = a := by simpa using hy
    rw [e]
    exact fun z => na (by rw [← z]; exact hx)
  · by_cases hn : n < r.length
    · rw [List.getElem?_append_left hn] at h1
      rw [List.getElem?_append_left (by rw [← s.len]; exact hn)] at h2
      exact (s.at_ n b p h1 h2).grow hu mu
    · have hn' : n = r.length := by
        have := (List.getElem?_eq_some_iff.mp h1).1
        rw [List.length_append, List.length_singleton] at this
        omega
      subst hn'
      simp at h1
      rw [s.len] at h2
      simp at h2
      subst h1 h2
      exact h.grow hu mu
end
end Cy
set_option Elab.async false
set_option linter.all false
set_option maxRecDepth 100000
set_option maxHeartbeats 2000000
set_option autoImplicit false
namespace Cy
open PySem L2
inductive Rv where
  | va (d : D)
  | fr (o : Ob)
inductive Rs (α : Type) where
  | ok (a : α) (S : Sto)
  | err (c : Nat) (ds : List D) (S : Sto)
  | bad
def Rs.bind {α β : Type} (m : Rs α) (k : α → Sto → Rs β) : Rs β :=
  match m with
  | .ok a S => k a S
  | .err c ds S => .err c ds S
  | .bad => .bad
@[simp] theorem Rs.bind_ok {α β : Type} (a : α) (S : Sto) (k : α → Sto → Rs β) : (Rs.ok a S).bind k = k a S := rfl
@[simp] theorem Rs.bind_err {α β : Type} (c : Nat) (ds : List D) (S : Sto) (k : α → Sto → Rs β) : (Rs.err c ds S : Rs α).bind k = .err c ds S := rfl
@[simp] theorem Rs.bind_bad {α β : Type} (k : α → Sto → Rs β) : (Rs.bad : Rs α).bind k = .bad := rfl
abbrev EX := Env → Sto → Rs Rv
abbrev FI := List D → Sto → Rs Rv
/-- a result: a datum, or a fresh object that nobody else knows -/
def RepR (G : Cfg) (r : List Addr) (H0 H : Hp) (v : V) : Rv → Prop
  | .va d => Rep G r H v d
  | .fr o => ∃ a, v = .ref a ∧ H0 a = none ∧ a ∉ r ∧ ObAt G r H a o
inductive RepRs (G : Cfg) (r : List Addr) (H0 H : Hp) : List V → List Rv → Prop
  | nil : RepRs G r H0 H [] []
  | cons {v : V} {x : Rv} {vs : List V} {xs : List Rv} (h : RepR G r H0 H v x) (t : RepRs G r H0 H vs xs) : RepRs G r H0 H (v :: vs) (x :: xs)
section
variable {G : Cfg} {r r1 : List Addr} {H0 H H1 : Hp}
theorem RepR.ext {v : V} {x : Rv} (e : Ext r H r1 H1) (h : RepR G r H0 H v x) : RepR G r1 H0 H1 v x := by
  cases x with
  | va d => exact Rep.ext e h
  | fr o =>
    obtain ⟨a, h1, h2, h3, h4⟩ := h
    obtain ⟨u, hu, _⟩ := h4.mut
    obtain ⟨k1, k2⟩ := e.keep a u hu h3
    exact ⟨a, h1, h2, k2, h4.ext e (k1.trans hu.symm)⟩
theorem RepR.from {v : V} {x : Rv} {H00 : Hp} (b : ∀ p, H0 p = none → H00 p = none) (h : RepR G r H0 H v x) : RepR G r H00 H v x := by
  cases x with
  | va d => exact h
  | fr o =>
    obtain ⟨a, h1, h2, h3, h4⟩ := h
    exact ⟨a, h1, b a h2, h3, h4⟩
theorem RepRs.ext {vs : List V} {xs : List Rv} (e : Ext r H r1 H1) (h : RepRs G r H0 H vs xs) : RepRs G r1 H0 H1 vs xs := by
  induction h with
  | nil => exact .nil
  | cons h t ih => exact .cons (h.ext e) ih
theorem RepRs.from {vs : List V} {xs : List Rv} {H00 : Hp} (b : ∀ p, H0 p = none → H00 p = none) (h : RepRs G r H0 H vs xs) : RepRs G r H00 H vs xs := by
  induction h with
  | nil => exact .nil
  | cons h t ih => exact .cons (h.from b) ih
end
/-- the slots -/
structure EnvR (G : Cfg) (r : List Addr) (H : Hp) (σ : L2.St) (env : Env) : Prop where
  len : σ.length = env.length
  at_ : ∀ (i : Nat) (d : D), env[i]? = some (some d) → ∃ v, σ[i]? = some (some v) ∧ Rep G r H v d
section
variable {G : Cfg} {r r1 : List Addr} {H H1 : Hp} {σ : L2.St} {env : Env}
theorem EnvR.ext (e : Ext r H r1 H1) (h : EnvR G r H σ env) : EnvR G r1 H1 σ env := ⟨h.len, fun i d q => let ⟨v, a, b⟩ := h.at_ i d q; ⟨v, a, b.ext e⟩⟩
theorem EnvR.set {i : Nat} {v : V} {d : D} (h : EnvR G r H σ env) (q : Rep G r H v d) : EnvR G r H (σ.set i (some v)) (env.set i (some d)) := by
  refine ⟨by rw [List.length_set, List.length_set]; exact h.len, fun j x e => ?_⟩
  by_cases hj : j = i
  · subst hj
    by_cases hl : j < env.length
    · rw [List.getElem?_set_self hl] at e
      cases e
      exact ⟨v, List.getElem?_set_self (by rw [h.len]; exact hl), q⟩
    · rw [List.getElem?_eq_none (by rw [List.length_set]; omega)] at e
      cases e
  · rw [List.getElem?_set_ne (fun z => hj z.symm)] at e
    obtain ⟨w, a, b⟩ := h.at_ j x e
    exact ⟨w, by rw [List.getElem?_set_ne (fun z => hj z.symm)]; exact a, b⟩
end
/-- an exception as it flies -/
def ErrAt (G : Cfg) (r : List Addr) (H : Hp) (c : Nat) (ds : List D) (cls : Value) (oe : Option Addr) : Prop :=
  cls = .ref (G.cA c) ∧ ((oe = none ∧ ds = []) ∨ ∃ d fs, oe = some d ∧ H d = some (.xd fs) ∧ d ∉ r ∧ fs.map (·.1) = (G.fN c).take ds.length ∧ Reps G r H (fs.map (·.2)) ds)
/-- what is to be shown of all ends -/
def Post {α β : Type} (G : Cfg) (W : WX) (σ : L2.St) (r : List Addr) (H : Hp) (R : List Addr → Hp → β → α → Prop) (Q : β → Hp → Prop) : Rs α → Prop
  | .ok x S' => ∀ v r' H', Ext r H r' H' → Sim G r' H' S' → R r' H' v x → Q v H'
  | .err c ds S' => ∀ cls oe r' H', Ext r H r' H' → Sim G r' H' S' → ErrAt G r' H' c ds cls oe → W cls oe σ H'
  | .bad => False
abbrev RV (G : Cfg) (H : Hp) : List Addr → Hp → V → Rv → Prop := fun r' H' v x => RepR G r' H H' v x
section
variable {G : Cfg} {W : WX} {σ : L2.St} {r r1 : List Addr} {H H1 : Hp} {α β γ δ : Type}
theorem Post.shift {R R' : List Addr → Hp → β → α → Prop} {Q : β → Hp → Prop} {m : Rs α} (h : Post G W σ r H R Q m) (e : Ext r H r1 H1) (k : ∀ r' H' v x, R' r' H' v x → R r' H' v x) : Post G W σ r1 H1 R' Q m := by
  cases m with
  | ok x S => exact fun v r' H' x1 s q => h v r' H' (e.trans x1) s (k _ _ _ _ q)
  | err c ds S => exact fun cls oe r' H' x1 s q => h cls oe r' H' (e.trans x1) s q
  | bad => exact h
theorem Post.bind {R1 : List Addr → Hp → β → α → Prop} {R2 : List Addr → Hp → δ → γ → Prop} {Q1 : β → Hp → Prop} {Q2 : δ → Hp → Prop} {m : Rs α} {k : α → Sto → Rs γ} (h : Post G W σ r H R2 Q2 (m.bind k))
    (step : ∀ x S1 v r1 H1, Ext r H r1 H1 → Sim G r1 H1 S1 → R1 r1 H1 v x → Post G W σ r H R2 Q2 (k x S1) → Q1 v H1) : Post G W σ r H R1 Q1 m := by
  cases m with
  | ok x S => exact fun v r' H' e s q => step x S v r' H' e s q h
  | err c ds S => exact h
  | bad => exact h
end
def eC (d : D) : EX := fun _ S => .ok (.va d) S
/-- the value becomes the store's own -/
def own (x : Rv) (S : Sto) : D × Sto := match x with
  | .va d => (d, S)
  | .fr o => (.ref S.length, S ++ [o])
abbrev Prim := Sto → List Rv → Option (Rv × Sto)
/-- a primitive keeps to its rule -/
def PrimOk (G : Cfg) (rd : List V → Hp → VK → Prop) (f : Prim) : Prop :=
  ∀ (r : List Addr) (H0 H : Hp) (S S' : Sto) (xs : List Rv) (z : Rv) (vs : List V) (Q : VK), Sim G r H S → (∀ p, H p = none → H0 p = none) → RepRs G r H0 H vs xs → f S xs = some (z, S') →
    (∀ v r' H', Ext r H r' H' → Sim G r' H' S' → RepR G r' H0 H' v z → Q v H') → rd vs H Q
/-- such as change nothing of the store -/
def Pure1 (G : Cfg) (rd : List V → Hp → VK → Prop) (f : Sto → List Rv → Option Rv) : Prop :=
  ∀ (r : List Addr) (H0 H : Hp) (S : Sto) (xs : List Rv) (z : Rv) (vs : List V) (Q : VK), Sim G r H S → (∀ p, H p = none → H0 p = none) → RepRs G r H0 H vs xs → f S xs = some z →
    (∀ v H', Ext r H r H' → (∀ a o, H a = some o → H' a = some o) → RepR G r H0 H' v z → Q v H') → rd vs H Q
def lift (f : Sto → List Rv → Option Rv) : Prim := fun S xs => (f S xs).map fun z => (z, S)
theorem Pure1.ok {G : Cfg} {rd : List V → Hp → VK → Prop} {f : Sto → List Rv → Option Rv} (h : Pure1 G rd f) : PrimOk G rd (lift f) := by
  intro r H0 H S S' xs z vs Q s b q e k
  unfold lift at e
  cases e' : f S xs with
  | none => rw [e'] at e; cases e
  | some z' =>
    rw [e'] at e
    obtain ⟨rfl, rfl⟩ : z' = z ∧ S = S' := by simpa using e
    exact h r H0 H S xs z' vs Q s b q e' fun v H' x st q' => k v r H' x (s.stays st x) q'
end Cy
set_option Elab.async false
set_option linter.all false
set_option maxRecDepth 100000
set_option maxHeartbeats 2000000
set_option autoImplicit false
namespace Cy
open PySem L2
/-- how a statement ends -/
inductive SR where
  | nx (env : Env) (S : Sto)
  | brk (env : Env) (S : Sto)
  | ct (env : Env) (S : Sto)
  | ret (x : Rv) (S : Sto)
  | err (env : Env) (c : Nat) (ds : List D) (S : Sto)
  | bad
abbrev SM := Env → Sto → SR
def Rs.on {α : Type} (m : Rs α) (env : Env) (k : α → Sto → SR) : SR := match m with
  | .ok a S => k a S
  | .err c ds S => .err env c ds S
  | .bad => .bad
@[simp] theorem Rs.on_ok {α : Type} (a : α) (S : Sto) (env : Env) (k : α → Sto → SR) : (Rs.ok a S).on env k = k a S := rfl
@[simp] theorem Rs.on_err {α : Type} (c : Nat) (ds : List D) (S : Sto) (env : Env) (k : α → Sto → SR) : (Rs.err c ds S : Rs α).on env k = .err env c ds S := rfl
@[simp] theorem Rs.on_bad {α : Type} (env : Env) (k : α → Sto → SR) : (Rs.bad : Rs α).on env k = .bad := rfl
def SR.then (m : SR) (k : Env → Sto → SR) : SR := match m with
  | .nx env S => k env S
  | m => m
@[simp] theorem SR.then_nx (env : Env) (S : Sto) (k : Env → Sto → SR) : (SR.nx env S).then k = k env S := rfl
@[simp] theorem SR.then_brk (env : Env) (S : Sto) (k : Env → Sto → SR) : (SR.brk env S).then k = .brk env S := rfl
@[simp] theorem SR.then_ct (env : Env) (S : Sto) (k : Env → Sto → SR) : (SR.ct env S).then k = .ct env S := rfl
@[simp] theorem SR.then_ret (x : Rv) (S : Sto) (k : Env → Sto → SR) : (SR.ret x S).then k = .ret x S := rfl
@[simp] theorem SR.then_err (env : Env) (c : Nat) (ds : List D) (S : Sto) (k : Env → Sto → SR) : (SR.err env c ds S).then k = .err env c ds S := rfl
@[simp] theorem SR.then_bad (k : Env → Sto → SR) : SR.bad.then k = .bad := rfl
def PostS (G : Cfg) (W : WX) (D : Ends) (r : List Addr) (H : Hp) : SR → Prop
  | .nx env S' => ∀ σ' r' H', Ext r H r' H' → EnvR G r' H' σ' env → Sim G r' H' S' → D.nx σ' H'
  | .brk env S' => ∀ σ' r' H', Ext r H r' H' → EnvR G r' H' σ' env → Sim G r' H' S' → D.bk σ' H'
  | .ct env S' => ∀ σ' r' H', Ext r H r' H' → EnvR G r' H' σ' env → Sim G r' H' S' → D.ct σ' H'
  | .ret x S' => ∀ v r' H', Ext r H r' H' → Sim G r' H' S' → RepR G r' H H' v x → D.rt v H'
  | .err env c ds S' => ∀ cls oe σ' r' H', Ext r H r' H' → EnvR G r' H' σ' env → Sim G r' H' S' → ErrAt G r' H' c ds cls oe → W cls oe σ' H'
  | .bad => False
def TSI (G : Cfg) (W : WX) (m : SM) : TS := fun D σ H => ∃ r S env, EnvR G r H σ env ∧ Sim G r H S ∧ PostS G W D r H (m env S)
section
variable {G : Cfg} {W : WX} {D D' : Ends} {σ : L2.St} {r r1 : List Addr} {H H1 : Hp} {α β : Type}
theorem PostS.shift {m : SR} (h : PostS G W D r H m) (e : Ext r H r1 H1) : PostS G W D r1 H1 m := by
  cases m with
  | nx env S => exact fun σ' r' H' x => h σ' r' H' (e.trans x)
  | brk env S => exact fun σ' r' H' x => h σ' r' H' (e.trans x)
  | ct env S => exact fun σ' r' H' x => h σ' r' H' (e.trans x)
  | ret v S => exact fun v r' H' x s q => h v r' H' (e.trans x) s (q.from fun _ => e.back)
  | err env c ds S => exact fun cls oe σ' r' H' x => h cls oe σ' r' H' (e.trans x)
  | bad => exact h
/-- an expression's ends, then a statement's -/
theorem PostS.on {R1 : List Addr → Hp → β → α → Prop} {Q1 : β → Hp → Prop} {env : Env} {m : Rs α} {k : α → Sto → SR} (he : EnvR G r H σ env) (h : PostS G W D r H (m.on env k))
    (step : ∀ x S1 v r1 H1, Ext r H r1 H1 → Sim G r1 H1 S1 → R1 r1 H1 v x → PostS G W D r H (k x S1) → Q1 v H1) : Post G W σ r H R1 Q1 m := by
  cases m with
  | ok x S => exact fun v r' H' e s q => step x S v r' H' e s q h
  | err c ds S => exact fun cls oe r' H' e s q => h cls oe σ r' H' e (he.ext e) s q
  | bad => exact h
theorem PostS.then {m : SR} {k : Env → Sto → SR} (h : PostS G W D r H (m.then k)) : PostS G W { D with nx := fun σ' H' => TSI G W k D σ' H' } r H m := by
  cases m with
  | nx env S => exact fun σ' r' H' e q s => ⟨r', S, env, q, s, h.shift e⟩
  | brk env S => exact h
  | ct env S => exact h
  | ret v S => exact h
  | err env c ds S => exact h
  | bad => exact h
end
/-- what is assigned to: a name, or names in a row -/
inductive Tg where
  | name (i : Nat)
  | names (is : List Nat)
def setAll : List Nat → List D → Env → Env
  | i :: is, d :: ds, env => setAll is ds (env.set i (some d))
  | _, _, env => env
def Tg.bind : Tg → D → Env → Option Env
  | .name i, d, env => some (env.set i (some d))
  | .names is, .tup ds, env => if ds.length = is.length then some (setAll is ds env) else none
  | .names _, _, _ => none
inductive Src where
  | fix (ds : List D)
  | live (n : Nat) (len : Nat)
  | gen (g : Nat → Sto → Option (Option D)) (len : Nat)
def Src.len : Src → Nat
  | .fix ds => ds.length
  | .live _ l => l
  | .gen _ l => l
end Cy
set_option Elab.async false
set_option linter.all false
set_option maxRecDepth 100000
set_option maxHeartbeats 2000000
set_option autoImplicit false
set_option Elab.async false
set_option linter.all false
set_option maxRecDepth 100000
set_option maxHeartbeats 2000000
set_option autoImplicit false
namespace Cy
open PySem L2
section
variable {X : Cx} {cA : Nat → Addr} {fN : Nat → List Str} {W : WX} {pos : Pos}
variable {iter tg : Expr} {m : EX}
def postF (G : Cfg) (E : XK) (r : List Addr) (H : Hp) (Q : VK) (m : Rs Rv) : Prop := Post G (fun c o _ H => E c o H) [] r H (RV G H) Q m
def spI (G : Cfg) (n : Nat) (f : FI) : Sp := fun vs H Q E => vs.length = n ∧ ∃ r S ds, Sim G r H S ∧ Reps G r H vs ds ∧ postF G E r H Q (f ds S)
end
section
variable {X : Cx} {cA : Nat → Addr} {fN : Nat → List Str} {W : WX} {k : Nat} {f : Addr} {fd : FuncData} {ps : List Str} {fI : FI} {dvs : List V} {dds : List D} {ds : List Value} {x : Str} {p pos : Pos} {e : Expr} {es : List Expr} {ms : List EX} {m : EX}
/-- f lets nothing out -/
def NoErr (f : FI) : Prop := ∀ ds S c fs S', f ds S ≠ .err c fs S'
end
end Cy
set_option Elab.async false
set_option linter.all false
set_option maxRecDepth 100000
set_option maxHeartbeats 2000000
set_option autoImplicit false
namespace Cy
open PySem PySem.Spec PyProof.Rows L2 PySem.Builtin
end Cy
set_option Elab.async false
set_option linter.all false
set_option maxRecDepth 100000
set_option maxHeartbeats 2000000
set_option autoImplicit false
namespace Cy
open PySem L2
section
variable {G : Cfg} {r : List Addr} {H0 H : Hp} {S : Sto}
def pII (g : Int → Int → Option D) : Sto → List Rv → Option Rv := fun _ xs => match xs with
  | [.va (.int i), .va (.int j)] => (g i j).map .va
  | _ => none
@[simp] theorem pII_int (g : Int → Int → Option D) (S : Sto) (i j : Int) : pII g S [.va (.int i), .va (.int j)] = (g i j).map .va := rfl
end
end Cy
set_option Elab.async false
set_option linter.all false
set_option maxRecDepth 100000
set_option maxHeartbeats 2000000
set_option autoImplicit false
namespace Cy
open PySem L2
end Cy
set_option Elab.async false
set_option linter.all false
set_option maxRecDepth 100000
set_option maxHeartbeats 2000000
set_option autoImplicit false
namespace Cy
open PySem L2
theorem law_sp {P : Program} {w : World} {K : PySem.W.Frag} {cA : Nat → Addr} {fN : Nat → List Str} {m : FI} {H : Hp} {a : Addr} {ns : List Int} (hO : Only H) (hS : SqL K H a (ns.map V.int)) (h : ∃ S', m [.frl (ns.map .int)] [] = .ok (.va (.bl true)) S') :
    spI ⟨K, cA, fN, P, w⟩ 1 m [.ref a] H (fun v _ => v = .bl true) fun _ _ _ => False := by
  obtain ⟨S', h⟩ := h
  refine ⟨rfl, [], [], [.frl (ns.map .int)], ⟨rfl, List.nodup_nil, fun n a o h => by simp at h⟩, .cons (.frl (vs := ns.map V.int) ?_ (Reps.ints ns)) .nil, ?_⟩
  · rcases hS with (h1 | ⟨o, h1⟩) | h1
    · rcases hO a with h2 | ⟨o, xs, h2⟩
      · rw [h1] at h2; cases h2
      · rw [h1] at h2; cases h2
    · exact .inl ⟨⟨o, h1⟩, by simp⟩
    · exact .inr fun H' => .inr h1
  · unfold postF
    rw [h]
    intro v r' H' _ _ q
    cases q
    rfl
end Cy
set_option Elab.async false
set_option linter.all false
set_option maxRecDepth 100000
set_option maxHeartbeats 2000000
set_option autoImplicit false
namespace Cy
open PySem L2 RZ
end Cy
set_option Elab.async false
set_option linter.all false
set_option maxRecDepth 100000
set_option maxHeartbeats 2000000
set_option autoImplicit false
namespace Cy
open PySem PySem.Spec PyProof.Rows L2 PySem.Builtin
end Cy
set_option Elab.async false
set_option linter.all false
set_option maxRecDepth 100000
set_option maxHeartbeats 2000000
set_option autoImplicit false
namespace Cy
open PySem L2
def nVal (rows : List (NestedKey × Addr × V)) (k : NestedKey) : Option V := (rows.find? fun x => decide (x.1 = k)).map (·.2.2)
abbrev NT : List (NestedKey × Addr × V) → List (NestedKey × Addr × Value) → Prop := Paired fun (p : NestedKey × Addr × V) (q : NestedKey × Addr × Value) => p.1 = q.1 ∧ p.2.1 = q.2.1 ∧ RelV p.2.2 q.2.2
theorem NT.val {rows : List (NestedKey × Addr × V)} {xs : List (NestedKey × Addr × Value)} (r : NT rows xs) (k : NestedKey) : RelO (nVal rows k) ((atKey xs k).map (·.2)) := by
  induction r with
  | nil => exact True.intro
  | @cons p q ps qs h t ih =>
    obtain ⟨h1, _, h2⟩ := h
    unfold nVal atKey at ih ⊢
    rw [List.find?_cons, List.find?_cons]
    by_cases e : p.1 = k
    · rw [decide_eq_true e, decide_eq_true (h1.symm.trans e)]; exact h2
    · rw [decide_eq_false e, decide_eq_false (fun z => e (h1.trans z))]; exact ih
end Cy
set_option Elab.async false
set_option linter.all false
set_option maxRecDepth 100000
set_option maxHeartbeats 2000000
set_option autoImplicit false
namespace Cy
open PySem L2
/-- a field of these classes: each with the field's place -/
structure FldOk (G : Cfg) (f : Str) (tbl : List (Nat × Nat)) : Prop where
  at_ : ∀ c j, tbl.lookup c = some j → Cls G.K (G.cA c) ∧ NoAttr G.K (G.cA c) f ∧ (G.fN c)[j]? = some f ∧ (G.fN c).Nodup
theorem FldOk.nil {G : Cfg} {f : Str} : FldOk G f [] := ⟨fun c j h => by cases h⟩
theorem FldOk.cons {G : Cfg} {f : Str} {tbl : List (Nat × Nat)} {c j : Nat} (hc : Cls G.K (G.cA c)) (hn : NoAttr G.K (G.cA c) f) (hf : (G.fN c)[j]? = some f) (hd : (G.fN c).Nodup) (t : FldOk G f tbl) : FldOk G f ((c, j) :: tbl) := ⟨fun c2 j2 h => by
  have h' : (match c2 == c with | true => some j | false => tbl.lookup c2) = some j2 := h
  cases e : c2 == c with
  | true =>
    rw [e] at h'
    have ec : c2 = c := by simpa using e
    cases h'
    subst ec
    exact ⟨hc, hn, hf, hd⟩
  | false =>
    rw [e] at h'
    exact t.at_ c2 j2 h'⟩
end Cy
set_option Elab.async false
set_option linter.all false
set_option maxRecDepth 100000
set_option maxHeartbeats 2000000
set_option autoImplicit false
namespace Cy
open PySem L2
end Cy
set_option Elab.async false
set_option linter.all false
set_option maxRecDepth 100000
set_option maxHeartbeats 4000000
set_option autoImplicit false
namespace Cy
open PySem PySem.Spec PyProof.Rows L2 PySem.Builtin
end Cy
set_option Elab.async false
set_option linter.all false
set_option maxRecDepth 100000
set_option maxHeartbeats 2000000
set_option autoImplicit false
namespace Cy
open PySem L2
end Cy
set_option Elab.async false
set_option linter.all false
set_option maxRecDepth 100000
set_option maxHeartbeats 2000000
set_option autoImplicit false
namespace Cy
open PySem L2 PySem PySem.W
end Cy
set_option Elab.async false
set_option linter.all false
set_option maxRecDepth 100000
set_option maxHeartbeats 2000000
set_option autoImplicit false
namespace Cy
open PySem L2
end Cy
set_option Elab.async false
set_option linter.all false
set_option maxRecDepth 100000
set_option maxHeartbeats 2000000
set_option autoImplicit false
namespace Cy
open PySem PySem.Spec PyProof.Rows L2 PySem.Builtin
end Cy
set_option Elab.async false
set_option linter.all false
set_option maxRecDepth 100000
set_option maxHeartbeats 2000000
set_option autoImplicit false
namespace Cy
open PySem
end Cy
set_option Elab.async false
set_option linter.all false
set_option maxRecDepth 100000
set_option maxHeartbeats 2000000
set_option autoImplicit false
namespace Cy
open PySem L2
end Cy
namespace Cy
open PySem L2
end Cy
set_option Elab.async false
set_option linter.all false
set_option maxRecDepth 100000
set_option maxHeartbeats 2000000
set_option autoImplicit false
namespace Cy
open PySem L2 RT
end Cy
namespace L2
open PySem PySem.Spec PyProof.Rows
end L2
namespace Cy
open PySem L2
end Cy
namespace Cy
open PySem L2
end Cy
namespace L2
open PySem PySem.Spec PyProof.Rows
/-- a law, the script's bits told -/
theorem walk_ofEB {l : PySem.W.OpenLaw} {n k : Nat} {q : Program} {loose : List Str} {XP : (Str → Option Value) → Heap → Prop} {YP : World → Heap → Prop} {d : DefRec} {CX : CXT} {x : Str}
    (hn : l.most = some n) (hn2 : n ≤ sizeLine) (hdf : d.params.defaults = []) (hr : Room k callerA)
    (F : ∀ (w : World) (mg : Str → Option Value) (fa : Addr) (h : Heap), YP w h → h.Ns mainGlobals mg → mg d.name = some (.ref fa) →
      ∃ (K : PySem.W.Frag) (fd : FuncData) (sp : Sp), K.In h ∧ (∀ (s : Shared) (u : Value), BindsTo s fd ⟨[u], []⟩ [(x, u)]) ∧
        (∀ (H : Hp) (a : Addr) (ns : List Int), ns.length ≤ n → (∀ z ∈ ns, Builtin.Int.intBits z ≤ 1048576) → Only H → SqL K H a (ns.map V.int) → sp [.ref a] H (fun v _ => v = .bl true) fun _ _ _ => False) ∧
        ∀ base : Heap, K.In base → base.Ns mainGlobals mg → FnOk l.prog w K mg base CX k fa fd [x] sp)
    (hCX : ∀ (H : Hp) (s : Shared) (e : Value) (s' : Shared), CX [] H s (fun _ _ _ => False) e s' → False) :
    PySem.W.WalkO q loose XP YP l.row.toRowW d [] (fun f vs => PySem.call f vs) := by
  refine Att.attach_callB hn hdf fun w s₀ s₁ mg mb fa o pm cd doc a vs ns G Y ho hd hcd hmg hobj hints hlen hbits hg => ?_
  obtain ⟨K, fd, sp, KX, hb, hsp, hF⟩ := F w mg fa _ Y G.T.g hmg
  exact law_call KX G.T.g G.T.b G.T.builtins G.T.nolimit hg hobj hints (Nat.le_trans hlen hn2) hr hF hb (fun H hO hS => hsp H a ns hlen hbits hO hS) fun H e s' => hCX H s₁ e s'
end L2
set_option Elab.async false
set_option linter.all false
set_option maxRecDepth 100000
set_option maxHeartbeats 2000000
set_option autoImplicit false
namespace Cy
open PySem L2
/-- a method of a class, by its mirror -/
structure Methd (P : Program) (w : World) (K : PySem.W.Frag) (mg : Str → Option Value) (base : Heap) (cA : Nat → Addr) (fN : Nat → List Str) (k c : Nat) (m : Str) (n : Nat) (fI : FI) : Prop where
  ne : NoErr fI
  nf : m ∉ fN c
  got : ∃ (f : Addr) (fd : FuncData) (ps : List Str), ps.length = n ∧ Cls K (cA c) ∧ Meth K (cA c) m f ∧ Binds K fd ps [] ∧ FnOk P w K mg base CX0 k f fd ps (spI ⟨K, cA, fN, P, w⟩ n fI)
/-- the methods of that name, class by class -/
def MTbl (P : Program) (w : World) (K : PySem.W.Frag) (mg : Str → Option Value) (base : Heap) (cA : Nat → Addr) (fN : Nat → List Str) (k : Nat) (m : Str) (n : Nat) (tbl : List (Nat × FI)) : Prop := ∀ c f, tbl.lookup c = some f → Methd P w K mg base cA fN k c m n f
theorem MTbl.nil {P : Program} {w : World} {K : PySem.W.Frag} {mg : Str → Option Value} {base : Heap} {cA : Nat → Addr} {fN : Nat → List Str} {k : Nat} {m : Str} {n : Nat} : MTbl P w K mg base cA fN k m n [] := fun _ _ h => by cases h
theorem MTbl.cons {P : Program} {w : World} {K : PySem.W.Frag} {mg : Str → Option Value} {base : Heap} {cA : Nat → Addr} {fN : Nat → List Str} {k c : Nat} {m : Str} {n : Nat} {f : FI} {tbl : List (Nat × FI)} (h : Methd P w K mg base cA fN k c m n f) (t : MTbl P w K mg base cA fN k m n tbl) : MTbl P w K mg base cA fN k m n ((c, f) :: tbl) := fun c2 f2 e => by
  have e' : (match c2 == c with | true => some f | false => tbl.lookup c2) = some f2 := e
  cases hc : c2 == c with
  | true =>
    rw [hc] at e'
    have e1 : f = f2 := Option.some.inj e'
    have e2 : c2 = c := eq_of_beq hc
    subst e1 e2
    exact h
  | false => rw [hc] at e'; exact t c2 f2 e'
end Cy
set_option Elab.async false
set_option linter.all false
set_option maxRecDepth 100000
set_option maxHeartbeats 2000000
set_option autoImplicit false
namespace Cy
open PySem L2
end Cy
namespace Cy
open PySem L2
end Cy
set_option Elab.async false
set_option linter.all false
set_option maxRecDepth 100000
set_option maxHeartbeats 2000000
set_option autoImplicit false
namespace PySem.W
open PySem PySem.Spec PySem.Calls PyProof.Rows
end PySem.W
namespace Cy
open PySem L2
/-- what the classes tell: one class u, or these -/
structure IsTb (K : PySem.W.Frag) (cA : Nat → Addr) (ask : Value → Option Bool) (nb : Option Bool) (tb : List (Nat × Bool)) : Prop where
  non : ∀ b, nb = some b → ask (.type "NoneType") = some b
  exn : ∀ c b, tb.lookup c = some b → ask (.ref (cA c)) = some b ∧ ExcC K (cA c)
end Cy
namespace Cy
open PySem L2
inductive Cn where
  | own (x : Str)
  | ty (n : String)
def Cn.val (K : PySem.W.Frag) : Cn → Value
  | .own x => .ref (He.ga K x)
  | .ty n => .type n
inductive Fx where
  | isa (x : Str) (ys : List Cn) (b : Bool)
  | isn (ys : List Cn) (b : Bool)
  | is1 (x : Str) (y : Cn) (b : Bool)
  | in1 (y : Cn) (b : Bool)
  | exC (x : Str)
  | xf (x f : Str)
  | oex (x : Str)
  | sup (x : Str)
  | ini (x c : Str)
  | inC (x : Str)
  | same (x y m : Str)
  | clsF (x m : Str)
/-- an exception class over ValueError whose objects have a dict -/
def oexB (K : PySem.W.Frag) (C : Addr) : Bool := match K.lookup C with
  | some ⟨.type "type", _, .cls cd, sl⟩ => (match cd.mro, sl.toList with
    | .ref C' :: bm, [_, _, _, _, some (.builtin n), _] => C' == C && (n == "ValueError.__new__" && (!cd.hasDel && (cd.hasDict && PySem.HandSPX.refsVE bm)))
    | _, _ => false)
  | _ => false
def supB (K : PySem.W.Frag) (B : Addr) : Bool := match PySem.W.findCls K (.ref B) (.type "type") "__init__" with
  | some (.val (.builtin n)) => n == "ValueError.__init__"
  | _ => false
def clsB (K : PySem.W.Frag) (B : Addr) (m : Str) : Bool := match PySem.W.findCls K (.ref B) (.type "type") m with
  | some (.val (.ref a)) => a == He.ma K B m
  | _ => false
def Fx.ok (K : PySem.W.Frag) : Fx → Bool
  | .isa x ys b => decide (PySem.W.kitAny K (.ref (He.ga K x)) (ys.map (Cn.val K)) = some b)
  | .isn ys b => decide (PySem.W.kitAny K (.type "NoneType") (ys.map (Cn.val K)) = some b)
  | .is1 x y b => decide (PySem.W.kitOne K (.ref (He.ga K x)) (y.val K) = some b)
  | .in1 y b => decide (PySem.W.kitOne K (.type "NoneType") (y.val K) = some b)
  | .exC x => (He.eqO (PySem.W.findIn K (.ref (He.ga K x)) "__getattribute__") (some (some (.builtin "BaseException.__getattribute__"))) && (He.eqO (PySem.W.findIn K (.ref (He.ga K x)) "__getattr__") (some none) && (decide (PySem.W.subIn K (.ref (He.ga K x)) (.type "BaseException") = some true) && PySem.W.hasDictIn K (He.ga K x)))) &&
      (He.eqO (PySem.W.findIn K (.ref (He.ga K x)) "__class__") (some (some (.builtin "object.__class__"))) && (He.eqO (PySem.W.specialIn K (.builtin "object.__class__") "__get__") (some (some (.builtin "getset_descriptor.__get__"))) && (decide (PySem.W.takesIn K (.builtin "object.__class__") = some true) && decide (PySem.W.mroIn K (He.ga K x) (.type "object") = some true))))
  | .xf x f => xfB K (He.ga K x) && He.eqO (PySem.W.findIn K (.ref (He.ga K x)) f) (some none)
  | .oex x => oexB K (He.ga K x) && (He.eqO (PySem.W.findIn K (.ref (He.ga K x)) "__setattr__") (some (some (.builtin "object.__setattr__"))) && (decide (PySem.W.subIn K (.ref (He.ga K x)) (.type "BaseException") = some true) && (decide (PySem.W.typeIn K (.ref (He.ga K x)) = some (.type "type")) && PySem.W.keepIn K (.ref (He.ga K x)))))
  | .sup x => PySem.W.readsIn K (He.ga K x) (.type "type") && (He.eqO (PySem.W.specialIn K (.ref (He.ga K x)) "__getattribute__") (some (some (.builtin "type.__getattribute__"))) && supB K (He.ga K x))
  | .ini x c => He.eqO (PySem.W.findIn K (.ref (He.ga K x)) "__init__") (some (some (.ref (He.fAd K (c, some "__init__"))))) && decide (PySem.W.typeIn K (.ref (He.fAd K (c, some "__init__"))) = some (.type "function"))
  | .inC x => He.eqO (PySem.W.findIn K (.ref (He.ga K x)) "__class__") (some (some (.builtin "object.__class__"))) && (He.eqO (PySem.W.specialIn K (.builtin "object.__class__") "__get__") (some (some (.builtin "getset_descriptor.__get__"))) && (decide (PySem.W.takesIn K (.builtin "object.__class__") = some true) && decide (PySem.W.mroIn K (He.ga K x) (.type "object") = some true)))
  | .same x y m => decide (He.ma K (He.ga K x) m = He.ma K (He.ga K y) m)
  | .clsF x m => PySem.W.readsIn K (He.ga K x) (.type "type") && (He.eqO (PySem.W.specialIn K (.ref (He.ga K x)) "__getattribute__") (some (some (.builtin "type.__getattribute__"))) && (clsB K (He.ga K x) m && PySem.W.keepIn K (.ref (He.ma K (He.ga K x) m))))
def SaysX (fa : List He.Fa) (fn : List He.DefD) (fx : List Fx) (K : PySem.W.Frag) : Prop := He.SaysD fa fn K ∧ (fx.all fun f => f.ok K) = true
def addA : List Addr → Nat → List Addr → (Nat → List Addr → List Addr) → List Addr
  | [], m, acc, k => k m acc
  | a :: as, m, acc, k => HandSHeadRun.frNat a fun a => match Nat.testBit m a with
    | true => addA as m acc k
    | false => HandSHeadRun.frNat (Nat.lor m (Nat.shiftLeft 1 a)) fun m => addA as m (a :: acc) k
def reachA (g : Addr → Option Obj) : Nat → List Addr → Nat → List Addr → List Addr
  | 0, new, _, old => old ++ new.reverse
  | n + 1, new, m, old => addA (new.reverse.flatMap fun a => match g a with
    | some o => He.refsD o
    | none => []) m [] fun m nw => reachA g n nw m (old ++ new.reverse)
def asX (g : Addr → Option Obj) (n : Nat) : List Addr := addA [cStatics, mainGlobals] 0 [] fun m nw => reachA g n nw m []
/-- the part, told out -/
def frO {β : Type} (o : Obj) (k : Obj → β) : β := match o with
  | ⟨c, d, dt, sl⟩ => k ⟨c, d, dt, sl⟩
def frK {β : Type} : PySem.W.Frag → (PySem.W.Frag → β) → β
  | [], k => k []
  | (a, o) :: r, k => HandSHeadRun.frNat a fun a => frO o fun o => frK r fun r => k ((a, o) :: r)
theorem frK_eq {β : Type} : ∀ (K : PySem.W.Frag) (k : PySem.W.Frag → β), frK K k = k K
  | [], k => rfl
  | (a, ⟨c, d, dt, sl⟩) :: r, k => by
    unfold frK
    rw [HandSHeadRun.frNat_eq]
    show frK r (fun r => k ((a, ⟨c, d, dt, sl⟩) :: r)) = _
    rw [frK_eq r]
def obsXG (n : Nat) (fa : List He.Fa) (fn : List He.DefD) (fx : List Fx) (g : Addr → Option Obj) : He.AlD × Bool := frK (He.frG g (asX g n)) fun K => (He.obsD fa fn K, fx.all fun f => f.ok K)
def hookX (n : Nat) (fa : List He.Fa) (fn : List He.DefD) (fx : List Fx) : PySem.W.Hook where
  α := He.AlD × Bool
  obs := fun s => obsXG n fa fn fx s.heap.get?
  val := fun _ => (He.valD fn, true)
  says := fun _ h => ∃ K : PySem.W.Frag, K.In h ∧ SaysX fa fn fx K
  of := fun _ _ e => by
    unfold obsXG at e
    rw [frK_eq] at e
    exact ⟨_, He.frG_in, congrArg Prod.fst e, congrArg Prod.snd e⟩
  keeps := fun _ _ _ ⟨K, hK, c⟩ k => ⟨K, PySem.W.Frag.In.keeps hK k, c⟩
theorem obsXG_eq {n : Nat} {fa : List He.Fa} {fn : List He.DefD} {fx : List Fx} {g : Addr → Option Obj} {s : Shared} (h : ∀ a, g a = s.heap.get? a) : obsXG n fa fn fx g = (hookX n fa fn fx).obs s := by
  have e : g = s.heap.get? := funext h
  rw [e] <;> rfl
section
variable {K : PySem.W.Frag} {cA : Nat → Addr} {ask : Value → Option Bool} {nb : Option Bool} {tb : List (Nat × Bool)}
theorem IsTb.nil (h : ∀ b, nb = some b → ask (.type "NoneType") = some b) : IsTb K cA ask nb [] := ⟨h, fun c b e => by cases e⟩
theorem IsTb.cons {c : Nat} {b : Bool} {C : Addr} (e : cA c = C) (h1 : ask (.ref C) = some b) (h2 : ExcC K C) (T : IsTb K cA ask nb tb) : IsTb K cA ask nb ((c, b) :: tb) := ⟨T.non, fun c' b' q => by
  rw [List.lookup_cons] at q
  by_cases z : c' = c
  · subst z
    rw [beq_self_eq_true] at q
    cases q
    rw [e]; exact ⟨h1, h2⟩
  · rw [show (c' == c) = false from by simp [z]] at q
    exact T.exn c' b' q⟩
end
end Cy
set_option Elab.async false
set_option linter.all false
set_option maxRecDepth 100000
set_option maxHeartbeats 2000000
set_option autoImplicit false
namespace L2
open PySem PySem.Spec PyProof.Rows
end L2
namespace L2
open PySem PySem.Spec PyProof.Rows
end L2
namespace Cy
open PySem L2
end Cy
namespace L2
open PySem PySem.Spec PyProof.Rows
end L2
namespace Cy
open PySem L2
structure FldX (G : Cfg) (f : Str) (tbl : List (Nat × Nat)) : Prop where
  ok : ∀ c j, tbl.lookup c = some j → XfC G.K (G.cA c) ∧ PySem.W.findIn G.K (.ref (G.cA c)) f = some none ∧ (G.fN c)[j]? = some f ∧ (G.fN c).Nodup
theorem FldX.nil {G : Cfg} {f : Str} : FldX G f [] := ⟨fun c j h => by cases h⟩
theorem FldX.cons {G : Cfg} {f : Str} {tbl : List (Nat × Nat)} {c j : Nat} {C : Addr} (eC : G.cA c = C) (h1 : XfC G.K C) (h2 : PySem.W.findIn G.K (.ref C) f = some none) (h3 : (G.fN c)[j]? = some f) (h4 : (G.fN c).Nodup) (t : FldX G f tbl) : FldX G f ((c, j) :: tbl) := ⟨fun c2 j2 h => by
  rw [List.lookup_cons] at h
  by_cases z : c2 = c
  · subst z
    rw [beq_self_eq_true] at h
    cases h
    rw [eC]; exact ⟨h1, h2, h3, h4⟩
  · rw [show (c2 == c) = false from by simp [z]] at h
    exact t.ok c2 j2 h⟩
end Cy
namespace Cy
open PySem L2
end Cy
set_option Elab.async false
set_option linter.all false
set_option maxRecDepth 100000
set_option maxHeartbeats 2000000
set_option autoImplicit false
namespace PySem
open Builtin Builtin.Str
end PySem
namespace PySem
open Builtin Builtin.Str
end PySem
namespace Cy
open PySem PySem.Spec PyProof.Rows L2
end Cy
set_option Elab.async false
set_option linter.all false
set_option maxRecDepth 100000
set_option maxHeartbeats 2000000
set_option autoImplicit false
namespace Cy
open PySem L2
end Cy
set_option Elab.async false
set_option linter.all false
set_option maxRecDepth 100000
set_option maxHeartbeats 2000000
set_option autoImplicit false
namespace Cy
open PySem L2
end Cy
set_option Elab.async false
set_option linter.all false
set_option maxRecDepth 100000
set_option maxHeartbeats 2000000
set_option autoImplicit false
namespace Cy
open PySem L2
end Cy
set_option Elab.async false
set_option linter.all false
set_option maxRecDepth 100000
set_option maxHeartbeats 2000000
set_option autoImplicit false
namespace Cy
open PySem L2
end Cy
set_option Elab.async false
set_option linter.all false
set_option maxRecDepth 100000
set_option maxHeartbeats 2000000
set_option autoImplicit false
namespace Cy
open PySem L2
end Cy
namespace Cy
open PySem L2
end Cy
namespace Cy
open PySem L2
end Cy
set_option Elab.async false
set_option linter.all false
set_option maxRecDepth 100000
set_option maxHeartbeats 2000000
set_option autoImplicit false
namespace Cy
open PySem L2
end Cy
namespace Cy
open PySem L2
end Cy
set_option Elab.async false
set_option linter.all false
set_option maxRecDepth 100000
set_option maxHeartbeats 2000000
set_option autoImplicit false
namespace Cy
open PySem L2
end Cy
set_option Elab.async false
set_option linter.all false
set_option maxRecDepth 100000
set_option maxHeartbeats 2000000
set_option autoImplicit false
namespace Cy
open PySem L2
end Cy
set_option Elab.async false
set_option linter.all false
set_option maxRecDepth 100000
set_option maxHeartbeats 2000000
set_option autoImplicit false
namespace Cy
open PySem L2
end Cy
set_option Elab.async false
set_option linter.all false
set_option maxRecDepth 100000
set_option maxHeartbeats 2000000
set_option autoImplicit false
namespace Cy
open PySem L2
end Cy
set_option Elab.async false
set_option linter.all false
set_option maxRecDepth 100000
set_option maxHeartbeats 2000000
set_option autoImplicit false
namespace Cy
open PySem L2
end Cy
set_option Elab.async false
set_option linter.all false
set_option maxRecDepth 100000
set_option maxHeartbeats 2000000
set_option autoImplicit false
namespace Cy
open PySem L2
end Cy
set_option Elab.async false
set_option linter.all false
set_option maxRecDepth 100000
set_option maxHeartbeats 2000000
set_option autoImplicit false
namespace Cy
open PySem L2
end Cy
set_option Elab.async false
set_option linter.all false
set_option maxRecDepth 100000
set_option maxHeartbeats 2000000
set_option autoImplicit false
namespace Cy
open PySem L2
end Cy
namespace Cy
open PySem L2
end Cy
set_option Elab.async false
set_option linter.all false
set_option maxRecDepth 100000
set_option maxHeartbeats 2000000
set_option autoImplicit false
namespace Cy
open PySem L2
end Cy
namespace Cy
open PySem L2
end Cy
set_option Elab.async false
set_option linter.all false
set_option maxRecDepth 100000
set_option maxHeartbeats 2000000
set_option autoImplicit false
namespace Cy
open PySem L2
end Cy
namespace Cy
open PySem L2
end Cy
namespace Cy
open PySem L2
end Cy
namespace Cy
open PySem L2
end Cy
namespace Cy
open PySem L2
end Cy
set_option Elab.async false
set_option linter.all false
set_option maxRecDepth 100000
set_option maxHeartbeats 2000000
set_option autoImplicit false
namespace Cy
open PySem L2
end Cy
set_option Elab.async false
set_option linter.all false
set_option maxRecDepth 100000
set_option autoImplicit false
set_option Elab.async false
set_option linter.all false
set_option maxRecDepth 100000
set_option maxHeartbeats 4000000
set_option autoImplicit false
set_option Elab.async false
set_option linter.all false
set_option maxRecDepth 100000
set_option maxHeartbeats 4000000
set_option autoImplicit false
set_option Elab.async false
set_option linter.all false
set_option maxRecDepth 100000
set_option maxHeartbeats 0
set_option autoImplicit false
namespace Pf
open PySem PySem.Spec PyProof.Rows L2 Cy
def topS (i : Nat) : Stmt := PySem.Challenge.pw_curveyard_k09_texts_refused.main.body.getD i (.Pass ⟨0, 0, 0, 0⟩)
def clsS (i j : Nat) : Stmt := match topS i with | .ClassDef _ _ _ b _ _ _ _ _ _ _ => b.getD j (.Pass ⟨0, 0, 0, 0⟩) | s => s
abbrev s_p_turned : Stmt := topS 3
abbrev s_p_still : Stmt := topS 4
abbrev s_p_after : Stmt := topS 5
abbrev s_p_turn_of : Stmt := topS 6
abbrev s_p_corner_of : Stmt := topS 7
abbrev s_p_Part_init : Stmt := clsS 9 0
abbrev s_p_Curve_init : Stmt := clsS 10 0
abbrev s_p_is_of : Stmt := topS 22
abbrev s_p_axis_between : Stmt := topS 25
abbrev s_p_touches : Stmt := topS 26
abbrev s_L_mix : Stmt := topS 36
abbrev s_L_turned : Stmt := topS 37
abbrev s_L_after : Stmt := topS 38
abbrev s_L_undone : Stmt := topS 39
abbrev s_L_turn : Stmt := topS 40
abbrev s_L_base : Stmt := topS 41
abbrev s_L_corners : Stmt := topS 43
abbrev s_L_rows : Stmt := topS 45
abbrev s_L_bad_head : Stmt := topS 46
abbrev s_L_bad_part : Stmt := topS 47
abbrev s_L_second : Stmt := topS 49
abbrev s_L_refused : Stmt := topS 51
abbrev s_p_first_state : Stmt := topS 11
abbrev s_p_part_at : Stmt := topS 12
abbrev s_p_is_word : Stmt := topS 23
abbrev s_L_joined : Stmt := topS 42
abbrev s_L_loose : Stmt := topS 44
abbrev s_L_faulty : Stmt := topS 48
abbrev s_p_unmet_at : Stmt := topS 27
abbrev s_p_head_of : Stmt := topS 30
abbrev s_p_part_of : Stmt := topS 31
abbrev s_p_meeting_of : Stmt := topS 28
abbrev s_p_curve_from : Stmt := topS 32
abbrev s_p_fitted : Stmt := topS 33
abbrev s_p_curve_of : Stmt := topS 34
abbrev s_L_caught : Stmt := topS 50
abbrev s_L_law : Stmt := topS 52
abbrev s_p_TextError_init : Stmt := clsS 17 0
abbrev s_p_Unmet_init : Stmt := clsS 16 0
abbrev fn : List He.DefD := [⟨("turned", none), "turned", "turned", defArgs s_p_turned, defBody s_p_turned, defScope s_p_turned, [], []⟩,
  ⟨("still", none), "still", "still", defArgs s_p_still, defBody s_p_still, defScope s_p_still, [], []⟩,
  ⟨("after", none), "after", "after", defArgs s_p_after, defBody s_p_after, defScope s_p_after, [], []⟩,
  ⟨("turn_of", none), "turn_of", "turn_of", defArgs s_p_turn_of, defBody s_p_turn_of, defScope s_p_turn_of, [], []⟩,
  ⟨("corner_of", none), "corner_of", "corner_of", defArgs s_p_corner_of, defBody s_p_corner_of, defScope s_p_corner_of, [], []⟩,
  ⟨("Part", some "__init__"), "__init__", "Part.__init__", defArgs s_p_Part_init, defBody s_p_Part_init, defScope s_p_Part_init, [], []⟩,
  ⟨("Curve", some "__init__"), "__init__", "Curve.__init__", defArgs s_p_Curve_init, defBody s_p_Curve_init, defScope s_p_Curve_init, [], []⟩,
  ⟨("is_of", none), "is_of", "is_of", defArgs s_p_is_of, defBody s_p_is_of, defScope s_p_is_of, [], []⟩,
  ⟨("axis_between", none), "axis_between", "axis_between", defArgs s_p_axis_between, defBody s_p_axis_between, defScope s_p_axis_between, [], []⟩,
  ⟨("touches", none), "touches", "touches", defArgs s_p_touches, defBody s_p_touches, defScope s_p_touches, [], []⟩,
  ⟨("_law_mix", none), "_law_mix", "_law_mix", defArgs s_L_mix, defBody s_L_mix, defScope s_L_mix, [], []⟩,
  ⟨("_law_turned", none), "_law_turned", "_law_turned", defArgs s_L_turned, defBody s_L_turned, defScope s_L_turned, [], []⟩,
  ⟨("_law_after", none), "_law_after", "_law_after", defArgs s_L_after, defBody s_L_after, defScope s_L_after, [], []⟩,
  ⟨("_law_undone", none), "_law_undone", "_law_undone", defArgs s_L_undone, defBody s_L_undone, defScope s_L_undone, [], []⟩,
  ⟨("_law_turn", none), "_law_turn", "_law_turn", defArgs s_L_turn, defBody s_L_turn, defScope s_L_turn, [], []⟩,
  ⟨("_law_base", none), "_law_base", "_law_base", defArgs s_L_base, defBody s_L_base, defScope s_L_base, [], []⟩,
  ⟨("_law_corners", none), "_law_corners", "_law_corners", defArgs s_L_corners, defBody s_L_corners, defScope s_L_corners, [], []⟩,
  ⟨("_law_rows", none), "_law_rows", "_law_rows", defArgs s_L_rows, defBody s_L_rows, defScope s_L_rows, [], []⟩,
  ⟨("_law_bad_head", none), "_law_bad_head", "_law_bad_head", defArgs s_L_bad_head, defBody s_L_bad_head, defScope s_L_bad_head, [], []⟩,
  ⟨("_law_bad_part", none), "_law_bad_part", "_law_bad_part", defArgs s_L_bad_part, defBody s_L_bad_part, defScope s_L_bad_part, [], []⟩,
  ⟨("_law_second", none), "_law_second", "_law_second", defArgs s_L_second, defBody s_L_second, defScope s_L_second, [], []⟩,
  ⟨("_law_refused", none), "_law_refused", "_law_refused", defArgs s_L_refused, defBody s_L_refused, defScope s_L_refused, [], []⟩,
  ⟨("first_state", none), "first_state", "first_state", defArgs s_p_first_state, defBody s_p_first_state, defScope s_p_first_state, [], []⟩,
  ⟨("part_at", none), "part_at", "part_at", defArgs s_p_part_at, defBody s_p_part_at, defScope s_p_part_at, [], []⟩,
  ⟨("is_word", none), "is_word", "is_word", defArgs s_p_is_word, defBody s_p_is_word, defScope s_p_is_word, [], []⟩,
  ⟨("_law_joined", none), "_law_joined", "_law_joined", defArgs s_L_joined, defBody s_L_joined, defScope s_L_joined, [], []⟩,
  ⟨("_law_loose", none), "_law_loose", "_law_loose", defArgs s_L_loose, defBody s_L_loose, defScope s_L_loose, [], []⟩,
  ⟨("_law_faulty", none), "_law_faulty", "_law_faulty", defArgs s_L_faulty, defBody s_L_faulty, defScope s_L_faulty, [], []⟩,
  ⟨("unmet_at", none), "unmet_at", "unmet_at", defArgs s_p_unmet_at, defBody s_p_unmet_at, defScope s_p_unmet_at, [], []⟩,
  ⟨("head_of", none), "head_of", "head_of", defArgs s_p_head_of, defBody s_p_head_of, defScope s_p_head_of, [], []⟩,
  ⟨("part_of", none), "part_of", "part_of", defArgs s_p_part_of, defBody s_p_part_of, defScope s_p_part_of, [], []⟩,
  ⟨("meeting_of", none), "meeting_of", "meeting_of", defArgs s_p_meeting_of, defBody s_p_meeting_of, defScope s_p_meeting_of, [], []⟩,
  ⟨("curve_from", none), "curve_from", "curve_from", defArgs s_p_curve_from, defBody s_p_curve_from, defScope s_p_curve_from, [], []⟩,
  ⟨("fitted", none), "fitted", "fitted", defArgs s_p_fitted, defBody s_p_fitted, defScope s_p_fitted, [], []⟩,
  ⟨("curve_of", none), "curve_of", "curve_of", defArgs s_p_curve_of, defBody s_p_curve_of, defScope s_p_curve_of, [], []⟩,
  ⟨("_law_caught", none), "_law_caught", "_law_caught", defArgs s_L_caught, defBody s_L_caught, defScope s_L_caught, [], []⟩,
  ⟨("law", none), "law", "law", defArgs s_L_law, defBody s_L_law, defScope s_L_law, [], []⟩,
  ⟨("TextError", some "__init__"), "__init__", "TextError.__init__", defArgs s_p_TextError_init, defBody s_p_TextError_init, defScope s_p_TextError_init, [], []⟩,
  ⟨("Unmet", some "__init__"), "__init__", "Unmet.__init__", defArgs s_p_Unmet_init, defBody s_p_Unmet_init, defScope s_p_Unmet_init, [], []⟩]
abbrev fa : List He.Fa := [.free "tuple", .free "range", .str "AXES" "xyz", .str "SIGNS" "+-", .free "len", .free "int", .free "list", .str "LETTERS" "abcdefghijklmnopqrstuvwxyz", .glo "BadRow", .glo "CornerTwice", .glo "Unmet", .free "reversed", .free "str", .exm "Unmet" "YardError" true, .exm "CornerTwice" "YardError" true, .exm "BadRow" "YardError" true, .glo "YardError", .free "isinstance", .free "bool", .glo "OffFloor", .glo "TextError", .free "ValueError", .glo "turned", .glo "still", .glo "after", .glo "turn_of", .glo "corner_of", .glo "Part", .glo "Curve", .glo "is_of", .glo "axis_between", .glo "touches", .glo "_law_mix", .glo "_law_turned", .glo "_law_after", .glo "_law_undone", .glo "_law_turn", .glo "_law_base", .glo "_law_corners", .glo "_law_rows", .glo "_law_bad_head", .glo "_law_bad_part", .glo "_law_second", .glo "_law_refused", .glo "first_state", .glo "part_at", .glo "is_word", .glo "_law_joined", .glo "_law_loose", .glo "_law_faulty", .glo "unmet_at", .glo "head_of", .glo "part_of", .glo "meeting_of", .glo "curve_from", .glo "fitted", .glo "curve_of", .glo "_law_caught", .glo "law", .mkr "Part", .mkr "Curve", .cls "Part", .noat "Part" "back", .noat "Part" "turn", .noat "Part" "corner", .cls "Curve", .noat "Curve" "parts", .noat "Curve" "joined", .noat "Curve" "dims", .noat "Curve" "name"]
abbrev fx : List Fx := [.xf "BadRow" "row", .oex "BadRow", .ini "BadRow" "TextError", .xf "CornerTwice" "row", .oex "CornerTwice", .ini "CornerTwice" "TextError", .xf "Unmet" "level", .xf "Unmet" "second", .xf "Unmet" "first", .oex "Unmet", .ini "Unmet" "Unmet", .in1 (.own "CornerTwice") false, .is1 "Unmet" (.own "CornerTwice") false, .exC "Unmet", .is1 "CornerTwice" (.own "CornerTwice") true, .exC "CornerTwice", .is1 "BadRow" (.own "CornerTwice") false, .exC "BadRow", .isn [.own "OffFloor", .own "Unmet"] false, .isa "Unmet" [.own "OffFloor", .own "Unmet"] true, .isa "CornerTwice" [.own "OffFloor", .own "Unmet"] false, .isa "BadRow" [.own "OffFloor", .own "Unmet"] false, .in1 (.own "BadRow") false, .is1 "Unmet" (.own "BadRow") false, .is1 "CornerTwice" (.own "BadRow") false, .is1 "BadRow" (.own "BadRow") true, .in1 (.own "TextError") false, .is1 "Unmet" (.own "TextError") false, .is1 "CornerTwice" (.own "TextError") true, .is1 "BadRow" (.own "TextError") true, .in1 (.ty "ValueError") false, .is1 "Unmet" (.ty "ValueError") true, .is1 "CornerTwice" (.ty "ValueError") true, .is1 "BadRow" (.ty "ValueError") true, .sup "YardError"]
def cA (K : PySem.W.Frag) : Nat → Addr
  | 0 => He.ga K "Part"
  | 1 => He.ga K "Curve"
  | 2 => He.ga K "YardError"
  | 3 => He.ga K "OffFloor"
  | 4 => He.ga K "Unmet"
  | 5 => He.ga K "TextError"
  | 6 => He.ga K "BadRow"
  | 7 => He.ga K "CornerTwice"
  | _ => 0
def fN : Nat → List Str
  | 0 => ["corner", "turn", "back"]
  | 1 => ["name", "dims", "joined", "parts"]
  | 2 => []
  | 3 => []
  | 4 => ["level", "second", "first"]
  | 5 => ["row"]
  | 6 => ["row"]
  | 7 => ["row"]
  | _ => []
def loose0 : List PySem.Str := ["AXES", "SIGNS", "turned", "still", "after", "turn_of", "corner_of", "Part", "Curve", "first_state", "part_at", "YardError", "OffFloor", "Unmet", "TextError", "BadRow", "CornerTwice", "LETTERS", "is_of", "is_word", "axis_between", "touches", "unmet_at", "meeting_of"]
def loose1 : List PySem.Str := ["head_of", "part_of", "curve_from", "fitted", "curve_of", "_law_mix", "_law_turned", "_law_after", "_law_undone", "_law_turn", "_law_base", "_law_joined", "_law_corners", "_law_loose", "_law_rows", "_law_bad_head", "_law_bad_part", "_law_faulty", "_law_second", "_law_caught", "_law_refused"]
abbrev looseN : List PySem.Str := loose0 ++ loose1
abbrev R : PySem.W.OpenRow := PySem.W.OpenLaw.row PySem.Challenge.rw_curveyard_k09_texts_refused
abbrev hk : PySem.W.Hook := Cy.hookX 4 fa fn fx
def ob (s : PySem.W.SharedT) : He.AlD × Bool := Cy.obsXG 4 fa fn fx (HandSHeadRun.getT s)
theorem ob_eq (s : PySem.W.SharedT) : ob s = hk.obs s.abs := Cy.obsXG_eq (HandSHeadRun.getT_eq s)
theorem run (w : World) : HandSHeadRun.RunEq R (PySem.W.view R.prog [52]) hk ob 12180 looseN w := by
  intro os
  kernel_rfl
end Pf
namespace Pf
open PySem PySem.Spec PyProof.Rows L2 Cy
open PySem PySem.W PySem.Calls PyProof.Rows
theorem top_ (J : Cy.FI) (hA : ∀ (w : World) (K : PySem.W.Frag) (hp : Heap) (mg : Str → Option Value), K.In hp → hp.Ns mainGlobals mg → He.SaysD fa fn K → (fx.all fun f => f.ok K) = true → ∃ fd : FuncData, (∀ (s : Shared) (v : Value), BindsTo s fd ⟨[v], []⟩ [("_law_script", v)]) ∧ ∀ base : Heap, FnOk PySem.Challenge.rw_curveyard_k09_texts_refused.prog w K mg base CX0 8 (He.fAd K ("law", none)) fd ["_law_script"] (spI ⟨K, cA K, fN, PySem.Challenge.rw_curveyard_k09_texts_refused.prog, w⟩ 1 J)) (hq : ∀ ns : List Int, ns.length ≤ 63 → (∀ z ∈ ns, PySem.Builtin.Int.intBits z ≤ 1048576) → ∃ S', J [.frl (ns.map .int)] [] = .ok (.va (.bl true)) S') : PySem.Challenge.rw_curveyard_k09_texts_refused.Holds := by
  w_on; o_law
  refine HandSHeadRun.head_any (r := OpenLaw.row PySem.Challenge.rw_curveyard_k09_texts_refused) (q := view (OpenLaw.row PySem.Challenge.rw_curveyard_k09_texts_refused).prog [52]) (H := Pf.hk) (ob := Pf.ob) (M := 12180) (loose := Pf.looseN) (d := HandSHeadRun.topDef (OpenLaw.row PySem.Challenge.rw_curveyard_k09_texts_refused).prog 52) (kwd := []) Pf.ob_eq
    (by kernel_rfl) (fun s => by kernel_rfl) Pf.run (by kernel_rfl) (by kernel_rfl) (by kernel_rfl) (by rfl) (by first | assumption | decide +kernel) (by decide +kernel) ⟨rfl, rfl, rfl, rfl, rfl, by decide +kernel⟩ ?hw ?hc
  case hw => w_witness2
  case hc =>
    refine L2.walk_ofEB (l := PySem.Challenge.rw_curveyard_k09_texts_refused) (n := 63) (k := 8) (x := "_law_script") (CX := L2.CX0) rfl (by decide) (by kernel_rfl) ⟨rfl, by decide, by decide⟩ ?F (fun _ _ _ _ z => z)
    intro w mg fa h Y G hmg0
    obtain ⟨K, KX, c⟩ := Y
    have hmg : mg ("law" : PySem.Str) = some (.ref fa) := by
      have e : (HandSHeadRun.topDef (OpenLaw.row PySem.Challenge.rw_curveyard_k09_texts_refused).prog 52).name = ("law" : PySem.Str) := by kernel_rfl
      rw [← e]
      exact hmg0
    obtain ⟨fd, hb, hF⟩ := hA w K h mg KX G c.1 c.2
    have e := hmg.symm.trans (He.glo_ok KX G (c.1.fact 58))
    cases e
    exact ⟨K, fd, Cy.spI ⟨K, Pf.cA K, Pf.fN, (PySem.Challenge.rw_curveyard_k09_texts_refused).prog, w⟩ 1 J, KX, hb, fun H a ns hl hb hO hS => Cy.law_sp hO hS (hq ns hl hb), fun base _ _ => hF base⟩
end Pf
open PySem PySem.W PySem.Calls PyProof.Rows
end
set_option Elab.async false
set_option linter.all false
set_option maxRecDepth 100000
set_option maxHeartbeats 2000000
set_option autoImplicit false
namespace Cy
open PySem L2
mutual
def D.und (n : Nat) : D → Bool
  | .tup ds => D.unds n ds
  | .frl ds => D.unds n ds
  | .obj _ ds => D.unds n ds
  | .exn _ ds => D.unds n ds
  | .ref m => decide (m < n)
  | _ => true
def D.unds (n : Nat) : List D → Bool
  | [] => true
  | d :: r => D.und n d && D.unds n r
end
def Ob.und (n : Nat) : Ob → Bool
  | .lst ds => D.unds n ds
  | .dct kvs => D.unds n (kvs.map (·.2))
  | .ins _ ds => D.unds n ds
  | .lck kvs => D.unds n (kvs.map (·.2))
theorem Ext.refl (r : List Addr) (H : Hp) : Ext r H r H := ⟨⟨⟨[], by simp⟩, fun _ _ h n => ⟨h, n⟩, fun _ o h => ⟨o, h⟩⟩, fun _ _ _ h => h⟩
/-- only new objects -/
theorem Ext.new {r : List Addr} {H : Hp} {p : Addr} {o : HO} (h : H p = none) : Ext r H r (upd H p o) := by
  refine ⟨⟨⟨[], by simp⟩, fun a u e n => ⟨?_, n⟩, fun a u e => ⟨u, ?_⟩⟩, fun a o' u e => ?_⟩
  · rw [upd_ne (ne_of_none e h)]; exact e
  · rw [upd_ne (ne_of_none e h)]; exact e
  · rw [upd_ne (ne_of_none e h)]; exact e
/-- an object of the store is written -/
theorem Exw.wr {r : List Addr} {H : Hp} {p : Addr} {o : HO} (h : p ∈ r) : Exw r H r (upd H p o) := by
  refine ⟨⟨[], by simp⟩, fun a u e n => ⟨?_, n⟩, fun a u e => ?_⟩
  · rw [upd_ne (fun z => n (by rw [z]; exact h))]; exact e
  · by_cases z : a = p
    · rw [z]; exact ⟨o, upd_same⟩
    · rw [upd_ne z]; exact ⟨u, e⟩
theorem Ext.wr {r : List Addr} {H : Hp} {p : Addr} {o u : HO} (h : p ∈ r) (hu : H p = some u) (mu : Mut (some u)) : Ext r H r (upd H p o) := ⟨Exw.wr h, fun a o' v e => by
  by_cases z : a = p
  · rw [z, hu] at e
    exact absurd (Option.some.inj e) (Lse.mut mu o' v)
  · rw [upd_ne z]; exact e⟩
section
variable {G : Cfg} {r r1 : List Addr} {H H1 : Hp}
theorem eq_of_pre {r l : List Addr} {n : Nat} {a : Addr} (h : (r ++ l)[n]? = some a) (hn : n < r.length) : r[n]? = some a := by
  rw [List.getElem?_append_left hn] at h
  exact h
mutual
/-- what speaks of the old part of the store alone -/
theorem Rep.cut {l : List Addr} : ∀ {v : V} {d : D}, Rep G (r ++ l) H v d → d.und r.length = true → Rep G r H v d
  | _, _, .non, _ => .non
  | _, _, .bl b, _ => .bl b
  | _, _, .int i, _ => .int i
  | _, _, .str x, _ => .str x
  | _, _, .tup h na q, u => .tup h (fun z => na (List.mem_append_left _ z)) (Reps.cut q (by simpa [D.und] using u))
  | _, _, .frl h q, u => .frl (h.elim (fun ⟨h, na⟩ => .inl ⟨h, fun z => na (List.mem_append_left _ z)⟩) .inr) (Reps.cut q (by simpa [D.und] using u))
  | _, _, .obj h na hf q, u => .obj h (fun z => na (List.mem_append_left _ z)) hf (Reps.cut q (by simpa [D.und] using u))
  | _, _, .exn0 h na x, _ => .exn0 h (fun z => na (List.mem_append_left _ z)) x
  | _, _, .exnF h na x hd nd hf q, u => .exnF h (fun z => na (List.mem_append_left _ z)) x hd (fun z => nd (List.mem_append_left _ z)) hf (Reps.cut q (by simpa [D.und] using u))
  | _, _, .ref h, u => .ref (eq_of_pre h (by simpa [D.und] using u))
theorem Reps.cut {l : List Addr} : ∀ {vs : List V} {ds : List D}, Reps G (r ++ l) H vs ds → D.unds r.length ds = true → Reps G r H vs ds
  | _, _, .nil, _ => .nil
  | _, _, .cons h t, u => by
    have u' := Bool.and_eq_true_iff.mp (by simpa only [D.unds] using u)
    exact .cons (Rep.cut h u'.1) (Reps.cut t u'.2)
end
mutual
theorem Rep.und : ∀ {v : V} {d : D}, Rep G r H v d → d.und r.length = true
  | _, _, .non => rfl
  | _, _, .bl b => rfl
  | _, _, .int i => rfl
  | _, _, .str x => rfl
  | _, _, .tup h na q => by simpa only [D.und] using Reps.und q
  | _, _, .frl h q => by simpa only [D.und] using Reps.und q
  | _, _, .obj h na hf q => by simpa only [D.und] using Reps.und q
  | _, _, .exn0 h na x => rfl
  | _, _, .exnF h na x hd nd hf q => by simpa only [D.und] using Reps.und q
  | _, _, .ref h => by simpa only [D.und, decide_eq_true_eq] using (List.getElem?_eq_some_iff.mp h).1
theorem Reps.und : ∀ {vs : List V} {ds : List D}, Reps G r H vs ds → D.unds r.length ds = true
  | _, _, .nil => rfl
  | _, _, .cons h t => by simp only [D.unds, Rep.und h, Reps.und t, Bool.and_self]
end
theorem Reps.get : ∀ {vs : List V} {ds : List D}, Reps G r H vs ds → ∀ {i : Nat} {d : D}, ds[i]? = some d → ∃ v, vs[i]? = some v ∧ Rep G r H v d
  | _, _, .nil, i, d, h => by simp at h
  | _, _, .cons h t, 0, d, e => by simp at e; subst e; exact ⟨_, rfl, h⟩
  | _, _, .cons h t, i + 1, d, e => by
    obtain ⟨v, e1, e2⟩ := Reps.get t (i := i) (d := d) (by simpa using e)
    exact ⟨v, by simpa using e1, e2⟩
theorem Reps.drop {vs : List V} {ds : List D} (n : Nat) (a : Reps G r H vs ds) : Reps G r H (vs.drop n) (ds.drop n) := by
  induction vs generalizing ds n with
  | nil => cases a; simp; exact .nil
  | cons v vs ih =>
    cases a with
    | cons h t =>
      cases n with
      | zero => exact .cons h t
      | succ n => exact ih n t
theorem Reps.eraseIdx {vs : List V} {ds : List D} (n : Nat) (a : Reps G r H vs ds) : Reps G r H (vs.eraseIdx n) (ds.eraseIdx n) := by
  induction vs generalizing ds n with
  | nil => cases a; exact .nil
  | cons w vs ih =>
    cases a with
    | cons h t =>
      cases n with
      | zero => exact t
      | succ n => exact .cons h (ih n t)
mutual
theorem keyN_und (n : Nat) : ∀ {d : D} {k : NestedKey}, keyN d = some k → d.und n = true
  | .non, _, _ => rfl
  | .bl _, _, _ => rfl
  | .int _, _, _ => rfl
  | .str _, _, _ => rfl
  | .tup ds, k, h => by
    unfold keyN at h
    obtain ⟨ks, h1, _⟩ := Option.map_eq_some_iff.mp h
    unfold D.und
    exact keysN_und n h1
  | .frl _, _, h => by unfold keyN at h; cases h
  | .obj _ _, _, h => by unfold keyN at h; cases h
  | .ref _, _, h => by unfold keyN at h; cases h
theorem keysN_und (n : Nat) : ∀ {ds : List D} {ks : List NestedKey}, keysN ds = some ks → D.unds n ds = true
  | [], _, _ => rfl
  | d :: r, ks, h => by
    unfold keysN at h
    obtain ⟨k, h1, h2⟩ := Option.bind_eq_some_iff.mp h
    obtain ⟨ks', h3, _⟩ := Option.map_eq_some_iff.mp h2
    unfold D.unds
    rw [keyN_und n h1, keysN_und n h3]
    rfl
end
theorem keys_und (n : Nat) : ∀ {kvs : List (D × D)} {rows : List (NestedKey × Addr × V)}, kvs.map (fun kv => keyN kv.1) = rows.map (fun x => some x.1) → D.unds n (kvs.map (·.1)) = true
  | [], _, _ => rfl
  | kv :: kvs, [], h => by simp at h
  | kv :: kvs, x :: rows, h => by
    simp only [List.map_cons, List.cons.injEq] at h
    show (kv.1.und n && D.unds n (kvs.map (·.1))) = true
    rw [keyN_und n h.1, keys_und n h.2]; rfl
theorem ObAt.dmut {a : Addr} {kvs : List (D × D)} (h : ObAt G r H a (.dct kvs)) : ∃ u, H a = some u ∧ Mut (some u) := by
  rcases h with ⟨ws, h, _⟩ | ⟨_, rows, h, _⟩
  · exact ⟨_, h, trivial⟩
  · exact ⟨_, h, trivial⟩
theorem ObAt.cut {a : Addr} {l : List Addr} {o : Ob} (h : ObAt G (r ++ l) H a o) (u : o.und r.length = true) : ObAt G r H a o := by
  cases o with
  | lst ds => obtain ⟨vs, h, q⟩ := h; exact ⟨vs, h, q.cut u⟩
  | dct kvs =>
    rcases h with ⟨ws, h, q, p, n⟩ | ⟨z, rows, h, q, y, p, p2, n⟩
    · exact .inl ⟨ws, h, q, p.cut u, n⟩
    · exact .inr ⟨z, rows, h, q, y, p.cut (keys_und _ q), p2.cut u, n⟩
  | ins c ds => obtain ⟨dx, fs, h, q, p⟩ := h; exact ⟨dx, fs, h, q, p.cut u⟩
  | lck kvs => obtain ⟨o, ws, h, q, p, n⟩ := h; exact ⟨o, ws, h, q, p.cut u, n⟩
theorem ObAt.und {a : Addr} {o : Ob} (h : ObAt G r H a o) : o.und r.length = true := by
  cases o with
  | lst ds => obtain ⟨vs, h, q⟩ := h; exact q.und
  | dct kvs =>
    rcases h with ⟨ws, h, q, p, n⟩ | ⟨z, rows, h, q, y, p, p2, n⟩
    · exact p.und
    · exact p2.und
  | ins c ds => obtain ⟨dx, fs, h, q, p⟩ := h; exact p.und
  | lck kvs => obtain ⟨o, ws, h, q, p, n⟩ := h; exact p.und
variable {S : Sto}
/-- a place of the store, its object -/
theorem Sim.get (s : Sim G r H S) {v : V} {n : Nat} {o : Ob} (h : Rep G r H v (.ref n)) (e : S[n]? = some o) : ∃ a, v = .ref a ∧ r[n]? = some a ∧ ObAt G r H a o := by
  cases h with
  | ref h => exact ⟨_, rfl, h, s.at_ n _ o h e⟩
theorem Sim.und (s : Sim G r H S) : ∀ o ∈ S, o.und S.length = true := fun o ho => by
  obtain ⟨n, hn⟩ := List.mem_iff_getElem?.mp ho
  have hl : n < r.length := by rw [s.len]; exact (List.getElem?_eq_some_iff.mp hn).1
  have := (s.at_ n r[n] o (List.getElem?_eq_getElem hl) hn).und
  rw [s.len] at this
  exact this
/-- an object of the store is written -/
theorem Sim.wr (s : Sim G r H S) {n : Nat} {a : Addr} {u : HO} {o : Ob} (ha : r[n]? = some a) (h : ObAt G r (upd H a u) a o) : Sim G r (upd H a u) (S.set n o) := by
  have hm : a ∈ r := List.mem_of_getElem? ha
  refine ⟨by rw [List.length_set]; exact s.len, s.nd, fun m b p h1 h2 => ?_⟩
  by_cases e : m = n
  · subst e
    rw [ha] at h1
    cases h1
    rw [List.getElem?_set_self (by rw [← s.len]; exact (List.getElem?_eq_some_iff.mp ha).1)] at h2
    cases h2
    exact h
  · rw [List.getElem?_set_ne (fun z => e z.symm)] at h2
    have hb : b ≠ a := fun z => by
      subst z
      exact e (nodup_at s.nd h1 ha)
    exact (s.at_ m b p h1 h2).exw (Exw.wr hm) (upd_ne hb)
where
  nodup_at {l : List Addr} (h : l.Nodup) {i j : Nat} {x : Addr} (a : l[i]? = some x) (b : l[j]? = some x) : i = j := by
    obtain ⟨h1, e1⟩ := List.getElem?_eq_some_iff.mp a
    obtain ⟨h2, e2⟩ := List.getElem?_eq_some_iff.mp b
    exact (List.getElem_inj h).mp (e1.trans e2.symm)
end
end Cy
set_option Elab.async false
set_option linter.all false
set_option maxRecDepth 100000
set_option maxHeartbeats 2000000
set_option autoImplicit false
namespace Cy
open PySem L2
theorem Rs.bind_assoc {α β γ : Type} (m : Rs α) (k : α → Sto → Rs β) (l : β → Sto → Rs γ) : (m.bind k).bind l = m.bind fun a S => (k a S).bind l := by
  cases m <;> rfl
abbrev BX := Env → Sto → Rs Bool
section
variable {G : Cfg} {r r1 : List Addr} {H H1 : Hp} {σ : L2.St} {env : Env}
/-- slots forgotten -/
def kill : List Nat → Env → Env
  | [], env => env
  | i :: is, env => (kill is env).set i none
theorem EnvR.forget {i : Nat} (h : EnvR G r H σ env) : EnvR G r H σ (env.set i none) := by
  refine ⟨by rw [List.length_set]; exact h.len, fun j x e => ?_⟩
  by_cases hj : j = i
  · subst hj
    by_cases hl : j < env.length
    · rw [List.getElem?_set_self hl] at e
      cases e
    · rw [List.getElem?_eq_none (by rw [List.length_set]; omega)] at e
      cases e
  · rw [List.getElem?_set_ne (fun z => hj z.symm)] at e
    exact h.at_ j x e
theorem EnvR.kill (h : EnvR G r H σ env) : ∀ is : List Nat, EnvR G r H σ (kill is env)
  | [] => h
  | i :: is => (EnvR.kill h is).forget
theorem kill_wipe (h : EnvR G r H σ env) : ∀ is : List Nat, EnvR G r H (wipe σ is) (Cy.kill is env)
  | [] => h
  | i :: is => by
    have q := kill_wipe h is
    refine ⟨by unfold wipe Cy.kill; rw [List.length_set, List.length_set]; exact q.len, fun j x e => ?_⟩
    unfold Cy.kill at e
    unfold wipe
    by_cases hj : j = i
    · subst hj
      by_cases hl : j < (Cy.kill is env).length
      · rw [List.getElem?_set_self hl] at e
        cases e
      · rw [List.getElem?_eq_none (by rw [List.length_set]; omega)] at e
        cases e
    · rw [List.getElem?_set_ne (fun z => hj z.symm)] at e
      obtain ⟨v, a, b⟩ := q.at_ j x e
      exact ⟨v, by rw [List.getElem?_set_ne (fun z => hj z.symm)]; exact a, b⟩
end
abbrev RVs (G : Cfg) (H : Hp) : List Addr → Hp → List V → List Rv → Prop := fun r' H' v x => RepRs G r' H H' v x
abbrev RB : List Addr → Hp → Bool → Bool → Prop := fun _ _ b c => b = c
def TI (G : Cfg) (W : WX) (m : EX) : TE := fun σ H Q => ∃ r S env, EnvR G r H σ env ∧ Sim G r H S ∧ Post G W σ r H (RV G H) Q (m env S)
def TTI (G : Cfg) (W : WX) (m : BX) : TT := fun σ H Q => ∃ r S env, EnvR G r H σ env ∧ Sim G r H S ∧ Post G W σ r H RB Q (m env S)
def TAI (G : Cfg) (W : WX) (m : Env → Sto → Rs (List Rv)) : TA := fun σ H Q => ∃ r S env, EnvR G r H σ env ∧ Sim G r H S ∧ Post G W σ r H (RVs G H) Q (m env S)
section
variable {G : Cfg} {W : WX} {σ : L2.St} {r r1 : List Addr} {H H1 : Hp} {α β γ δ : Type}
theorem Post.mono {R : List Addr → Hp → β → α → Prop} {Q Q' : β → Hp → Prop} {m : Rs α} (h : Post G W σ r H R Q m) (k : ∀ v H, Q v H → Q' v H) : Post G W σ r H R Q' m := by
  cases m with
  | ok x S => exact fun v r' H' e s q => k _ _ (h v r' H' e s q)
  | err c ds S => exact h
  | bad => exact h
theorem back_rv {r' : List Addr} {H' : Hp} {v : V} {x : Rv} (e : Ext r H r1 H1) (h : RV G H1 r' H' v x) : RV G H r' H' v x := RepR.from (fun _ => e.back) h
end
theorem _root_.L2.PE.mono {X : Cx} {e : Expr} {t t' : TE} (h : PE X e t) (k : ∀ σ H Q, t' σ H Q → t σ H Q) : PE X e t' := ⟨fun pins s σ H Q I q => h.run pins s σ H Q I (k σ H Q q)⟩
theorem _root_.L2.PT.mono {X : Cx} {e : Expr} {t t' : TT} (h : PT X e t) (k : ∀ σ H Q, t' σ H Q → t σ H Q) : PT X e t' := ⟨fun pins s σ H Q I q => h.run pins s σ H Q I (k σ H Q q)⟩
theorem _root_.L2.PW.mono {X : Cx} {e : Expr} {t t' : TT} (h : PW X e t) (k : ∀ σ H Q, t' σ H Q → t σ H Q) : PW X e t' := ⟨fun wh pins s σ H Q I q => h.run wh pins s σ H Q I (k σ H Q q)⟩
theorem _root_.L2.PA.mono {X : Cx} {es : List Expr} {t t' : TA} (h : PA X es t) (k : ∀ σ H Q, t' σ H Q → t σ H Q) : PA X es t' := ⟨fun pos pins s σ H Q I q => h.run pos pins s σ H Q I (k σ H Q q)⟩
theorem _root_.L2.PS.mono {X : Cx} {st : Stmt} {t t' : TS} (h : PS X st t) (k : ∀ D σ H, t' D σ H → t D σ H) : PS X st t' := ⟨fun pins s σ H D I q => h.run pins s σ H D I (k D σ H q)⟩
theorem _root_.L2.PSs.mono {X : Cx} {st : List Stmt} {t t' : TS} (h : PSs X st t) (k : ∀ D σ H, t' D σ H → t D σ H) : PSs X st t' := ⟨fun pins s σ H D I q => h.run pins s σ H D I (k D σ H q)⟩
def eVar (i : Nat) : EX := fun env S => match env[i]? with
  | some (some d) => .ok (.va d) S
  | _ => .bad
def eTo (m : EX) : EX := fun env S => (m env S).bind fun x S1 => .ok (.va (own x S1).1) (own x S1).2
def eArgs : List EX → Env → Sto → Rs (List Rv)
  | [], _, S => .ok [] S
  | m :: ms, env, S => (m env S).bind fun x S1 => (eArgs ms env S1).bind fun xs S2 => .ok (x :: xs) S2
def eP (f : Prim) (ms : List EX) : EX := fun env S => (eArgs ms env S).bind fun xs S1 => match f S1 xs with
  | some (z, S2) => .ok z S2
  | none => .bad
abbrev GX (X : Cx) (cA : Nat → Addr) (fN : Nat → List Str) : Cfg := ⟨X.K, cA, fN, X.prog, X.w⟩
section
variable {G : Cfg} {W : WX} {σ : L2.St} {r : List Addr} {H : Hp}
/-- a value becomes the store's own -/
theorem own_ok {r0 : List Addr} {H0 : Hp} {x : Rv} {v : V} {S : Sto} (e : Ext r0 H0 r H) (s : Sim G r H S) (q : RepR G r H0 H v x) :
    ∃ r', Ext r0 H0 r' H ∧ Sim G r' H (own x S).2 ∧ Rep G r' H v (own x S).1 := by
  cases x with
  | va d => exact ⟨r, e, s, q⟩
  | fr o =>
    obtain ⟨a, rfl, h2, h3, h4⟩ := q
    refine ⟨r ++ [a], e.own h2, s.own h3 h4, .ref ?_⟩
    show (r ++ [a])[S.length]? = some a
    rw [← s.len]
    simp
theorem TI.to {m : EX} {Q : VK} (h : TI G W (eTo m) σ H Q) : TI G W m σ H Q := by
  obtain ⟨r, S, env, he, hs, hp⟩ := h
  refine ⟨r, S, env, he, hs, Post.bind hp fun x S1 v r1 H1 e s q z => ?_⟩
  obtain ⟨r', e', s', q'⟩ := own_ok e s q
  exact z v r' H1 e' s' q'
end
section
variable {X : Cx} {cA : Nat → Addr} {fN : Nat → List Str} {W : WX} {e a b : Expr} {es : List Expr} {pos : Pos} {m ma mb : EX}
theorem iv (i : Nat) {x : Str} (hN : X.N[i]? = some x := by rfl) (hv : Vis X.env.scope x := by first | exact Or.inl rfl | exact Or.inr (Or.inl rfl) | exact Or.inr (Or.inr rfl)) (hd : (x == ("__debug__" : Str)) = false := by decide)
    (hcd : (x == ("__classdict__" : Str)) = false := by decide) : PE X (.Name x pos) (TI (GX X cA fN) W (eVar i)) := (pe_var hN hv hd hcd).mono fun σ H Q h => by
  obtain ⟨r, S, env, he, hs, hp⟩ := h
  unfold eVar at hp
  cases e1 : env[i]? with
  | none => rw [e1] at hp; exact hp.elim
  | some o =>
    cases o with
    | none => rw [e1] at hp; exact hp.elim
    | some d =>
      rw [e1] at hp
      obtain ⟨v, h1, h2⟩ := he.at_ i d e1
      exact ⟨v, h1, hp v r H (Ext.refl r H) hs h2⟩
theorem ic {v : V} {d : D} (h : PE X e (tC v)) (q : ∀ G r H, Rep G r H v d) : PE X e (TI (GX X cA fN) W (eC d)) := h.mono fun σ H Q h => by
  obtain ⟨r, S, env, he, hs, hp⟩ := h
  exact hp v r H (Ext.refl r H) hs (q _ _ _)
theorem ic_int {i : Int} {j : Nat} : PE X (.Constant (.int i) j pos) (TI (GX X cA fN) W (eC (.int i))) := ic pe_int fun _ _ _ => .int i
theorem ic_bl {b : Bool} {j : Nat} : PE X (.Constant (.bool b) j pos) (TI (GX X cA fN) W (eC (.bl b))) := ic pe_bl fun _ _ _ => .bl b
theorem ic_non {j : Nat} : PE X (.Constant .none j pos) (TI (GX X cA fN) W (eC .non)) := ic pe_non fun _ _ _ => .non
theorem ic_str {x : Str} {j : Nat} : PE X (.Constant (.str x) j pos) (TI (GX X cA fN) W (eC (.str x))) := ic pe_str fun _ _ _ => .str x
theorem ic_gs {x y : Str} {t : Tok} (hg : Gl X x) (hm : X.mg x = some (.str y t)) (hd : (x == ("__debug__" : Str)) = false := by decide) : PE X (.Name x pos) (TI (GX X cA fN) W (eC (.str y))) := ic (pe_glob (v := .str y) hg hm ⟨t, rfl⟩ hd) fun _ _ _ => .str y
theorem ia_nil : PA X [] (TAI (GX X cA fN) W (eArgs [])) := pa_nil.mono fun σ H Q h => by
  obtain ⟨r, S, env, he, hs, hp⟩ := h
  exact hp [] r H (Ext.refl r H) hs .nil
theorem ia_cons {ms : List EX} (h : PE X e (TI (GX X cA fN) W m)) (t : PA X es (TAI (GX X cA fN) W (eArgs ms))) (hs : starEach (e :: es) X.env = (false, eval e X.env) :: starEach es X.env := by rfl) :
    PA X (e :: es) (TAI (GX X cA fN) W (eArgs (m :: ms))) := (pa_cons h t hs).mono fun σ H Q h => by
  obtain ⟨r, S, env, he, hs, hp⟩ := h
  refine ⟨r, S, env, he, hs, Post.bind hp fun x S1 v r1 H1 e1 s1 q1 z => ?_⟩
  refine ⟨r1, S1, env, he.ext e1, s1, Post.bind (z.shift e1 (R' := RVs _ H) fun _ _ _ _ k => k) fun xs S2 vs r2 H2 e2 s2 q2 z2 => ?_⟩
  exact z2 (v :: vs) r2 H2 (Ext.refl r2 H2 |> fun k => e2.trans k) s2 (.cons (q1.ext e2) (q2.from fun _ => e1.back))
/-- from the arguments to the primitive -/
theorem prim_post {rd : List V → Hp → VK → Prop} {f : Prim} {G : Cfg} (P : PrimOk G rd f) {σ : L2.St} {r : List Addr} {H : Hp} {env : Env} {S : Sto} {ms : List EX} {Q : VK} (hp : Post G W σ r H (RV G H) Q (eP f ms env S)) :
    Post G W σ r H (RVs G H) (fun vs H1 => rd vs H1 Q) (eArgs ms env S) := Post.bind hp fun xs S1 vs r1 H1 e1 s1 q1 z => by
  cases e : f S1 xs with
  | none => rw [e] at z; exact z.elim
  | some p =>
    obtain ⟨y, S2⟩ := p
    rw [e] at z
    exact P r1 H H1 S1 S2 xs y vs Q s1 (fun _ => e1.back) q1 e fun v r2 H2 e2 s2 q2 => z v r2 H2 (e1.trans e2) s2 q2
theorem two_of {G : Cfg} {rd : List V → Hp → VK → Prop} {f : Prim} {ro : R2} (P : PrimOk G rd f) (hr : ∀ vs H Q, rd vs H Q → ∃ x y, vs = [x, y] ∧ ro x y H Q) {σ : L2.St} {H : Hp} {Q : VK} (h : TI G W (eP f [ma, mb]) σ H Q) :
    tOp ro (TI G W ma) (TI G W mb) σ H Q := by
  obtain ⟨r, S, env, he, hs, hp⟩ := h
  have hq := prim_post P hp
  refine ⟨r, S, env, he, hs, Post.bind hq fun x S1 v r1 H1 e1 s1 q1 z => ?_⟩
  unfold eArgs at z
  rw [Rs.bind_assoc] at z
  refine ⟨r1, S1, env, he.ext e1, s1, Post.bind (z.shift e1 (R' := RVs _ H) fun _ _ _ _ k => k) fun xs S2 w r2 H2 e2 s2 q2 z2 => ?_⟩
  obtain ⟨x', y', e, k⟩ := hr _ _ _ (z2 [v, w] r2 H2 e2 s2 (.cons (q1.ext e2) (.cons (q2.from fun _ => e1.back) .nil)))
  cases e
  exact k
theorem one_of {G : Cfg} {rd : List V → Hp → VK → Prop} {f : Prim} {ro : V → Hp → VK → Prop} (P : PrimOk G rd f) (hr : ∀ vs H Q, rd vs H Q → ∃ x, vs = [x] ∧ ro x H Q) {σ : L2.St} {H : Hp} {Q : VK} (h : TI G W (eP f [ma]) σ H Q) :
    tUn ro (TI G W ma) σ H Q := by
  obtain ⟨r, S, env, he, hs, hp⟩ := h
  have hq := prim_post P hp
  refine ⟨r, S, env, he, hs, Post.bind hq fun x S1 v r1 H1 e1 s1 q1 z => ?_⟩
  obtain ⟨x', e, k⟩ := hr _ _ _ (z [v] r1 H1 e1 s1 (.cons q1 .nil))
  cases e
  exact k
/-- two operands -/
def L22 (ro : R2) : List V → Hp → VK → Prop := fun vs H Q => ∃ x y, vs = [x, y] ∧ ro x y H Q
def L21 (ro : V → Hp → VK → Prop) : List V → Hp → VK → Prop := fun vs H Q => ∃ x, vs = [x] ∧ ro x H Q
theorem i_op {op : Operator} {ro : R2} {f : Prim} (ho : OpR X (binaryOp op) ro) (P : PrimOk (GX X cA fN) (L22 ro) f) (ha : PE X a (TI (GX X cA fN) W ma)) (hb : PE X b (TI (GX X cA fN) W mb)) :
    PE X (.BinOp a op b pos) (TI (GX X cA fN) W (eP f [ma, mb])) := (pe_op ho ha hb).mono fun _ _ _ h => two_of P (fun _ _ _ k => k) h
theorem i_cmp {op : CmpOp} {ro : R2} {f : Prim} (ho : OpR X (compareOp op) ro) (P : PrimOk (GX X cA fN) (L22 ro) f) (ha : PE X a (TI (GX X cA fN) W ma)) (hb : PE X b (TI (GX X cA fN) W mb)) (hm : behindInMarks op b = false) :
    PE X (.Compare a [op] [b] pos) (TI (GX X cA fN) W (eP f [ma, mb])) := (pe_cmpR ho ha hb hm).mono fun _ _ _ h => two_of P (fun _ _ _ k => k) h
/-- a value that is a bool, as a test -/
def bB (m : EX) : BX := fun env S => (m env S).bind fun x S1 => match x with
  | .va (.bl b) => .ok b S1
  | _ => .bad
theorem bB_ok {G : Cfg} {m : EX} {σ : L2.St} {H : Hp} {Q : Bool → Hp → Prop} (h : TTI G W (bB m) σ H Q) : TI G W m σ H fun x H1 => ∃ k, x = .bl k ∧ Q k H1 := by
  obtain ⟨r, S, env, he, hs, hp⟩ := h
  refine ⟨r, S, env, he, hs, Post.bind hp fun x S1 v r1 H1 e1 s1 q1 z => ?_⟩
  cases x with
  | fr o => exact z.elim
  | va d =>
    cases d with
    | bl b =>
      cases q1
      exact ⟨b, rfl, z b r1 H1 e1 s1 rfl⟩
    | _ => exact z.elim
theorem t_cmp {op : CmpOp} {ro : R2} {f : Prim} (ho : OpR X (compareOp op) ro) (P : PrimOk (GX X cA fN) (L22 ro) f) (ha : PE X a (TI (GX X cA fN) W ma)) (hb : PE X b (TI (GX X cA fN) W mb)) (hm : behindInMarks op b = false) :
    PT X (.Compare a [op] [b] pos) (TTI (GX X cA fN) W (bB (eP f [ma, mb]))) := (pt_cmpR ho ha hb hm).mono fun _ _ _ h => two_of P (fun _ _ _ k => k) (bB_ok h)
/-- a call, an attribute, a name .. whose value is a bool, as a test -/
theorem t_val (h : PE X e (TI (GX X cA fN) W m)) (he : ∀ whole, isTrue e X.env whole = (do let v ← whole; standAt e.pos; holding [v] (truthy v)) := by intro _; rfl) : PT X e (TTI (GX X cA fN) W (bB m)) :=
  (pt_val h he).mono fun _ _ _ h => bB_ok h
def bNot (m : BX) : BX := fun env S => (m env S).bind fun b S1 => .ok (!b) S1
def bAnd (m n : BX) : BX := fun env S => (m env S).bind fun b S1 => if b = true then n env S1 else .ok false S1
def bOr (m n : BX) : BX := fun env S => (m env S).bind fun b S1 => if b = true then .ok true S1 else n env S1
variable {c d : BX} {rest : List Expr}
theorem t_not (h : PT X a (TTI (GX X cA fN) W c)) : PT X (.UnaryOp .Not a pos) (TTI (GX X cA fN) W (bNot c)) := (pt_not h).mono fun σ H Q h => by
  obtain ⟨r, S, env, he, hs, hp⟩ := h
  refine ⟨r, S, env, he, hs, Post.bind hp fun x S1 v r1 H1 e1 s1 q1 z => ?_⟩
  subst q1
  exact z (!v) r1 H1 e1 s1 rfl
theorem w_and1 (h : PT X a (TTI (GX X cA fN) W c)) : PW X (.BoolOp .And [a] pos) (TTI (GX X cA fN) W c) := pw_and1 h
theorem w_or1 (h : PT X a (TTI (GX X cA fN) W c)) : PW X (.BoolOp .Or [a] pos) (TTI (GX X cA fN) W c) := pw_or1 h
theorem w_and (h : PT X a (TTI (GX X cA fN) W c)) (k : PW X (.BoolOp .And (b :: rest) pos) (TTI (GX X cA fN) W d)) : PW X (.BoolOp .And (a :: b :: rest) pos) (TTI (GX X cA fN) W (bAnd c d)) := (pw_and h k).mono fun σ H Q h => by
  obtain ⟨r, S, env, he, hs, hp⟩ := h
  refine ⟨r, S, env, he, hs, Post.bind hp fun x S1 v r1 H1 e1 s1 q1 z => ?_⟩
  subst q1
  cases v with
  | true => exact ⟨r1, S1, env, he.ext e1, s1, z.shift e1 fun _ _ _ _ k => k⟩
  | false => exact z false r1 H1 e1 s1 rfl
theorem w_or (h : PT X a (TTI (GX X cA fN) W c)) (k : PW X (.BoolOp .Or (b :: rest) pos) (TTI (GX X cA fN) W d)) : PW X (.BoolOp .Or (a :: b :: rest) pos) (TTI (GX X cA fN) W (bOr c d)) := (pw_or h k).mono fun σ H Q h => by
  obtain ⟨r, S, env, he, hs, hp⟩ := h
  refine ⟨r, S, env, he, hs, Post.bind hp fun x S1 v r1 H1 e1 s1 q1 z => ?_⟩
  subst q1
  cases v with
  | false => exact ⟨r1, S1, env, he.ext e1, s1, z.shift e1 fun _ _ _ _ k => k⟩
  | true => exact z true r1 H1 e1 s1 rfl
/-- and, or, not as values (bools but for the last) -/
def eNot (m : EX) : EX := fun env S => (bB m env S).bind fun b S1 => .ok (.va (.bl (!b))) S1
def eAnd (m n : EX) : EX := fun env S => (bB m env S).bind fun b S1 => if b = true then n env S1 else .ok (.va (.bl false)) S1
theorem bB_post {G : Cfg} {σ : L2.St} {r : List Addr} {H : Hp} {env : Env} {S : Sto} {Q : V → Hp → Prop} {k : Bool → Sto → Rs Rv} (hp : Post G W σ r H (RV G H) Q ((bB m env S).bind k)) {Q' : VK}
    (step : ∀ b S1 r1 H1, Ext r H r1 H1 → Sim G r1 H1 S1 → Post G W σ r H (RV G H) Q (k b S1) → Q' (.bl b) H1) : Post G W σ r H (RV G H) Q' (m env S) := by
  have hp2 : Post G W σ r H (RB) (fun b H1 => Q' (.bl b) H1) (bB m env S) := Post.bind hp fun x S1 v r1 H1 e1 s1 q1 z => by
    subst q1
    exact step v S1 r1 H1 e1 s1 z
  refine Post.bind hp2 fun x S1 v r1 H1 e1 s1 q1 z => ?_
  cases x with
  | fr o => exact z.elim
  | va d =>
    cases d with
    | bl b =>
      cases q1
      exact z b r1 H1 e1 s1 rfl
    | _ => exact z.elim
theorem i_not (h : PE X a (TI (GX X cA fN) W m)) : PE X (.UnaryOp .Not a pos) (TI (GX X cA fN) W (eNot m)) := (pe_not h).mono fun σ H Q h => by
  obtain ⟨r, S, env, he, hs, hp⟩ := h
  exact ⟨r, S, env, he, hs, bB_post hp fun b S1 r1 H1 e1 s1 z => ⟨b, rfl, z _ r1 H1 e1 s1 (.bl _)⟩⟩
theorem i_one {op : BoolOp} (h : PE X a (TI (GX X cA fN) W m)) : PE X (.BoolOp op [a] pos) (TI (GX X cA fN) W m) := pe_one h
theorem i_and (h : PE X a (TI (GX X cA fN) W ma)) (k : PE X (.BoolOp .And (b :: rest) pos) (TI (GX X cA fN) W mb)) : PE X (.BoolOp .And (a :: b :: rest) pos) (TI (GX X cA fN) W (eAnd ma mb)) := (pe_and h k).mono fun σ H Q h => by
  obtain ⟨r, S, env, he, hs, hp⟩ := h
  refine ⟨r, S, env, he, hs, bB_post hp fun b S1 r1 H1 e1 s1 z => ⟨b, rfl, ?_⟩⟩
  cases b with
  | true => exact ⟨r1, S1, env, he.ext e1, s1, z.shift e1 fun _ _ _ _ k => back_rv e1 k⟩
  | false => exact z _ r1 H1 e1 s1 (.bl _)
/-- a op b op' c -/
def eChain (f g : Prim) (ma mb mc : EX) : EX := fun env S => (ma env S).bind fun x S1 => (mb env S1).bind fun y S2 => match f S2 [x, y] with
  | some (.va (.bl k), S3) => if k = true then (mc env S3).bind fun z S4 => match g S4 [y, z] with
      | some (w, S5) => .ok w S5
      | none => .bad
    else .ok (.va (.bl false)) S3
  | _ => .bad
variable {mc : EX} {x y : Expr}
theorem chain_of {G : Cfg} {ro ro' : R2} {f g : Prim} (P : PrimOk G (L22 ro) f) (P' : PrimOk G (L22 ro') g) {σ : L2.St} {H : Hp} {Q : VK} (h : TI G W (eChain f g ma mb mc) σ H Q) : tChain ro ro' (TI G W ma) (TI G W mb) (TI G W mc) σ H Q := by
  obtain ⟨r, S, env, he, hs, hp⟩ := h
  refine ⟨r, S, env, he, hs, Post.bind hp fun x S1 v r1 H1 e1 s1 q1 z => ?_⟩
  refine ⟨r1, S1, env, he.ext e1, s1, Post.bind (z.shift e1 (R' := RV _ H) fun _ _ _ _ k => k) fun y S2 w r2 H2 e2 s2 q2 z2 => ?_⟩
  cases e : f S2 [x, y] with
  | none => rw [e] at z2; exact z2.elim
  | some p =>
    obtain ⟨y', S3⟩ := p
    rw [e] at z2
    obtain ⟨_, _, e', k⟩ := P r2 H H2 S2 S3 [x, y] y' [v, w] (fun z H3 => ∃ k, z = .bl k ∧ (if k = true then TI G W mc σ H3 (fun w' H4 => ro' w w' H4 Q) else Q (.bl false) H3)) s2 (fun _ h => e1.back (e2.back h)) (.cons (q1.ext e2) (.cons (q2.from fun _ => e1.back) .nil)) e fun u r3 H3 e3 s3 q3 => by
      cases y' with
      | fr o => exact z2.elim
      | va d =>
        cases d with
        | bl k =>
          cases q3
          refine ⟨k, rfl, ?_⟩
          have x3 := e2.trans e3
          cases k with
          | false => exact z2 _ r3 H3 x3 s3 (.bl _)
          | true =>
            refine ⟨r3, S3, env, (he.ext e1).ext x3, s3, Post.bind (z2.shift x3 (R' := RV _ H) fun _ _ _ _ k => k) fun z' S4 w' r4 H4 e4 s4 q4 z4 => ?_⟩
            cases eg : g S4 [y, z'] with
            | none => rw [eg] at z4; exact z4.elim
            | some p =>
              obtain ⟨w2, S5⟩ := p
              rw [eg] at z4
              obtain ⟨_, _, e', k⟩ := P' r4 H H4 S4 S5 [y, z'] w2 [w, w'] Q s4 (fun _ h => e1.back (x3.back (e4.back h))) (.cons ((q2.from fun _ => e1.back).ext (e3.trans e4)) (.cons (q4.from fun _ h => e1.back (x3.back h)) .nil)) eg
                fun u r5 H5 e5 s5 q5 => z4 u r5 H5 (e4.trans e5) s5 q5
              cases e'
              exact k
        | _ => exact z2.elim
    cases e'
    exact k
theorem i_chain {op op' : CmpOp} {ro ro' : R2} {f g : Prim} (ho : OpR X (compareOp op) ro) (ho' : OpR X (compareOp op') ro') (P : PrimOk (GX X cA fN) (L22 ro) f) (P' : PrimOk (GX X cA fN) (L22 ro') g)
    (ha : PE X x (TI (GX X cA fN) W ma)) (hb : PE X y (TI (GX X cA fN) W mb)) (hc : PE X e (TI (GX X cA fN) W mc)) (hm : lastMarks [op, op'] [y, e] = false := by with_unfolding_all rfl) :
    PE X (.Compare x [op, op'] [y, e] pos) (TI (GX X cA fN) W (eChain f g ma mb mc)) := (pe_chain ho ho' ha hb hc hm).mono fun _ _ _ h => chain_of P P' h
end
end Cy
set_option Elab.async false
set_option linter.all false
set_option maxRecDepth 100000
set_option maxHeartbeats 2000000
set_option autoImplicit false
namespace Cy
open PySem L2
def sNil : SM := fun env S => .nx env S
def sSeq (a b : SM) : SM := fun env S => (a env S).then b
def sEx (m : EX) : SM := fun env S => (m env S).on env fun _ S1 => .nx env S1
def sRet (m : EX) : SM := fun env S => (m env S).on env fun x S1 => .ret x S1
def sIf (c : BX) (a b : SM) : SM := fun env S => (c env S).on env fun k S1 => if k = true then a env S1 else b env S1
def Tg.slots : Tg → List Nat
  | .name i => [i]
  | .names is => is
def sAsg (t : Tg) (m : EX) : SM := fun env S => (eTo m env S).on env fun x S1 => match x with
  | .va d => match t.bind d env with
    | some env' => .nx env' S1
    | none => .bad
  | .fr _ => .bad
/-- x op= e -/
def sAug (i : Nat) (f : Prim) (m : EX) : SM := fun env S => match env[i]? with
  | some (some d) => (m env S).on env fun y S1 => match f S1 [.va d, y] with
    | some (z, S2) => .nx (env.set i (some (Cy.own z S2).1)) (Cy.own z S2).2
    | none => .bad
  | _ => .bad
/-- a target's rule -/
structure TgOk (X : Cx) (t : Tg) (g : TG) : Prop where
  run : ∀ (cA : Nat → Addr) (fN : Nat → List Str) (r : List Addr) (H : Hp) (σ : L2.St) (env env' : Env) (v : V) (d : D) (Q : L2.St → Hp → Prop), EnvR (GX X cA fN) r H σ env → Rep (GX X cA fN) r H v d → t.bind d env = some env' →
    (∀ σ', EnvR (GX X cA fN) r H σ' env' → (∀ us, (∀ i ∈ t.slots, i ∈ us) → wipe σ' us = wipe σ us) → Q σ' H) → g v σ H Q
theorem wipe_get (σ : L2.St) : ∀ (us : List Nat) (j : Nat), (wipe σ us)[j]? = if j ∈ us then σ[j]?.map (fun _ => none) else σ[j]?
  | [], j => by simp [wipe]
  | u :: us, j => by
    unfold wipe
    have ih := wipe_get σ us j
    by_cases h : u = j
    · subst h
      rw [List.getElem?_set_self', ih]
      by_cases hm : u ∈ us
      · simp [hm] <;> rfl
      · simp [hm] <;> rfl
    · rw [List.getElem?_set_ne h, ih]
      have h' : ¬ j = u := fun z => h z.symm
      simp [h']
theorem wipe_set (σ : L2.St) (i : Nat) (x : Option V) (us : List Nat) (h : i ∈ us) : wipe (σ.set i x) us = wipe σ us := by
  apply List.ext_getElem?
  intro j
  rw [wipe_get, wipe_get]
  by_cases hj : i = j
  · subst hj
    simp only [h, if_true]
    rw [List.getElem?_set_self']
    cases σ[i]? <;> rfl
  · rw [List.getElem?_set_ne hj]
theorem wipe_wipe (σ : L2.St) (us : List Nat) : wipe (wipe σ us) us = wipe σ us := by
  apply List.ext_getElem?
  intro j
  rw [wipe_get, wipe_get]
  by_cases hj : j ∈ us
  · simp only [hj, if_true]
    cases σ[j]? <;> rfl
  · simp only [hj, if_false]
theorem tg_name {X : Cx} (i : Nat) : TgOk X (.name i) (gName i) := ⟨fun cA fN r H σ env env' v d Q he q e k => by
  have e' : env.set i (some d) = env' := Option.some.inj e
  subst e'
  exact k _ (he.set q) fun us hu => wipe_set σ i _ us (hu i (List.mem_singleton.mpr rfl))⟩
def gAll : List Nat → TGs
  | [] => gNil
  | i :: is => gCons (gName i) (gAll is)
theorem gAll_ok {G : Cfg} {r : List Addr} {H : Hp} {Q : L2.St → Hp → Prop} : ∀ {is : List Nat} {vs : List V} {ds : List D} {σ : L2.St} {env : Env}, EnvR G r H σ env → Reps G r H vs ds → ds.length = is.length →
    (∀ σ', EnvR G r H σ' (setAll is ds env) → (∀ us, (∀ i ∈ is, i ∈ us) → wipe σ' us = wipe σ us) → Q σ' H) → gAll is vs σ H Q
  | [], _, _, σ, env, he, .nil, _, k => ⟨rfl, k σ he fun _ _ => rfl⟩
  | [], _, _, _, _, _, .cons _ _, e, _ => by simp at e
  | i :: is, _, _, _, _, _, .nil, e, _ => by simp at e
  | i :: is, _, _, σ, env, he, .cons (v := v) (vs := vs) h t, e, k => ⟨v, vs, rfl, gAll_ok (he.set h) t (by simpa using e) fun σ' q w => k σ' q fun us hu => (w us fun j hj => hu j (List.mem_cons_of_mem _ hj)).trans (wipe_set σ i _ us (hu i List.mem_cons_self))⟩
theorem tg_names {X : Cx} (is : List Nat) : TgOk X (.names is) (gTup X.K is.length (gAll is)) := ⟨fun cA fN r H σ env env' v d Q he q e k => by
  cases q with
  | tup h na q =>
    rename_i a vs ds
    have e2 : (if ds.length = is.length then some (setAll is ds env) else none) = some env' := e
    by_cases hl : ds.length = is.length
    · rw [if_pos hl] at e2
      have e' := Option.some.inj e2
      subst e'
      exact ⟨_, _, rfl, .inl h, by rw [q.length]; exact hl, gAll_ok he q hl k⟩
    · rw [if_neg hl] at e2
      cases e2
  | _ => cases e⟩
section
variable {X : Cx} {cA : Nat → Addr} {fN : Nat → List Str} {W : WX} {e a b : Expr} {es : List Expr} {pos : Pos} {m ma mb : EX} {c : BX} {st : Stmt} {rest : List Stmt} {sm sn : SM}
theorem ss_nil : PSs X [] (TSI (GX X cA fN) W sNil) := pss_nil.mono fun D σ H h => by
  obtain ⟨r, S, env, he, hs, hp⟩ := h
  exact hp σ r H (Ext.refl r H) he hs
theorem ss_cons (h : PS X st (TSI (GX X cA fN) W sm)) (k : PSs X rest (TSI (GX X cA fN) W sn)) : PSs X (st :: rest) (TSI (GX X cA fN) W (sSeq sm sn)) := (pss_cons h k).mono fun D σ H h => by
  obtain ⟨r, S, env, he, hs, hp⟩ := h
  exact ⟨r, S, env, he, hs, hp.then⟩
theorem s_ex (h : PE X e (TI (GX X cA fN) W m)) (hs : swapsWith e none pos.line X.env = pure false := by rfl) : PS X (.Expr e pos) (TSI (GX X cA fN) W (sEx m)) := (ps_expr h hs).mono fun D σ H h => by
  obtain ⟨r, S, env, he, hs, hp⟩ := h
  exact ⟨r, S, env, he, hs, PostS.on he hp fun x S1 v r1 H1 e1 s1 q1 z => z σ r1 H1 e1 (he.ext e1) s1⟩
theorem s_ret (h : PE X e (TI (GX X cA fN) W m)) : PS X (.Return (some e) pos) (TSI (GX X cA fN) W (sRet m)) := (ps_ret h).mono fun D σ H h => by
  obtain ⟨r, S, env, he, hs, hp⟩ := h
  exact ⟨r, S, env, he, hs, PostS.on he hp fun x S1 v r1 H1 e1 s1 q1 z => z v r1 H1 e1 s1 q1⟩
theorem s_if {x : Expr} {p q : List Stmt} (hc : PT X x (TTI (GX X cA fN) W c)) (h : PSs X p (TSI (GX X cA fN) W sm)) (k : PSs X q (TSI (GX X cA fN) W sn)) : PS X (.If x p q pos) (TSI (GX X cA fN) W (sIf c sm sn)) := (ps_if hc h k).mono fun D σ H h => by
  obtain ⟨r, S, env, he, hs, hp⟩ := h
  refine ⟨r, S, env, he, hs, PostS.on he hp fun x S1 v r1 H1 e1 s1 q1 z => ?_⟩
  subst q1
  cases v with
  | true => exact ⟨r1, S1, env, he.ext e1, s1, z.shift e1⟩
  | false => exact ⟨r1, S1, env, he.ext e1, s1, z.shift e1⟩
theorem asg_of {t : Tg} {g : TG} (T : TgOk X t g) {D : Ends} {σ : L2.St} {H : Hp} (h : TSI (GX X cA fN) W (sAsg t m) D σ H) : tAsg (TI (GX X cA fN) W m) g D σ H := by
  obtain ⟨r, S, env, he, hs, hp⟩ := h
  refine TI.to ⟨r, S, env, he, hs, PostS.on he hp fun x S1 v r1 H1 e1 s1 q1 z => ?_⟩
  cases x with
  | fr o => exact z.elim
  | va d =>
    dsimp only at z
    cases eb : t.bind d env with
    | none => rw [eb] at z; exact z.elim
    | some env' =>
      rw [eb] at z
      exact T.run cA fN r1 H1 σ env env' v d _ (he.ext e1) q1 eb fun σ' q _ => z σ' r1 H1 e1 q s1
theorem s_asg {tg : Expr} {t : Tg} {g : TG} (T : TgOk X t g) (h : PE X e (TI (GX X cA fN) W m)) (hg : PG X tg g) (hs : swapsWithSole [tg] e pos.line X.env = pure false := by rfl) (hw : swappedStores [tg] e X.env = pure none := by rfl)
    (h1 : (assignEach [tg] X.env).map (·.2) = [assign tg X.env] := by rfl) : PS X (.Assign [tg] e pos) (TSI (GX X cA fN) W (sAsg t m)) := (ps_asg h hg hs hw h1).mono fun _ _ _ h => asg_of T h
theorem s_set (i : Nat) {x : Str} {pos' : Pos} (hN : X.N.Nodup) (h : PE X e (TI (GX X cA fN) W m)) (hi : X.N[i]? = some x := by rfl) (hx : Loc X.env.scope x := by first | exact Or.inl rfl | exact Or.inr rfl) (hs : swapsWith e (some (.Name x pos')) pos.line X.env = pure false := by rfl) (hf : X.fn x = true ∨ X.env.scope.names.lookup x = some .local := by first | exact .inl rfl | exact .inr rfl | assumption) :
    PS X (.Assign [.Name x pos'] e pos) (TSI (GX X cA fN) W (sAsg (.name i) m)) := (ps_set hN hi hx h hs hf).mono fun _ _ _ h => asg_of (tg_name i) h
theorem g_name (i : Nat) {x : Str} (hN : X.N.Nodup) (hi : X.N[i]? = some x := by rfl) (hx : Loc X.env.scope x := by first | exact Or.inl rfl | exact Or.inr rfl) (hf : X.fn x = true ∨ X.env.scope.names.lookup x = some .local := by first | exact .inl rfl | exact .inr rfl | assumption) : PG X (.Name x pos) (gName i) := pg_name hN hi hx hf
theorem s_aug (i : Nat) {x : Str} {op : Operator} {ro : R2} {f : Prim} {pos' : Pos} (hN : X.N.Nodup) (ho : PIp X op ro) (P : PrimOk (GX X cA fN) (L22 ro) f) (h : PE X e (TI (GX X cA fN) W m)) (hi : X.N[i]? = some x := by rfl) (hx : Loc X.env.scope x := by first | exact Or.inl rfl | exact Or.inr rfl)
    (hf : X.fn x = true ∨ X.env.scope.names.lookup x = some .local := by first | exact .inl rfl | exact .inr rfl | assumption) : PS X (.AugAssign (.Name x pos') op e pos) (TSI (GX X cA fN) W (sAug i f m)) := (ps_aug hN hi hx h ho hf).mono fun D σ H h => by
  obtain ⟨r, S, env, he, hs, hp⟩ := h
  unfold sAug at hp
  cases e1 : env[i]? with
  | none => rw [e1] at hp; exact hp.elim
  | some o =>
    cases o with
    | none => rw [e1] at hp; exact hp.elim
    | some d =>
      rw [e1] at hp
      obtain ⟨v, h1, h2⟩ := he.at_ i d e1
      refine ⟨v, h1, r, S, env, he, hs, PostS.on he hp fun y S1 w r1 H1 e1 s1 q1 z => ?_⟩
      cases ef : f S1 [.va d, y] with
      | none => rw [ef] at z; exact z.elim
      | some p =>
        obtain ⟨z', S2⟩ := p
        rw [ef] at z
        obtain ⟨_, _, ee, k⟩ := P r1 H H1 S1 S2 [.va d, y] z' [v, w] (fun x H2 => D.nx (σ.set i (some x)) H2) s1 (fun _ => e1.back) (.cons (Rep.ext e1 h2) (.cons q1 .nil)) ef fun u r2 H2 e2 s2 q2 => by
          obtain ⟨r', e', s', q'⟩ := own_ok (e1.trans e2) s2 q2
          exact z (σ.set i (some u)) r' H2 e' ((he.ext e').set q') s'
        cases ee
        exact k
end
def Src.get : Src → Nat → Sto → Option (Option D)
  | .fix ds, i, _ => some ds[i]?
  | .live n _, i, S => match S[n]? with
    | some (.lst ds) => some ds[i]?
    | _ => none
  | .gen g _, i, S => g i S
abbrev IX := Env → Sto → Rs Src
/-- an iterator gives what the source tells, as long as what is not the store's own stands -/
def JOk (G : Cfg) (r0 : List Addr) (H0 : Hp) (J : It) (src : Src) : Prop :=
  ∀ (r : List Addr) (H : Hp) (S : Sto) (i : Nat), Ext r0 H0 r H → Sim G r H S →
    (∀ d, src.get i S = some (some d) → J.go i H ∧ ∀ x H', J.yld i H x H' → Ext r H r H' ∧ Sim G r H' S ∧ Rep G r H' x d) ∧ (src.get i S = some none → J.stop i H)
def TII (G : Cfg) (W : WX) (m : IX) : L2.TI := fun σ H R => ∃ r S env, EnvR G r H σ env ∧ Sim G r H S ∧ Post G W σ r H (fun r' H' J src => JOk G r' H' J src) R (m env S)
theorem _root_.L2.PI.mono {X : Cx} {tg it : Expr} {t t' : L2.TI} (h : PI X tg it t) (k : ∀ σ H Q, t' σ H Q → t σ H Q) : PI X tg it t' := ⟨fun pins s σ H Q I q => h.run pins s σ H Q I (k σ H Q q)⟩
/-- the turns of a for: ks, the slots that no later turn asks -/
def forGo (src : Src) (t : Tg) (body : SM) (ks : List Nat) : Nat → Nat → Env → Sto → SR
  | 0, _, _, _ => .bad
  | f + 1, i, env, S => match src.get i S with
    | none => .bad
    | some none => .nx env S
    | some (some d) => match t.bind d env with
      | none => .bad
      | some env' => match body env' S with
        | .nx e' S' => forGo src t body ks f (i + 1) (kill ks e') S'
        | .ct e' S' => forGo src t body ks f (i + 1) (kill ks e') S'
        | .brk e' S' => .nx (kill ks e') S'
        | m => m
def sFor (it : IX) (t : Tg) (body : SM) (ks : List Nat) : SM := fun env S => (it env S).on env fun src S1 => forGo src t body ks (src.len + 1) 0 (kill ks env) S1
/-- a while: as many turns as it takes -/
def whileGo (c : BX) (body : SM) (ks : List Nat) : Nat → Env → Sto → SR
  | 0, _, _ => .bad
  | f + 1, env, S => (c env S).on env fun b S1 => if b = true then (match body env S1 with
      | .nx e' S' => whileGo c body ks f (kill ks e') S'
      | .ct e' S' => whileGo c body ks f (kill ks e') S'
      | .brk e' S' => .nx (kill ks e') S'
      | m => m) else .nx env S1
open Classical in
noncomputable def sWhile (c : BX) (body : SM) (ks : List Nat) : SM := fun env S => if h : ∃ n, whileGo c body ks n (kill ks env) S ≠ .bad then whileGo c body ks h.choose (kill ks env) S else .bad
section
variable {X : Cx} {cA : Nat → Addr} {fN : Nat → List Str} {W : WX} {pos : Pos}
theorem s_for {iter tg : Expr} {body : List Stmt} {it : IX} {t : Tg} {g : TG} {sm : SM} (ks : List Nat) (hp : PassesOwn (model X.prog X.w) X.A X.env X.xe) (hc : X.calm = true) (T : TgOk X t g) (hi : PI X tg iter (TII (GX X cA fN) W it)) (hg : PG X tg g)
    (hb : PSs X body (TSI (GX X cA fN) W sm)) (hs : ∀ x, foldedSetIterable iter X.env x = pure x := by intro _; rfl) : PS X (.For tg iter body [] pos) (TSI (GX X cA fN) W (sFor it t sm ks)) := (ps_for hp hc hi hg hb hs).mono fun D σ H h => by
  obtain ⟨r, S, env, he, hs, hp⟩ := h
  refine ⟨r, S, env, he, hs, PostS.on he hp fun src S1 J r1 H1 e1 s1 q1 z => ?_⟩
  refine ⟨fun i m σ2 H2 => ∃ r2 S2 env2, Ext r1 H1 r2 H2 ∧ EnvR (GX X cA fN) r2 H2 σ2 env2 ∧ Sim (GX X cA fN) r2 H2 S2 ∧ PostS (GX X cA fN) W D r2 H2 (forGo src t sm ks m i env2 S2), ⟨src.len + 1, r1, S1, kill ks env, Ext.refl _ _, (he.ext e1).kill ks, s1, z.shift e1⟩, ?_⟩
  rintro i m σ2 H2 ⟨r2, S2, env2, x2, he2, s2, z2⟩
  cases m with
  | zero => exact z2.elim
  | succ f =>
    unfold forGo at z2
    obtain ⟨g1, g2⟩ := q1 r2 H2 S2 i x2 s2
    cases eg : src.get i S2 with
    | none => rw [eg] at z2; exact z2.elim
    | some od =>
      cases od with
      | none =>
        rw [eg] at z2
        exact .inl ⟨g2 eg, z2 σ2 r2 H2 (Ext.refl _ _) he2 s2⟩
      | some d =>
        rw [eg] at z2
        dsimp only at z2
        obtain ⟨go, yl⟩ := g1 d eg
        refine .inr ⟨go, fun σ' H' => ∃ r' S' env', Ext r1 H1 r' H' ∧ EnvR (GX X cA fN) r' H' σ' env' ∧ Sim (GX X cA fN) r' H' S' ∧ PostS (GX X cA fN) W D r' H' (forGo src t sm ks f (i + 1) env' S'), fun σ' H' q => ⟨f, Nat.lt_succ_self f, q⟩, fun x H3 y => ?_⟩
        obtain ⟨x3, s3, q3⟩ := yl x H3 y
        cases eb : t.bind d env2 with
        | none => rw [eb] at z2; exact z2.elim
        | some env3 =>
          rw [eb] at z2
          dsimp only at z2
          refine T.run cA fN r2 H3 σ2 env2 env3 x d _ (he2.ext x3) q3 eb fun σ3 he3 _ => ⟨r2, S2, env3, he3, s3, ?_⟩
          cases em : sm env3 S2 with
          | nx e' S' =>
            rw [em] at z2
            exact fun σ' r' H' e4 he4 s4 => ⟨r', S', kill ks e', x2.trans (x3.trans e4), he4.kill ks, s4, z2.shift (x3.trans e4)⟩
          | ct e' S' =>
            rw [em] at z2
            exact fun σ' r' H' e4 he4 s4 => ⟨r', S', kill ks e', x2.trans (x3.trans e4), he4.kill ks, s4, z2.shift (x3.trans e4)⟩
          | brk e' S' =>
            rw [em] at z2
            exact fun σ' r' H' e4 he4 s4 => z2 σ' r' H' (x3.trans e4) (he4.kill ks) s4
          | ret v S' =>
            rw [em] at z2
            exact fun v r' H' e4 s4 q4 => z2 v r' H' (x3.trans e4) s4 (q4.from fun _ => x3.back)
          | err e' c ds S' =>
            rw [em] at z2
            exact fun cls oe σ' r' H' e4 he4 s4 q4 => z2 cls oe σ' r' H' (x3.trans e4) he4 s4 q4
          | bad => rw [em] at z2; exact z2
theorem s_while {x : Expr} {body : List Stmt} {c : BX} {sm : SM} (ks : List Nat) (hp : PassesOwn (model X.prog X.w) X.A X.env X.xe) (hc : PT X x (TTI (GX X cA fN) W c)) (hb : PSs X body (TSI (GX X cA fN) W sm)) : PS X (.While x body [] pos) (TSI (GX X cA fN) W (sWhile c sm ks)) := (ps_while hp hc hb).mono fun D σ H h => by
  obtain ⟨r, S, env, he, hs, hp⟩ := h
  unfold sWhile at hp
  split at hp
  · rename_i hn
    revert hp
    generalize hn.choose = n0
    intro hp
    refine ⟨fun m σ2 H2 => ∃ r2 S2 env2, EnvR (GX X cA fN) r2 H2 σ2 env2 ∧ Sim (GX X cA fN) r2 H2 S2 ∧ PostS (GX X cA fN) W D r2 H2 (whileGo c sm ks m env2 S2), ⟨n0, r, S, kill ks env, he.kill ks, hs, hp⟩, ?_⟩
    rintro m σ2 H2 ⟨r2, S2, env2, he2, s2, z2⟩
    cases m with
    | zero => exact z2.elim
    | succ f =>
      unfold whileGo at z2
      refine ⟨r2, S2, env2, he2, s2, PostS.on he2 z2 fun b S3 v r3 H3 e3 s3 q3 z => ?_⟩
      subst q3
      cases v with
      | false => exact z σ2 r3 H3 e3 (he2.ext e3) s3
      | true =>
        simp only [if_true] at z ⊢
        refine ⟨fun σ' H' => ∃ r' S' env', EnvR (GX X cA fN) r' H' σ' env' ∧ Sim (GX X cA fN) r' H' S' ∧ PostS (GX X cA fN) W D r' H' (whileGo c sm ks f env' S'), fun σ' H' q => ⟨f, Nat.lt_succ_self f, q⟩, r3, S3, env2, he2.ext e3, s3, ?_⟩
        cases em : sm env2 S3 with
        | nx e' S' =>
          rw [em] at z
          exact fun σ' r' H' e4 he4 s4 => ⟨r', S', kill ks e', he4.kill ks, s4, z.shift (e3.trans e4)⟩
        | ct e' S' =>
          rw [em] at z
          exact fun σ' r' H' e4 he4 s4 => ⟨r', S', kill ks e', he4.kill ks, s4, z.shift (e3.trans e4)⟩
        | brk e' S' =>
          rw [em] at z
          exact fun σ' r' H' e4 he4 s4 => z σ' r' H' (e3.trans e4) (he4.kill ks) s4
        | ret v S' =>
          rw [em] at z
          exact fun v r' H' e4 s4 q4 => z v r' H' (e3.trans e4) s4 (q4.from fun _ => e3.back)
        | err e' c ds S' =>
          rw [em] at z
          exact fun cls oe σ' r' H' e4 he4 s4 q4 => z cls oe σ' r' H' (e3.trans e4) he4 s4 q4
        | bad => rw [em] at z; exact z
  · exact hp.elim
end
end Cy
set_option Elab.async false
set_option linter.all false
set_option maxRecDepth 100000
set_option maxHeartbeats 2000000
set_option autoImplicit false
namespace CyL
open PySem PySem.Spec PyProof.Rows L2
section
variable {X : Cx} {tg : Expr}
/-- lo, lo + 1, .. by the iterator for great numbers -/
theorem turn_long {P : Program} {w : World} {K : PySem.W.Frag} {tg : Expr} (it : Addr) (lo : Int) (n : Nat) : Turn P w K tg (Itr lo n) [it] it (fun i h => IsLongIter h it (lo + (i : Nat) * 1) ((n : Int) - (i : Nat)) 1) where
  mem := by simp
  obj := fun i h st b hb => by
    have e : b = it := by simpa using hb
    subst e
    exact ⟨_, st, fun v z => by
      have z' : Data.fields _ = Data.cell v := z
      cases z'⟩
  keep := fun i h h' st k => k it (by simp) _ st
  item := by
    intro X hP hw hK hc i pins s σ H E I hf st hg
    subst hP hw hK
    obtain ⟨f0, f1, f2, f3, f4, f5⟩ := hf it (by simp)
    have W := Walks.longrange (prog := X.prog) (w := X.w) (I.ok.hd hc) it lo 1 n
    refine W.item i s _ _ hg st fun v h' tk hv st' kk => ?_
    obtain ⟨t, rfl⟩ := hv
    have I1 : Inv X pins σ H { s with heap := h', toks := tk } := I.turned (fun b o hb e => kk b o (by simpa using hb) e) f0 f1 f3 f4 f5
    refine ⟨_, rfl, go_of (s := { s with heap := h', toks := tk }) (n := "longrange_iterator") st' rfl rfl (by decide) ⟨.int (lo + i), H, I1, ⟨t, ?_⟩, ⟨rfl, rfl⟩, st', fun b hb => (hf b hb).1⟩⟩
    rw [Int.mul_one]
  done := by
    intro X hP hw hK hc i pins s σ H E I hf st hg
    subst hP hw hK
    obtain ⟨f0, f1, f2, f3, f4, f5⟩ := hf it (by simp)
    exact wpAny_pyNext_long_end (I.ok.hd hc) st (by have : n ≤ i := hg; omega) fun h' eb => ⟨rfl, I.turned (t' := s.toks) (fun b o hb e => eb b o hb e) f0 f1 f3 f4 f5⟩
  self := fun _ _ _ _ _ st h => wpAny_pyIter_longiter st h
/-- a range object just made, of numbers of any size, walked -/
theorem range_itL {pins : List (Addr × Obj)} {σ : L2.St} {H : Hp} {s : Shared} {R : It → Hp → Prop} {E : Value → Shared → Prop} {lo hi : Int} {t u v : Tok} {tk : Nat} (I : Inv X pins σ H s)
    (q : R (Itr lo (hi - lo).toNat) H) : wpAny (model X.prog X.w) X.A (pyIter (.ref s.heap.objs.size)) (PIE X pins σ tg R) E { s with heap := s.heap.push { cls := .type "range", data := .fields #[.int lo t, .int hi u, .int 1 v] }, toks := tk } := by
  have I1 : Inv X pins σ H { s with heap := s.heap.push { cls := .type "range", data := .fields #[.int lo t, .int hi u, .int 1 v] }, toks := tk } := I.kept fun b o e => Heap.get?_push_of_some _ e
  have e1 : lo + ((0 : Nat) : Int) * 1 = lo := by simp
  have e2 : (((hi - lo).toNat : Nat) : Int) - ((0 : Nat) : Int) = Builtin.Range.rangeSize lo hi 1 := by rw [rangeSize_one]; split <;> omega
  have ef : ∀ b ∈ [(s.heap.push { cls := .type "range", data := .fields #[.int lo t, .int hi u, .int 1 v] }).objs.size], FpOk X pins H b := fun b hb => by
    have e : b = (s.heap.push { cls := .type "range", data := .fields #[.int lo t, .int hi u, .int 1 v] }).objs.size := by simpa using hb
    subst e
    exact I1.fpOk (Nat.le_refl _) (I1.hok.fresh (Nat.le_refl _))
  by_cases hsm : Builtin.Range.small lo hi 1 = true
  · refine wpAny_pyIter_range (IsRange.new ..) hsm ?_
    refine ⟨(s.heap.push { cls := .type "range", data := .fields #[.int lo t, .int hi u, .int 1 v] }).objs.size, [(s.heap.push { cls := .type "range", data := .fields #[.int lo t, .int hi u, .int 1 v] }).objs.size], _, _, H, rfl,
      I1.kept (t' := tk) fun b o e => Heap.get?_push_of_some _ e, turn_range _ lo (hi - lo).toNat, ?_, ef, q⟩
    show IsRangeIter _ _ (lo + ((0 : Nat) : Int) * 1) ((((hi - lo).toNat : Nat) : Int) - ((0 : Nat) : Int)) 1
    rw [e1, e2]
    exact Heap.get?_push_size _ rfl
  · refine wpAny_pyIter_longrange (IsRange.new ..) (by simpa using hsm) ?_
    refine ⟨(s.heap.push { cls := .type "range", data := .fields #[.int lo t, .int hi u, .int 1 v] }).objs.size, [(s.heap.push { cls := .type "range", data := .fields #[.int lo t, .int hi u, .int 1 v] }).objs.size], _, _, H, rfl,
      I1.kept (t' := tk) fun b o e => Heap.get?_push_of_some _ e, turn_long _ lo (hi - lo).toNat, ?_, ef, q⟩
    show IsLongIter _ _ (lo + ((0 : Nat) : Int) * 1) ((((hi - lo).toNat : Nat) : Int) - ((0 : Nat) : Int)) 1
    rw [e1, e2]
    exact Heap.get?_push_size _ rfl
def iRngL (ta : TA) : TI := fun σ H R => ta σ H fun vs H1 => ∃ i j : Int, vs = [.int i, .int j] ∧ R (Itr i (j - i).toNat) H1
theorem pi_rangeL {a b : Expr} {ta : TA} {p pos : Pos} (hg : Gl X "range") (hm : X.mg "range" = none) (ha : PA X [a, b] ta) (hs : starEach [a, b] X.env = [(false, eval a X.env), (false, eval b X.env)] := by rfl) (hs2 : starEach [b] X.env = [(false, eval b X.env)] := by rfl) :
    PI X tg (.Call (.Name "range" p) [a, b] [] pos) (iRngL ta) := by
  refine ⟨fun pins s σ H R I h => ?_⟩
  refine Call_ (ld_blt I hg hm boot_range (PyProof.Rows.callWith_type1 (thn (ha.run pos pins s σ H _ I h) fun us s1 ⟨vs, H1, I1, r1, q1⟩ => ?_) (by rw [hs, hs2]) (by rw [hs2]; rfl)))
  obtain ⟨i, j, e, q⟩ := q1
  subst e
  cases r1 with
  | cons r rr =>
    cases rr with
    | cons r' rr =>
      cases rr
      obtain ⟨t, rfl⟩ := r
      obtain ⟨t', rfl⟩ := r'
      exact call_range_2 (range_itL I1 q)
end
end CyL
set_option Elab.async false
set_option linter.all false
set_option maxRecDepth 100000
set_option maxHeartbeats 2000000
set_option autoImplicit false
namespace Cy
open PySem L2
abbrev W0 : WX := fun _ _ _ _ => False
section
variable {G : Cfg} {r : List Addr} {H : Hp}
mutual
theorem Rep.poke {p : Addr} {o u : HO} (hp : H p = some o) (mu : Mut (some o)) : ∀ {v : V} {d : D}, Rep G r H v d → Rep G r (upd H p u) v d
  | _, _, .non => .non
  | _, _, .bl b => .bl b
  | _, _, .int i => .int i
  | _, _, .str x => .str x
  | _, _, .tup (a := a) h na q => .tup (by
      have hne : a ≠ p := fun e => by
        subst e
        rcases h with h | ⟨w, h⟩
        · rw [hp] at h; cases h; exact mu
        · rw [hp] at h; cases h; exact mu
      rcases h with h | ⟨w, h⟩
      · exact .inl (by rw [upd_ne hne]; exact h)
      · exact .inr ⟨w, by rw [upd_ne hne]; exact h⟩) na (Reps.poke hp mu q)
  | _, _, .frl (a := a) h q => .frl (h.elim (fun ⟨⟨w, h⟩, na⟩ => .inl ⟨⟨w, by
      have hne : a ≠ p := fun e => by
        subst e
        rw [hp] at h; cases h; exact mu
      rw [upd_ne hne]; exact h⟩, na⟩) .inr) (Reps.poke hp mu q)
  | _, _, .obj (a := a) h na hf q => .obj (by
      have hne : a ≠ p := fun e => by
        subst e
        rw [hp] at h; cases h; exact mu
      rw [upd_ne hne]; exact h) na hf (Reps.poke hp mu q)
  | _, _, .exn0 (a := a) h na x => .exn0 (by
      have hne : a ≠ p := fun e => by
        subst e
        rw [hp] at h; cases h; exact mu
      rw [upd_ne hne]; exact h) na x
  | _, _, .exnF (a := a) (d := d) h na x hd nd hf q => .exnF (by
      have hne : a ≠ p := fun e => by
        subst e
        rw [hp] at h; cases h; exact mu
      rw [upd_ne hne]; exact h) na x (by
      have hne : d ≠ p := fun e => by
        subst e
        rw [hp] at hd; cases hd; exact mu
      rw [upd_ne hne]; exact hd) nd hf (Reps.poke hp mu q)
  | _, _, .ref h => .ref h
theorem Reps.poke {p : Addr} {o u : HO} (hp : H p = some o) (mu : Mut (some o)) : ∀ {vs : List V} {ds : List D}, Reps G r H vs ds → Reps G r (upd H p u) vs ds
  | _, _, .nil => .nil
  | _, _, .cons h t => .cons (Rep.poke hp mu h) (Reps.poke hp mu t)
end
theorem ObAt.poke {p a : Addr} {o u : HO} {ob : Ob} (hp : H p = some o) (mu : Mut (some o)) (ne : a ≠ p) (h : ObAt G r H a ob) : ObAt G r (upd H p u) a ob := by
  cases ob with
  | lst ds => obtain ⟨vs, h, q⟩ := h; exact ⟨vs, by rw [upd_ne ne]; exact h, q.poke hp mu⟩
  | dct kvs =>
    rcases h with ⟨ws, h, q, p, n⟩ | ⟨z, rows, h, q, y, p, p2, n⟩
    · exact .inl ⟨ws, by rw [upd_ne ne]; exact h, q, p.poke hp mu, n⟩
    · exact .inr ⟨z, rows, by rw [upd_ne ne]; exact h, q, y, p.poke hp mu, p2.poke hp mu, n⟩
  | ins c ds => obtain ⟨dx, fs, h, q, p⟩ := h; exact ⟨dx, fs, by rw [upd_ne ne]; exact h, q, p.poke hp mu⟩
  | lck kvs => obtain ⟨o, ws, h, q, p, n⟩ := h; exact ⟨o, ws, by rw [upd_ne ne]; exact h, q, p.poke hp mu, n⟩
theorem Sim.poke {p : Addr} {o u : HO} {S : Sto} (hp : H p = some o) (mu : Mut (some o)) (np : p ∉ r) (s : Sim G r H S) : Sim G r (upd H p u) S :=
  ⟨s.len, s.nd, fun n a ob h1 h2 => (s.at_ n a ob h1 h2).poke hp mu fun e => np (by rw [← e]; exact List.mem_of_getElem? h1)⟩
theorem EnvR.poke {p : Addr} {o u : HO} {σ : L2.St} {env : Env} (hp : H p = some o) (mu : Mut (some o)) (h : EnvR G r H σ env) : EnvR G r (upd H p u) σ env :=
  ⟨h.len, fun i d q => let ⟨v, a, b⟩ := h.at_ i d q; ⟨v, a, b.poke hp mu⟩⟩
/-- from before the list was made -/
theorem Ext.poke {r0 : List Addr} {H0 : Hp} {p : Addr} {u : HO} (e : Ext r0 H0 r H) (h0 : H0 p = none) : Ext r0 H0 r (upd H p u) := by
  refine ⟨⟨e.pre, fun a w h n => ?_, fun a w h => ?_⟩, fun a o w h => ?_⟩
  · obtain ⟨k1, k2⟩ := e.keep a w h n
    exact ⟨by rw [upd_ne (ne_of_none h h0)]; exact k1, k2⟩
  · obtain ⟨w', k⟩ := e.there a w h
    exact ⟨w', by rw [upd_ne (ne_of_none h h0)]; exact k⟩
  · rw [upd_ne (ne_of_none h h0)]; exact e.frz a o w h
end
def lcGo (src : Src) (t : Tg) (c : BX) (m : EX) : Nat → Nat → Env → Sto → List D → Rs Rv
  | 0, _, _, _, _ => .bad
  | f + 1, i, env, S, acc => match src.get i S with
    | none => .bad
    | some none => .ok (.fr (.lst acc)) S
    | some (some d) => match t.bind d env with
      | none => .bad
      | some env' => match c env' S with
        | .ok true S1 => match eTo m env' S1 with
          | .ok (.va y) S2 => if acc.length < sizeLine then lcGo src t c m f (i + 1) env S2 (acc ++ [y]) else .bad
          | _ => .bad
        | .ok false S1 => lcGo src t c m f (i + 1) env S1 acc
        | _ => .bad
def bYes : BX := fun _ S => .ok true S
def eLc (it : IX) (t : Tg) (own : List Nat) (c : BX) (m : EX) : EX := fun env S => (it env S).bind fun src S1 => lcGo src t c m (src.len + 1) 0 (kill own env) S1 []
section
variable {X : Cx} {cA : Nat → Addr} {fN : Nat → List Str} {W : WX} {pos : Pos}
theorem cs_nil {Y : Cx} : PTs Y [] (TTI (GX X cA fN) W0 bYes) := ⟨fun pins s σ H Q I h => pts_nil.run pins s σ H Q I (by
  obtain ⟨r, S, env, he, hs, hp⟩ := h
  exact hp true r H (Ext.refl r H) hs rfl)⟩
theorem lc_of {it : IX} {t : Tg} {g : TG} {us : List Nat} {c : BX} {m : EX} (T : TgOk X t g) (hu : ∀ i ∈ t.slots, i ∈ us) {σ : L2.St} {H : Hp} {Q : VK} (h : TI (GX X cA fN) W (eLc it t us c m) σ H Q) :
    tLc (TII (GX X cA fN) W it) g (TTI (GX X cA fN) W0 c) (TI (GX X cA fN) W0 m) us σ H Q := by
  obtain ⟨r, S, env, he, hs, hp⟩ := h
  refine ⟨r, S, env, he, hs, Post.bind hp fun src S1 J r1 H1 e1 s1 q1 z => ?_⟩
  intro Dl hD
  refine ⟨fun i f H2 => ∃ r2 S2 acc vs, Ext r1 H1 r2 H2 ∧ Sim (GX X cA fN) r2 H2 S2 ∧ H2 Dl = some (.lst vs) ∧ Dl ∉ r2 ∧ Reps (GX X cA fN) r2 H2 vs acc ∧ Post (GX X cA fN) W σ r H (RV (GX X cA fN) H) Q (lcGo src t c m f i (kill us env) S2 acc), ⟨src.len + 1, r1, S1, [], [], Ext.new hD, ?_, upd_same, ?_, .nil, z⟩, ?_⟩
  · exact s1.stays (fun a o h => by rw [upd_ne (ne_of_none h hD)]; exact h) (Ext.new hD)
  · intro hm
    obtain ⟨n, hn⟩ := List.mem_iff_getElem?.mp hm
    have hl : n < S1.length := by rw [← s1.len]; exact (List.getElem?_eq_some_iff.mp hn).1
    obtain ⟨u, hu, _⟩ := (s1.at_ n Dl _ hn (List.getElem?_eq_getElem hl)).mut
    rw [hD] at hu
    cases hu
  rintro i f H2 ⟨r2, S2, acc, vs, x2, s2, hD2, nD2, ra, z2⟩
  have hew : EnvR (GX X cA fN) r2 H2 (wipe σ us) (kill us env) := kill_wipe (he.ext (e1.trans x2)) us
  cases f with
  | zero => exact z2.elim
  | succ f =>
    unfold lcGo at z2
    obtain ⟨g1, g2⟩ := q1 r2 H2 S2 i x2 s2
    cases eg : src.get i S2 with
    | none => rw [eg] at z2; exact z2.elim
    | some od =>
      cases od with
      | none =>
        rw [eg] at z2
        exact .inl ⟨g2 eg, z2 (.ref Dl) r2 H2 (e1.trans x2) s2 ⟨Dl, rfl, e1.back hD, nD2, vs, hD2, ra⟩⟩
      | some d =>
        rw [eg] at z2
        dsimp only at z2
        obtain ⟨go, yl⟩ := g1 d eg
        refine .inr ⟨go, fun H' => ∃ r' S' acc vs, Ext r1 H1 r' H' ∧ Sim (GX X cA fN) r' H' S' ∧ H' Dl = some (.lst vs) ∧ Dl ∉ r' ∧ Reps (GX X cA fN) r' H' vs acc ∧ Post (GX X cA fN) W σ r H (RV (GX X cA fN) H) Q (lcGo src t c m f (i + 1) (kill us env) S' acc), fun H' q => ⟨f, Nat.lt_succ_self f, q⟩, fun x H3 y => ?_⟩
        obtain ⟨x3, s3, q3⟩ := yl x H3 y
        cases eb : t.bind d (kill us env) with
        | none => rw [eb] at z2; exact z2.elim
        | some env3 =>
          rw [eb] at z2
          dsimp only at z2
          refine T.run cA fN r2 H3 (wipe σ us) (kill us env) env3 x d _ (hew.ext x3) q3 eb fun σ3 he3 hw => ⟨(hw us hu).trans (wipe_wipe σ us), r2, S2, env3, he3, s3, ?_⟩
          cases ec : c env3 S2 with
          | err c ds S' => rw [ec] at z2; exact z2.elim
          | bad => rw [ec] at z2; exact z2.elim
          | ok b S4 =>
            rw [ec] at z2
            intro b' r4 H4 e4 s4 hb
            subst hb
            have x4 := x3.trans e4
            cases b' with
            | false =>
              simp only [Bool.false_eq_true, if_false]
              dsimp only at z2
              exact ⟨r4, S4, acc, vs, x2.trans x4, s4, (x4.keep _ _ hD2 nD2).1, (x4.keep _ _ hD2 nD2).2, ra.ext x4, z2⟩
            | true =>
              simp only [if_true]
              dsimp only at z2
              refine TI.to ⟨r4, S4, env3, he3.ext e4, s4, ?_⟩
              cases em : eTo m env3 S4 with
              | err c ds S' => rw [em] at z2; exact z2.elim
              | bad => rw [em] at z2; exact z2.elim
              | ok yv S5 =>
                rw [em] at z2
                cases yv with
                | fr o => exact z2.elim
                | va yd =>
                  dsimp only at z2
                  intro y' r5 H5 e5 s5 q5
                  have x5 := x4.trans e5
                  have k := x5.keep _ _ hD2 nD2
                  by_cases hz : acc.length < sizeLine
                  · rw [if_pos hz] at z2
                    have ra5 := ra.ext x5
                    refine ⟨vs, k.1, by rw [ra5.length]; exact hz, r5, S5, acc ++ [yd], vs ++ [y'], (x2.trans x5).poke hD, s5.poke k.1 trivial k.2, upd_same, k.2, (ra5.append (.cons q5 .nil)).poke k.1 trivial, z2⟩
                  · rw [if_neg hz] at z2
                    exact z2.elim
theorem i_lc {elt tg iter : Expr} {ifs : List Expr} {scope : Scope} {own : List (Str × Nat)} {it : IX} {t : Tg} {g : TG} {c : BX} {m : EX} (T : TgOk X t g) (hu : ∀ i ∈ t.slots, i ∈ own.map (·.2)) (hc : X.calm = true) (hN : X.N.Nodup)
    (hi : PI X tg iter (TII (GX X cA fN) W it)) (ok : BlkOk X.N X.env.scope scope own)
    (hg : ∀ (s : Shared) (H : Hp) (C : Addr) (cl : List (Str × Addr)) (fp : List Addr), PG (X.blk s H scope (compEnvC scope cl C X.env) fp) tg g)
    (ht : ∀ (s : Shared) (H : Hp) (C : Addr) (cl : List (Str × Addr)) (fp : List Addr), PTs (X.blk s H scope (compEnvC scope cl C X.env) fp) ifs (TTI (GX X cA fN) W0 c))
    (he : ∀ (s : Shared) (H : Hp) (C : Addr) (cl : List (Str × Addr)) (fp : List Addr), PE (X.blk s H scope (compEnvC scope cl C X.env) fp) elt (TI (GX X cA fN) W0 m)) (hs : ∀ x, foldedSetIterable iter X.env x = pure x := by intro _; rfl) :
    PE X (.ListComp elt [⟨tg, iter, ifs, 0⟩] scope pos) (TI (GX X cA fN) W (eLc it t (own.map (·.2)) c m)) := (pe_lc hc hN hi ok hg ht he hs).mono fun _ _ _ h => lc_of T hu h
def ixL (m : EX) : IX := fun env S => (m env S).bind fun x S1 => match x with
  | .va (.ref n) => match S1[n]? with
    | some (.lst ds) => .ok (.live n ds.length) S1
    | _ => .bad
  | .fr (.lst ds) => .ok (.fix ds) S1
  | .va (.frl ds) => .ok (.fix ds) S1
  | _ => .bad
theorem jok_fix {G : Cfg} {r0 : List Addr} {H0 : Hp} {a : Addr} {vs : List V} {ds : List D} (q : Reps G r0 H0 vs ds) (st : ∀ r H, Ext r0 H0 r H → SqL G.K H a vs) : JOk G r0 H0 (Itl G.K a) (.fix ds) := by
  intro r H S i e s
  have h1 := st r H e
  have q' := q.ext e
  refine ⟨fun d hd => ?_, fun hd => ?_⟩
  · have hd' : ds[i]? = some d := Option.some.inj hd
    obtain ⟨v, hv, rv⟩ := q'.get hd'
    refine ⟨⟨vs, v, h1, hv⟩, fun x H' y => ?_⟩
    obtain ⟨rfl, y⟩ := y
    have := y vs h1
    rw [hv] at this
    cases this
    exact ⟨Ext.refl _ _, s, rv⟩
  · have hd' : ds[i]? = none := Option.some.inj hd
    exact ⟨vs, h1, by rw [q'.length]; exact List.getElem?_eq_none_iff.mp hd'⟩
theorem jok_live {G : Cfg} {r0 : List Addr} {H0 : Hp} {a : Addr} {n l : Nat} (ha : r0[n]? = some a) : JOk G r0 H0 (Itl G.K a) (.live n l) := by
  intro r H S i e s
  have ha' := e.at_ ha
  have key : ∀ od, Src.get (.live n l) i S = some od → ∃ ds vs, S[n]? = some (.lst ds) ∧ od = ds[i]? ∧ H a = some (.lst vs) ∧ Reps G r H vs ds := fun od h => by
    have h : (match S[n]? with | some (.lst ds) => some ds[i]? | _ => none) = some od := h
    cases e1 : S[n]? with
    | none => rw [e1] at h; cases h
    | some o =>
      rw [e1] at h
      cases o with
      | lst ds =>
        obtain ⟨vs, h1, h2⟩ := s.at_ n a _ ha' e1
        exact ⟨ds, vs, rfl, (Option.some.inj h).symm, h1, h2⟩
      | dct kvs => cases h
      | lck _ => cases h
      | ins c ds => cases h
  refine ⟨fun d hd => ?_, fun hd => ?_⟩
  · obtain ⟨ds, vs, h1, h2, h3, h4⟩ := key _ hd
    obtain ⟨v, hv, rv⟩ := h4.get h2.symm
    refine ⟨⟨vs, v, SqL.of h3, hv⟩, fun x H' y => ?_⟩
    obtain ⟨rfl, y⟩ := y
    have := y vs (SqL.of h3)
    rw [hv] at this
    cases this
    exact ⟨Ext.refl _ _, s, rv⟩
  · obtain ⟨ds, vs, h1, h2, h3, h4⟩ := key _ hd
    exact ⟨vs, SqL.of h3, by rw [h4.length]; exact List.getElem?_eq_none_iff.mp h2.symm⟩
variable {iter tg : Expr} {m : EX}
theorem x_list (h : PE X iter (TI (GX X cA fN) W m)) : PI X tg iter (TII (GX X cA fN) W (ixL m)) := (pi_list h).mono fun σ H R h => by
  obtain ⟨r, S, env, he, hs, hp⟩ := h
  refine ⟨r, S, env, he, hs, Post.bind hp fun x S1 v r1 H1 e1 s1 q1 z => ?_⟩
  cases x with
  | fr o =>
    cases o with
    | lst ds =>
      obtain ⟨a, rfl, _, na, vs, hv, rv⟩ := q1
      refine ⟨a, rfl, ⟨vs, SqL.of hv⟩, z (Itl X.K a) r1 H1 e1 s1 (jok_fix (vs := vs) rv fun r2 H2 e2 => ?_)⟩
      exact SqL.of (e2.keep _ _ hv na).1
    | dct kvs => exact z.elim
    | lck _ => exact z.elim
    | ins c ds => exact z.elim
  | va d =>
    cases d with
    | ref n =>
      dsimp only at z
      cases e2 : S1[n]? with
      | none => rw [e2] at z; exact z.elim
      | some o =>
        rw [e2] at z
        cases o with
        | lst ds =>
          obtain ⟨a, rfl, ha, vs, hv, rv⟩ := s1.get q1 e2
          exact ⟨a, rfl, ⟨vs, SqL.of hv⟩, z (Itl X.K a) r1 H1 e1 s1 (jok_live ha)⟩
        | dct kvs => exact z.elim
        | lck _ => exact z.elim
        | ins c ds => exact z.elim
    | frl ds =>
      cases q1 with
      | frl h q =>
        rename_i a vs
        have hq : ∀ r2 H2, Ext r1 H1 r2 H2 → SqL X.K H2 a vs := fun r2 H2 e2 => by
          rcases h with ⟨⟨o, h⟩, na⟩ | h
          · exact .inl (.inr ⟨o, (e2.keep _ _ h na).1⟩)
          · exact h H2
        exact ⟨a, rfl, ⟨_, hq r1 H1 (Ext.refl _ _)⟩, z (Itl X.K a) r1 H1 e1 s1 (jok_fix (vs := vs) q hq)⟩
    | _ => exact z.elim
def ixT (m : EX) : IX := fun env S => (m env S).bind fun x S1 => match x with
  | .va (.tup ds) => .ok (.fix ds) S1
  | _ => .bad
theorem x_tup (h : PE X iter (TI (GX X cA fN) W m)) : PI X tg iter (TII (GX X cA fN) W (ixT m)) := (pi_tup h).mono fun σ H R h => by
  obtain ⟨r, S, env, he, hs, hp⟩ := h
  refine ⟨r, S, env, he, hs, Post.bind hp fun x S1 v r1 H1 e1 s1 q1 z => ?_⟩
  cases x with
  | fr o => exact z.elim
  | va d =>
    cases d with
    | tup ds =>
      cases q1 with
      | tup h na q =>
        rename_i a vs
        refine ⟨a, rfl, ⟨vs, .inl h⟩, z (Itt X.K a) r1 H1 e1 s1 fun r H S i e s => ?_⟩
        have h1 : SqT X.K H a vs := .inl (Rd.ext e h na).1
        have q' := q.ext e
        refine ⟨fun d hd => ?_, fun hd => ?_⟩
        · have hd' : ds[i]? = some d := Option.some.inj hd
          obtain ⟨v, hv, rv⟩ := q'.get hd'
          refine ⟨⟨vs, v, h1, hv⟩, fun x H' y => ?_⟩
          obtain ⟨rfl, y⟩ := y
          have := y vs h1
          rw [hv] at this
          cases this
          exact ⟨Ext.refl _ _, s, rv⟩
        · have hd' : ds[i]? = none := Option.some.inj hd
          exact ⟨vs, h1, by rw [q'.length]; exact List.getElem?_eq_none_iff.mp hd'⟩
    | _ => exact z.elim
def signs (x : Str) : List D := x.cps.toList.map fun c => .str ⟨#[c]⟩
def ixS (m : EX) : IX := fun env S => (m env S).bind fun x S1 => match x with
  | .va (.str z) => .ok (.fix (signs z)) S1
  | _ => .bad
theorem x_str (h : PE X iter (TI (GX X cA fN) W m)) : PI X tg iter (TII (GX X cA fN) W (ixS m)) := (pi_str h).mono fun σ H R h => by
  obtain ⟨r, S, env, he, hs, hp⟩ := h
  refine ⟨r, S, env, he, hs, Post.bind hp fun x S1 v r1 H1 e1 s1 q1 z => ?_⟩
  cases x with
  | fr o => exact z.elim
  | va d =>
    cases d with
    | str w =>
      cases q1
      refine ⟨w, rfl, z (Its w) r1 H1 e1 s1 fun r H S i e s => ⟨fun d hd => ?_, fun hd => ?_⟩⟩
      · have hd' : (signs w)[i]? = some d := Option.some.inj hd
        unfold signs at hd'
        rw [List.getElem?_map] at hd'
        cases ec : w.cps.toList[i]? with
        | none => rw [ec] at hd'; cases hd'
        | some c =>
          rw [ec] at hd'
          cases hd'
          have hi : i < w.cps.size := by simpa using (List.getElem?_eq_some_iff.mp ec).1
          refine ⟨hi, fun x H' y => ?_⟩
          obtain ⟨rfl, c', hc, rfl⟩ := y
          have : c' = c := by
            rw [Array.getElem?_toList] at ec
            rw [hc] at ec
            exact Option.some.inj ec
          subst this
          exact ⟨Ext.refl _ _, s, .str _⟩
      · have hd' : (signs w)[i]? = none := Option.some.inj hd
        have := List.getElem?_eq_none_iff.mp hd'
        unfold signs at this
        show w.cps.size ≤ i
        simpa using this
    | _ => exact z.elim
def rangeD (lo hi : Int) : List D := (List.range (hi - lo).toNat).map fun (i : Nat) => .int (lo + (i : Int))
def small62 (i : Int) : Bool := decide (i.natAbs < 4611686018427387904)
theorem small62_ok {i : Int} (h : small62 i = true) : -(2 ^ 62) ≤ i ∧ i < 2 ^ 62 := by
  have h' : i.natAbs < 4611686018427387904 := of_decide_eq_true h
  omega
theorem jok_range {G : Cfg} {r0 : List Addr} {H0 : Hp} (lo hi : Int) : JOk G r0 H0 (Itr lo (hi - lo).toNat) (.fix (rangeD lo hi)) := by
  intro r H S i e s
  refine ⟨fun d hd => ?_, fun hd => ?_⟩
  · have hd' : (rangeD lo hi)[i]? = some d := Option.some.inj hd
    have hi' : i < (hi - lo).toNat := by simpa [rangeD] using (List.getElem?_eq_some_iff.mp hd').1
    have hv : d = .int (lo + (i : Int)) := by
      unfold rangeD at hd'
      rw [List.getElem?_map, List.getElem?_range hi'] at hd'
      exact (Option.some.inj hd').symm
    refine ⟨hi', fun x H' y => ?_⟩
    obtain ⟨rfl, rfl⟩ := y
    exact ⟨Ext.refl _ _, s, by rw [hv]; exact .int _⟩
  · have hd' : (rangeD lo hi)[i]? = none := Option.some.inj hd
    have := List.getElem?_eq_none_iff.mp hd'
    show (hi - lo).toNat ≤ i
    simpa [rangeD] using this
def ixR1 (m : EX) : IX := fun env S => (m env S).bind fun x S1 => match x with
  | .va (.int i) => if small62 i = true then .ok (.fix (rangeD 0 i)) S1 else .bad
  | _ => .bad
theorem ta_one {G : Cfg} {σ : L2.St} {H : Hp} {Q : List V → Hp → Prop} (h : TI G W m σ H fun v H1 => Q [v] H1) : tCons (TI G W m) tNil σ H Q := h
theorem x_range1 {a : Expr} {p : Pos} (hm : X.mg "range" = none) (ha : PE X a (TI (GX X cA fN) W m)) (hg : Gl X "range" := by rfl) (hs : starEach [a] X.env = [(false, eval a X.env)] := by rfl) :
    PI X tg (.Call (.Name "range" p) [a] [] pos) (TII (GX X cA fN) W (ixR1 m)) := (pi_range1 hg hm (pa_cons ha pa_nil hs) hs).mono fun σ H R h => by
  obtain ⟨r, S, env, he, hs, hp⟩ := h
  refine ta_one ⟨r, S, env, he, hs, Post.bind hp fun x S1 v r1 H1 e1 s1 q1 z => ?_⟩
  cases x with
  | fr o => exact z.elim
  | va d =>
    cases d with
    | int i =>
      cases q1
      dsimp only at z
      by_cases hb : small62 i = true
      · rw [if_pos hb] at z
        obtain ⟨b1, b2⟩ := small62_ok hb
        refine ⟨i, rfl, b1, b2, ?_⟩
        have e0 : (i - 0).toNat = i.toNat := by rw [Int.sub_zero]
        rw [← e0]
        exact z _ r1 H1 e1 s1 (jok_range 0 i)
      · rw [if_neg hb] at z
        exact z.elim
    | _ => exact z.elim
def ixR2 (m n : EX) : IX := fun env S => (m env S).bind fun x S1 => (n env S1).bind fun y S2 => match x, y with
  | .va (.int i), .va (.int j) => .ok (.fix (rangeD i j)) S2
  | _, _ => .bad
theorem x_range2 {a b : Expr} {n : EX} {p : Pos} (hm : X.mg "range" = none) (ha : PE X a (TI (GX X cA fN) W m)) (hb : PE X b (TI (GX X cA fN) W n)) (hg : Gl X "range" := by rfl) (hs : starEach [a, b] X.env = [(false, eval a X.env), (false, eval b X.env)] := by rfl)
    (hs2 : starEach [b] X.env = [(false, eval b X.env)] := by rfl) : PI X tg (.Call (.Name "range" p) [a, b] [] pos) (TII (GX X cA fN) W (ixR2 m n)) := (CyL.pi_rangeL hg hm (pa_cons ha (pa_cons hb pa_nil hs2) (by rw [hs, hs2])) hs hs2).mono fun σ H R h => by
  obtain ⟨r, S, env, he, hs, hp⟩ := h
  refine ⟨r, S, env, he, hs, Post.bind hp fun x S1 v r1 H1 e1 s1 q1 z => ?_⟩
  refine ⟨r1, S1, env, he.ext e1, s1, Post.bind (z.shift e1 (R' := fun r' H' J src => JOk (GX X cA fN) r' H' J src) fun _ _ _ _ k => k) fun y S2 w r2 H2 e2 s2 q2 z2 => ?_⟩
  have q1' := q1.ext e2
  cases x with
  | fr o => exact z2.elim
  | va d =>
    cases d with
    | int i =>
      cases y with
      | fr o => exact z2.elim
      | va d' =>
        cases d' with
        | int j =>
          cases q1'
          cases q2
          dsimp only at z2
          exact ⟨i, j, rfl, z2 _ r2 H2 e2 s2 (jok_range i j)⟩
        | _ => exact z2.elim
    | _ => exact z2.elim
def fnOf (n ar : Nat) (body : SM) : FI := fun ds S => match body (ds.map some ++ List.replicate (n - ar) none) S with
  | .nx _ S' => .ok (.va .non) S'
  | .ret x S' => .ok x S'
  | .err _ c fs S' => .err c fs S'
  | _ => .bad
/-- nothing is let out -/
def noErr (f : FI) : FI := fun ds S => match f ds S with
  | .ok x S' => .ok x S'
  | _ => .bad
mutual
def eqDD : D → D → Bool
  | .non, .non => true
  | .bl a, .bl b => decide (a = b)
  | .int a, .int b => decide (a = b)
  | .str a, .str b => decide (a = b)
  | .tup a, .tup b => eqDs a b
  | .frl a, .frl b => eqDs a b
  | .obj c a, .obj d b => decide (c = d) && eqDs a b
  | .exn c a, .exn d b => decide (c = d) && eqDs a b
  | .ref a, .ref b => decide (a = b)
  | _, _ => false
def eqDs : List D → List D → Bool
  | [], [] => true
  | a :: r, b :: t => eqDD a b && eqDs r t
  | _, _ => false
end
mutual
theorem eqDD_of : ∀ {a b : D}, eqDD a b = true → a = b
  | .non, b, h => by cases b <;> first | rfl | cases h
  | .bl a, b, h => by cases b <;> first | (cases h; done) | exact congrArg _ (of_decide_eq_true h)
  | .int a, b, h => by cases b <;> first | (cases h; done) | exact congrArg _ (of_decide_eq_true h)
  | .str a, b, h => by cases b <;> first | (cases h; done) | exact congrArg _ (of_decide_eq_true h)
  | .frl a, b, h => by cases b <;> first | (cases h; done) | exact congrArg _ (eqDs_of h)
  | .obj c a, b, h => by
    cases b <;> first | (cases h; done) | skip
    have h' := Bool.and_eq_true_iff.mp h
    rw [of_decide_eq_true h'.1, eqDs_of h'.2]
  | .exn c a, b, h => by
    cases b <;> first | (cases h; done) | skip
    have h' := Bool.and_eq_true_iff.mp h
    rw [of_decide_eq_true h'.1, eqDs_of h'.2]
  | .ref a, b, h => by cases b <;> first | (cases h; done) | exact congrArg _ (of_decide_eq_true h)
  | .tup a, b, h => by cases b <;> first | (cases h; done) | exact congrArg _ (eqDs_of h)
theorem eqDs_of : ∀ {a b : List D}, eqDs a b = true → a = b
  | [], [], _ => rfl
  | [], _ :: _, h => by cases h
  | _ :: _, [], h => by cases h
  | a :: r, b :: t, h => by
    have h' := Bool.and_eq_true_iff.mp h
    rw [eqDD_of h'.1, eqDs_of h'.2]
end
mutual
theorem eqDD_refl : ∀ a : D, eqDD a a = true
  | .non => rfl
  | .bl a => decide_eq_true rfl
  | .int a => decide_eq_true rfl
  | .str a => decide_eq_true rfl
  | .frl a => eqDs_refl a
  | .obj c a => by
    show (decide (c = c) && eqDs a a) = true
    rw [eqDs_refl, decide_eq_true rfl]; rfl
  | .exn c a => by
    show (decide (c = c) && eqDs a a) = true
    rw [eqDs_refl, decide_eq_true rfl]; rfl
  | .ref a => decide_eq_true rfl
  | .tup a => eqDs_refl a
theorem eqDs_refl : ∀ a : List D, eqDs a a = true
  | [] => rfl
  | a :: r => by
    show (eqDD a a && eqDs r r) = true
    rw [eqDD_refl a, eqDs_refl r]; rfl
end
def eqOb : Ob → Ob → Bool
  | .lst a, .lst b => eqDs a b
  | .dct a, .dct b => eqDs (a.map (·.1)) (b.map (·.1)) && eqDs (a.map (·.2)) (b.map (·.2))
  | .ins c a, .ins d b => decide (c = d) && eqDs a b
  | .lck a, .lck b => eqDs (a.map (·.1)) (b.map (·.1)) && eqDs (a.map (·.2)) (b.map (·.2))
  | _, _ => false
theorem pairs_eq : ∀ {a b : List (D × D)}, a.map (·.1) = b.map (·.1) → a.map (·.2) = b.map (·.2) → a = b
  | [], [], _, _ => rfl
  | [], _ :: _, h, _ => by simp at h
  | _ :: _, [], h, _ => by simp at h
  | (x, y) :: a, (z, w) :: b, h, k => by
    simp at h k
    rw [h.1, k.1, pairs_eq h.2 k.2]
theorem eqOb_of : ∀ {a b : Ob}, eqOb a b = true → a = b
  | .lst a, b, h => by cases b <;> first | (cases h; done) | exact congrArg _ (eqDs_of h)
  | .dct a, b, h => by
    cases b <;> first | (cases h; done) | skip
    have h' := Bool.and_eq_true_iff.mp h
    exact congrArg _ (pairs_eq (eqDs_of h'.1) (eqDs_of h'.2))
  | .ins c a, b, h => by
    cases b <;> first | (cases h; done) | skip
    have h' := Bool.and_eq_true_iff.mp h
    rw [of_decide_eq_true h'.1, eqDs_of h'.2]
  | .lck a, b, h => by
    cases b <;> first | (cases h; done) | skip
    have h' := Bool.and_eq_true_iff.mp h
    exact congrArg _ (pairs_eq (eqDs_of h'.1) (eqDs_of h'.2))
theorem eqOb_refl : ∀ a : Ob, eqOb a a = true
  | .lst a => eqDs_refl a
  | .dct a => by
    show (eqDs _ _ && eqDs _ _) = true
    rw [eqDs_refl, eqDs_refl]; rfl
  | .ins c a => by
    show (decide (c = c) && eqDs _ _) = true
    rw [eqDs_refl, decide_eq_true rfl]; rfl
  | .lck a => by
    show (eqDs _ _ && eqDs _ _) = true
    rw [eqDs_refl, eqDs_refl]; rfl
def eqSto : Sto → Sto → Bool
  | [], [] => true
  | a :: r, b :: t => eqOb a b && eqSto r t
  | _, _ => false
theorem eqSto_of : ∀ {a b : Sto}, eqSto a b = true → a = b
  | [], [], _ => rfl
  | [], _ :: _, h => by cases h
  | _ :: _, [], h => by cases h
  | a :: r, b :: t, h => by
    have h' := Bool.and_eq_true_iff.mp h
    rw [eqOb_of h'.1, eqSto_of h'.2]
theorem eqSto_refl : ∀ a : Sto, eqSto a a = true
  | [] => rfl
  | a :: r => by
    show (eqOb a a && eqSto r r) = true
    rw [eqOb_refl, eqSto_refl r]; rfl
/-- what nobody can reach any more is dropped -/
def cutB (S S' : Sto) : Bool := eqSto (S'.take S.length) S || (S'.take S.length).all fun o => o.und S.length
def okCut (S S' : Sto) : Prop := S'.take S.length = S ∨ ∀ o ∈ S'.take S.length, o.und S.length = true
theorem cutB_ok {S S' : Sto} (h : cutB S S' = true) : okCut S S' := by
  unfold cutB at h
  rw [Bool.or_eq_true] at h
  rcases h with h | h
  · exact .inl (eqSto_of h)
  · exact .inr fun o ho => by
      have := List.all_eq_true.mp h o ho
      exact this
def clean (f : FI) : FI := fun ds S => match f ds S with
  | .ok (.va d) S' => if (cutB S S' && d.und S.length) = true then .ok (.va d) (S'.take S.length) else
      match d with
      | .ref n => match S'[n]? with
        | some o => if (cutB S S' && (decide (S.length ≤ n) && o.und S.length)) = true then .ok (.fr o) (S'.take S.length) else .ok (.va d) S'
        | none => .ok (.va d) S'
      | _ => .ok (.va d) S'
  | .ok (.fr o) S' => if (cutB S S' && o.und S.length) = true then .ok (.fr o) (S'.take S.length) else .ok (.fr o) S'
  | .err c ds S' => if (cutB S S' && D.unds S.length ds) = true then .err c ds (S'.take S.length) else .err c ds S'
  | .bad => .bad
end
section
variable {G : Cfg} {r : List Addr} {H : Hp} {S : Sto}
theorem cut_sim {r1 : List Addr} {H1 : Hp} {S1 : Sto} (s : Sim G r H S) (e : Ext r H r1 H1) (s1 : Sim G r1 H1 S1) (k : okCut S S1) : Sim G r H1 (S1.take S.length) ∧ Ext r H r H1 := by
  obtain ⟨l, hl⟩ := e.pre
  have hlen : S.length ≤ S1.length := by
    have a := s1.len
    rw [hl, List.length_append, s.len] at a
    omega
  have hu : ∀ o ∈ S1.take S.length, o.und r.length = true := by
    rw [s.len]
    rcases k with k | k
    · rw [k]; exact s.und
    · exact k
  refine ⟨⟨by rw [List.length_take, s.len]; omega, s.nd, fun n a o h1 h2 => ?_⟩, ⟨⟨⟨[], by simp⟩, fun a o h n => ⟨(e.keep a o h n).1, n⟩, e.there⟩, e.frz⟩⟩
  have hn : n < S.length := by rw [← s.len]; exact (List.getElem?_eq_some_iff.mp h1).1
  have h3 : S1[n]? = some o := by
    rw [List.getElem?_take_of_lt hn] at h2
    exact h2
  have h4 := s1.at_ n a o (e.at_ h1) h3
  rw [hl] at h4
  exact h4.cut (hu o (List.mem_of_getElem? h2))
theorem clean_post {E : XK} {Q : VK} {f : FI} {ds : List D} (s : Sim G r H S) (h : postF G E r H Q (clean f ds S)) : postF G E r H Q (f ds S) := by
  unfold clean at h
  cases ef : f ds S with
  | bad => rw [ef] at h; exact h
  | err c fs S1 =>
    rw [ef] at h
    dsimp only at h
    split at h
    · rename_i k
      have k := Bool.and_eq_true_iff.mp k
      have k := And.intro (cutB_ok k.1) k.2
      intro cls oe r1 H1 e1 s1 q1
      obtain ⟨s2, e2⟩ := cut_sim s e1 s1 k.1
      obtain ⟨l, hl⟩ := e1.pre
      refine h cls oe r H1 e2 s2 ⟨q1.1, ?_⟩
      rcases q1.2 with q | ⟨d, fv, q2, q3, q4, q5, q6⟩
      · exact .inl q
      · subst hl
        exact .inr ⟨d, fv, q2, q3, fun z => q4 (List.mem_append_left _ z), q5, q6.cut (by rw [s.len]; exact k.2)⟩
    · exact h
  | ok x S1 =>
    rw [ef] at h
    cases x with
    | fr o =>
      dsimp only at h
      split at h
      · rename_i k
        have k := Bool.and_eq_true_iff.mp k
        have k := And.intro (cutB_ok k.1) k.2
        intro v r1 H1 e1 s1 q1
        obtain ⟨s2, e2⟩ := cut_sim s e1 s1 k.1
        obtain ⟨l, hl⟩ := e1.pre
        subst hl
        obtain ⟨a, h1, h2, h3, h4⟩ := q1
        exact h v r H1 e2 s2 ⟨a, h1, h2, fun z => h3 (List.mem_append_left _ z), h4.cut (by rw [s.len]; exact k.2)⟩
      · exact h
    | va d =>
      dsimp only at h
      split at h
      · rename_i k
        have k := Bool.and_eq_true_iff.mp k
        have k := And.intro (cutB_ok k.1) k.2
        intro v r1 H1 e1 s1 q1
        obtain ⟨s2, e2⟩ := cut_sim s e1 s1 k.1
        obtain ⟨l, hl⟩ := e1.pre
        subst hl
        exact h v r H1 e2 s2 (Rep.cut q1 (by rw [s.len]; exact k.2))
      · cases d with
        | ref n =>
          dsimp only at h
          cases en : S1[n]? with
          | none => rw [en] at h; exact h
          | some o =>
            rw [en] at h
            dsimp only at h
            split at h
            · rename_i k
              have k := Bool.and_eq_true_iff.mp k
              have k := And.intro (cutB_ok k.1) k.2
              intro v r1 H1 e1 s1 q1
              have k := And.intro k.1 (And.intro (of_decide_eq_true (Bool.and_eq_true_iff.mp k.2).1) (Bool.and_eq_true_iff.mp k.2).2)
              obtain ⟨s2, e2⟩ := cut_sim s e1 s1 k.1
              obtain ⟨a, rfl, ha, hob⟩ := s1.get q1 en
              obtain ⟨l, hl⟩ := e1.pre
              subst hl
              have na : a ∉ r := fun z => by
                obtain ⟨m, hm⟩ := List.mem_iff_getElem?.mp z
                have hm' : m < r.length := (List.getElem?_eq_some_iff.mp hm).1
                have hm2 : (r ++ l)[m]? = some a := by rw [List.getElem?_append_left hm']; exact hm
                have e := Sim.wr.nodup_at s1.nd hm2 ha
                have := s.len
                omega
              refine h (.ref a) r H1 e2 s2 ⟨a, rfl, ?_, na, hob.cut (by rw [s.len]; exact k.2.2)⟩
              cases eH : H a with
              | none => rfl
              | some u => exact absurd (List.mem_of_getElem? ha) (e1.keep a u eH na).2
            · exact h
        | _ => exact h
end
section
variable {P : Program} {w : World} {K : PySem.W.Frag} {mg : Str → Option Value} {base : Heap} {cA : Nat → Addr} {fN : Nat → List Str} {x qual : Str} {params : Arguments} {body : List Stmt} {scope : Scope} {dvs : List V} {kws : List (Str × V)} {f : Addr} {fd : FuncData} {N ps : List Str} {k : Nat}
theorem start_env {G : Cfg} {r : List Addr} {H : Hp} {vs : List V} {ds : List D} (q : Reps G r H vs ds) (n : Nat) : EnvR G r H (vs.map some ++ List.replicate n none) (ds.map some ++ List.replicate n none) := by
  refine ⟨by simp [q.length], fun i d e => ?_⟩
  have hl := q.length
  by_cases hi : i < ds.length
  · rw [List.getElem?_append_left (by simpa using hi), List.getElem?_map] at e
    cases ed : ds[i]? with
    | none => rw [ed] at e; cases e
    | some d' =>
      rw [ed] at e
      cases e
      obtain ⟨v, hv, rv⟩ := q.get ed
      exact ⟨v, by rw [List.getElem?_append_left (by simp; omega), List.getElem?_map, hv]; rfl, rv⟩
  · rw [List.getElem?_append_right (by simp; omega), List.getElem?_replicate] at e
    split at e <;> cases e
/-- a def that lets nothing out -/
theorem fn0 {sm : SM} (F : FunD K x qual params body scope dvs kws f fd) (S : FnScope N ps scope)
    (hb : ∀ (cdv : Value) (A : Around) (outer : List PySem.Env) (s : Shared) (H : Hp) (E : XK), Room k (A.deeper (PyProof.Rows.envOfC qual scope s.heap.objs.size f cdv)) →
      PSs (cxOf CX0 P w K mg base N qual scope f cdv A outer s H E).nox body (TSI ⟨K, cA, fN, P, w⟩ W0 sm)) : FnOk P w K mg base CX0 (k + 1) f fd ps (spI ⟨K, cA, fN, P, w⟩ ps.length (clean (noErr (fnOf N.length ps.length sm)))) := by
  refine F.ok S (fun vs H Q E h => h.1) fun cdv A outer s H vs Q E hr h => ⟨_, (hb cdv A outer s H E hr).nox, ?_⟩
  obtain ⟨hl, r, S0, ds, hs, hq, hp⟩ := h
  have hp := clean_post hs hp
  unfold noErr fnOf at hp
  unfold L2.start
  rw [hl]
  refine ⟨r, S0, _, start_env hq _, hs, ?_⟩
  cases em : sm (ds.map some ++ List.replicate (N.length - ps.length) none) S0 with
  | nx env S' => rw [em] at hp; exact fun σ' r' H' e he s => hp .non r' H' e s .non
  | ret y S' => rw [em] at hp; exact fun v r' H' e s q => hp v r' H' e s q
  | brk env S' => rw [em] at hp; exact hp.elim
  | ct env S' => rw [em] at hp; exact hp.elim
  | err env c ds S' => rw [em] at hp; exact hp.elim
  | bad => rw [em] at hp; exact hp.elim
/-- a def that may raise -/
theorem fnX {sm : SM} (F : FunD K x qual params body scope dvs kws f fd) (S : FnScope N ps scope)
    (hb : ∀ (cdv : Value) (A : Around) (outer : List PySem.Env) (s : Shared) (H : Hp) (E : XK), Room k (A.deeper (PyProof.Rows.envOfC qual scope s.heap.objs.size f cdv)) →
      PSs (cxOf (L2.CX P w) P w K mg base N qual scope f cdv A outer s H E) body (TSI ⟨K, cA, fN, P, w⟩ (fun c o _ H => E c o H) sm)) : FnOk P w K mg base (L2.CX P w) (k + 1) f fd ps (spI ⟨K, cA, fN, P, w⟩ ps.length (clean (fnOf N.length ps.length sm))) := by
  refine F.ok S (fun vs H Q E h => h.1) fun cdv A outer s H vs Q E hr h => ⟨_, hb cdv A outer s H E hr, ?_⟩
  obtain ⟨hl, r, S0, ds, hs, hq, hp⟩ := h
  have hp := clean_post hs hp
  unfold fnOf at hp
  unfold L2.start
  rw [hl]
  refine ⟨r, S0, _, start_env hq _, hs, ?_⟩
  cases em : sm (ds.map some ++ List.replicate (N.length - ps.length) none) S0 with
  | nx env S' => rw [em] at hp; exact fun σ' r' H' e he s => hp .non r' H' e s .non
  | ret y S' => rw [em] at hp; exact fun v r' H' e s q => hp v r' H' e s q
  | brk env S' => rw [em] at hp; exact hp.elim
  | ct env S' => rw [em] at hp; exact hp.elim
  | err env c ds S' => rw [em] at hp; exact fun cls oe σ' r' H' e he s q => hp cls oe r' H' e s q
  | bad => rw [em] at hp; exact hp.elim
end
def unva : List Rv → Option (List D)
  | [] => some []
  | .va d :: r => (unva r).map (d :: ·)
  | .fr _ :: _ => none
theorem unva_ok {G : Cfg} {r : List Addr} {H0 H : Hp} : ∀ {xs : List Rv} {vs : List V} {ds : List D}, RepRs G r H0 H vs xs → unva xs = some ds → Reps G r H vs ds
  | _, _, _, .nil, e => by cases e; exact .nil
  | _, _, _, .cons (x := .va d) (xs := xs) h t, e => by
    unfold unva at e
    cases eu : unva xs with
    | none => rw [eu] at e; cases e
    | some ds' =>
      rw [eu] at e
      cases e
      exact .cons h (unva_ok t eu)
  | _, _, _, .cons (x := .fr o) h t, e => by cases e
def eCall (f : FI) (ms : List EX) (dds : List D) : EX := fun env S => (eArgs ms env S).bind fun xs S1 => match unva xs with
  | some ds => f (ds ++ dds) S1
  | none => .bad
theorem args_len {ms : List EX} {env : Env} : ∀ {S S1 : Sto} {xs : List Rv}, eArgs ms env S = .ok xs S1 → xs.length = ms.length := by
  induction ms with
  | nil => intro S S1 xs h; cases h; rfl
  | cons m ms ih =>
    intro S S1 xs h
    unfold eArgs at h
    cases e1 : m env S with
    | ok x S2 =>
      rw [e1] at h
      cases e2 : eArgs ms env S2 with
      | ok ys S3 =>
        rw [Rs.bind_ok, e2] at h
        cases h
        rw [List.length_cons, List.length_cons, ih e2]
      | err c ds S3 => rw [Rs.bind_ok, e2] at h; cases h
      | bad => rw [Rs.bind_ok, e2] at h; cases h
    | err c ds S2 => rw [e1] at h; cases h
    | bad => rw [e1] at h; cases h
theorem Post.bindE {G : Cfg} {W : WX} {σ : L2.St} {r : List Addr} {H : Hp} {α β γ δ : Type} {R1 : List Addr → Hp → β → α → Prop} {R2 : List Addr → Hp → δ → γ → Prop} {Q1 : β → Hp → Prop} {Q2 : δ → Hp → Prop} {m : Rs α} {k : α → Sto → Rs γ} (h : Post G W σ r H R2 Q2 (m.bind k))
    (step : ∀ x S1 v r1 H1, m = .ok x S1 → Ext r H r1 H1 → Sim G r1 H1 S1 → R1 r1 H1 v x → Post G W σ r H R2 Q2 (k x S1) → Q1 v H1) : Post G W σ r H R1 Q1 m := by
  cases m with
  | ok x S => exact fun v r' H' e s q => step x S v r' H' rfl e s q h
  | err c ds S => exact h
  | bad => exact h
theorem Reps.dvs {G : Cfg} {dvs : List V} {dds : List D} (h : ∀ r H, Reps G r H dvs dds) {r : List Addr} {H : Hp} {vs : List V} {ds : List D} (q : Reps G r H vs ds) : Reps G r H (vs ++ dvs) (ds ++ dds) := q.append (h r H)
section
variable {X : Cx} {cA : Nat → Addr} {fN : Nat → List Str} {W : WX} {k : Nat} {f : Addr} {fd : FuncData} {ps : List Str} {fI : FI} {dvs : List V} {dds : List D} {ds : List Value} {x : Str} {p pos : Pos} {e : Expr} {es : List Expr} {ms : List EX} {m : EX}
theorem call_of {G : Cfg} {E : L2.St → XK} (hE : ∀ σ c o H, W c o σ H → E σ c o H) (hd : ∀ r H, Reps G r H dvs dds) (hn : ms.length + dds.length = ps.length) {σ : L2.St} {H : Hp} {Q : VK} (h : TI G W (eCall fI ms dds) σ H Q) :
    TAI G W (eArgs ms) σ H fun vs H1 => spI G ps.length fI (vs ++ dvs) H1 Q (E σ) := by
  obtain ⟨r, S, env, he, hs, hp⟩ := h
  refine ⟨r, S, env, he, hs, Post.bindE hp fun xs S1 vs r1 H1 e0 e1 s1 q1 z => ?_⟩
  cases eu : unva xs with
  | none => rw [eu] at z; exact z.elim
  | some ds =>
    rw [eu] at z
    have q := (unva_ok q1 eu).dvs hd
    refine ⟨?_, r1, S1, ds ++ dds, s1, q, ?_⟩
    · rw [q.length, List.length_append, ← hn, ← args_len e0]
      congr 1
      have := (unva_ok q1 eu).length
      have h2 : vs.length = xs.length := by
        clear z eu q this e0
        induction q1 with
        | nil => rfl
        | cons _ _ ih => simp [ih]
      omega
    · have z' := z.shift e1 (R' := RV G H1) fun _ _ _ _ k => back_rv e1 k
      unfold postF
      dsimp only at z'
      cases ef : fI (ds ++ dds) S1 with
      | ok y S2 => rw [ef] at z'; exact z'
      | err c fs S2 => rw [ef] at z'; exact fun cls oe r' H' x s q => hE σ _ _ _ (z' cls oe r' H' x s q)
      | bad => rw [ef] at z'; exact z'
theorem ne_clean (f : FI) : NoErr (clean (noErr f)) := by
  intro ds S c fs S' h
  unfold clean at h
  cases e : noErr f ds S with
  | bad => rw [e] at h; cases h
  | err c1 f1 S1 =>
    unfold noErr at e
    split at e <;> cases e
  | ok x S1 =>
    rw [e] at h
    cases x with
    | fr o => dsimp only at h; split at h <;> cases h
    | va d =>
      dsimp only at h
      split at h
      · cases h
      · split at h
        · split at h
          · split at h <;> cases h
          · cases h
        · cases h
theorem call_of0 {G : Cfg} (ne : NoErr fI) (hd : ∀ r H, Reps G r H dvs dds) (hn : ms.length + dds.length = ps.length) {σ : L2.St} {H : Hp} {Q : VK} (h : TI G W (eCall fI ms dds) σ H Q) :
    TAI G W (eArgs ms) σ H fun vs H1 => spI G ps.length fI (vs ++ dvs) H1 Q E0 := by
  obtain ⟨r, S, env, he, hs, hp⟩ := call_of (E := fun σ c o H => W c o σ H) (fun _ _ _ _ z => z) hd hn h
  refine ⟨r, S, env, he, hs, hp.mono fun vs H1 q => ?_⟩
  obtain ⟨h1, r1, S1, ds, h2, h3, h4⟩ := q
  refine ⟨h1, r1, S1, ds, h2, h3, ?_⟩
  unfold postF at h4 ⊢
  cases ef : fI ds S1 with
  | ok y S2 => rw [ef] at h4; exact h4
  | err c fs S2 => exact absurd ef (ne _ _ _ _ _)
  | bad => rw [ef] at h4; exact h4
/-- f(e, ..), f lets nothing out -/
theorem i_call (ne : NoErr fI) (F : FnOk X.prog X.w X.K X.mg X.base CX0 k f fd ps (spI (GX X cA fN) ps.length fI)) (hr : Room k X.A) (hm : X.mg x = some (.ref f)) (hk : PySem.W.keepIn X.K (.ref f) = true) (hb : Binds X.K fd ps ds) (hd : Vals dvs ds) (hdd : ∀ r H, Reps (GX X cA fN) r H dvs dds)
    (ha : PA X (e :: es) (TAI (GX X cA fN) W (eArgs (m :: ms)))) (hn : (m :: ms).length + dds.length = ps.length := by rfl) (hg : Gl X x := by rfl) (hdb : (x == ("__debug__" : Str)) = false := by decide) (he : starEach (e :: es) X.env = (false, eval e X.env) :: starEach es X.env := by rfl)
    (hpl : (backTo pos (starEach es X.env)).any (·.1) = false := by rfl) : PE X (.Call (.Name x p) (e :: es) [] pos) (TI (GX X cA fN) W (eCall fI (m :: ms) dds)) :=
  (pe_call F hr hg hm hk hb hd pass0 ha hdb he hpl).mono fun σ H Q h => call_of0 ne hdd hn h
end
end Cy
set_option Elab.async false
set_option linter.all false
set_option maxRecDepth 100000
set_option maxHeartbeats 2000000
set_option autoImplicit false
namespace Cy
open PySem PySem.Spec PyProof.Rows L2 PySem.Builtin
theorem add_any (l : Addr) (items : Array Value) (n : Nat) (b : Addr) (items2 : Array Value) (n2 : Nat) (sl sl2 : Array (Option Value)) (hc0 : items.size + items2.size ≤ sizeLine) :
    Meets (Builtin.«list.__add__» ⟨[.ref l, .ref b], []⟩) (fun _ R s => s.heap.get? l = some { cls := .type "list", dict := none, data := .seq items n, slots := sl } ∧ s.heap.get? b = some { cls := .type "list", dict := none, data := .seq items2 n2, slots := sl2 } ∧ R (.ok (.ret (Value.ref s.heap.objs.size))) { s with heap := s.heap.push { cls := Value.type "list", data := Data.seq (items ++ items2) }, toks := s.toks }) :=
  .of_wp fun prog w A R s h => by obtain ⟨hp, g, d, tk, os⟩ := s; obtain ⟨hl, hb, h⟩ := h; have f1 := AutoSeq1.idx_int; have f2 := AutoSeq1.sub_tuple_tuple; have f3 := AutoSeq1.sub_list_list; have f4 := AutoSeq1.sub_tuple_list; have f5 := AutoSeq1.sub_list_tuple; wp_walk using AutoSeq1.wpAny_loadPart' hl, AutoSeq1.wpAny_loadPart' hb; exact ⟨_, rfl, h⟩
def rCatQ (K : PySem.W.Frag) : R2 := fun x y H Q => ∃ l b xs zs, x = .ref l ∧ y = .ref b ∧ SqL K H l xs ∧ SqL K H b zs ∧ xs.length + zs.length ≤ sizeLine ∧ ∀ p, H p = none → Q (.ref p) (upd H p (.lst (xs ++ zs)))
theorem op_catQ {X : Cx} : OpR X (binaryOp .Add) (rCatQ X.K) := by
  intro pins s σ H x y v u Q I rx ry h
  obtain ⟨l, b, xs, zs, rfl, rfl, hH, hB, hz, q⟩ := h
  cases rx
  cases ry
  obtain ⟨its, r, ⟨o, n, e, hc, hd, hs⟩, hl⟩ := I.list hH
  obtain ⟨its2, r2, ⟨o2, n2, e2, hc2, hd2, hs2⟩, hl2⟩ := I.list hB
  obtain ⟨c, d, dt, sl⟩ := o
  obtain ⟨c2, d2, dt2, sl2⟩ := o2
  simp only at hc hd hs hc2 hd2 hs2
  subst hc hd hs hc2 hd2 hs2
  have l1 := r.length
  have l2 := r2.length
  refine concat_meets ⟨_, e, rfl⟩ ⟨_, e2, rfl⟩ noFill_list_add seq_list_add F.slot_list_add F.entry_list_add (F.args_list_add_2 _ _) (add_any l its.toArray n b its2.toArray n2 sl sl2 (by rw [List.size_toArray, List.size_toArray]; omega)) ⟨e, e2, ?_⟩
  have ea : its.toArray ++ its2.toArray = (its ++ its2).toArray := by simp
  rw [ea]
  exact ⟨.ref _, _, I.lnew (t' := s.toks) (r.append r2) (by rw [List.length_append]; omega), rfl, q _ I.fresh⟩
def tFrz (t : TE) : TE := fun σ H Q => t σ H fun v H1 => ∃ d u, v = .ref d ∧ H1 d = some u ∧ Mut (some u) ∧ ∀ od, Q v (upd H1 d (.frz od u))
theorem pe_frz {X : Cx} {e : Expr} {t : TE} (h : PE X e t) : PE X e (tFrz t) := by
  refine ⟨fun pins s σ H Q I hw => ?_⟩
  refine thn (h.run pins s σ H _ I hw) fun v s1 ⟨x, H1, I1, rx, d, u, ex, hd, mu, q⟩ => ?_
  obtain ⟨od, I2⟩ := I1.lock hd mu
  exact ⟨x, _, I2, rx, q od⟩
/-- .. or as it is -/
theorem pe_or {X : Cx} {e : Expr} {t t' : TE} (h : PE X e t) (h' : PE X e t') : PE X e fun σ H Q => t σ H Q ∨ t' σ H Q := ⟨fun pins s σ H Q I hw => hw.elim (h.run pins s σ H Q I) (h'.run pins s σ H Q I)⟩
/-- a fresh list, a fresh instance: a value from now on -/
def frzD : Rv → Rv
  | .fr (.lst ds) => .va (.frl ds)
  | .fr (.ins c ds) => .va (.obj c ds)
  | x => x
def eFz (m : EX) : EX := fun env S => (m env S).bind fun x S1 => .ok (frzD x) S1
section
variable {X : Cx} {cA : Nat → Addr} {fN : Nat → List Str} {W : WX} {e : Expr} {m : EX}
theorem notin_lst {G : Cfg} {r : List Addr} {H : Hp} {S : Sto} {a : Addr} (s : Sim G r H S) (h : H a = none) : a ∉ r := fun hm => by
  obtain ⟨n, hn⟩ := List.mem_iff_getElem?.mp hm
  have hl : n < S.length := by rw [← s.len]; exact (List.getElem?_eq_some_iff.mp hn).1
  obtain ⟨u, hu, _⟩ := (s.at_ n a _ hn (List.getElem?_eq_getElem hl)).mut
  rw [h] at hu
  cases hu
/-- what is outside the store and may be changed is held fast -/
theorem frz_ext {r : List Addr} {H : Hp} {r1 : List Addr} {H1 : Hp} {a : Addr} {u : HO} {od : Obj} (e : Ext r H r1 H1) (h0 : H a = none) : Ext r H r1 (upd H1 a (.frz od u)) := e.poke h0
theorem i_fz (h : PE X e (TI (GX X cA fN) W m)) : PE X e (TI (GX X cA fN) W (eFz m)) := (pe_or h (pe_frz h)).mono fun σ H Q h => by
  obtain ⟨r, S, env, he, hs, hp⟩ := h
  unfold eFz at hp
  cases em : m env S with
  | bad => rw [em] at hp; exact hp.elim
  | err c ds S1 =>
    rw [em] at hp
    exact .inl ⟨r, S, env, he, hs, by rw [em]; exact hp⟩
  | ok x S1 =>
    rw [em] at hp
    have keep : frzD x = x → (TI (GX X cA fN) W m σ H Q ∨ tFrz (TI (GX X cA fN) W m) σ H Q) := fun ex => .inl ⟨r, S, env, he, hs, by
      rw [em]
      rw [Rs.bind_ok, ex] at hp
      exact hp⟩
    cases x with
    | va d => exact keep rfl
    | fr o =>
      cases o with
      | dct kvs => exact keep rfl
      | lck _ => exact keep rfl
      | lst ds =>
        refine .inr ⟨r, S, env, he, hs, ?_⟩
        rw [em]
        intro v r1 H1 e1 s1 q1
        obtain ⟨a, rfl, h0, na, vs, hv, rv⟩ := q1
        refine ⟨a, _, rfl, hv, trivial, fun od => ?_⟩
        exact hp (.ref a) r1 _ (frz_ext e1 h0) (s1.poke hv trivial na) (.frl (vs := vs) (.inl ⟨⟨od, upd_same⟩, na⟩) (rv.poke hv trivial))
      | ins c ds =>
        refine .inr ⟨r, S, env, he, hs, ?_⟩
        rw [em]
        intro v r1 H1 e1 s1 q1
        obtain ⟨a, rfl, h0, na, dx, fs, hv, hf, rv⟩ := q1
        refine ⟨a, _, rfl, hv, trivial, fun od => ?_⟩
        exact hp (.ref a) r1 _ (frz_ext e1 h0) (s1.poke hv trivial na) (.obj (o := od) (dx := dx) (fs := fs) upd_same na hf (rv.poke hv trivial))
end
section
variable {X : Cx} {pins : List (Addr × Obj)} {σ : L2.St} {H : Hp} {s : Shared} {a C dx : Addr} {fs : List (Str × V)} {f : Str} {v : V} {A : Around} {E : Value → Shared → Prop}
theorem ins_getR {P : Program} {w : World} {h : Heap} (x : ObjOk P w H h a (.ins C dx fs)) : ∃ mA, ObjM h a dx C mA ∧ (∀ f, RelO (fs.lookup f) (mA f)) ∧ PySem.Within mA (fs.map (·.1)) ∧ fs.length ≤ 1000 ∧ H dx = some (.own a) := by
  obtain ⟨d, z, ne, ob, mA, n, r, q⟩ := x
  exact ⟨mA, ⟨ob, n, ne⟩, r, q, z, d⟩
theorem getattr_okR {b : Bool} {Q : Value → Shared → Prop} (I : Inv X pins σ H s) (e : Rd H a (.ins C dx fs)) (c : Cls X.K C) (n : NoAttr X.K C f) (l : fs.lookup f = some v)
    (h : ∀ u s', Inv X pins σ H s' → RelV v u → Q u s') : wpAny (model X.prog X.w) A (getAttr (.ref a) f b) Q E s := by
  obtain ⟨mA, O, r, _, _, _⟩ := ins_getR (e.ok I.hok)
  obtain ⟨u, hu, ru⟩ := RelO.some_of (v := v) (o := mA f) (by rw [← l]; exact r f)
  exact get_map I.kIn O (c.get f) c.hd n hu (handed_of ru) (h u _ (I.tok _) ru)
def tFldR (K : PySem.W.Frag) (ta : TE) (f : Str) : TE := fun σ H Q => ta σ H fun x H1 => ∃ a C dx fs v, x = .ref a ∧ Rd H1 a (.ins C dx fs) ∧ Cls K C ∧ NoAttr K C f ∧ fs.lookup f = some v ∧ Q v H1
theorem pe_fldR {e : Expr} {pos : Pos} {ta : TE} (he : PE X e ta) (hb : attributeBase e f X.env (eval e X.env) = eval e X.env) : PE X (.Attribute e f pos) (tFldR X.K ta f) := by
  refine ⟨fun pins s σ H Q I h => ?_⟩
  refine attr_of hb (thn (he.run pins s σ H _ I h) fun u s1 ⟨x, H1, I1, rx, a, C, dx, fs, v, ex, ea, c, n, l, q⟩ => ?_)
  subst ex
  obtain rfl : u = Value.ref a := rx
  exact getattr_okR I1 ea c n l fun u' s2 I2 ru => ⟨v, H1, I2, ru, q⟩
end
end Cy
set_option Elab.async false
set_option linter.all false
set_option maxRecDepth 100000
set_option maxHeartbeats 2000000
set_option autoImplicit false
namespace Cy
open PySem L2
section
variable {G : Cfg} {r : List Addr} {H0 H : Hp} {S : Sto}
/-- a list's items -/
def vL (S : Sto) : Rv → Option (List D)
  | .va (.ref n) => match S[n]? with
    | some (.lst ds) => some ds
    | _ => none
  | .fr (.lst ds) => some ds
  | .va (.frl ds) => some ds
  | _ => none
/-- .. of a list that may be changed -/
def vM (S : Sto) : Rv → Option (List D)
  | .va (.ref n) => match S[n]? with
    | some (.lst ds) => some ds
    | _ => none
  | .fr (.lst ds) => some ds
  | _ => none
def vT : Rv → Option (List D)
  | .va (.tup ds) => some ds
  | _ => none
def vQ (S : Sto) (x : Rv) : Option (List D) := match vT x with
  | some ds => some ds
  | none => vL S x
theorem vM_ok {v : V} {x : Rv} {ds : List D} (s : Sim G r H S) (q : RepR G r H0 H v x) (e : vM S x = some ds) : ∃ a vs, v = .ref a ∧ H a = some (.lst vs) ∧ Reps G r H vs ds := by
  cases x with
  | fr o =>
    cases o with
    | lst es =>
      cases e
      obtain ⟨a, rfl, _, _, vs, h1, h2⟩ := q
      exact ⟨a, vs, rfl, h1, h2⟩
    | dct _ => cases e
    | lck _ => cases e
    | ins _ _ => cases e
  | va d =>
    cases d with
    | ref n =>
      unfold vM at e
      dsimp only at e
      cases e1 : S[n]? with
      | none => rw [e1] at e; cases e
      | some o =>
        rw [e1] at e
        cases o with
        | lst es =>
          cases e
          obtain ⟨a, rfl, _, vs, h1, h2⟩ := s.get q e1
          exact ⟨a, vs, rfl, h1, h2⟩
        | dct _ => cases e
        | lck _ => cases e
        | ins _ _ => cases e
    | _ => cases e
theorem vM_vL {x : Rv} {ds : List D} (e : vM S x = some ds) : vL S x = some ds := by
  cases x with
  | fr o => cases o <;> exact e
  | va d => cases d <;> first | exact e | cases e
theorem vL_ok {v : V} {x : Rv} {ds : List D} (s : Sim G r H S) (q : RepR G r H0 H v x) (e : vL S x = some ds) : ∃ a vs, v = .ref a ∧ SqL G.K H a vs ∧ Reps G r H vs ds := by
  cases hm : vM S x with
  | some es =>
    obtain ⟨a, vs, h1, h2, h3⟩ := vM_ok s q hm
    have : es = ds := Option.some.inj ((vM_vL hm).symm.trans e)
    subst this
    exact ⟨a, vs, h1, SqL.of h2, h3⟩
  | none =>
    cases x with
    | fr o => cases o with
      | lst _ => cases hm
      | _ => cases e
    | va d =>
      cases d with
      | ref n => rw [show vL S (.va (.ref n)) = vM S (.va (.ref n)) from rfl, hm] at e; cases e
      | frl es =>
        cases e
        cases q with
        | frl h q =>
          rename_i a vs
          refine ⟨a, vs, rfl, ?_, q⟩
          rcases h with ⟨⟨o, h⟩, _⟩ | h
          · exact .inl (.inr ⟨o, h⟩)
          · exact h H
      | _ => cases e
theorem vT_ok {v : V} {x : Rv} {ds : List D} (q : RepR G r H0 H v x) (e : vT x = some ds) : ∃ a vs, v = .ref a ∧ SqT G.K H a vs ∧ Reps G r H vs ds := by
  cases x with
  | fr o => cases e
  | va d =>
    cases d with
    | tup es =>
      cases e
      cases q with
      | tup h na q => exact ⟨_, _, rfl, .inl h, q⟩
    | _ => cases e
theorem vQ_ok {v : V} {x : Rv} {ds : List D} (s : Sim G r H S) (q : RepR G r H0 H v x) (e : vQ S x = some ds) : ∃ a vs, v = .ref a ∧ (SqL G.K H a vs ∨ SqT G.K H a vs) ∧ Reps G r H vs ds := by
  unfold vQ at e
  cases h : vT x with
  | some es =>
    rw [h] at e
    cases e
    obtain ⟨a, vs, h1, h2, h3⟩ := vT_ok q h
    exact ⟨a, vs, h1, .inr h2, h3⟩
  | none =>
    rw [h] at e
    obtain ⟨a, vs, h1, h2, h3⟩ := vL_ok s q e
    exact ⟨a, vs, h1, .inl h2, h3⟩
theorem reps1 {vs : List V} {x : Rv} (q : RepRs G r H0 H vs [x]) : ∃ v, vs = [v] ∧ RepR G r H0 H v x := by
  cases q with
  | cons h t => cases t; exact ⟨_, rfl, h⟩
theorem reps2 {vs : List V} {x y : Rv} (q : RepRs G r H0 H vs [x, y]) : ∃ v w, vs = [v, w] ∧ RepR G r H0 H v x ∧ RepR G r H0 H w y := by
  cases q with
  | cons h t => cases t with
    | cons h2 t => cases t; exact ⟨_, _, rfl, h, h2⟩
/-- a new object: fresh, or a tuple -/
theorem fin_same {v : V} {z : Rv} {Q : VK} (k : ∀ v H', Ext r H r H' → (∀ a o, H a = some o → H' a = some o) → RepR G r H0 H' v z → Q v H') (q : RepR G r H0 H v z) : Q v H := k v H (Ext.refl r H) (fun _ _ h => h) q
theorem fin_lst {ds : List D} {vs : List V} {Q : VK} (s : Sim G r H S) (b : ∀ p, H p = none → H0 p = none) (k : ∀ v H', Ext r H r H' → (∀ a o, H a = some o → H' a = some o) → RepR G r H0 H' v (.fr (.lst ds)) → Q v H') (q : Reps G r H vs ds) :
    ∀ p, H p = none → Q (.ref p) (upd H p (.lst vs)) := fun p hp => by
  have e : Ext r H r (upd H p (.lst vs)) := Ext.new hp
  refine k (.ref p) _ e (fun a o h => by rw [upd_ne (ne_of_none h hp)]; exact h) ⟨p, rfl, b p hp, fun hm => ?_, vs, upd_same, q.ext e⟩
  obtain ⟨n, hn⟩ := List.mem_iff_getElem?.mp hm
  have hl : n < S.length := by rw [← s.len]; exact (List.getElem?_eq_some_iff.mp hn).1
  obtain ⟨u, hu, _⟩ := (s.at_ n p _ hn (List.getElem?_eq_getElem hl)).mut
  rw [hp] at hu
  cases hu
theorem fin_tup {ds : List D} {vs : List V} {Q : VK} (s : Sim G r H S) (k : ∀ v H', Ext r H r H' → (∀ a o, H a = some o → H' a = some o) → RepR G r H0 H' v (.va (.tup ds)) → Q v H') (q : Reps G r H vs ds) :
    ∀ p, H p = none → Q (.ref p) (upd H p (.tup vs)) := fun p hp => by
  have e : Ext r H r (upd H p (.tup vs)) := Ext.new hp
  refine k (.ref p) _ e (fun a o h => by rw [upd_ne (ne_of_none h hp)]; exact h) (.tup (.inl upd_same) (fun hm => ?_) (q.ext e))
  obtain ⟨n, hn⟩ := List.mem_iff_getElem?.mp hm
  have hl : n < S.length := by rw [← s.len]; exact (List.getElem?_eq_some_iff.mp hn).1
  obtain ⟨u, hu, _⟩ := (s.at_ n p _ hn (List.getElem?_eq_getElem hl)).mut
  rw [hp] at hu
  cases hu
theorem pII_inv {g : Int → Int → Option D} {xs : List Rv} {z : Rv} (e : pII g S xs = some z) : ∃ i j d, xs = [.va (.int i), .va (.int j)] ∧ g i j = some d ∧ z = .va d := by
  unfold pII at e
  split at e
  · rename_i i j
    cases eg : g i j with
    | none => rw [eg] at e; cases e
    | some d => rw [eg] at e; cases e; exact ⟨i, j, d, rfl, eg, rfl⟩
  · cases e
theorem ok_II {C : Int → Int → Prop} {gv : Int → Int → V} {g : Int → Int → Option D} (h : ∀ i j d, g i j = some d → C i j ∧ ∀ r H, Rep G r H (gv i j) d) : Pure1 G (L22 (rI C gv)) (pII g) := by
  intro r H0 H S xs z vs Q s b q e k
  obtain ⟨i, j, d, rfl, eg, rfl⟩ := pII_inv e
  obtain ⟨v, w, rfl, q1, q2⟩ := reps2 q
  cases q1
  cases q2
  obtain ⟨hc, hd⟩ := h i j d eg
  exact ⟨_, _, rfl, i, j, rfl, rfl, hc, fin_same k (hd r H)⟩
theorem ok_II0 {gv : Int → Int → V} {g : Int → Int → Option D} (h : ∀ i j d, g i j = some d → ∀ r H, Rep G r H (gv i j) d) : Pure1 G (L22 (rI0 gv)) (pII g) := by
  intro r H0 H S xs z vs Q s b q e k
  obtain ⟨i, j, d, rfl, eg, rfl⟩ := pII_inv e
  obtain ⟨v, w, rfl, q1, q2⟩ := reps2 q
  cases q1
  cases q2
  exact ⟨_, _, rfl, i, j, rfl, rfl, fin_same k (h i j d eg r H)⟩
def gSub (i j : Int) : Option D := some (.int (i - j))
theorem ok_sub : Pure1 G (L22 (rI0 fun i j => .int (i - j))) (pII gSub) := ok_II0 fun i j d e _ _ => by cases e; exact .int _
def divOk (j : Int) : Bool := decide (0 < j) && decide (j.natAbs.log2 < 9000)
def gDiv (i j : Int) : Option D := if divOk j = true then some (.int (i / j)) else none
theorem ok_fdiv : Pure1 G (L22 (rI CDivW fun i j => .int (i / j))) (pII gDiv) := ok_II fun i j d e => by
  unfold gDiv at e
  split at e
  · rename_i h
    cases e
    have h' := Bool.and_eq_true_iff.mp h
    exact ⟨⟨of_decide_eq_true h'.1, of_decide_eq_true h'.2⟩, fun _ _ => .int _⟩
  · cases e
def gMod (i j : Int) : Option D := if 0 < j then some (.int (i % j)) else none
theorem ok_mod : Pure1 G (L22 (rI (fun _ j => 0 < j) fun i j => .int (i % j))) (pII gMod) := ok_II fun i j d e => by
  unfold gMod at e
  split at e
  · rename_i h
    cases e
    exact ⟨h, fun _ _ => .int _⟩
  · cases e
def powOk (i j : Int) : Bool := decide (0 ≤ j) && decide (j.natAbs ≤ 1000000) && decide (i.natAbs < 18446744073709551616)
theorem powOk_c {i j : Int} (h : powOk i j = true) : CPow i j := by
  unfold powOk at h
  rw [Bool.and_eq_true, Bool.and_eq_true, decide_eq_true_eq, decide_eq_true_eq, decide_eq_true_eq] at h
  exact ⟨h.1.1, by have := h.1.2; have := h.1.1; omega, h.2⟩
def gShl (i j : Int) : Option D := if powOk i j = true then some (.int (i * 2 ^ j.toNat)) else none
theorem ok_shl : Pure1 G (L22 (rI CPow fun i j => .int (i * 2 ^ j.toNat))) (pII gShl) := ok_II fun i j d e => by
  unfold gShl at e
  split at e
  · rename_i h
    cases e
    exact ⟨powOk_c h, fun _ _ => .int _⟩
  · cases e
def gXor (i j : Int) : Option D := some (.int (Builtin.bitXor i j))
theorem ok_xor : Pure1 G (L22 (rI0 fun i j => .int (Builtin.bitXor i j))) (pII gXor) := ok_II0 fun i j d e _ _ => by cases e; exact .int _
def gLe (i j : Int) : Option D := some (.bl (decide (i ≤ j)))
theorem ok_le : Pure1 G (L22 (rI0 fun i j => .bl (decide (i ≤ j)))) (pII gLe) := ok_II0 fun i j d e _ _ => by cases e; exact .bl _
def gGt (i j : Int) : Option D := some (.bl (decide (j < i)))
theorem ok_gt : Pure1 G (L22 (rI0 fun i j => .bl (decide (j < i)))) (pII gGt) := ok_II0 fun i j d e _ _ => by cases e; exact .bl _
def gGe (i j : Int) : Option D := some (.bl (decide (j ≤ i)))
theorem ok_ge : Pure1 G (L22 (rI0 fun i j => .bl (decide (j ≤ i)))) (pII gGe) := ok_II0 fun i j d e _ _ => by cases e; exact .bl _
def pAdd : Sto → List Rv → Option Rv := fun S xs => match xs with
  | [.va (.int i), .va (.int j)] => some (.va (.int (i + j)))
  | [.va (.str x), .va (.str y)] => if x.length + y.length ≤ sizeLine then some (.va (.str (x ++ y))) else none
  | [.va (.tup x), .va (.tup y)] => if x.length + y.length ≤ sizeLine then some (.va (.tup (x ++ y))) else none
  | [x, y] => match vL S x, vL S y with
    | some a, some b => if a.length + b.length ≤ sizeLine then some (.fr (.lst (a ++ b))) else none
    | _, _ => none
  | _ => none
def rAddA (K : PySem.W.Frag) : R2 := fun x y H Q => rI0 (fun i j => .int (i + j)) x y H Q ∨ (∃ i j, x = .str i ∧ y = .str j ∧ i.length + j.length ≤ sizeLine ∧ Q (.str (i ++ j)) H) ∨ rCatA K x y H Q ∨ rCatQ K x y H Q
theorem op_addA {X : Cx} : OpR X (binaryOp .Add) (rAddA X.K) := op_add.or (op_add_str.or (op_catA.or op_catQ))
theorem ok_add : Pure1 G (L22 (rAddA G.K)) pAdd := by
  intro r H0 H S xs z vs Q s b q e k
  unfold pAdd at e
  split at e
  · rename_i i j
    cases e
    obtain ⟨v, w, rfl, q1, q2⟩ := reps2 q
    cases q1
    cases q2
    exact ⟨_, _, rfl, .inl ⟨i, j, rfl, rfl, fin_same k (.int _)⟩⟩
  · rename_i x y
    split at e
    · rename_i hz
      cases e
      obtain ⟨v, w, rfl, q1, q2⟩ := reps2 q
      cases q1
      cases q2
      exact ⟨_, _, rfl, .inr (.inl ⟨x, y, rfl, rfl, hz, fin_same k (.str _)⟩)⟩
    · cases e
  · rename_i x y
    split at e
    · rename_i hz
      cases e
      obtain ⟨v, w, rfl, q1, q2⟩ := reps2 q
      obtain ⟨a, xs, rfl, ha, ra⟩ := vT_ok q1 rfl
      obtain ⟨c, ys, rfl, hc, rc⟩ := vT_ok q2 rfl
      have l1 := ra.length
      have l2 := rc.length
      refine ⟨_, _, rfl, .inr (.inr (.inl ⟨a, c, xs, ys, rfl, rfl, ha, hc, by omega, fun e0 => ?_, fun _ e0 => ?_, fun _ _ => ?_⟩))⟩
      · subst e0
        cases ra
        exact fin_same k q2
      · subst e0
        cases rc
        rw [List.append_nil] at k
        exact fin_same k q1
      · exact fin_tup s k (ra.append rc)
    · cases e
  · rename_i x y _ _ _
    cases e1 : vL S x with
    | none => rw [e1] at e; cases e
    | some a =>
      cases e2 : vL S y with
      | none => rw [e1, e2] at e; cases e
      | some c =>
        rw [e1, e2] at e
        dsimp only at e
        split at e
        · rename_i hz
          cases e
          obtain ⟨v, w, rfl, q1, q2⟩ := reps2 q
          obtain ⟨p, xs, rfl, hp, rp⟩ := vL_ok s q1 e1
          obtain ⟨p2, ys, rfl, hp2, rp2⟩ := vL_ok s q2 e2
          have l1 := rp.length
          have l2 := rp2.length
          exact ⟨_, _, rfl, .inr (.inr (.inr ⟨p, p2, xs, ys, rfl, rfl, hp, hp2, by omega, fin_lst s b k (rp.append rp2)⟩))⟩
        · cases e
  · cases e
def eqS : D → D → Option Bool
  | .int i, .int j => some (decide (i = j))
  | .bl i, .bl j => some (decide (i = j))
  | .str i, .str j => some (decide (i = j))
  | .non, .non => some true
  | .non, .int _ => some false | .int _, .non => some false
  | .non, .bl _ => some false | .bl _, .non => some false
  | .non, .str _ => some false | .str _, .non => some false
  | .int _, .str _ => some false | .str _, .int _ => some false
  | .bl _, .str _ => some false | .str _, .bl _ => some false
  | _, _ => none
theorem eqS_ok {v w : V} {d e : D} {b : Bool} (q1 : Rep G r H v d) (q2 : Rep G r H w e) (h : eqS d e = some b) : scal v w = true ∧ decide (v = w) = b := by
  cases q1 <;> cases q2 <;> first
    | (cases h; exact ⟨rfl, by simp⟩)
    | cases h
def pyAll (g : D → Option PyData) : List D → Option (List PyData)
  | [] => some []
  | d :: r => match g d, pyAll g r with
    | some p, some ps => some (p :: ps)
    | _, _ => none
/-- a datum with what it holds, to so great a depth -/
def py : Nat → Sto → D → Option PyData
  | 0, _, _ => none
  | _ + 1, _, .non => some .none
  | _ + 1, _, .bl b => some (.bool b)
  | _ + 1, _, .int i => some (.int i)
  | _ + 1, _, .str x => some (.str x)
  | f + 1, S, .tup ds => (pyAll (py f S) ds).map .tuple
  | f + 1, S, .frl ds => (pyAll (py f S) ds).map .list
  | _ + 1, _, .obj _ _ => none
  | _ + 1, _, .exn _ _ => none
  | f + 1, S, .ref n => match S[n]? with
    | some (.lst ds) => (pyAll (py f S) ds).map .list
    | _ => none
def pyR (S : Sto) : Rv → Option PyData
  | .va d => py 40 S d
  | .fr (.lst ds) => (pyAll (py 40 S) ds).map .list
  | _ => none
theorem pyAll_ok {g : D → Option PyData} (hg : ∀ v d p, Rep G r H v d → g d = some p → Dp G.K H v p) : ∀ {vs : List V} {ds : List D} {ps : List PyData}, Reps G r H vs ds → pyAll g ds = some ps → DpAll G.K H vs ps
  | _, _, _, .nil, e => by cases e; exact .nil
  | _, _, _, .cons (d := d) (ds := ds) h t, e => by
    unfold pyAll at e
    cases e1 : g d with
    | none => rw [e1] at e; cases e
    | some p =>
      cases e2 : pyAll g ds with
      | none => rw [e1, e2] at e; cases e
      | some ps =>
        rw [e1, e2] at e
        cases e
        exact .cons (hg _ _ _ h e1) (pyAll_ok hg t e2)
theorem py_ok (s : Sim G r H S) : ∀ (f : Nat) (v : V) (d : D) (p : PyData), Rep G r H v d → py f S d = some p → Dp G.K H v p
  | 0, _, _, _, _, e => by cases e
  | f + 1, v, d, p, q, e => by
    cases q with
    | non => cases e; exact .non
    | bl b => cases e; exact .bl b
    | int i => cases e; exact .int i
    | str x => cases e; exact .str x
    | @tup a vs ds h na q =>
      unfold py at e
      cases e1 : pyAll (py f S) ds with
      | none => rw [e1] at e; cases e
      | some ps =>
        rw [e1] at e
        cases e
        exact .tup (.inl h) (pyAll_ok (fun v d p => py_ok s f v d p) q e1)
    | @frl a vs ds h q =>
      unfold py at e
      cases e1 : pyAll (py f S) ds with
      | none => rw [e1] at e; cases e
      | some ps =>
        rw [e1] at e
        cases e
        refine .lst (xs := vs) ?_ (pyAll_ok (fun v d p => py_ok s f v d p) q e1)
        rcases h with ⟨⟨o, h⟩, _⟩ | h
        · exact .inl (.inr ⟨o, h⟩)
        · exact h H
    | obj h na hf q => cases e
    | exn0 h na x => cases e
    | exnF h na x hd nd hf q => cases e
    | @ref a n h =>
      unfold py at e
      cases e1 : S[n]? with
      | none => rw [e1] at e; cases e
      | some o =>
        rw [e1] at e
        cases o with
        | lst ds =>
          dsimp only at e
          cases e2 : pyAll (py f S) ds with
          | none => rw [e2] at e; cases e
          | some ps =>
            rw [e2] at e
            cases e
            obtain ⟨vs, h1, h2⟩ := s.at_ n _ _ h e1
            exact .lst (SqL.of h1) (pyAll_ok (fun v d p => py_ok s f v d p) h2 e2)
        | dct _ => cases e
        | lck _ => cases e
        | ins _ _ => cases e
theorem pyR_ok (s : Sim G r H S) {v : V} {x : Rv} {p : PyData} (q : RepR G r H0 H v x) (e : pyR S x = some p) : Dp G.K H v p := by
  cases x with
  | va d => exact py_ok s 40 v d p q e
  | fr o =>
    cases o with
    | lst ds =>
      unfold pyR at e
      dsimp only at e
      cases e2 : pyAll (py 40 S) ds with
      | none => rw [e2] at e; cases e
      | some ps =>
        rw [e2] at e
        cases e
        obtain ⟨a, rfl, _, _, vs, h1, h2⟩ := q
        exact .lst (SqL.of h1) (pyAll_ok (fun v d p => py_ok s 40 v d p) h2 e2)
    | dct _ => cases e
    | lck _ => cases e
    | ins _ _ => cases e
def eqD (S : Sto) (x y : Rv) : Option Bool := match pyR S x, pyR S y with
  | some p, some q => if SeqAt.shaped p && SeqAt.shaped q then some (PyData.eqv p q) else none
  | _, _ => none
def eqB (S : Sto) (x y : Rv) : Option Bool := match x, y with
  | .va d, .va e => match eqS d e with
    | some b => some b
    | none => eqD S x y
  | _, _ => eqD S x y
def pEq : Sto → List Rv → Option Rv := fun S xs => match xs with
  | [x, y] => (eqB S x y).map fun b => .va (.bl b)
  | _ => none
def pNe : Sto → List Rv → Option Rv := fun S xs => match xs with
  | [x, y] => (eqB S x y).map fun b => .va (.bl (!b))
  | _ => none
def rEqA (K : PySem.W.Frag) : R2 := fun x y H Q => rEq x y H Q ∨ rEqD K x y H Q
def rNeA (K : PySem.W.Frag) : R2 := fun x y H Q => rNe x y H Q ∨ rNeD K x y H Q
theorem op_eqA {X : Cx} (hu : X.A.units + 64 < cLine) : OpR X (compareOp .Eq) (rEqA X.K) := op_eq.or (op_eqD hu)
theorem op_neA {X : Cx} (hu : X.A.units + 64 < cLine) : OpR X (compareOp .NotEq) (rNeA X.K) := op_ne.or (op_neD hu)
theorem eqD_ok (s : Sim G r H S) {v w : V} {x y : Rv} {b : Bool} (q1 : RepR G r H0 H v x) (q2 : RepR G r H0 H w y) (e : eqD S x y = some b) :
    ∃ p q, Dp G.K H v p ∧ Dp G.K H w q ∧ SeqAt.shaped p = true ∧ SeqAt.shaped q = true ∧ PyData.eqv p q = b := by
  unfold eqD at e
  cases e1 : pyR S x with
  | none => rw [e1] at e; cases e
  | some p =>
    cases e2 : pyR S y with
    | none => rw [e1, e2] at e; cases e
    | some q =>
      rw [e1, e2] at e
      dsimp only at e
      split at e
      · rename_i h
        have h' := Bool.and_eq_true_iff.mp h
        exact ⟨p, q, pyR_ok s q1 e1, pyR_ok s q2 e2, h'.1, h'.2, Option.some.inj e⟩
      · cases e
theorem eqB_ok (s : Sim G r H S) {v w : V} {x y : Rv} {b : Bool} (q1 : RepR G r H0 H v x) (q2 : RepR G r H0 H w y) (e : eqB S x y = some b) :
    (scal v w = true ∧ decide (v = w) = b) ∨ ∃ p q, Dp G.K H v p ∧ Dp G.K H w q ∧ SeqAt.shaped p = true ∧ SeqAt.shaped q = true ∧ PyData.eqv p q = b := by
  unfold eqB at e
  split at e
  · rename_i d e'
    cases es : eqS d e' with
    | none => rw [es] at e; exact .inr (eqD_ok s q1 q2 e)
    | some c =>
      rw [es] at e
      cases e
      exact .inl (eqS_ok q1 q2 es)
  · exact .inr (eqD_ok s q1 q2 e)
theorem ok_eq : Pure1 G (L22 (rEqA G.K)) pEq := by
  intro r H0 H S xs z vs Q s b q e k
  unfold pEq at e
  split at e
  · rename_i x y
    cases e1 : eqB S x y with
    | none => rw [e1] at e; cases e
    | some c =>
      rw [e1] at e
      cases e
      obtain ⟨v, w, rfl, q1, q2⟩ := reps2 q
      rcases eqB_ok s q1 q2 e1 with ⟨h1, h2⟩ | ⟨p, p', h1, h2, h3, h4, h5⟩
      · exact ⟨_, _, rfl, .inl ⟨h1, by rw [h2]; exact fin_same k (.bl _)⟩⟩
      · exact ⟨_, _, rfl, .inr ⟨p, p', h1, h2, h3, h4, by rw [h5]; exact fin_same k (.bl _)⟩⟩
  · cases e
theorem ok_ne : Pure1 G (L22 (rNeA G.K)) pNe := by
  intro r H0 H S xs z vs Q s b q e k
  unfold pNe at e
  split at e
  · rename_i x y
    cases e1 : eqB S x y with
    | none => rw [e1] at e; cases e
    | some c =>
      rw [e1] at e
      cases e
      obtain ⟨v, w, rfl, q1, q2⟩ := reps2 q
      rcases eqB_ok s q1 q2 e1 with ⟨h1, h2⟩ | ⟨p, p', h1, h2, h3, h4, h5⟩
      · exact ⟨_, _, rfl, .inl ⟨h1, by rw [h2]; exact fin_same k (.bl _)⟩⟩
      · exact ⟨_, _, rfl, .inr ⟨p, p', h1, h2, h3, h4, by rw [h5]; exact fin_same k (.bl _)⟩⟩
  · cases e
/-- is None, is not None -/
def isN : Rv → Bool
  | .va .non => true
  | _ => false
theorem isN_ok {v : V} {x : Rv} (q : RepR G r H0 H v x) : decide (v = .non) = isN x := by
  cases x with
  | fr o => obtain ⟨a, rfl, _⟩ := q; rfl
  | va d => cases q <;> rfl
def pIx : Sto → List Rv → Option Rv := fun S xs => match xs with
  | [.va (.str x), .va (.int i)] => if x.length ≤ sizeLine then (atI x.cps.toList i).map fun c => .va (.str ⟨#[c]⟩) else none
  | [x, .va (.int i)] => match vQ S x with
    | some ds => (atI ds i).map .va
    | none => none
  | _ => none
theorem atI_reps {vs : List V} {ds : List D} (q : Reps G r H vs ds) {i : Int} {d : D} (e : atI ds i = some d) : ∃ v, atI vs i = some v ∧ Rep G r H v d := by
  unfold atI at e ⊢
  rw [q.length]
  cases ei : ixN ds.length i with
  | none => rw [ei] at e; cases e
  | some j =>
    rw [ei] at e
    exact q.get (i := j) e
theorem ok_ix : Pure1 G (L22 (rIx G.K)) pIx := by
  intro r H0 H S xs z vs Q s b q e k
  unfold pIx at e
  split at e
  · rename_i x i
    split at e
    · rename_i hz
      cases e1 : atI x.cps.toList i with
      | none => rw [e1] at e; cases e
      | some c =>
        rw [e1] at e
        cases e
        obtain ⟨v, w, rfl, q1, q2⟩ := reps2 q
        cases q1
        cases q2
        exact ⟨_, _, rfl, .inr (.inr ⟨x, i, c, rfl, rfl, hz, e1, fin_same k (.str _)⟩)⟩
    · cases e
  · rename_i x i _
    cases e1 : vQ S x with
    | none => rw [e1] at e; cases e
    | some ds =>
      rw [e1] at e
      dsimp only at e
      cases e2 : atI ds i with
      | none => rw [e2] at e; cases e
      | some d =>
        rw [e2] at e
        cases e
        obtain ⟨v, w, rfl, q1, q2⟩ := reps2 q
        cases q2
        obtain ⟨a, us, rfl, hq, rq⟩ := vQ_ok s q1 e1
        obtain ⟨u, hu, ru⟩ := atI_reps rq e2
        rcases hq with hq | hq
        · exact ⟨_, _, rfl, .inl ⟨a, us, i, u, rfl, rfl, hq, hu, fin_same k ru⟩⟩
        · exact ⟨_, _, rfl, .inr (.inl ⟨a, us, i, u, rfl, rfl, hq, hu, fin_same k ru⟩)⟩
  · cases e
end
def cutD (ds : List D) (lo hi : Option Int) : List D := (ds.drop (HT.sIx ds.length 0 lo)).take (HT.sIx ds.length ds.length hi - HT.sIx ds.length 0 lo)
theorem cut_reps {G : Cfg} {r : List Addr} {H : Hp} {vs : List V} {ds : List D} (q : Reps G r H vs ds) (lo hi : Option Int) : Reps G r H (cutV vs lo hi) (cutD ds lo hi) := by
  unfold cutV cutD
  rw [q.length]
  exact (q.drop _).take _
def rSlice (K : PySem.W.Frag) : V → Option Int → Option Int → Hp → VK → Prop := fun x lo hi H Q => rSlL K x lo hi H Q ∨ rSlA K x lo hi H Q ∨ rSlS x lo hi H Q
theorem sl_any {X : Cx} : SlR X (rSlice X.K) := sl_list.or (sl_tupA.or sl_str)
def cutR (S : Sto) (x : Rv) (lo hi : Option Int) : Option Rv := match x with
  | .va (.str z) => if z.length ≤ sizeLine then some (.va (.str (cutS z lo hi))) else none
  | .va (.tup ds) => some (.va (.tup (cutD ds lo hi)))
  | x => (vL S x).map fun ds => .fr (.lst (cutD ds lo hi))
/-- a part of a slice -/
abbrev OX := Env → Sto → Rs (Option Int)
def oNone : OX := fun _ S => .ok none S
def oSome (m : EX) : OX := fun env S => (m env S).bind fun x S1 => match x with
  | .va (.int i) => .ok (some i) S1
  | _ => .bad
def TOI (G : Cfg) (W : WX) (m : OX) : TO := fun σ H Q => ∃ r S env, EnvR G r H σ env ∧ Sim G r H S ∧ Post G W σ r H (fun _ _ a b => a = b) Q (m env S)
theorem _root_.L2.PO.mono {X : Cx} {e : Option Expr} {t t' : TO} (h : PO X e t) (k : ∀ σ H Q, t' σ H Q → t σ H Q) : PO X e t' := ⟨fun pins s σ H Q I q => h.run pins s σ H Q I (k σ H Q q)⟩
def eSl (m : EX) (lo hi : OX) : EX := fun env S => (m env S).bind fun x S1 => (lo env S1).bind fun a S2 => (hi env S2).bind fun b S3 => match cutR S3 x a b with
  | some z => .ok z S3
  | none => .bad
section
variable {X : Cx} {cA : Nat → Addr} {fN : Nat → List Str} {W : WX} {e a b : Expr} {es : List Expr} {pos p2 : Pos} {m : EX}
theorem o_none : PO X none (TOI (GX X cA fN) W oNone) := po_none.mono fun σ H Q h => by
  obtain ⟨r, S, env, he, hs, hp⟩ := h
  exact hp none r H (Ext.refl r H) hs rfl
theorem o_some (h : PE X e (TI (GX X cA fN) W m)) : PO X (some e) (TOI (GX X cA fN) W (oSome m)) := (po_some h).mono fun σ H Q h => by
  obtain ⟨r, S, env, he, hs, hp⟩ := h
  refine ⟨r, S, env, he, hs, Post.bind hp fun x S1 v r1 H1 e1 s1 q1 z => ?_⟩
  cases x with
  | fr o => exact z.elim
  | va d =>
    cases d with
    | int i => cases q1; exact ⟨i, rfl, z (some i) r1 H1 e1 s1 rfl⟩
    | _ => exact z.elim
theorem i_slice {lo hi : Option Expr} {ol oh : OX} (h : PE X e (TI (GX X cA fN) W m)) (h1 : PO X lo (TOI (GX X cA fN) W ol)) (h2 : PO X hi (TOI (GX X cA fN) W oh)) : PE X (.Subscript e (.Slice lo hi none p2) pos) (TI (GX X cA fN) W (eSl m ol oh)) :=
  (pe_slice sl_any h h1 h2).mono fun σ H Q h => by
  obtain ⟨r, S, env, he, hs, hp⟩ := h
  refine ⟨r, S, env, he, hs, Post.bind hp fun x S1 v r1 H1 e1 s1 q1 z => ?_⟩
  refine ⟨r1, S1, env, he.ext e1, s1, Post.bind (z.shift e1 (R' := RV _ H) fun _ _ _ _ k => k) fun lo S2 lo' r2 H2 e2 s2 q2 z2 => ?_⟩
  subst q2
  refine ⟨r2, S2, env, (he.ext e1).ext e2, s2, Post.bind (z2.shift e2 (R' := RV _ H) fun _ _ _ _ k => k) fun hi S3 hi' r3 H3 e3 s3 q3 z3 => ?_⟩
  subst q3
  have q1' : RepR (GX X cA fN) r3 H H3 v x := (q1.ext e2).ext e3
  have x2 := e1.trans (e2.trans e3)
  unfold cutR at z3
  split at z3
  · rename_i z he
    split at he
    · rename_i w
      split at he
      · rename_i hz
        cases he
        cases q1'
        exact .inr (.inr ⟨w, rfl, hz, z3 _ r3 H3 e3 s3 (.str _)⟩)
      · cases he
    · rename_i ds
      cases he
      obtain ⟨a, us, rfl, ha, ra⟩ := vT_ok q1' rfl
      refine .inr (.inl ⟨a, us, rfl, ha, fun hw => ?_, fun hw p hp => ?_⟩)
      · refine z3 _ r3 H3 e3 s3 ?_
        have : cutD ds lo' hi' = ds := by
          unfold cutD
          rw [← ra.length, hw.1, hw.2, List.drop_zero, Nat.sub_zero, ra.length, List.take_length]
        rw [this]
        exact q1'
      · exact fin_tup (H0 := H) (Q := Q) s3 (fun v H' x st q => z3 v r3 H' (e3.trans x) (s3.stays st x) q) (cut_reps ra lo' hi') p hp
    · cases ev : vL S3 x with
      | none => rw [ev] at he; cases he
      | some ds =>
        rw [ev] at he
        cases he
        obtain ⟨a, us, rfl, ha, ra⟩ := vL_ok s3 q1' ev
        exact .inl ⟨a, us, rfl, ha, fin_lst (H0 := H) (Q := Q) s3 (fun p hp => x2.back hp) (fun v H' x st q => z3 v r3 H' (e3.trans x) (s3.stays st x) q) (cut_reps ra lo' hi')⟩
  · exact z3.elim
end
end Cy
set_option Elab.async false
set_option linter.all false
set_option maxRecDepth 100000
set_option maxHeartbeats 2000000
set_option autoImplicit false
namespace Cy
open PySem L2
section
variable {X : Cx} {cA : Nat → Addr} {fN : Nat → List Str} {W : WX} {e o a b : Expr} {es : List Expr} {pos p apos : Pos} {m mo ma mb : EX} {ms : List EX} {x : Str}
def eTup (ms : List EX) : EX := fun env S => (eArgs ms env S).bind fun xs S1 => match unva xs with
  | some ds => if ds.length ≤ sizeLine then .ok (.va (.tup ds)) S1 else .bad
  | none => .bad
def eLst (ms : List EX) : EX := fun env S => (eArgs ms env S).bind fun xs S1 => match unva xs with
  | some ds => if ds.length ≤ sizeLine then .ok (.fr (.lst ds)) S1 else .bad
  | none => .bad
theorem i_tup {k : Nat} (h : PA X es (TAI (GX X cA fN) W (eArgs ms))) : PE X (.Tuple es k pos) (TI (GX X cA fN) W (eTup ms)) := (pe_tup h).mono fun σ H Q h => by
  obtain ⟨r, S, env, he, hs, hp⟩ := h
  refine ⟨r, S, env, he, hs, Post.bind hp fun xs S1 vs r1 H1 e1 s1 q1 z => ?_⟩
  cases eu : unva xs with
  | none => rw [eu] at z; exact z.elim
  | some ds =>
    rw [eu] at z
    dsimp only at z
    split at z
    · rename_i hz
      have q := unva_ok q1 eu
      exact ⟨by rw [q.length]; exact hz, fin_tup (H0 := H) s1 (fun v H' x st q => z v r1 H' (e1.trans x) (s1.stays st x) q) q⟩
    · exact z.elim
theorem i_lst (h : PA X es (TAI (GX X cA fN) W (eArgs ms))) : PE X (.List es pos) (TI (GX X cA fN) W (eLst ms)) := (pe_lst h).mono fun σ H Q h => by
  obtain ⟨r, S, env, he, hs, hp⟩ := h
  refine ⟨r, S, env, he, hs, Post.bind hp fun xs S1 vs r1 H1 e1 s1 q1 z => ?_⟩
  cases eu : unva xs with
  | none => rw [eu] at z; exact z.elim
  | some ds =>
    rw [eu] at z
    dsimp only at z
    split at z
    · rename_i hz
      have q := unva_ok q1 eu
      exact ⟨by rw [q.length]; exact hz, fin_lst (H0 := H) s1 (fun p hp => e1.back hp) (fun v H' x st q => z v r1 H' (e1.trans x) (s1.stays st x) q) q⟩
    · exact z.elim
theorem i_ix {f : Prim} {ro : R2} (hr : IxR X ro) (P : PrimOk (GX X cA fN) (L22 ro) f) (ha : PE X a (TI (GX X cA fN) W ma)) (hb : PE X b (TI (GX X cA fN) W mb)) (hs : PlainIx b := by exact fun _ _ => rfl) : PE X (.Subscript a b pos) (TI (GX X cA fN) W (eP f [ma, mb])) :=
  (pe_ix hr ha hb hs).mono fun _ _ _ h => two_of P (fun _ _ _ k => k) h
theorem cb_of {G : Cfg} {rd : List V → Hp → VK → Prop} {f : Prim} (P : PrimOk G rd f) {σ : L2.St} {H : Hp} {Q : VK} (h : TI G W (eP f ms) σ H Q) : tCB rd (TAI G W (eArgs ms)) σ H Q := by
  obtain ⟨r, S, env, he, hs, hp⟩ := h
  exact ⟨r, S, env, he, hs, prim_post P hp⟩
theorem i_cb {id : String} {rd : List V → Hp → VK → Prop} {f : Prim} (hc : CallR X (.builtin id) rd) (P : PrimOk (GX X cA fN) rd f) (hm : X.mg x = none) (hv : bootBuiltins x = some (.builtin id)) (ha : PA X (e :: es) (TAI (GX X cA fN) W (eArgs ms)))
    (hg : Gl X x := by rfl) (hn : x ≠ "__name__" := by decide) (hdb : (x == ("__debug__" : Str)) = false := by decide) (he : starEach (e :: es) X.env = (false, eval e X.env) :: starEach es X.env := by rfl) (hpl : (backTo pos (starEach es X.env)).any (·.1) = false := by rfl) :
    PE X (.Call (.Name x p) (e :: es) [] pos) (TI (GX X cA fN) W (eP f ms)) := (pe_callB hc hg hm hv ha hn hdb he hpl).mono fun _ _ _ h => cb_of P h
theorem i_ct {T : String} {rd : List V → Hp → VK → Prop} {f : Prim} (hc : CallR X (.type T) rd) (P : PrimOk (GX X cA fN) rd f) (hm : X.mg x = none) (hv : bootBuiltins x = some (.type T)) (ha : PA X (e :: es) (TAI (GX X cA fN) W (eArgs ms)))
    (hg : Gl X x := by rfl) (hn : x ≠ "__name__" := by decide) (hdb : (x == ("__debug__" : Str)) = false := by decide) (he : starEach (e :: es) X.env = (false, eval e X.env) :: starEach es X.env := by rfl) (hpl : (backTo pos (starEach es X.env)).any (·.1) = false := by rfl) :
    PE X (.Call (.Name x p) (e :: es) [] pos) (TI (GX X cA fN) W (eP f ms)) := (pe_callTy hc hg hm hv ha hn hdb he hpl).mono fun _ _ _ h => cb_of P h
def isS : Rv → Bool
  | .va (.str _) => true
  | _ => false
def eM (isT : Sto → Rv → Bool) (f : Prim) (mo : EX) (ms : List EX) : EX := fun env S => (mo env S).bind fun x S1 => if isT S1 x = true then (eArgs ms env S1).bind fun xs S2 => match f S2 (x :: xs) with
  | some (z, S3) => .ok z S3
  | none => .bad else .bad
def rdM (r : V → List V → Hp → VK → Prop) : List V → Hp → VK → Prop := fun vs H Q => ∃ x xs, vs = x :: xs ∧ r x xs H Q
theorem m_of {G : Cfg} {T : String} {isT : Sto → Rv → Bool} {f : Prim} {rm : V → List V → Hp → VK → Prop} (hT : ∀ r H0 H S v x, Sim G r H S → RepR G r H0 H v x → isT S x = true → tyV G.K T v H) (P : PrimOk G (rdM rm) f) {σ : L2.St} {H : Hp} {Q : VK}
    (h : TI G W (eM isT f mo ms) σ H Q) : tBM G.K T rm (TI G W mo) (TAI G W (eArgs ms)) σ H Q := by
  obtain ⟨r, S, env, he, hs, hp⟩ := h
  refine ⟨r, S, env, he, hs, Post.bind hp fun x S1 v r1 H1 e1 s1 q1 z => ?_⟩
  split at z
  · rename_i ht
    refine ⟨hT r1 H H1 S1 v x s1 q1 ht, r1, S1, env, he.ext e1, s1, Post.bind (z.shift e1 (R' := RV G H) fun _ _ _ _ k => k) fun xs S2 vs r2 H2 e2 s2 q2 z2 => ?_⟩
    cases ef : f S2 (x :: xs) with
    | none => rw [ef] at z2; exact z2.elim
    | some p =>
      obtain ⟨y, S3⟩ := p
      rw [ef] at z2
      obtain ⟨x', xs', ee, k⟩ := P r2 H H2 S2 S3 (x :: xs) y (v :: vs) Q s2 (fun p hp => e1.back (e2.back hp)) (.cons (q1.ext e2) (q2.from fun _ => e1.back)) ef fun u r3 H3 e3 s3 q3 => z2 u r3 H3 (e2.trans e3) s3 q3
      cases ee
      exact k
  · exact z.elim
theorem tyS_ok {G : Cfg} {r : List Addr} {H0 H : Hp} {S : Sto} {v : V} {x : Rv} (s : Sim G r H S) (q : RepR G r H0 H v x) (h : (fun (_ : Sto) x => isS x) S x = true) : tyV G.K "str" v H := by
  cases x with
  | fr o => cases h
  | va d =>
    cases d with
    | str z => cases q; rfl
    | _ => cases h
def isSt (_ : Sto) (x : Rv) : Bool := isS x
def isL (S : Sto) (x : Rv) : Bool := (vL S x).isSome
theorem tyL_ok {G : Cfg} {r : List Addr} {H0 H : Hp} {S : Sto} {v : V} {x : Rv} (s : Sim G r H S) (q : RepR G r H0 H v x) (h : isL S x = true) : tyV G.K "list" v H := by
  unfold isL at h
  cases e : vL S x with
  | none => rw [e] at h; cases h
  | some ds =>
    obtain ⟨a, vs, rfl, h1, _⟩ := vL_ok s q e
    exact .inl ⟨rfl, vs, h1⟩
theorem i_ms {name : Str} {id : String} {rm : V → List V → Hp → VK → Prop} {f : Prim} (slot : Slot "str" name id) (hty : typeOf (.builtin id) = pure (.type "method_descriptor")) (hm : MtR X id rm) (P : PrimOk (GX X cA fN) (rdM rm) f)
    (ho : PE X o (TI (GX X cA fN) W mo)) (ha : PA X (e :: es) (TAI (GX X cA fN) W (eArgs ms)))
    (hbase : attributeBase o name X.env (eval o X.env) = eval o X.env := by rfl)
    (hfew : ((backTo pos (starEach (e :: es) X.env)).all (fun x => !x.1) && (backToKw pos (keywordEach [] X.env)).all (fun x => x.1.isSome)
      && decide ((e :: es).length + ([] : List Keyword).length + (if ([] : List Keyword).isEmpty then 0 else 1) < 30)) = true := by rfl)
    (hline : (apos.endLine == pos.line) = true := by rfl) (hs : starEach (e :: es) X.env = (false, eval e X.env) :: starEach es X.env := by rfl) (hplain : (backTo pos (starEach es X.env)).any (·.1) = false := by rfl) :
    PE X (.Call (.Attribute o name apos) (e :: es) [] pos) (TI (GX X cA fN) W (eM (fun _ x => isS x) f mo ms)) := (pe_bm PySem.F.plainAttrs_str slot hty hm ho ha hbase hfew hline hs hplain).mono fun _ _ _ h => m_of (fun _ _ _ _ _ _ s q t => tyS_ok s q t) P h
theorem i_ml {name : Str} {id : String} {rm : V → List V → Hp → VK → Prop} {f : Prim} (slot : Slot "list" name id) (hty : typeOf (.builtin id) = pure (.type "method_descriptor")) (hm : MtR X id rm) (P : PrimOk (GX X cA fN) (rdM rm) f)
    (ho : PE X o (TI (GX X cA fN) W mo)) (ha : PA X (e :: es) (TAI (GX X cA fN) W (eArgs ms)))
    (hbase : attributeBase o name X.env (eval o X.env) = eval o X.env := by rfl)
    (hfew : ((backTo pos (starEach (e :: es) X.env)).all (fun x => !x.1) && (backToKw pos (keywordEach [] X.env)).all (fun x => x.1.isSome)
      && decide ((e :: es).length + ([] : List Keyword).length + (if ([] : List Keyword).isEmpty then 0 else 1) < 30)) = true := by rfl)
    (hline : (apos.endLine == pos.line) = true := by rfl) (hs : starEach (e :: es) X.env = (false, eval e X.env) :: starEach es X.env := by rfl) (hplain : (backTo pos (starEach es X.env)).any (·.1) = false := by rfl) :
    PE X (.Call (.Attribute o name apos) (e :: es) [] pos) (TI (GX X cA fN) W (eM isL f mo ms)) := (pe_bm PySem.F.plainAttrs_list slot hty hm ho ha hbase hfew hline hs hplain).mono fun _ _ _ h => m_of (fun _ _ _ _ _ _ s q t => tyL_ok s q t) P h
end
section
variable {G : Cfg} {r : List Addr} {H0 H : Hp} {S : Sto}
def pLen : Sto → List Rv → Option Rv := fun S xs => match xs with
  | [.va (.str x)] => if x.length ≤ sizeLine then some (.va (.int x.length)) else none
  | [x] => (vQ S x).map fun ds => .va (.int ds.length)
  | _ => none
theorem ok_len : Pure1 G (fun xs H Q => ∃ x n, xs = [x] ∧ LenV G.K x H n ∧ Q (.int n) H) pLen := by
  intro r H0 H S xs z vs Q s b q e k
  unfold pLen at e
  split at e
  · rename_i x
    split at e
    · rename_i hz
      cases e
      obtain ⟨v, rfl, q1⟩ := reps1 q
      cases q1
      exact ⟨.str x, x.length, rfl, ⟨hz, rfl⟩, fin_same k (.int _)⟩
    · cases e
  · rename_i x _
    cases e1 : vQ S x with
    | none => rw [e1] at e; cases e
    | some ds =>
      rw [e1] at e
      cases e
      obtain ⟨v, rfl, q1⟩ := reps1 q
      obtain ⟨a, us, rfl, hq, rq⟩ := vQ_ok s q1 e1
      refine ⟨.ref a, ds.length, rfl, ?_, fin_same k (.int _)⟩
      rcases hq with hq | hq
      · exact .inl ⟨us, hq, rq.length.symm⟩
      · exact .inr ⟨us, hq, rq.length.symm⟩
  · cases e
def tyN (S : Sto) : Rv → Option String
  | .va .non => some "NoneType"
  | .va (.bl _) => some "bool"
  | .va (.int _) => some "int"
  | .va (.str _) => some "str"
  | .va (.tup _) => some "tuple"
  | x => match vL S x with
    | some _ => some "list"
    | none => none
theorem tyN_ok (s : Sim G r H S) {v : V} {x : Rv} {T : String} (q : RepR G r H0 H v x) (e : tyN S x = some T) : TyX G.K H v (.type T) := by
  unfold tyN at e
  split at e
  · cases e; cases q; exact .base .non
  · cases e; cases q; exact .base (.bl _)
  · cases e; cases q; exact .base (.int _)
  · cases e; cases q; exact .base (.str _)
  · cases e
    cases q with
    | tup h na q =>
      rcases h with h | ⟨o, h⟩
      · exact .base (.tup h)
      · exact .fTuple h
  · split at e
    · rename_i ds e1
      cases e
      obtain ⟨a, vs, rfl, h1, _⟩ := vL_ok s q e1
      rcases h1 with (h1 | ⟨o, h1⟩) | ⟨o, its, n, h1, h2, _⟩
      · exact .base (.lst h1)
      · exact .base (.frz h1)
      · exact .kList h1 h2
    · cases e
def isiB (T C : String) : Option Bool := L2.kitB T C
def pIsi (C : String) : Sto → List Rv → Option Rv := fun S xs => match xs with
  | [x] => match tyN S x with
    | some T => (isiB T C).map fun b => .va (.bl b)
    | none => none
  | _ => none
def rIsi1 (K : PySem.W.Frag) (C : String) : List V → Hp → VK → Prop := fun vs H Q => ∃ x, vs = [x] ∧ ∃ t b, TyX K H x t ∧ PySem.W.kitOne K t (.type C) = some b ∧ Q (.bl b) H
theorem ok_isi (C : String) : Pure1 G (rIsi1 G.K C) (pIsi C) := by
  intro r H0 H S xs z vs Q s b q e k
  unfold pIsi at e
  split at e
  · rename_i x
    cases e1 : tyN S x with
    | none => rw [e1] at e; cases e
    | some T =>
      rw [e1] at e
      dsimp only at e
      cases e2 : isiB T C with
      | none => rw [e2] at e; cases e
      | some c =>
        rw [e2] at e
        cases e
        obtain ⟨v, rfl, q1⟩ := reps1 q
        exact ⟨v, rfl, .type T, c, tyN_ok s q1 e1, kit_ty e2, fin_same k (.bl _)⟩
  · cases e
def pStr : Sto → List Rv → Option Rv := fun _ xs => match xs with
  | [.va (.int i)] => if i.natAbs.log2 < 1920 then some (.va (.str (toString i))) else none
  | _ => none
theorem ok_str : Pure1 G (fun xs H Q => ∃ i, xs = [.int i] ∧ i.natAbs.log2 < 1920 ∧ Q (.str (toString i)) H) pStr := by
  intro r H0 H S xs z vs Q s b q e k
  unfold pStr at e
  split at e
  · rename_i i
    split at e
    · rename_i hz
      cases e
      obtain ⟨v, rfl, q1⟩ := reps1 q
      cases q1
      exact ⟨i, rfl, hz, fin_same k (.str _)⟩
    · cases e
  · cases e
/-- int(text), int(n), int(flag) -/
def pInt : Sto → List Rv → Option Rv := fun _ xs => match xs with
  | [.va (.int i)] => some (.va (.int i))
  | [.va (.bl c)] => some (.va (.int (if c then 1 else 0)))
  | [.va (.str x)] => if x.length ≤ 640 then (PySem.intText? x).map fun n => .va (.int n) else none
  | _ => none
def rIntA : List V → Hp → VK → Prop := fun xs H Q => ((∃ i, xs = [.int i] ∧ Q (.int i) H) ∨ ∃ k, xs = [.bl k] ∧ Q (.int (if k then 1 else 0)) H) ∨ ∃ a n, xs = [.str a] ∧ PySem.intText? a = some n ∧ a.length ≤ 640 ∧ Q (.int n) H
theorem cr_intA {X : Cx} : CallR X (.type "int") rIntA := call_int1.or call_int_str
theorem ok_int : Pure1 G rIntA pInt := by
  intro r H0 H S xs z vs Q s b q e k
  unfold pInt at e
  split at e
  · cases e
    obtain ⟨v, rfl, q1⟩ := reps1 q
    cases q1
    exact .inl (.inl ⟨_, rfl, fin_same k (.int _)⟩)
  · cases e
    obtain ⟨v, rfl, q1⟩ := reps1 q
    cases q1
    exact .inl (.inr ⟨_, rfl, fin_same k (.int _)⟩)
  · rename_i x
    split at e
    · rename_i hz
      cases en : PySem.intText? x with
      | none => rw [en] at e; cases e
      | some n =>
        rw [en] at e
        cases e
        obtain ⟨v, rfl, q1⟩ := reps1 q
        cases q1
        exact .inr ⟨x, n, rfl, en, hz, fin_same k (.int _)⟩
    · cases e
  · cases e
/-- text.m(text) -/
def pSS (g : Str → Str → Option D) : Sto → List Rv → Option Rv := fun _ xs => match xs with
  | [.va (.str x), .va (.str y)] => (g x y).map .va
  | _ => none
theorem ok_SS {C : Str → Str → Prop} {gv : Str → Str → V} {g : Str → Str → Option D} (h : ∀ x y d, g x y = some d → C x y ∧ ∀ r H, Rep G r H (gv x y) d) : Pure1 G (rdM fun x xs H Q => ∃ a b, x = .str a ∧ xs = [.str b] ∧ C a b ∧ Q (gv a b) H) (pSS g) := by
  intro r H0 H S xs z vs Q s b q e k
  unfold pSS at e
  split at e
  · rename_i x y
    cases eg : g x y with
    | none => rw [eg] at e; cases e
    | some d =>
      rw [eg] at e
      cases e
      obtain ⟨v, w, rfl, q1, q2⟩ := reps2 q
      cases q1
      cases q2
      obtain ⟨hc, hd⟩ := h x y d eg
      exact ⟨_, _, rfl, x, y, rfl, rfl, hc, fin_same k (hd r H)⟩
  · cases e
def gStrip (x y : Str) : Option D := if x.length ≤ sizeLine then some (.str (Txt.stripChars x y)) else none
theorem ok_strip : Pure1 G (rdM fun x xs H Q => ∃ a b, x = .str a ∧ xs = [.str b] ∧ a.length ≤ sizeLine ∧ Q (.str (Txt.stripChars a b)) H) (pSS gStrip) := ok_SS (C := fun a _ => a.length ≤ sizeLine) fun x y d e => by
  unfold gStrip at e
  split at e
  · rename_i h
    cases e
    exact ⟨h, fun _ _ => .str _⟩
  · cases e
def gFind (x y : Str) : Option D := some (.int (Txt.find x y))
theorem ok_find : Pure1 G (rdM fun x xs H Q => ∃ a b, x = .str a ∧ xs = [.str b] ∧ Q (.int (Txt.find a b)) H) (pSS gFind) := by
  have h := ok_SS (G := G) (C := fun _ _ => True) (gv := fun a b => V.int (Txt.find a b)) (g := gFind) fun x y d e => by cases e; exact ⟨trivial, fun _ _ => .int _⟩
  intro r H0 H S xs z vs Q s b q e k
  obtain ⟨x, xs', h1, a, c, h2, h3, _, h4⟩ := h r H0 H S xs z vs Q s b q e k
  exact ⟨x, xs', h1, a, c, h2, h3, h4⟩
theorem ok_wr {rd : List V → Hp → VK → Prop} {f : Prim} (h : ∀ (r : List Addr) (H0 H : Hp) (S S' : Sto) (xs : List Rv) (z : Rv) (vs : List V) (Q : VK), Sim G r H S → RepRs G r H0 H vs xs → f S xs = some (z, S') →
    (∀ v r' H', Ext r H r' H' → Sim G r' H' S' → RepR G r' H0 H' v z → Q v H') → rd vs H Q) : PrimOk G rd f := fun r H0 H S S' xs z vs Q s _ q e k => h r H0 H S S' xs z vs Q s q e k
def pApp : Prim := fun S xs => match xs with
  | [.va (.ref n), .va d] => match S[n]? with
    | some (.lst ds) => if ds.length < sizeLine then some (.va .non, S.set n (.lst (ds ++ [d]))) else none
    | _ => none
  | _ => none
theorem ok_app : PrimOk G (rdM rAppend) pApp := ok_wr fun r H0 H S S' xs z vs Q s q e k => by
  unfold pApp at e
  split at e
  · rename_i n d
    cases e1 : S[n]? with
    | none => rw [e1] at e; cases e
    | some o =>
      rw [e1] at e
      cases o with
      | lst ds =>
        dsimp only at e
        split at e
        · rename_i hz
          cases e
          obtain ⟨v, w, rfl, q1, q2⟩ := reps2 q
          obtain ⟨a, rfl, ha, us, hu, ru⟩ := s.get q1 e1
          have hm : a ∈ r := List.mem_of_getElem? ha
          have e : Ext r H r (upd H a (.lst (us ++ [w]))) := Ext.wr hm hu trivial
          refine ⟨.ref a, [w], rfl, a, us, w, rfl, rfl, hu, by rw [ru.length]; exact hz, k .non r _ e (s.wr ha ⟨_, upd_same, ?_⟩) .non⟩
          exact (ru.ext e).append (.cons (Rep.ext e q2) .nil)
        · cases e
      | dct _ => cases e
      | lck _ => cases e
      | ins _ _ => cases e
  · cases e
/-- xs.pop(i) -/
def pPopAt : Prim := fun S xs => match xs with
  | [.va (.ref n), .va (.int i)] => match S[n]? with
    | some (.lst ds) => if i.natAbs < 9223372036854775808 then match seqIndex? i ds.length with
      | some k => match ds[k]? with
        | some d => some (.va d, S.set n (.lst (ds.eraseIdx k)))
        | none => none
      | none => none else none
    | _ => none
  | _ => none
theorem ok_popAt : PrimOk G (rdM rPopAt) pPopAt := ok_wr fun r H0 H S S' xs z vs Q s q e k => by
  unfold pPopAt at e
  split at e
  · rename_i n i
    cases e1 : S[n]? with
    | none => rw [e1] at e; cases e
    | some o =>
      rw [e1] at e
      cases o with
      | lst ds =>
        dsimp only at e
        split at e
        · rename_i hz
          cases e2 : seqIndex? i ds.length with
          | none => rw [e2] at e; cases e
          | some j =>
            rw [e2] at e
            dsimp only at e
            cases e3 : ds[j]? with
            | none => rw [e3] at e; cases e
            | some d =>
              rw [e3] at e
              cases e
              obtain ⟨v, w, rfl, q1, q2⟩ := reps2 q
              cases q2
              obtain ⟨a, rfl, ha, us, hu, ru⟩ := s.get q1 e1
              obtain ⟨y, hy, ry⟩ := ru.get e3
              have hm : a ∈ r := List.mem_of_getElem? ha
              have e : Ext r H r (upd H a (.lst (us.eraseIdx j))) := Ext.wr hm hu trivial
              exact ⟨.ref a, [.int i], rfl, a, us, i, j, y, rfl, rfl, hu, by omega, by omega, by rw [ru.length]; exact e2, hy, k y r _ e (s.wr ha ⟨_, upd_same, (ru.ext e).eraseIdx j⟩) (Rep.ext e ry)⟩
        · cases e
      | dct _ => cases e
      | lck _ => cases e
      | ins _ _ => cases e
  · cases e
def pTupOf : Sto → List Rv → Option Rv := fun S xs => match xs with
  | [.va (.tup ds)] => some (.va (.tup ds))
  | [x] => (vL S x).map fun ds => .va (.tup ds)
  | _ => none
theorem ok_tupOf : Pure1 G (fun xs H Q => ∃ p ys, xs = [.ref p] ∧ ((SqL G.K H p ys ∧ ∀ l, H l = none → Q (.ref l) (upd H l (.tup ys))) ∨ (SqT G.K H p ys ∧ Q (.ref p) H))) pTupOf := by
  intro r H0 H S xs z vs Q s b q e k
  unfold pTupOf at e
  split at e
  · cases e
    obtain ⟨v, rfl, q1⟩ := reps1 q
    obtain ⟨a, us, rfl, ha, ra⟩ := vT_ok q1 rfl
    exact ⟨a, us, rfl, .inr ⟨ha, fin_same k q1⟩⟩
  · rename_i x _
    cases e1 : vL S x with
    | none => rw [e1] at e; cases e
    | some ds =>
      rw [e1] at e
      cases e
      obtain ⟨v, rfl, q1⟩ := reps1 q
      obtain ⟨a, us, rfl, ha, ra⟩ := vL_ok s q1 e1
      exact ⟨a, us, rfl, .inl ⟨ha, fin_tup s k ra⟩⟩
  · cases e
def pLstOf : Sto → List Rv → Option Rv := fun S xs => match xs with
  | [x] => (vQ S x).map fun ds => .fr (.lst ds)
  | _ => none
theorem ok_lstOf : Pure1 G (fun xs H Q => ∃ p ys, xs = [.ref p] ∧ (SqL G.K H p ys ∨ SqT G.K H p ys) ∧ ∀ l, H l = none → Q (.ref l) (upd H l (.lst ys))) pLstOf := by
  intro r H0 H S xs z vs Q s b q e k
  unfold pLstOf at e
  split at e
  · rename_i x
    cases e1 : vQ S x with
    | none => rw [e1] at e; cases e
    | some ds =>
      rw [e1] at e
      cases e
      obtain ⟨v, rfl, q1⟩ := reps1 q
      obtain ⟨a, us, rfl, ha, ra⟩ := vQ_ok s q1 e1
      exact ⟨a, us, rfl, ha, fin_lst s b k ra⟩
  · cases e
end
section
variable {X : Cx} {cA : Nat → Addr} {fN : Nat → List Str} {W : WX} {e o a b : Expr} {es : List Expr} {pos p apos p2 : Pos} {m mo ma mb : EX} {ms : List EX} {x : Str}
/-- isinstance(x, C), C a built-in class -/
theorem i_isi {C : Str} {cs : String} (hm : X.mg "isinstance" = none) (hmC : X.mg C = none) (hvC : bootBuiltins C = some (.type cs)) (ha : PE X a (TI (GX X cA fN) W ma)) (hg : Gl X "isinstance" := by rfl) (hgC : Gl X C := by rfl) (hnC : C ≠ "__name__" := by decide) (hdC : (C == ("__debug__" : Str)) = false := by decide)
    (hst : starEach [a, .Name C p2] X.env = (false, eval a X.env) :: starEach [.Name C p2] X.env := by rfl) (hst2 : starEach [Expr.Name C p2] X.env = (false, eval (.Name C p2) X.env) :: starEach [] X.env := by rfl) (hpl : (backTo pos (starEach [Expr.Name C p2] X.env)).any (·.1) = false := by rfl) :
    PE X (.Call (.Name "isinstance" p) [a, .Name C p2] [] pos) (TI (GX X cA fN) W (eP (lift (pIsi cs)) [ma])) :=
  (pe_callB call_isi hg hm (by decide +kernel) (pa_cons ha (pa_cons (pe_bltn (v := .ty cs) hgC hmC hvC rfl hnC hdC) pa_nil hst2) hst) (by decide) (by decide) hst hpl).mono fun σ H Q h => by
  obtain ⟨r, S, env, he, hs, hp⟩ := h
  have hq := prim_post (ok_isi cs).ok hp
  refine ⟨r, S, env, he, hs, Post.bind hq fun x S1 v r1 H1 e1 s1 q1 z => ?_⟩
  obtain ⟨x', e, t, c, h1, h2, h3⟩ := z [v] r1 H1 e1 s1 (.cons q1 .nil)
  cases e
  exact ⟨v, .ty cs, t, .type cs, c, rfl, .ty cs, h1, h2, h3⟩
end
end Cy
set_option Elab.async false
set_option linter.all false
set_option maxRecDepth 100000
set_option maxHeartbeats 2000000
set_option autoImplicit false
namespace Cy
open PySem L2
structure Callee (P : Program) (w : World) (K : PySem.W.Frag) (mg : Str → Option Value) (base : Heap) (cA : Nat → Addr) (fN : Nat → List Str) (k : Nat) (x : Str) (ps : List Str) (dds : List D) (fI : FI) : Prop where
  ne : NoErr fI
  got : ∃ (f : Addr) (fd : FuncData) (ds : List Value) (dvs : List V), mg x = some (.ref f) ∧ PySem.W.keepIn K (.ref f) = true ∧ Binds K fd ps ds ∧ Vals dvs ds ∧ (∀ r H, Reps ⟨K, cA, fN, P, w⟩ r H dvs dds) ∧ FnOk P w K mg base CX0 k f fd ps (spI ⟨K, cA, fN, P, w⟩ ps.length fI)
section
variable {P : Program} {w : World} {K : PySem.W.Frag} {mg : Str → Option Value} {base : Heap} {cA : Nat → Addr} {fN : Nat → List Str} {k : Nat} {x : Str} {ps : List Str} {f : FI}
theorem Callee.mkN {fI : FI} {a : Addr} {fd : FuncData} {ds : List Value} {dvs : List V} {dds : List D} (ne : NoErr fI) (hm : mg x = some (.ref a)) (hk : PySem.W.keepIn K (.ref a) = true) (hb : Binds K fd ps ds) (hv : Vals dvs ds) (hd : ∀ r H, Reps ⟨K, cA, fN, P, w⟩ r H dvs dds)
    (F : FnOk P w K mg base CX0 k a fd ps (spI ⟨K, cA, fN, P, w⟩ ps.length fI)) : Callee P w K mg base cA fN k x ps dds fI := ⟨ne, a, fd, ds, dvs, hm, hk, hb, hv, hd, F⟩
end
section
variable {X : Cx} {cA : Nat → Addr} {fN : Nat → List Str} {W : WX} {k : Nat} {ps : List Str} {fI : FI} {dds : List D} {x : Str} {p pos : Pos} {e : Expr} {es : List Expr} {ms : List EX} {m : EX}
theorem i_callC (hr : Room k X.A) (C : Callee X.prog X.w X.K X.mg X.base cA fN k x ps dds fI) (ha : PA X (e :: es) (TAI (GX X cA fN) W (eArgs (m :: ms)))) (hn : (m :: ms).length + dds.length = ps.length := by rfl) (hg : Gl X x := by rfl) (hdb : (x == ("__debug__" : Str)) = false := by decide)
    (he : starEach (e :: es) X.env = (false, eval e X.env) :: starEach es X.env := by rfl) (hpl : (backTo pos (starEach es X.env)).any (·.1) = false := by rfl) : PE X (.Call (.Name x p) (e :: es) [] pos) (TI (GX X cA fN) W (eCall fI (m :: ms) dds)) := by
  obtain ⟨f, fd, ds, dvs, h1, h2, h3, h4, h5, h6⟩ := C.got
  exact i_call C.ne h6 hr h1 h2 h3 h4 h5 ha hn hg hdb he hpl
theorem mtM {id : String} {r : V → List V → Hp → VK → Prop} (h : MtM X id r) : MtR X id r := h
end
theorem he_str {K : PySem.W.Frag} {h : Heap} {mg : Str → Option Value} {x z : Str} (X : K.In h) (G : h.Ns mainGlobals mg) (c : (He.Fa.str x z).ok K = true) : ∃ t, mg x = some (.str z t) := He.str_ok X G c
section
variable {G : Cfg} {r : List Addr} {H0 H : Hp} {S : Sto}
def mulB (i j : Int) : Bool := decide (i.natAbs < 18446744073709551616) || decide (j.natAbs < 18446744073709551616) || decide (Builtin.Int.intBits i + Builtin.Int.intBits j ≤ 134217728)
def pMul : Sto → List Rv → Option Rv := fun S xs => match xs with
  | [.va (.int i), .va (.int j)] => if mulB i j = true then some (.va (.int (i * j))) else none
  | [.va (.str x), .va (.int k)] => if decide (k.natAbs ≤ 1000) && decide (x.length ≤ 1000) then some (.va (.str (Txt.mul x k))) else none
  | [.va (.tup ds), .va (.int k)] => if !ds.isEmpty && decide (2 ≤ k) && decide (k.natAbs ≤ 1000) && decide (ds.length ≤ 1000) then some (.va (.tup (List.replicate k.toNat ds).flatten)) else none
  | [x, .va (.int k)] => match vM S x with
    | some ds => if decide (k.natAbs < 9223372036854775808) && decide (ds.length * k.toNat ≤ sizeLine) then some (.fr (.lst (List.replicate k.toNat ds).flatten)) else none
    | none => none
  | _ => none
def rMulS : R2 := fun x y H Q => ∃ a n, x = .str a ∧ y = .int n ∧ MulOk a n ∧ Q (.str (Txt.mul a n)) H
theorem op_mulS {X : Cx} : OpR X (binaryOp .Mult) rMulS := by
  intro pins s σ H x y v u Q I rx ry h
  obtain ⟨a, n, rfl, rfl, hm, q⟩ := h
  obtain ⟨t, rfl⟩ := rx
  obtain ⟨t', rfl⟩ := ry
  exact SB.mul hm fun t2 k => ⟨.str _, H, I.tok _, ⟨_, rfl⟩, q⟩
theorem mulS_ok {x : Str} {k : Int} (hk : k.natAbs ≤ 1000) (hx : x.length ≤ 1000) : MulOk x k := by
  refine ⟨?_, fun h1 _ => ?_, fun h1 _ => ?_⟩
  · rw [decide_eq_false (by omega), decide_eq_false (by omega)]; rfl
  · have h2 : (1000 : Int) ≤ (2 ^ 63 - 1) / k := by
      have hk0 : 0 < k := by omega
      rw [Int.le_ediv_iff_mul_le hk0]
      omega
    omega
  · unfold Builtin.Str.tooLong
    have : x.length * k.toNat ≤ 1000 * 1000 := Nat.mul_le_mul hx (by omega)
    have hz : (1000 * 1000 : Nat) ≤ sizeLine := by decide +kernel
    exact decide_eq_false (by omega)
def rMulA (K : PySem.W.Frag) : R2 := fun x y H Q => rMulS x y H Q ∨ ((rI CMul fun i j => .int (i * j)) x y H Q ∨ (rI CMulX fun i j => .int (i * j)) x y H Q) ∨ rRepT K x y H Q ∨ rRep x y H Q
theorem op_mulA {X : Cx} : OpR X (binaryOp .Mult) (rMulA X.K) := op_mulS.or <| (op_mul.or op_mulX).or (op_repT.or op_rep)
theorem Reps.rep {vs : List V} {ds : List D} (q : Reps G r H vs ds) : ∀ k : Nat, Reps G r H (List.replicate k vs).flatten (List.replicate k ds).flatten
  | 0 => .nil
  | k + 1 => by
    rw [List.replicate_succ, List.replicate_succ, List.flatten_cons, List.flatten_cons]
    exact q.append (Reps.rep q k)
theorem ok_mulA : Pure1 G (L22 (rMulA G.K)) pMul := by
  intro r H0 H S xs z vs Q s b q e k
  unfold pMul at e
  split at e
  · rename_i i j
    split at e
    · rename_i hm
      cases e
      obtain ⟨v, w, rfl, q1, q2⟩ := reps2 q
      cases q1
      cases q2
      unfold mulB at hm
      rw [Bool.or_eq_true, Bool.or_eq_true, decide_eq_true_eq, decide_eq_true_eq, decide_eq_true_eq] at hm
      refine ⟨_, _, rfl, .inr (.inl ?_)⟩
      rcases hm with (hm | hm) | hm
      · exact .inl ⟨i, j, rfl, rfl, .inl (by omega), fin_same k (.int _)⟩
      · exact .inl ⟨i, j, rfl, rfl, .inr (by omega), fin_same k (.int _)⟩
      · exact .inr ⟨i, j, rfl, rfl, (by show _ ≤ _; omega), fin_same k (.int _)⟩
    · cases e
  · split at e
    · rename_i hm
      cases e
      obtain ⟨v, w, rfl, q1, q2⟩ := reps2 q
      cases q1
      cases q2
      have hm' := Bool.and_eq_true_iff.mp hm
      exact ⟨_, _, rfl, .inl ⟨_, _, rfl, rfl, mulS_ok (of_decide_eq_true hm'.1) (of_decide_eq_true hm'.2), fin_same k (.str _)⟩⟩
    · cases e
  · rename_i ds j
    split at e
    · rename_i hm
      cases e
      obtain ⟨v, w, rfl, q1, q2⟩ := reps2 q
      cases q2
      rw [Bool.and_eq_true, Bool.and_eq_true, Bool.and_eq_true, decide_eq_true_eq, decide_eq_true_eq, decide_eq_true_eq] at hm
      obtain ⟨a, us, rfl, ha, ra⟩ := vT_ok q1 rfl
      have hl := ra.length
      refine ⟨_, _, rfl, .inr (.inr (.inl ⟨a, j, us, rfl, rfl, ha, fun e0 => ?_, hm.1.1.2, by have := hm.1.2; have := hm.1.1.2; omega, by omega, fin_tup s k (ra.rep _)⟩))⟩
      subst e0
      cases ra
      have := hm.1.1.1
      simp at this
    · cases e
  · rename_i x j _ _ _
    cases e1 : vM S x with
    | none => rw [e1] at e; cases e
    | some ds =>
      rw [e1] at e
      dsimp only at e
      split at e
      · rename_i hm
        cases e
        obtain ⟨v, w, rfl, q1, q2⟩ := reps2 q
        cases q2
        rw [Bool.and_eq_true, decide_eq_true_eq, decide_eq_true_eq] at hm
        obtain ⟨a, us, rfl, ha, ra⟩ := vM_ok s q1 e1
        have hl := ra.length
        exact ⟨_, _, rfl, .inr (.inr (.inr ⟨a, j, us, rfl, rfl, ha, by have := hm.1; omega, by have := hm.1; omega, by rw [hl]; exact hm.2, fin_lst s b k (ra.rep _)⟩))⟩
      · cases e
  · cases e
def pLt : Sto → List Rv → Option Rv := fun _ xs => match xs with
  | [.va (.int i), .va (.int j)] => some (.va (.bl (decide (i < j))))
  | [.va (.str i), .va (.str j)] => some (.va (.bl (decide (i.cps.toList < j.cps.toList))))
  | _ => none
def rLtA : R2 := fun x y H Q => rI0 (fun i j => .bl (decide (i < j))) x y H Q ∨ ∃ i j, x = .str i ∧ y = .str j ∧ Q (.bl (decide (i.cps.toList < j.cps.toList))) H
theorem op_ltA {X : Cx} : OpR X (compareOp .Lt) rLtA := op_lt.or op_lt_str
theorem ok_ltA : Pure1 G (L22 rLtA) pLt := by
  intro r H0 H S xs z vs Q s b q e k
  unfold pLt at e
  split at e
  · cases e
    obtain ⟨v, w, rfl, q1, q2⟩ := reps2 q
    cases q1
    cases q2
    exact ⟨_, _, rfl, .inl ⟨_, _, rfl, rfl, fin_same k (.bl _)⟩⟩
  · cases e
    obtain ⟨v, w, rfl, q1, q2⟩ := reps2 q
    cases q1
    cases q2
    exact ⟨_, _, rfl, .inr ⟨_, _, rfl, rfl, fin_same k (.bl _)⟩⟩
  · cases e
def inRes (neg : Bool) (d : PyData) (ds : List PyData) : Option Rv := if SeqAt.shaped d && SeqAt.shaped (.list ds) then some (.va (.bl (if neg then !(ds.any fun z => PyData.eqv z d) else ds.any fun z => PyData.eqv z d))) else none
def pInB (neg : Bool) : Sto → List Rv → Option Rv := fun S xs => match xs with
  | [x, y] => match pyR S x, pyR S y with
    | some d, some (.list ds) => inRes neg d ds
    | some d, some (.tuple ds) => inRes neg d ds
    | _, _ => none
  | _ => none
abbrev pIn := pInB false
abbrev pNotIn := pInB true
def rInDN (K : PySem.W.Frag) (neg : Bool) : R2 := fun x y H Q => ∃ d ds, Dp K H x d ∧ (Dp K H y (.list ds) ∨ Dp K H y (.tuple ds)) ∧ SeqAt.shaped d = true ∧ SeqAt.shaped (.list ds) = true ∧ Q (.bl (if neg then !(ds.any fun z => PyData.eqv z d) else ds.any fun z => PyData.eqv z d)) H
theorem units65 {k : Nat} {A : Around} (r : Room k A) : A.units + 65 < cLine := by have := r.un; omega
theorem op_inA {X : Cx} (hu : X.A.units + 65 < cLine) : OpR X (compareOp .In) (rInDN X.K false) := by
  intro pins s σ H x y v u Q I rx ry h
  obtain ⟨d, ds, hd, he, sd, se, q⟩ := h
  obtain ⟨as, r1⟩ := Dp.reads I d x v hd rx
  rcases he with he | he
  · obtain ⟨bs, r2⟩ := Dp.reads I (.list ds) y u he ry
    exact SeqAt.in_list_reads r2 r1 (SeqAt.canLay_of_shaped se) (SeqAt.canLay_of_shaped sd) (PyProof.Rows.room_in_shaped sd hu) ⟨.bl _, H, I, rfl, q⟩
  · obtain ⟨bs, r2⟩ := Dp.reads I (.tuple ds) y u he ry
    exact SeqAt.in_tuple_reads r2 r1 (SeqAt.canLay_of_shaped se) (SeqAt.canLay_of_shaped sd) (PyProof.Rows.room_in_shaped sd hu) ⟨.bl _, H, I, rfl, q⟩
theorem op_notInA {X : Cx} (hu : X.A.units + 65 < cLine) : OpR X (compareOp .NotIn) (rInDN X.K true) := by
  intro pins s σ H x y v u Q I rx ry h
  obtain ⟨d, ds, hd, he, sd, se, q⟩ := h
  obtain ⟨as, r1⟩ := Dp.reads I d x v hd rx
  rcases he with he | he
  · obtain ⟨bs, r2⟩ := Dp.reads I (.list ds) y u he ry
    exact SeqAt.notIn_list_reads r2 r1 (SeqAt.canLay_of_shaped se) (SeqAt.canLay_of_shaped sd) (PyProof.Rows.room_in_shaped sd hu) ⟨.bl _, H, I, rfl, q⟩
  · obtain ⟨bs, r2⟩ := Dp.reads I (.tuple ds) y u he ry
    exact SeqAt.notIn_tuple_reads r2 r1 (SeqAt.canLay_of_shaped se) (SeqAt.canLay_of_shaped sd) (PyProof.Rows.room_in_shaped sd hu) ⟨.bl _, H, I, rfl, q⟩
theorem ok_inB (neg : Bool) : Pure1 G (L22 (rInDN G.K neg)) (pInB neg) := by
  intro r H0 H S xs z vs Q s b q e k
  unfold pInB at e
  split at e
  · rename_i x y
    split at e
    · rename_i d ds e1 e2
      unfold inRes at e
      split at e
      · rename_i hs
        cases e
        obtain ⟨v, w, rfl, q1, q2⟩ := reps2 q
        have hs' := Bool.and_eq_true_iff.mp hs
        exact ⟨v, w, rfl, d, ds, pyR_ok s q1 e1, .inl (pyR_ok s q2 e2), hs'.1, hs'.2, fin_same k (.bl _)⟩
      · cases e
    · rename_i d ds e1 e2
      unfold inRes at e
      split at e
      · rename_i hs
        cases e
        obtain ⟨v, w, rfl, q1, q2⟩ := reps2 q
        have hs' := Bool.and_eq_true_iff.mp hs
        exact ⟨v, w, rfl, d, ds, pyR_ok s q1 e1, .inr (pyR_ok s q2 e2), hs'.1, hs'.2, fin_same k (.bl _)⟩
      · cases e
    · cases e
  · cases e
theorem ok_in : Pure1 G (L22 (rInDN G.K false)) pIn := ok_inB false
theorem ok_notIn : Pure1 G (L22 (rInDN G.K true)) pNotIn := ok_inB true
def rIaddA : TIp := fun x y H Q => (ipI fun i j => i + j) x y H Q ∨ ∃ i j, x = .str i ∧ y = .str j ∧ i.length + j.length ≤ sizeLine ∧ Q (.str (i ++ j)) H
theorem ip_addA {X : Cx} : PIp X .Add rIaddA := by
  intro pins s σ H x y v u Q I r1 r2 h
  rcases h with h | h
  · exact ip_add pins s σ H x y v u Q I r1 r2 h
  · exact iop_add_str pins s σ H x y v u Q I r1 r2 h
def pIadd : Sto → List Rv → Option Rv := fun _ xs => match xs with
  | [.va (.int i), .va (.int j)] => some (.va (.int (i + j)))
  | [.va (.str x), .va (.str y)] => if x.length + y.length ≤ sizeLine then some (.va (.str (x ++ y))) else none
  | _ => none
theorem ok_iadd : Pure1 G (L22 rIaddA) pIadd := by
  intro r H0 H S xs z vs Q s b q e k
  unfold pIadd at e
  split at e
  · cases e
    obtain ⟨v, w, rfl, q1, q2⟩ := reps2 q
    cases q1
    cases q2
    exact ⟨_, _, rfl, .inl ⟨_, _, rfl, rfl, fin_same k (.int _)⟩⟩
  · split at e
    · rename_i hz
      cases e
      obtain ⟨v, w, rfl, q1, q2⟩ := reps2 q
      cases q1
      cases q2
      exact ⟨_, _, rfl, .inr ⟨_, _, rfl, rfl, hz, fin_same k (.str _)⟩⟩
    · cases e
  · cases e
end
section
variable {n ar : Nat} {b : SM} {ds : List D} {S T : Sto}
theorem cutB_app : cutB S (S ++ T) = true := by
  unfold cutB
  rw [List.take_left, eqSto_refl]; rfl
theorem fn_va {d : D} (h : b (ds.map some ++ List.replicate (n - ar) none) S = .ret (.va d) (S ++ T)) (u : d.und S.length = true) : clean (noErr (fnOf n ar b)) ds S = .ok (.va d) S := by
  unfold clean noErr fnOf
  rw [h]
  dsimp only
  rw [cutB_app, u, List.take_left]; rfl
theorem fn_fr {o : Ob} (h : b (ds.map some ++ List.replicate (n - ar) none) S = .ret (.fr o) (S ++ T)) (u : o.und S.length = true) : clean (noErr (fnOf n ar b)) ds S = .ok (.fr o) S := by
  unfold clean noErr fnOf
  rw [h]
  dsimp only
  rw [cutB_app, u, List.take_left]; rfl
theorem und_ref (k : Nat) : (D.ref (S.length + k)).und S.length = false := by
  show decide (S.length + k < S.length) = false
  exact decide_eq_false (by omega)
theorem fn_ref {k : Nat} {o : Ob} (h : b (ds.map some ++ List.replicate (n - ar) none) S = .ret (.va (.ref (S.length + k))) (S ++ T)) (e : T[k]? = some o) (u : o.und S.length = true) : clean (noErr (fnOf n ar b)) ds S = .ok (.fr o) S := by
  unfold clean noErr fnOf
  rw [h]
  dsimp only
  have e1 : (S ++ T)[S.length + k]? = some o := by
    rw [List.getElem?_append_right (by omega), Nat.add_sub_cancel_left]; exact e
  rw [cutB_app, und_ref, e1, List.take_left]
  dsimp only
  rw [u, decide_eq_true (show S.length ≤ S.length + k by omega)]; rfl
end
end Cy
set_option Elab.async false
set_option linter.all false
set_option maxRecDepth 100000
set_option maxHeartbeats 2000000
set_option autoImplicit false
namespace Cy
open PySem L2 RZ
section
variable {G : Cfg} {r : List Addr} {H0 H : Hp} {S : Sto}
theorem notin_none {a : Addr} (s : Sim G r H S) (h : H a = none) : a ∉ r := fun hm => by
  obtain ⟨n, hn⟩ := List.mem_iff_getElem?.mp hm
  have hl : n < S.length := by rw [← s.len]; exact (List.getElem?_eq_some_iff.mp hn).1
  obtain ⟨u, hu, _⟩ := (s.at_ n a _ hn (List.getElem?_eq_getElem hl)).mut
  rw [h] at hu
  cases hu
end
section
variable {X : Cx} {cA : Nat → Addr} {fN : Nat → List Str} {W : WX} {pos p tpos : Pos} {e e2 : Expr} {elts : List Expr} {kk : Nat} {m n : EX}
def pSetL (S : Sto) (o i : Rv) (d : D) : Option Sto := match o, i with
  | .va (.ref n), .va (.int k) => match S[n]? with
    | some (.lst ds) => (ixN ds.length k).map fun j => S.set n (.lst (ds.set j d))
    | _ => none
  | _, _ => none
def sSub (o i m : EX) : SM := fun env S => (eTo m env S).on env fun x S1 => match x with
  | .va d => (o env S1).on env fun ox S2 => (i env S2).on env fun ixv S3 => match pSetL S3 ox ixv d with
    | some S4 => .nx env S4
    | none => .bad
  | .fr _ => .bad
theorem s_sub {mo mi : EX} {o i : Expr} {pos' : Pos} (ho : PE X o (TI (GX X cA fN) W mo)) (hi : PE X i (TI (GX X cA fN) W mi)) (h : PE X e (TI (GX X cA fN) W m))
    (hs : swapsWithSole [.Subscript o i pos'] e pos.line X.env = pure false := by rfl) (hw : swappedStores [.Subscript o i pos'] e X.env = pure none := by rfl)
    (h1 : (assignEach [.Subscript o i pos'] X.env).map (·.2) = [assign (.Subscript o i pos') X.env] := by rfl)
    (ha : ∀ v, assign (.Subscript o i pos') X.env v = (do
      let ov ← holding [v] (eval o X.env)
      let iv ← holding [v, ov] (eval i X.env)
      standAt pos'
      holding [v, ov, iv] (setItem ov iv v)
      release [v, ov, iv] []) := by intro _; rfl) : PS X (.Assign [.Subscript o i pos'] e pos) (TSI (GX X cA fN) W (sSub mo mi m)) := (ps_asg h (pg_sub ho hi set_list ha) hs hw h1).mono fun D σ H h => by
  obtain ⟨r, S, env, he, hs, hp⟩ := h
  refine TI.to ⟨r, S, env, he, hs, PostS.on he hp fun x S1 v r1 H1 e1 s1 q1 z => ?_⟩
  cases x with
  | fr o => exact z.elim
  | va d =>
    dsimp only at z
    have he1 := he.ext e1
    refine ⟨r1, S1, env, he1, s1, PostS.on he1 (z.shift e1) fun ox S2 w r2 H2 e2 s2 q2 z2 => ?_⟩
    have he2 := he1.ext e2
    refine ⟨r2, S2, env, he2, s2, PostS.on he2 (z2.shift e2) fun ixv S3 u r3 H3 e3 s3 q3 z3 => ?_⟩
    cases ep : pSetL S3 ox ixv d with
    | none => rw [ep] at z3; exact z3.elim
    | some S4 =>
      rw [ep] at z3
      unfold pSetL at ep
      have q1' := (Rep.ext e2 q1).ext e3
      have q2' := q2.ext e3
      split at ep
      · rename_i n k
        cases en : S3[n]? with
        | none => rw [en] at ep; cases ep
        | some ob =>
          rw [en] at ep
          cases ob with
          | lst ds =>
            dsimp only at ep
            cases ej : ixN ds.length k with
            | none => rw [ej] at ep; cases ep
            | some j =>
              rw [ej] at ep
              cases ep
              obtain ⟨a, rfl, ha, us, hu, ru⟩ := s3.get q2' en
              cases q3
              have hm : a ∈ r3 := List.mem_of_getElem? ha
              have ew : Ext r3 H3 r3 (upd H3 a (.lst (us.set j v))) := Ext.wr hm hu trivial
              exact ⟨a, us, k, j, rfl, rfl, hu, by rw [ru.length]; exact ej, z3 σ r3 _ (e3.trans ew) ((he2.ext e3).ext ew) (s3.wr ha ⟨_, upd_same, (ru.ext ew).set j (Rep.ext ew q1')⟩)⟩
          | dct _ => cases ep
          | lck _ => cases ep
          | ins _ _ => cases ep
      · cases ep
end
def dStrs : List D → Option (List Str)
  | [] => some []
  | .str i :: r => (dStrs r).map (i :: ·)
  | _ :: _ => none
section
variable {G : Cfg} {r : List Addr} {H0 H : Hp} {S : Sto}
theorem dStrs_ok : ∀ {vs : List V} {ds : List D} {ns : List Str}, Reps G r H vs ds → dStrs ds = some ns → vs = ns.map V.str
  | _, _, _, .nil, e => by cases e; rfl
  | _, _, _, .cons (d := d) (ds := ds) h t, e => by
    cases d with
    | str i =>
      have e : (dStrs ds).map (i :: ·) = some _ := e
      cases e1 : dStrs ds with
      | none => rw [e1] at e; cases e
      | some ns =>
        rw [e1] at e
        cases e
        cases h
        rw [dStrs_ok t e1, List.map_cons]
    | _ => cases e
def pJoin : Sto → List Rv → Option Rv := fun S xs => match xs with
  | [.va (.str a), x] => match vQ S x with
    | some ds => match dStrs ds with
      | some ys => if (ys.map (·.length)).sum + ys.length * a.length ≤ 16777216 then some (.va (.str (Txt.join a ys))) else none
      | none => none
    | none => none
  | _ => none
theorem ok_join : Pure1 G (rdM fun x xs H Q => ∃ a p, ∃ ys : List Str, x = .str a ∧ xs = [.ref p] ∧ (SqL G.K H p (ys.map V.str) ∨ SqT G.K H p (ys.map V.str)) ∧ (ys.map (·.length)).sum + ys.length * a.length ≤ 16777216 ∧ Q (.str (Txt.join a ys)) H) pJoin := by
  intro r H0 H S xs z vs Q s b q e k
  unfold pJoin at e
  split at e
  · rename_i a x
    cases e1 : vQ S x with
    | none => rw [e1] at e; cases e
    | some ds =>
      rw [e1] at e
      dsimp only at e
      cases e2 : dStrs ds with
      | none => rw [e2] at e; cases e
      | some ys =>
        rw [e2] at e
        dsimp only at e
        split at e
        · rename_i hz
          cases e
          obtain ⟨v, w, rfl, q1, q2⟩ := reps2 q
          cases q1
          obtain ⟨p, us, rfl, hq, rq⟩ := vQ_ok s q2 e1
          have := dStrs_ok rq e2
          subst this
          exact ⟨_, _, rfl, a, p, ys, rfl, rfl, hq, hz, fin_same k (.str _)⟩
        · cases e
  · cases e
end
end Cy
set_option Elab.async false
set_option linter.all false
set_option maxRecDepth 100000
set_option maxHeartbeats 2000000
set_option autoImplicit false
set_option Elab.async false
set_option linter.all false
set_option maxRecDepth 100000
set_option maxHeartbeats 2000000
set_option autoImplicit false
namespace Cy
open PySem L2
def keyEq : D → D → Bool
  | .int i, .int j => decide (i = j)
  | .str i, .str j => decide (i = j)
  | .tup a, .tup b => decide (keyN (.tup a) = keyN (.tup b))
  | _, _ => false
def isFK : D → Bool
  | .int _ => true
  | .str _ => true
  | _ => false
def isTK : D → Bool
  | .tup ds => match keyN (.tup ds) with
    | some k => decide (k.depth ≤ 8)
    | none => false
  | _ => false
def isKey (d : D) : Bool := isFK d || isTK d
def kindB (kvs : List (D × D)) (kd : D) : Bool := kvs.all fun kv => isTK kv.1 == isTK kd
def keyB (kvs : List (D × D)) (kd : D) : Bool := isKey kd && kindB kvs kd
def dGetD (kvs : List (D × D)) (k : D) : Option D := (kvs.find? fun kv => keyEq kv.1 k).map (·.2)
def dPutD (kvs : List (D × D)) (k v : D) : List (D × D) := if (kvs.any fun kv => keyEq kv.1 k) = true then kvs.map (fun kv => if keyEq kv.1 k = true then (kv.1, v) else kv) else kvs ++ [(k, v)]
theorem keyEq_key (j k : Key) : keyEq (keyD j) (keyD k) = decide (j = k) := by
  cases j <;> cases k <;> simp [keyEq, keyD]
section
variable {G : Cfg} {r : List Addr} {H0 H : Hp} {S : Sto}
theorem key_rep {v : V} {d : D} (q : Rep G r H v d) (h : isFK d = true) : ∃ k : Key, d = keyD k ∧ v = kV k := by
  cases d with
  | int i =>
    cases q
    exact ⟨.inl i, rfl, rfl⟩
  | str x =>
    cases q
    exact ⟨.inr x, rfl, rfl⟩
  | _ => cases h
theorem dget_ok : ∀ {ws : List (Key × V)} {kvs : List (D × D)} (k : Key), kvs.map (·.1) = ws.map (fun w => keyD w.1) → Reps G r H (ws.map (·.2)) (kvs.map (·.2)) → (∀ d, dGetD kvs (keyD k) = some d → ∃ v, valV ws k = some v ∧ Rep G r H v d) ∧ (dGetD kvs (keyD k) = none → valV ws k = none)
  | [], [], k, _, _ => ⟨fun d h => (by cases h), fun _ => rfl⟩
  | [], _ :: _, k, h, _ => by simp at h
  | _ :: _, [], k, h, _ => by simp at h
  | w :: ws, kv :: kvs, k, h, q => by
    simp only [List.map_cons, List.cons.injEq] at h
    obtain ⟨h1, h2⟩ := h
    cases q with
    | cons q1 q2 =>
      obtain ⟨i1, i2⟩ := dget_ok k h2 q2
      have hk : keyEq kv.1 (keyD k) = decide (w.1 = k) := by rw [h1, keyEq_key]
      have hd : dGetD (kv :: kvs) (keyD k) = if keyEq kv.1 (keyD k) = true then some kv.2 else dGetD kvs (keyD k) := by
        unfold dGetD
        rw [List.find?_cons]
        cases keyEq kv.1 (keyD k) <;> rfl
      by_cases e : w.1 = k
      · rw [hk, decide_eq_true e, if_pos rfl] at hd
        rw [hd, valV_pos e]
        exact ⟨fun d h => ⟨w.2, rfl, (by cases h; exact q1)⟩, fun h => (by cases h)⟩
      · rw [hk, decide_eq_false e, if_neg Bool.false_ne_true] at hd
        rw [hd, valV_neg e]
        exact ⟨i1, i2⟩
theorem any_ok : ∀ {ws : List (Key × V)} {kvs : List (D × D)} (k : Key), kvs.map (·.1) = ws.map (fun w => keyD w.1) → (kvs.any fun kv => keyEq kv.1 (keyD k)) = ws.any fun w => decide (w.1 = k)
  | [], [], k, _ => rfl
  | [], _ :: _, k, h => by simp at h
  | _ :: _, [], k, h => by simp at h
  | w :: ws, kv :: kvs, k, h => by
    simp only [List.map_cons, List.cons.injEq] at h
    rw [List.any_cons, List.any_cons, any_ok k h.2, h.1, keyEq_key]
theorem dput_map : ∀ {ws : List (Key × V)} {kvs : List (D × D)} (k : Key) {v : V} {d : D}, kvs.map (·.1) = ws.map (fun w => keyD w.1) → Reps G r H (ws.map (·.2)) (kvs.map (·.2)) → Rep G r H v d →
    (kvs.map fun kv => if keyEq kv.1 (keyD k) = true then (kv.1, d) else kv).map (·.1) = (ws.map fun w => if w.1 = k then (w.1, v) else w).map (fun w => keyD w.1) ∧ Reps G r H ((ws.map fun w => if w.1 = k then (w.1, v) else w).map (·.2)) ((kvs.map fun kv => if keyEq kv.1 (keyD k) = true then (kv.1, d) else kv).map (·.2))
  | [], [], k, _, _, _, _, _ => ⟨rfl, .nil⟩
  | [], _ :: _, k, _, _, h, _, _ => by simp at h
  | _ :: _, [], k, _, _, h, _, _ => by simp at h
  | w :: ws, kv :: kvs, k, v, d, h, q, rv => by
    simp only [List.map_cons, List.cons.injEq] at h
    obtain ⟨h1, h2⟩ := h
    cases q with
    | cons q1 q2 =>
      obtain ⟨i1, i2⟩ := dput_map k h2 q2 rv
      have hk : keyEq kv.1 (keyD k) = decide (w.1 = k) := by rw [h1, keyEq_key]
      simp only [List.map_cons]
      by_cases e : w.1 = k
      · rw [hk, decide_eq_true e, if_pos rfl, if_pos e]
        exact ⟨by rw [i1, h1], .cons rv i2⟩
      · rw [hk, decide_eq_false e, if_neg Bool.false_ne_true, if_neg e]
        exact ⟨by rw [i1, h1], .cons q1 i2⟩
theorem dput_ok {ws : List (Key × V)} {kvs : List (D × D)} (k : Key) {v : V} {d : D} (h : kvs.map (·.1) = ws.map (fun w => keyD w.1)) (q : Reps G r H (ws.map (·.2)) (kvs.map (·.2))) (nd : (ws.map (·.1)).Nodup) (rv : Rep G r H v d) :
    (dPutD kvs (keyD k) d).map (·.1) = (putK ws k v).map (fun w => keyD w.1) ∧ Reps G r H ((putK ws k v).map (·.2)) ((dPutD kvs (keyD k) d).map (·.2)) ∧ ((putK ws k v).map (·.1)).Nodup := by
  unfold dPutD putK
  rw [any_ok k h]
  by_cases ha : (ws.any fun w => decide (w.1 = k)) = true
  · rw [if_pos ha, if_pos ha]
    obtain ⟨a, b⟩ := dput_map k h q rv
    refine ⟨a, b, ?_⟩
    have : (ws.map fun w => if w.1 = k then (w.1, v) else w).map (·.1) = ws.map (·.1) := by
      rw [List.map_map]
      refine List.map_congr_left fun w _ => ?_
      show (if w.1 = k then (w.1, v) else w).1 = w.1
      split <;> rfl
    rw [this]
    exact nd
  · rw [if_neg ha, if_neg ha]
    refine ⟨by rw [List.map_append, List.map_append, h]; rfl, by rw [List.map_append, List.map_append]; exact q.append (.cons rv .nil), ?_⟩
    rw [List.map_append, List.nodup_append]
    refine ⟨nd, by simp, fun a h1 b h2 e => ha ?_⟩
    have hb : b = k := by simpa using h2
    obtain ⟨w, hw, e2⟩ := List.mem_map.mp h1
    exact List.any_eq_true.mpr ⟨w, hw, decide_eq_true (by rw [e2, e, hb])⟩
def vD (S : Sto) : Rv → Option (List (D × D))
  | .va (.ref n) => match S[n]? with
    | some (.dct kvs) => some kvs
    | _ => none
  | .fr (.dct kvs) => some kvs
  | _ => none
theorem vD_ok {v : V} {x : Rv} {kvs : List (D × D)} (s : Sim G r H S) (q : RepR G r H0 H v x) (e : vD S x = some kvs) : ∃ a, v = .ref a ∧ ObAt G r H a (.dct kvs) := by
  cases x with
  | fr o =>
    cases o with
    | dct es =>
      cases e
      obtain ⟨a, rfl, _, _, h⟩ := q
      exact ⟨a, rfl, h⟩
    | lst _ => cases e
    | ins _ _ => cases e
    | lck _ => cases e
  | va d =>
    cases d with
    | ref n =>
      unfold vD at e
      dsimp only at e
      cases e1 : S[n]? with
      | none => rw [e1] at e; cases e
      | some o =>
        rw [e1] at e
        cases o with
        | dct es =>
          cases e
          obtain ⟨a, rfl, _, h⟩ := s.get q e1
          exact ⟨a, rfl, h⟩
        | lst _ => cases e
        | ins _ _ => cases e
        | lck _ => cases e
    | _ => cases e
end
def nPut (rows : List (NestedKey × Addr × V)) (k : NestedKey) (b : Addr) (v : V) : List (NestedKey × Addr × V) := if (rows.any fun x => decide (x.1 = k)) = true then rows.map (fun x => if x.1 = k then (x.1, x.2.1, v) else x) else rows ++ [(k, b, v)]
theorem nVal_any (k : NestedKey) : ∀ rows : List (NestedKey × Addr × V), (rows.any fun x => decide (x.1 = k)) = (nVal rows k).isSome
  | [] => rfl
  | p :: r => by
    have ih := nVal_any k r
    unfold nVal at ih ⊢
    rw [List.any_cons, List.find?_cons]
    by_cases e : p.1 = k
    · simp [e]
    · simp only [e, decide_false, Bool.false_or]; exact ih
theorem NT.repl {rows : List (NestedKey × Addr × V)} {xs : List (NestedKey × Addr × Value)} (r : NT rows xs) (k : NestedKey) {y : V} {u : Value} (ry : RelV y u) :
    NT (rows.map fun x => if x.1 = k then (x.1, x.2.1, y) else x) (xs.map (putAt k u)) := by
  induction r with
  | nil => exact .nil
  | @cons p q ps qs h t ih =>
    rw [List.map_cons, List.map_cons]
    refine .cons ?_ ih
    obtain ⟨h1, h2, h3⟩ := h
    unfold putAt
    by_cases e : p.1 = k
    · rw [if_pos e, if_pos (h1.symm.trans e)]; exact ⟨h1, h2, ry⟩
    · rw [if_neg e, if_neg (fun z => e (h1.trans z))]; exact ⟨h1, h2, h3⟩
theorem NT.put {rows : List (NestedKey × Addr × V)} {xs : List (NestedKey × Addr × Value)} (r : NT rows xs) (k : NestedKey) (b : Addr) {y : V} {u : Value} (ry : RelV y u) : NT (nPut rows k b y) (storedH xs k b u) := by
  have e : (rows.any fun x => decide (x.1 = k)) = (atKey xs k).isSome := by
    rw [nVal_any, (r.val k).isSome_eq, Option.isSome_map]
  unfold nPut storedH
  rw [e]
  by_cases q : (atKey xs k).isSome = true
  · rw [if_pos q, if_pos q]; exact r.repl k ry
  · rw [if_neg q, if_neg q]; exact Paired.snoc r ⟨rfl, rfl, ry⟩
theorem nPut_len (rows : List (NestedKey × Addr × V)) (k : NestedKey) (b : Addr) (v : V) : (nPut rows k b v).length ≤ rows.length + 1 := by
  unfold nPut
  split
  · rw [List.length_map]; omega
  · rw [List.length_append, List.length_singleton]; omega
/-- the rows of the dict at a, by tuples; an empty one is of both sorts -/
def NAt (P : Program) (w : World) (H : Hp) (a : Addr) (rows : List (NestedKey × Addr × V)) : Prop := H a = some (NestD P w a rows) ∨ (rows = [] ∧ H a = some (.dK []))
def NK (P : Program) (w : World) (H : Hp) (k : NestedKey) (b : Addr) : Prop := ∀ h, HOk P w H h → (nestedKind P w).is h k b
def NGet (P : Program) (w : World) (H : Hp) (a : Addr) (y : V) (o : Option V) : Prop := ∃ rows k b, NAt P w H a rows ∧ y = .ref b ∧ NK P w H k b ∧ (∀ x ∈ rows, NK P w H x.1 x.2.1) ∧ o = nVal rows k
def NPut (P : Program) (w : World) (H : Hp) (a : Addr) (y v : V) (H' : Hp) : Prop := ∃ rows k b, NAt P w H a rows ∧ y = .ref b ∧ NK P w H k b ∧ (∀ x ∈ rows, NK P w H x.1 x.2.1) ∧ rows.length < sizeLine ∧ H' = upd H a (NestD P w a (nPut rows k b v))
theorem n_of {P : Program} {w : World} {H : Hp} {h : Heap} {a : Addr} {rows : List (NestedKey × Addr × V)} (ok : HOk P w H h) (e : NAt P w H a rows) (nk : ∀ x ∈ rows, NK P w H x.1 x.2.1) :
    rows.length ≤ sizeLine ∧ (a == sysModules) = false ∧ ∃ xs, NT rows xs ∧ h.DictOfH (nestedKind P w) a xs := by
  rcases e with e | ⟨rfl, e⟩
  · have z : ObjOk P w H h a (NestD P w a rows) := ok a _ e
    unfold NestD at z
    obtain ⟨⟨z1, z2, xs, r, o, es, ep, h1, h2, h3, h4, h5⟩, _⟩ := z
    refine ⟨z1, z2, xs, r, o, es, ep, h1, h2, h3, h4, ?_, h5⟩
    have all : ∀ {l : List (NestedKey × Addr × V)} {m : List (NestedKey × Addr × Value)}, NT l m → (∀ x ∈ l, NK P w H x.1 x.2.1) → ∀ x ∈ m, (nestedKind P w).is h x.1 x.2.1 := by
      intro l m q
      induction q with
      | nil => intro _ x hx; exact nomatch hx
      | @cons p q ps qs hq t ih =>
        intro hn x hx
        rcases List.mem_cons.mp hx with e | hx
        · subst e
          rw [← hq.1, ← hq.2.1]
          exact hn p List.mem_cons_self h ok
        · exact ih (fun y hy => hn y (List.mem_cons_of_mem _ hy)) x hx
    exact all r nk
  · obtain ⟨z1, z2, vs, r, o, es, ep, h1, h2, h3, h4, h5, h6⟩ := dk_of ok e
    cases r
    refine ⟨Nat.zero_le _, z2, [], .nil, o, es, ep, h1, h2, h3, ?_, (fun x hx => by cases hx), List.nodup_nil⟩
    cases he : es.toList with
    | nil => rfl
    | cons e1 e2 =>
      rw [he] at h5
      exact absurd h5 (by intro z; cases z)
section
variable {X : Cx} {pins : List (Addr × Obj)} {σ : L2.St} {H : Hp} {s : Shared} {a : Addr} {y v : V} {u r : Value} {o : Option V} {A : Around} {E : Value → Shared → Prop}
theorem room_n (hu : A.units + 9 < cLine) : (nestedKind X.prog X.w).room A.in1 := by
  show A.units + 1 + 8 < cLine
  omega
theorem n_in {Q : Value → Shared → Prop} (hu : A.units + 9 < cLine) (I : Inv X pins σ H s) (g : NGet X.prog X.w H a y o) (ry : RelV y u) (h : ∀ s', Inv X pins σ H s' → Q (.bool o.isSome) s') :
    wpAny (model X.prog X.w) A (compareOp .In u (.ref a)) Q E s := by
  obtain ⟨rows, k, b, e, ey, nk, nr, l⟩ := g
  subst ey
  cases (show u = Value.ref b from ry)
  obtain ⟨z, hd, xs, rel, dd⟩ := n_of I.hok e nr
  refine wpAny_in_heap (room_n hu) (nk _ I.hok) hd dd ?_
  have q := (rel.val k).isSome_eq
  rw [Option.isSome_map] at q
  rw [← q, ← l]
  exact h _ (I.tok _)
theorem n_notIn {Q : Value → Shared → Prop} (hu : A.units + 9 < cLine) (I : Inv X pins σ H s) (g : NGet X.prog X.w H a y o) (ry : RelV y u) (h : ∀ s', Inv X pins σ H s' → Q (.bool (!o.isSome)) s') :
    wpAny (model X.prog X.w) A (compareOp .NotIn u (.ref a)) Q E s := by
  obtain ⟨rows, k, b, e, ey, nk, nr, l⟩ := g
  subst ey
  cases (show u = Value.ref b from ry)
  obtain ⟨z, hd, xs, rel, dd⟩ := n_of I.hok e nr
  refine PyProof.Rows.wpAny_notIn_heap (room_n hu) (nk _ I.hok) hd dd ?_
  have q := (rel.val k).isSome_eq
  rw [Option.isSome_map] at q
  rw [← q, ← l]
  exact h _ (I.tok _)
theorem n_setItem {H' : Hp} {Q : Unit → Shared → Prop} (hu : A.units + 9 < cLine) (I : Inv X pins σ H s) (g : NPut X.prog X.w H a y v H') (ry : RelV y u) (rv : RelV v r) (h : ∀ s', Inv X pins σ H' s' → Q () s') :
    wpAny (model X.prog X.w) A (setItem (.ref a) u r) Q E s := by
  obtain ⟨rows, k, b, e, ey, nk, nr, l, eH⟩ := g
  subst ey eH
  cases (show u = Value.ref b from ry)
  obtain ⟨z, hd, xs, rel, dd⟩ := n_of I.hok e nr
  have hz : xs.length ≤ sizeLine := by rw [← Paired.length rel]; exact z
  have hl : (nPut rows k b v).length ≤ sizeLine := by have := nPut_len rows k b v; omega
  refine wpAny_setItem_heap (hsz := hz) (room_n hu) (nk _ I.hok) dd fun h' dd' hs => h _ ?_
  obtain ⟨q, es, ep, hq, h2, h3, h4, _, h5⟩ := dd'
  have mu : Mut (H a) := by
    rcases e with e | ⟨_, e⟩
    · rw [e]; exact True.intro
    · rw [e]; exact True.intro
  have new : ObjOk X.prog X.w (upd H a (NestD X.prog X.w a (nPut rows k b v))) h' a (NestD X.prog X.w a (nPut rows k b v)) := by
    unfold NestD
    refine ⟨⟨hl, hd, _, rel.put k b rv, q, es, ep, hq, h2, h3, h4, h5⟩, ⟨q, hq⟩, fun g1 g2 z k2 => ?_⟩
    obtain ⟨z1, z2, xs', r', o', es', ep', e1, e2⟩ := z
    exact ⟨z1, z2, xs', r', o', es', ep', k2 _ e1, e2⟩
  exact d_write I mu hs ⟨q, hq⟩ new
end
/-- of both sorts -/
def BGet (X : Cx) (H : Hp) (a : Addr) (y : V) (o : Option V) : Prop := DGet H a y o ∨ NGet X.prog X.w H a y o
def BPut (X : Cx) (H : Hp) (a : Addr) (y v : V) (H' : Hp) : Prop := DPut H a y v H' ∨ NPut X.prog X.w H a y v H'
def tBIn (X : Cx) (neg : Bool) (ty td : TE) : TE := fun σ H Q => ty σ H fun y H1 => td σ H1 fun x H2 => ∃ a o, x = .ref a ∧ BGet X H2 a y o ∧ Q (.bl (if neg then !o.isSome else o.isSome)) H2
def sBPut (X : Cx) (td ty tv : TE) : TS := fun D σ H => tv σ H fun v H1 => td σ H1 fun x H2 => ty σ H2 fun y H3 => ∃ a H4, x = .ref a ∧ BPut X H3 a y v H4 ∧ D.nx σ H4
section
variable {X : Cx} {o i e value : Expr} {pos pos' tpos : Pos} {td ty tv : TE}
theorem pc_bin (hu : X.A.units + 9 < cLine) (hi : PE X i ty) (ho : PE X o td) : PC X .In i o (tBIn X false ty td) := by
  refine ⟨fun pins s σ H Q I h => ?_⟩
  refine thn (hi.run pins s σ H _ I h) fun iv s1 ⟨y, H1, I1, ry, q1⟩ => thn (ho.run pins s1 σ H1 _ I1 q1) fun u s2 ⟨x, H2, I2, rx, a, ov, ex, g, q2⟩ => ?_
  subst ex
  obtain rfl : u = Value.ref a := rx
  rcases g with g | g
  · exact d_in (by omega) I2 g ry fun s3 I3 => ⟨.bl ov.isSome, H2, I3, rfl, q2⟩
  · exact n_in hu I2 g ry fun s3 I3 => ⟨.bl ov.isSome, H2, I3, rfl, q2⟩
theorem pc_bnotin (hu : X.A.units + 9 < cLine) (hi : PE X i ty) (ho : PE X o td) : PC X .NotIn i o (tBIn X true ty td) := by
  refine ⟨fun pins s σ H Q I h => ?_⟩
  refine thn (hi.run pins s σ H _ I h) fun iv s1 ⟨y, H1, I1, ry, q1⟩ => thn (ho.run pins s1 σ H1 _ I1 q1) fun u s2 ⟨x, H2, I2, rx, a, ov, ex, g, q2⟩ => ?_
  subst ex
  obtain rfl : u = Value.ref a := rx
  rcases g with g | g
  · exact d_notIn (by omega) I2 g ry fun s3 I3 => ⟨.bl (!ov.isSome), H2, I3, rfl, q2⟩
  · exact n_notIn hu I2 g ry fun s3 I3 => ⟨.bl (!ov.isSome), H2, I3, rfl, q2⟩
theorem ps_bput (hu : X.A.units + 9 < cLine) (ho : PE X o td) (hi : PE X i ty) (hv : PE X value tv) (hs : swapsWith value (some (.Subscript o i pos')) pos.line X.env = pure false) :
    PS X (.Assign [.Subscript o i pos'] value pos) (sBPut X td ty tv) := by
  refine ⟨fun pins s σ H D I h => ?_⟩
  refine wpAny_Assign_Subscript (thn (hv.run pins s σ H _ I h) fun r s1 ⟨v, H1, I1, rv, q1⟩ => thn (ho.run pins s1 σ H1 _ I1 q1) fun u s2 ⟨x, H2, I2, rx, q2⟩ => thn (hi.run pins s2 σ H2 _ I2 q2) fun iv s3 ⟨y, H3, I3, ry, a, H4, ex, g, q3⟩ => ?_) hs
  subst ex
  obtain rfl : u = Value.ref a := rx
  rcases g with g | g
  · exact d_setItem (by omega) I3 g ry rv fun s4 I4 => ⟨σ, H4, I4, q3⟩
  · exact n_setItem hu I3 g ry rv fun s4 I4 => ⟨σ, H4, I4, q3⟩
end
section
variable {G : Cfg} {r : List Addr} {H0 H : Hp} {S : Sto}
mutual
theorem key_is {P : Program} {w : World} {h : Heap} (ok : HOk P w H h) : ∀ {v : V} {d : D} {k : NestedKey} {u : Value}, Rep G r H v d → keyN d = some k → RelV v u → NestedIs h k u
  | _, _, k, u, .non, e, ru => by
    cases e
    cases (show u = Value.none from ru)
    exact .none
  | _, _, k, u, .bl b, e, ru => by
    cases e
    cases (show u = Value.bool b from ru)
    exact .bool rfl
  | _, _, k, u, .int i, e, ru => by
    cases e
    obtain ⟨t, q⟩ := (show ∃ t, u = Value.int i t from ru)
    subst q
    exact .int i t
  | _, _, k, u, .str x, e, ru => by
    cases e
    obtain ⟨t, q⟩ := (show ∃ t, u = Value.str x t from ru)
    subst q
    exact .text x t
  | _, _, k, u, .tup (a := a) (vs := vs) hr na q, e, ru => by
    unfold keyN at e
    obtain ⟨ks, h1, h2⟩ := Option.map_eq_some_iff.mp e
    subst h2
    cases (show u = Value.ref a from ru)
    obtain ⟨_, its, rv, o, g1, g2, n, g3⟩ := (show ObjOk P w H h a (.tup vs) from rd_of ok hr)
    exact .tup g1 g2 g3 (keys_is ok q h1 (by simpa using rv))
  | _, _, k, u, .frl _ _, e, ru => by unfold keyN at e; cases e
  | _, _, k, u, .obj _ _ _ _, e, ru => by unfold keyN at e; cases e
  | _, _, k, u, .exn0 _ _ _, e, ru => by unfold keyN at e; cases e
  | _, _, k, u, .exnF _ _ _ _ _ _ _, e, ru => by unfold keyN at e; cases e
  | _, _, k, u, .ref _, e, ru => by unfold keyN at e; cases e
theorem keys_is {P : Program} {w : World} {h : Heap} (ok : HOk P w H h) : ∀ {vs : List V} {ds : List D} {ks : List NestedKey} {us : List Value}, Reps G r H vs ds → keysN ds = some ks → Vals vs us → NestedAll h ks us
  | _, _, ks, us, .nil, e, ru => by
    unfold keysN at e
    cases e
    cases ru
    exact .nil
  | _, _, ks, us, .cons h1 t, e, ru => by
    unfold keysN at e
    obtain ⟨k, e1, e2⟩ := Option.bind_eq_some_iff.mp e
    obtain ⟨ks', e3, e4⟩ := Option.map_eq_some_iff.mp e2
    subst e4
    cases ru with
    | cons r1 r2 => exact .cons (key_is ok h1 e1 r1) (keys_is ok t e3 r2)
end
theorem isTK_tup {d : D} (h : isTK d = true) : ∃ ds k, d = .tup ds ∧ keyN d = some k ∧ k.depth ≤ 8 := by
  cases d with
  | tup ds =>
    unfold isTK at h
    dsimp only at h
    cases e : keyN (.tup ds) with
    | none => rw [e] at h; cases h
    | some k => rw [e] at h; exact ⟨ds, k, rfl, rfl, of_decide_eq_true h⟩
  | _ => cases h
theorem isFK_TK {d : D} (h : isFK d = true) : isTK d = false := by
  cases d with
  | int _ => rfl
  | str _ => rfl
  | _ => cases h
/-- a key that is a tuple -/
theorem keyT_rep {v : V} {d : D} (q : Rep G r H v d) (h : isTK d = true) : ∃ k b, keyN d = some k ∧ k.depth ≤ 8 ∧ v = .ref b ∧ ∀ P w, NK P w H k b := by
  obtain ⟨ds, k, rfl, e, hk⟩ := isTK_tup h
  rw [e]
  cases q with
  | tup hr na q => exact ⟨k, _, rfl, hk, rfl, fun P w h ok => ⟨key_is (G := G) (r := r) (d := .tup ds) ok (.tup hr na q) e rfl, hk⟩⟩
theorem rows_nk (P : Program) (w : World) : ∀ {rows : List (NestedKey × Addr × V)} {kvs : List (D × D)}, kvs.map (fun kv => keyN kv.1) = rows.map (fun x => some x.1) → (∀ x ∈ rows, x.1.depth ≤ 8) → Reps G r H (rows.map fun x => V.ref x.2.1) (kvs.map (·.1)) → ∀ x ∈ rows, NK P w H x.1 x.2.1
  | [], _, _, _, _, x, hx => nomatch hx
  | _ :: _, [], h, _, _, x, hx => by simp at h
  | y :: rows, kv :: kvs, h, hd, q, x, hx => by
    simp only [List.map_cons, List.cons.injEq] at h
    cases q with
    | cons q1 q2 =>
      rcases List.mem_cons.mp hx with e | hx
      · subst e
        exact fun h' ok => ⟨key_is ok q1 h.1 rfl, hd _ List.mem_cons_self⟩
      · exact rows_nk P w h.2 (fun z hz => hd z (List.mem_cons_of_mem _ hz)) q2 x hx
theorem keyEq_n {a b : D} {j k : NestedKey} (ha : keyN a = some j) (hb : keyN b = some k) (ta : isTK a = true) (tb : isTK b = true) : keyEq a b = decide (j = k) := by
  obtain ⟨as, _, rfl, _, _⟩ := isTK_tup ta
  obtain ⟨bs, _, rfl, _, _⟩ := isTK_tup tb
  show decide (keyN (.tup as) = keyN (.tup bs)) = _
  rw [ha, hb]
  by_cases e : j = k
  · subst e; simp
  · simp [e]
theorem isTK_of {v : V} {d : D} {k : NestedKey} {b : Addr} (q : Rep G r H (.ref b) d) (h : keyN d = some k) (hk : k.depth ≤ 8) : isTK d = true := by
  cases q with
  | @tup _ _ ds _ _ _ =>
    show (match keyN (.tup ds) with | some k => decide (k.depth ≤ 8) | none => false) = true
    rw [h]; exact decide_eq_true hk
  | frl _ _ => unfold keyN at h; cases h
  | obj _ _ _ _ => unfold keyN at h; cases h
  | exn0 _ _ _ => unfold keyN at h; cases h
  | exnF _ _ _ _ _ _ _ => unfold keyN at h; cases h
  | ref _ => unfold keyN at h; cases h
theorem nget_ok : ∀ {rows : List (NestedKey × Addr × V)} {kvs : List (D × D)} {kd : D} {k : NestedKey}, keyN kd = some k → isTK kd = true → kvs.map (fun kv => keyN kv.1) = rows.map (fun x => some x.1) → (∀ x ∈ rows, x.1.depth ≤ 8) → Reps G r H (rows.map fun x => V.ref x.2.1) (kvs.map (·.1)) → Reps G r H (rows.map (·.2.2)) (kvs.map (·.2)) →
    (∀ d, dGetD kvs kd = some d → ∃ v, nVal rows k = some v ∧ Rep G r H v d) ∧ (dGetD kvs kd = none → nVal rows k = none)
  | [], [], _, _, _, _, _, _, _, _ => ⟨fun d h => (by cases h), fun _ => rfl⟩
  | [], _ :: _, _, _, _, _, h, _, _, _ => by simp at h
  | _ :: _, [], _, _, _, _, h, _, _, _ => by simp at h
  | x :: rows, kv :: kvs, kd, k, hk, tk, h, hd, q, p => by
    simp only [List.map_cons, List.cons.injEq] at h
    cases q with
    | cons q1 q2 =>
      cases p with
      | cons p1 p2 =>
        obtain ⟨i1, i2⟩ := nget_ok hk tk h.2 (fun z hz => hd z (List.mem_cons_of_mem _ hz)) q2 p2
        have e1 : keyEq kv.1 kd = decide (x.1 = k) := keyEq_n h.1 hk (isTK_of (v := .non) q1 h.1 (hd _ List.mem_cons_self)) tk
        have e2 : dGetD (kv :: kvs) kd = if keyEq kv.1 kd = true then some kv.2 else dGetD kvs kd := by
          unfold dGetD
          rw [List.find?_cons]
          cases keyEq kv.1 kd <;> rfl
        have e3 : nVal (x :: rows) k = if x.1 = k then some x.2.2 else nVal rows k := by
          unfold nVal
          rw [List.find?_cons]
          by_cases e : x.1 = k
          · rw [decide_eq_true e, if_pos e]; rfl
          · rw [decide_eq_false e, if_neg e]
        rw [e2, e3, e1]
        by_cases e : x.1 = k
        · rw [decide_eq_true e, if_pos rfl, if_pos e]
          exact ⟨fun d h => ⟨_, rfl, (by cases h; exact p1)⟩, fun h => (by cases h)⟩
        · rw [decide_eq_false e, if_neg Bool.false_ne_true, if_neg e]
          exact ⟨i1, i2⟩
/-- a datum that is a key: what the dict has there -/
theorem bget_of {G : Cfg} {r : List Addr} {H : Hp} {X : Cx} (hG : G.P = X.prog ∧ G.w = X.w) {a : Addr} {kvs : List (D × D)} {v : V} {kd : D} (ho : ObAt G r H a (.dct kvs)) (q : Rep G r H v kd) (hk : keyB kvs kd = true) :
    ∃ ov, BGet X H a v ov ∧ ov.isSome = (dGetD kvs kd).isSome ∧ ∀ d, dGetD kvs kd = some d → ∃ u, ov = some u ∧ Rep G r H u d := by
  obtain ⟨hk1, hk2⟩ := Bool.and_eq_true_iff.mp hk
  rcases Bool.or_eq_true_iff.mp hk1 with hf | ht
  · obtain ⟨key, rfl, rfl⟩ := key_rep q hf
    rcases ho with ⟨ws, ha, h1, h2, h3⟩ | ⟨hne, rows, ha, h1, h2, h3, h4, h5⟩
    · obtain ⟨g1, g2⟩ := dget_ok key h1 h2
      refine ⟨valV ws key, .inl (DGet.k ha), ?_, fun d e => ?_⟩
      · cases ex : dGetD kvs (keyD key) with
        | none => rw [g2 ex]; rfl
        | some d => obtain ⟨v, hv, _⟩ := g1 d ex; rw [hv]; rfl
      · obtain ⟨u, hu, ru⟩ := g1 d e; exact ⟨u, hu, ru⟩
    · cases kvs with
      | nil => exact absurd rfl hne
      | cons kv kvs =>
        cases rows with
        | nil => simp at h1
        | cons x rows =>
          simp only [List.map_cons, List.cons.injEq] at h1
          cases h3 with
          | cons q1 _ =>
            have t := isTK_of (v := .non) q1 h1.1 (h2 _ List.mem_cons_self)
            have := List.all_eq_true.mp hk2 kv List.mem_cons_self
            rw [t, isFK_TK hf] at this
            cases this
  · obtain ⟨k, b, e, hd, rfl, nk⟩ := keyT_rep q ht
    rcases ho with ⟨ws, ha, h1, h2, h3⟩ | ⟨hne, rows, ha, h1, h2, h3, h4, h5⟩
    · have hz : kvs = [] := by
        cases kvs with
        | nil => rfl
        | cons kv kvs =>
          cases ws with
          | nil => simp at h1
          | cons y ws =>
            simp only [List.map_cons, List.cons.injEq] at h1
            have := List.all_eq_true.mp hk2 kv List.mem_cons_self
            rw [h1.1, ht] at this
            cases y with
            | mk y1 y2 => cases y1 <;> cases this
      subst hz
      have hw : ws = [] := by
        cases ws with
        | nil => rfl
        | cons y ws => simp at h1
      subst hw
      exact ⟨none, .inr ⟨[], k, b, .inr ⟨rfl, ha⟩, rfl, nk _ _, (fun x hx => by cases hx), rfl⟩, rfl, fun d e => by cases e⟩
    · obtain ⟨g1, g2⟩ := nget_ok e ht h1 h2 h3 h4
      rw [hG.1, hG.2] at ha
      refine ⟨nVal rows k, .inr ⟨rows, k, b, .inl ha, rfl, nk _ _, rows_nk _ _ h1 h2 h3, rfl⟩, ?_, fun d e => ?_⟩
      · cases ex : dGetD kvs kd with
        | none => rw [g2 ex]; rfl
        | some d => obtain ⟨v, hv, _⟩ := g1 d ex; rw [hv]; rfl
      · obtain ⟨u, hu, ru⟩ := g1 d e; exact ⟨u, hu, ru⟩
theorem nput_any : ∀ {rows : List (NestedKey × Addr × V)} {kvs : List (D × D)} {kd : D} {k : NestedKey}, keyN kd = some k → isTK kd = true → kvs.map (fun kv => keyN kv.1) = rows.map (fun x => some x.1) → (∀ x ∈ rows, x.1.depth ≤ 8) → Reps G r H (rows.map fun x => V.ref x.2.1) (kvs.map (·.1)) →
    (kvs.any fun kv => keyEq kv.1 kd) = rows.any fun x => decide (x.1 = k)
  | [], [], _, _, _, _, _, _, _ => rfl
  | [], _ :: _, _, _, _, _, h, _, _ => by simp at h
  | _ :: _, [], _, _, _, _, h, _, _ => by simp at h
  | x :: rows, kv :: kvs, kd, k, hk, tk, h, hd, q => by
    simp only [List.map_cons, List.cons.injEq] at h
    cases q with
    | cons q1 q2 =>
      rw [List.any_cons, List.any_cons, nput_any hk tk h.2 (fun z hz => hd z (List.mem_cons_of_mem _ hz)) q2, keyEq_n h.1 hk (isTK_of (v := .non) q1 h.1 (hd _ List.mem_cons_self)) tk]
theorem nput_map {v : V} {d : D} (rv : Rep G r H v d) : ∀ {rows : List (NestedKey × Addr × V)} {kvs : List (D × D)} {kd : D} {k : NestedKey}, keyN kd = some k → isTK kd = true → kvs.map (fun kv => keyN kv.1) = rows.map (fun x => some x.1) → (∀ x ∈ rows, x.1.depth ≤ 8) → Reps G r H (rows.map fun x => V.ref x.2.1) (kvs.map (·.1)) → Reps G r H (rows.map (·.2.2)) (kvs.map (·.2)) →
    Reps G r H ((rows.map fun x => if x.1 = k then (x.1, x.2.1, v) else x).map (·.2.2)) ((kvs.map fun kv => if keyEq kv.1 kd = true then (kv.1, d) else kv).map (·.2))
  | [], [], _, _, _, _, _, _, _, _ => .nil
  | [], _ :: _, _, _, _, _, h, _, _, _ => by simp at h
  | _ :: _, [], _, _, _, _, h, _, _, _ => by simp at h
  | x :: rows, kv :: kvs, kd, k, hk, tk, h, hd, q, p => by
    simp only [List.map_cons, List.cons.injEq] at h
    cases q with
    | cons q1 q2 =>
      cases p with
      | cons p1 p2 =>
        have ih := nput_map rv hk tk h.2 (fun z hz => hd z (List.mem_cons_of_mem _ hz)) q2 p2
        have e1 : keyEq kv.1 kd = decide (x.1 = k) := keyEq_n h.1 hk (isTK_of (v := .non) q1 h.1 (hd _ List.mem_cons_self)) tk
        simp only [List.map_cons]
        rw [e1]
        by_cases e : x.1 = k
        · rw [decide_eq_true e, if_pos rfl, if_pos e]; exact .cons rv ih
        · rw [decide_eq_false e, if_neg Bool.false_ne_true, if_neg e]; exact .cons p1 ih
theorem nput_keys (rows : List (NestedKey × Addr × V)) (k : NestedKey) (v : V) {α : Type} (f : NestedKey × Addr → α) : (rows.map fun x => if x.1 = k then (x.1, x.2.1, v) else x).map (fun x => f (x.1, x.2.1)) = rows.map fun x => f (x.1, x.2.1) := by
  rw [List.map_map]
  refine List.map_congr_left fun x _ => ?_
  show f ((if x.1 = k then (x.1, x.2.1, v) else x).1, (if x.1 = k then (x.1, x.2.1, v) else x).2.1) = _
  split <;> rfl
theorem dput_keys (kvs : List (D × D)) (kd d : D) {α : Type} (f : D → α) : (kvs.map fun kv => if keyEq kv.1 kd = true then (kv.1, d) else kv).map (fun kv => f kv.1) = kvs.map fun kv => f kv.1 := by
  rw [List.map_map]
  refine List.map_congr_left fun x _ => ?_
  show f (if keyEq x.1 kd = true then (x.1, d) else x).1 = _
  split <;> rfl
/-- d[k] = v: what stands behind it -/
theorem bput_of {G : Cfg} {r : List Addr} {H : Hp} {X : Cx} (hG : G.P = X.prog ∧ G.w = X.w) {a : Addr} {kvs : List (D × D)} {v y : V} {kd d : D} (hm : a ∈ r) (ho : ObAt G r H a (.dct kvs)) (q : Rep G r H y kd) (rv : Rep G r H v d) (hk : keyB kvs kd = true) (hl : kvs.length < sizeLine) :
    ∃ u, BPut X H a y v (upd H a u) ∧ ObAt G r (upd H a u) a (.dct (dPutD kvs kd d)) := by
  obtain ⟨hk1, hk2⟩ := Bool.and_eq_true_iff.mp hk
  have ew : ∀ u, Ext r H r (upd H a u) := fun u => (ObAt.dmut ho).elim fun _ z => Ext.wr hm z.1 z.2
  rcases Bool.or_eq_true_iff.mp hk1 with hf | ht
  · obtain ⟨key, rfl, rfl⟩ := key_rep q hf
    rcases ho with ⟨ws, ha, h1, h2, h3⟩ | ⟨hne, rows, ha, h1, h2, h3, h4, h5⟩
    · have hl2 : ws.length = kvs.length := by
        have := congrArg List.length h1
        simpa using this.symm
      obtain ⟨p1, p2, p3⟩ := dput_ok key h1 (h2.ext (ew _)) h3 (Rep.ext (ew (.dK (putK ws key v))) rv)
      exact ⟨_, .inl (DPut.k ha (by rw [hl2]; exact hl)), .inl ⟨_, upd_same, p1, p2, p3⟩⟩
    · cases kvs with
      | nil => exact absurd rfl hne
      | cons kv kvs =>
        cases rows with
        | nil => simp at h1
        | cons x rows =>
          simp only [List.map_cons, List.cons.injEq] at h1
          cases h3 with
          | cons q1 _ =>
            have t := isTK_of (v := .non) q1 h1.1 (h2 _ List.mem_cons_self)
            have := List.all_eq_true.mp hk2 kv List.mem_cons_self
            rw [t, isFK_TK hf] at this
            cases this
  · obtain ⟨k, b, e, hd, rfl, nk⟩ := keyT_rep q ht
    have main : ∀ rows : List (NestedKey × Addr × V), NAt X.prog X.w H a rows → kvs.map (fun kv => keyN kv.1) = rows.map (fun x => some x.1) → (∀ x ∈ rows, x.1.depth ≤ 8) → Reps G r H (rows.map fun x => V.ref x.2.1) (kvs.map (·.1)) → Reps G r H (rows.map (·.2.2)) (kvs.map (·.2)) → (rows.map (·.1)).Nodup →
        ∃ u, BPut X H a (.ref b) v (upd H a u) ∧ ObAt G r (upd H a u) a (.dct (dPutD kvs kd d)) := by
      intro rows ha h1 h2 h3 h4 h5
      have hl2 : rows.length = kvs.length := by
        have := congrArg List.length h1
        simpa using this.symm
      refine ⟨_, .inr ⟨rows, k, b, ha, rfl, nk _ _, rows_nk _ _ h1 h2 h3, by rw [hl2]; exact hl, rfl⟩, .inr ?_⟩
      rw [← hG.1, ← hG.2]
      have hany := nput_any e ht h1 h2 h3
      by_cases hz : (rows.any fun x => decide (x.1 = k)) = true
      · have e1 : dPutD kvs kd d = kvs.map fun kv => if keyEq kv.1 kd = true then (kv.1, d) else kv := by unfold dPutD; rw [hany, if_pos hz]
        have e2 : nPut rows k b v = rows.map fun x => if x.1 = k then (x.1, x.2.1, v) else x := by unfold nPut; rw [if_pos hz]
        have hne : kvs ≠ [] := fun z => by
          subst z
          cases rows with
          | nil => cases hz
          | cons _ _ => simp at h1
        refine ⟨fun z => hne (by rw [e1] at z; exact List.map_eq_nil_iff.mp z), nPut rows k b v, upd_same, ?_, ?_, ?_, ?_, ?_⟩
        · rw [e1, e2, dput_keys kvs kd d keyN, nput_keys rows k v (fun x => some x.1)]; exact h1
        · rw [e2]
          intro x hx
          obtain ⟨z, hz1, hz2⟩ := List.mem_map.mp hx
          have : x.1 = z.1 := by rw [← hz2]; split <;> rfl
          rw [this]; exact h2 z hz1
        · rw [e1, e2, dput_keys kvs kd d (fun x => x), nput_keys rows k v (fun x => V.ref x.2)]; exact h3.ext (ew _)
        · rw [e1]
          have := (nput_map rv e ht h1 h2 h3 h4).ext (ew (NestD G.P G.w a (nPut rows k b v)))
          rw [← e2] at this
          exact this
        · rw [e2, nput_keys rows k v (fun x => x.1)]; exact h5
      · have e1 : dPutD kvs kd d = kvs ++ [(kd, d)] := by unfold dPutD; rw [hany, if_neg hz]
        have e2 : nPut rows k b v = rows ++ [(k, b, v)] := by unfold nPut; rw [if_neg hz]
        refine ⟨fun z => by rw [e1] at z; simp at z, nPut rows k b v, upd_same, ?_, ?_, ?_, ?_, ?_⟩
        · rw [e1, e2, List.map_append, List.map_append, h1]
          show _ ++ [keyN kd] = _
          rw [e]; rfl
        · rw [e2]
          intro x hx
          rcases List.mem_append.mp hx with hx | hx
          · exact h2 x hx
          · rw [List.mem_singleton.mp hx]; exact hd
        · rw [e1, e2, List.map_append, List.map_append]
          refine (h3.ext (ew _)).append (.cons ?_ .nil)
          exact Rep.ext (ew _) q
        · rw [e1]
          have : Reps G r H ((nPut rows k b v).map (·.2.2)) ((kvs ++ [(kd, d)]).map (·.2)) := by
            rw [e2, List.map_append, List.map_append]
            exact h4.append (.cons rv .nil)
          exact this.ext (ew _)
        · rw [e2, List.map_append, List.nodup_append]
          refine ⟨h5, by simp, fun x hx y hy e' => hz ?_⟩
          have hy : y = k := by simpa using hy
          obtain ⟨z, hz1, hz2⟩ := List.mem_map.mp hx
          exact List.any_eq_true.mpr ⟨z, hz1, decide_eq_true (by rw [hz2, e', hy])⟩
    rcases ho with ⟨ws, ha, h1, h2, h3⟩ | ⟨hne, rows, ha, h1, h2, h3, h4, h5⟩
    · have hz : kvs = [] := by
        cases kvs with
        | nil => rfl
        | cons kv kvs =>
          cases ws with
          | nil => simp at h1
          | cons y ws =>
            simp only [List.map_cons, List.cons.injEq] at h1
            have := List.all_eq_true.mp hk2 kv List.mem_cons_self
            rw [h1.1, ht] at this
            cases y with
            | mk y1 y2 => cases y1 <;> cases this
      subst hz
      have hw : ws = [] := by
        cases ws with
        | nil => rfl
        | cons y ws => simp at h1
      subst hw
      exact main [] (.inr ⟨rfl, ha⟩) rfl (fun x hx => by cases hx) .nil .nil List.nodup_nil
    · rw [hG.1, hG.2] at ha
      exact main rows (.inl ha) h1 h2 h3 h4 h5
end
theorem units9 {k : Nat} {A : Around} (r : Room k A) : A.units + 9 < cLine := by have := r.un; omega
section
variable {X : Cx} {cA : Nat → Addr} {fN : Nat → List Str} {W : WX} {pos : Pos} {o i e : Expr} {m mo mi : EX}
def eDNew : EX := fun _ S => .ok (.fr (.dct [])) S
theorem i_dnew : PE X (.Dict [] [] pos) (TI (GX X cA fN) W eDNew) := pe_dnewK.mono fun σ H Q h => by
  obtain ⟨r, S, env, he, hs, hp⟩ := h
  intro p hpn
  have e : Ext r H r (upd H p (.dK [])) := Ext.new hpn
  exact hp (.ref p) r _ e (hs.stays (fun a o h => by rw [upd_ne (ne_of_none h hpn)]; exact h) e) ⟨p, rfl, hpn, notin_none hs hpn, .inl ⟨[], upd_same, rfl, .nil, List.nodup_nil⟩⟩
def eDIn (neg : Bool) (mi mo : EX) : EX := fun env S => (mi env S).bind fun k S1 => (mo env S1).bind fun x S2 => match k, vD S2 x with
  | .va kd, some kvs => if keyB kvs kd = true then .ok (.va (.bl (if neg then !(dGetD kvs kd).isSome else (dGetD kvs kd).isSome))) S2 else .bad
  | _, _ => .bad
theorem din_of {neg : Bool} {σ : L2.St} {H : Hp} {Q : VK} (h : TI (GX X cA fN) W (eDIn neg mi mo) σ H Q) : tBIn X neg (TI (GX X cA fN) W mi) (TI (GX X cA fN) W mo) σ H Q := by
  obtain ⟨r, S, env, he, hs, hp⟩ := h
  refine ⟨r, S, env, he, hs, Post.bind hp fun k S1 v r1 H1 e1 s1 q1 z => ?_⟩
  refine ⟨r1, S1, env, he.ext e1, s1, Post.bind (z.shift e1 (R' := RV _ H) fun _ _ _ _ k => k) fun x S2 w r2 H2 e2 s2 q2 z2 => ?_⟩
  cases k with
  | fr ob => exact z2.elim
  | va kd =>
    cases ed : vD S2 x with
    | none => rw [ed] at z2; exact z2.elim
    | some kvs =>
      rw [ed] at z2
      dsimp only at z2
      split at z2
      · rename_i hk
        obtain ⟨a, rfl, ho⟩ := vD_ok s2 q2 ed
        obtain ⟨ov, g1, g2, g3⟩ := bget_of (X := X) ⟨rfl, rfl⟩ ho (Rep.ext e2 q1) hk
        refine ⟨a, ov, rfl, g1, ?_⟩
        rw [g2]
        exact z2 _ r2 H2 e2 s2 (.bl _)
      · exact z2.elim
theorem t_din (hu : X.A.units + 9 < cLine) (hi : PE X i (TI (GX X cA fN) W mi)) (ho : PE X o (TI (GX X cA fN) W mo)) (hb : behindInMarks .In o = false := by rfl) : PT X (.Compare i [.In] [o] pos) (TTI (GX X cA fN) W (bB (eDIn false mi mo))) := (pt_cmp (pc_bin hu hi ho) hb).mono fun σ H Q h => by
  obtain ⟨r, S, env, he, hs, hp⟩ := h
  exact din_of (neg := false) (bB_ok ⟨r, S, env, he, hs, hp⟩)
theorem t_dnotin (hu : X.A.units + 9 < cLine) (hi : PE X i (TI (GX X cA fN) W mi)) (ho : PE X o (TI (GX X cA fN) W mo)) (hb : behindInMarks .NotIn o = false := by rfl) : PT X (.Compare i [.NotIn] [o] pos) (TTI (GX X cA fN) W (bB (eDIn true mi mo))) := (pt_cmp (pc_bnotin hu hi ho) hb).mono fun σ H Q h => by
  obtain ⟨r, S, env, he, hs, hp⟩ := h
  exact din_of (neg := true) (bB_ok ⟨r, S, env, he, hs, hp⟩)
def sDPut (o i m : EX) : SM := fun env S => (eTo m env S).on env fun x S1 => match x with
  | .va d => (o env S1).on env fun ox S2 => (i env S2).on env fun k S3 => match ox, k with
    | .va (.ref n), .va kd => match S3[n]? with
      | some (.dct kvs) => if keyB kvs kd = true ∧ kvs.length < sizeLine then .nx env (S3.set n (.dct (dPutD kvs kd d))) else .bad
      | _ => .bad
    | _, _ => .bad
  | .fr _ => .bad
theorem s_dput {pos' : Pos} (hu : X.A.units + 9 < cLine) (ho : PE X o (TI (GX X cA fN) W mo)) (hi : PE X i (TI (GX X cA fN) W mi)) (h : PE X e (TI (GX X cA fN) W m)) (hs : swapsWith e (some (.Subscript o i pos')) pos.line X.env = pure false := by rfl) : PS X (.Assign [.Subscript o i pos'] e pos) (TSI (GX X cA fN) W (sDPut mo mi m)) :=
  (ps_bput hu ho hi h hs).mono fun D σ H h => by
  obtain ⟨r, S, env, he, hs, hp⟩ := h
  refine TI.to ⟨r, S, env, he, hs, PostS.on he hp fun x S1 v r1 H1 e1 s1 q1 z => ?_⟩
  cases x with
  | fr o => exact z.elim
  | va d =>
    dsimp only at z
    have he1 := he.ext e1
    refine ⟨r1, S1, env, he1, s1, PostS.on he1 (z.shift e1) fun ox S2 w r2 H2 e2 s2 q2 z2 => ?_⟩
    have he2 := he1.ext e2
    refine ⟨r2, S2, env, he2, s2, PostS.on he2 (z2.shift e2) fun kx S3 u r3 H3 e3 s3 q3 z3 => ?_⟩
    have q1' := (Rep.ext e2 q1).ext e3
    have q2' := q2.ext e3
    split at z3
    · rename_i n kd
      cases en : S3[n]? with
      | none => rw [en] at z3; exact z3.elim
      | some ob =>
        rw [en] at z3
        cases ob with
        | dct kvs =>
          dsimp only at z3
          split at z3
          · rename_i hk
            obtain ⟨a, rfl, ha, ho⟩ := s3.get q2' en
            have hm : a ∈ r3 := List.mem_of_getElem? ha
            obtain ⟨ob, g1, g2⟩ := bput_of (X := X) ⟨rfl, rfl⟩ hm ho q3 q1' hk.1 hk.2
            have ew : Ext r3 H3 r3 (upd H3 a ob) := (ObAt.dmut ho).elim fun _ z => Ext.wr hm z.1 z.2
            exact ⟨a, _, rfl, g1, z3 σ r3 _ (e3.trans ew) ((he2.ext e3).ext ew) (s3.wr ha g2)⟩
          · exact z3.elim
        | lst _ => exact z3.elim
        | ins _ _ => exact z3.elim
        | lck _ => exact z3.elim
    · exact z3.elim
end
end Cy
set_option Elab.async false
set_option linter.all false
set_option maxRecDepth 100000
set_option maxHeartbeats 2000000
set_option autoImplicit false
namespace Cy
open PySem L2
theorem nodup_at_s {l : List Str} (h : l.Nodup) {i j : Nat} {x : Str} (a : l[i]? = some x) (b : l[j]? = some x) : i = j := by
  obtain ⟨h1, e1⟩ := List.getElem?_eq_some_iff.mp a
  obtain ⟨h2, e2⟩ := List.getElem?_eq_some_iff.mp b
  exact (List.getElem_inj h).mp (e1.trans e2.symm)
def fldAt (tbl : List (Nat × Nat)) (S : Sto) : Rv → Option D
  | .va (.ref n) => match S[n]? with
    | some (.ins c ds) => match tbl.lookup c with
      | some j => ds[j]?
      | none => none
    | _ => none
  | .fr (.ins c ds) => match tbl.lookup c with
    | some j => ds[j]?
    | none => none
  | .va (.obj c ds) => match tbl.lookup c with
    | some j => ds[j]?
    | none => none
  | _ => none
theorem look_at : ∀ {fs : List (Str × V)} {j : Nat} {f : Str} {p : Str × V}, (fs.map (·.1)).Nodup → fs[j]? = some p → p.1 = f → fs.lookup f = some p.2
  | [], j, f, p, _, h, _ => by simp at h
  | q :: fs, 0, f, p, _, h, e => by
    simp at h
    subst h
    subst e
    show (match q.1 == q.1 with | true => some q.2 | false => fs.lookup q.1) = _
    rw [beq_self_eq_true]
  | q :: fs, j + 1, f, p, nd, h, e => by
    rw [List.map_cons, List.nodup_cons] at nd
    have h' : fs[j]? = some p := by simpa using h
    have ne : (f == q.1) = false := by
      rw [beq_eq_false_iff_ne]
      intro e2
      exact nd.1 (List.mem_map.mpr ⟨p, List.mem_of_getElem? h', by rw [e, e2]⟩)
    show (match f == q.1 with | true => some q.2 | false => fs.lookup f) = _
    rw [ne]
    exact look_at nd.2 h' e
section
variable {G : Cfg} {r : List Addr} {H0 H : Hp} {S : Sto}
theorem ins_look {fs : List (Str × V)} {c j : Nat} {ds : List D} {d : D} {f : Str} {tbl : List (Nat × Nat)} (F : FldOk G f tbl) (hc : tbl.lookup c = some j) (h2 : fs.map (·.1) = (G.fN c).take ds.length) (h3 : Reps G r H (fs.map (·.2)) ds) (hd : ds[j]? = some d) : ∃ v, fs.lookup f = some v ∧ Rep G r H v d := by
  obtain ⟨_, _, hf, nd⟩ := F.at_ c j hc
  obtain ⟨v, hv, rv⟩ := h3.get hd
  have hj : j < ds.length := (List.getElem?_eq_some_iff.mp hd).1
  have nd' : (fs.map (·.1)).Nodup := by
    rw [h2]
    exact nd.sublist (List.take_sublist _ _)
  have hfs : fs[j]? = some (f, v) := by
    have e1 : (fs.map (·.1))[j]? = some f := by rw [h2, List.getElem?_take_of_lt hj, hf]
    rw [List.getElem?_map] at e1 hv
    cases e : fs[j]? with
    | none => rw [e] at hv; cases hv
    | some p =>
      rw [e] at e1 hv
      obtain ⟨p1, p2⟩ := p
      cases e1
      cases hv
      rfl
  exact ⟨v, look_at nd' hfs rfl, rv⟩
end
section
variable {X : Cx} {cA : Nat → Addr} {fN : Nat → List Str} {W : WX} {pos : Pos} {o e : Expr} {f : Str} {m mo : EX} {tbl : List (Nat × Nat)}
def eFld (tbl : List (Nat × Nat)) (m : EX) : EX := fun env S => (m env S).bind fun x S1 => match fldAt tbl S1 x with
  | some d => .ok (.va d) S1
  | none => .bad
theorem i_fld (F : FldOk (GX X cA fN) f tbl) (h : PE X e (TI (GX X cA fN) W m)) (hb : attributeBase e f X.env (eval e X.env) = eval e X.env := by rfl) : PE X (.Attribute e f pos) (TI (GX X cA fN) W (eFld tbl m)) := (pe_fldR h hb).mono fun σ H Q h => by
  obtain ⟨r, S, env, he, hs, hp⟩ := h
  refine ⟨r, S, env, he, hs, Post.bind hp fun x S1 v r1 H1 e1 s1 q1 z => ?_⟩
  cases ef : fldAt tbl S1 x with
  | none => rw [ef] at z; exact z.elim
  | some d =>
    rw [ef] at z
    have fin : ∀ (a : Addr) (c : Nat) (ds : List D) (dx : Addr) (fs : List (Str × V)), v = .ref a → Rd H1 a (.ins (cA c) dx fs) → fs.map (·.1) = (fN c).take ds.length → Reps (GX X cA fN) r1 H1 (fs.map (·.2)) ds → (match tbl.lookup c with | some j => ds[j]? | none => none) = some d → tFldR X.K (fun σ H Q => Q v H1) f σ H Q := by
      intro a c ds dx fs ev ho hf hr hd
      cases ec : tbl.lookup c with
      | none => rw [ec] at hd; cases hd
      | some j =>
        rw [ec] at hd
        obtain ⟨u, h2, h3⟩ := ins_look F ec hf hr hd
        obtain ⟨k1, k2, _, _⟩ := F.at_ c j ec
        exact ⟨a, _, dx, fs, u, ev, ho, k1, k2, h2, z u r1 H1 e1 s1 h3⟩
    cases x with
    | fr ob =>
      cases ob with
      | ins c ds =>
        obtain ⟨a, ev, _, _, dx, fs, h1, h2, h3⟩ := q1
        exact fin a c ds dx fs ev (.inl h1) h2 h3 ef
      | lst _ => cases ef
      | dct _ => cases ef
      | lck _ => cases ef
    | va dd =>
      cases dd with
      | ref n =>
        unfold fldAt at ef
        dsimp only at ef
        cases en : S1[n]? with
        | none => rw [en] at ef; cases ef
        | some ob =>
          rw [en] at ef
          cases ob with
          | ins c ds =>
            obtain ⟨a, ev, _, dx, fs, h1, h2, h3⟩ := s1.get q1 en
            exact fin a c ds dx fs ev (.inl h1) h2 h3 ef
          | lst _ => cases ef
          | dct _ => cases ef
          | lck _ => cases ef
      | obj c ds =>
        cases q1 with
        | obj h na hf q => exact fin _ c ds _ _ rfl (.inr ⟨_, h⟩) hf q ef
      | _ => cases ef
theorem put_at : ∀ {fs : List (Str × V)} {j : Nat} {f : Str} {p : Str × V} {v : V}, (fs.map (·.1)).Nodup → fs[j]? = some p → p.1 = f → (putF f v fs).map (·.1) = fs.map (·.1) ∧ (putF f v fs).map (·.2) = (fs.map (·.2)).set j v
  | [], j, f, p, v, _, h, _ => by simp at h
  | q :: fs, 0, f, p, v, _, h, e => by
    simp at h
    subst h
    subst e
    show (if q.1 = q.1 then (q.1, v) :: fs else _).map (·.1) = _ ∧ (if q.1 = q.1 then (q.1, v) :: fs else _).map (·.2) = _
    rw [if_pos rfl]
    exact ⟨rfl, rfl⟩
  | q :: fs, j + 1, f, p, v, nd, h, e => by
    rw [List.map_cons, List.nodup_cons] at nd
    have h' : fs[j]? = some p := by simpa using h
    have ne : ¬ q.1 = f := by
      intro e2
      exact nd.1 (List.mem_map.mpr ⟨p, List.mem_of_getElem? h', by rw [e, e2]⟩)
    obtain ⟨i1, i2⟩ := put_at (v := v) nd.2 h' e
    show (if q.1 = f then (q.1, v) :: fs else (q.1, q.2) :: putF f v fs).map (·.1) = _ ∧ (if q.1 = f then (q.1, v) :: fs else (q.1, q.2) :: putF f v fs).map (·.2) = _
    rw [if_neg ne]
    exact ⟨by rw [List.map_cons, i1]; rfl, by rw [List.map_cons, i2]; rfl⟩
theorem put_new : ∀ {fs : List (Str × V)} {f : Str} {v : V}, f ∉ fs.map (·.1) → putF f v fs = fs ++ [(f, v)]
  | [], _, _, _ => rfl
  | q :: fs, f, v, h => by
    rw [List.map_cons, List.mem_cons, not_or] at h
    show (if q.1 = f then (q.1, v) :: fs else (q.1, q.2) :: putF f v fs) = _
    rw [if_neg (fun e => h.1 e.symm), put_new h.2]
    rfl
/-- a field is written: one that is there, or the next one -/
def putFld (ds : List D) (j : Nat) (d : D) : Option (List D) := if j < ds.length then some (ds.set j d) else if j = ds.length then some (ds ++ [d]) else none
def sFldS (tbl : List (Nat × Nat)) (o m : EX) : SM := fun env S => (eTo m env S).on env fun x S1 => match x with
  | .va d => (o env S1).on env fun ox S2 => match ox with
    | .va (.ref n) => match S2[n]? with
      | some (.ins c ds) => match tbl.lookup c with
        | some j => match putFld ds j d with
          | some ds' => if ds.length < 1000 then .nx env (S2.set n (.ins c ds')) else .bad
          | none => .bad
        | none => .bad
      | _ => .bad
    | _ => .bad
  | .fr _ => .bad
theorem s_fld {pos' : Pos} (F : FldOk (GX X cA fN) f tbl) (ho : PE X o (TI (GX X cA fN) W mo)) (h : PE X e (TI (GX X cA fN) W m)) (hs : swapsWith e (some (.Attribute o f pos')) pos.line X.env = pure false := by rfl) : PS X (.Assign [.Attribute o f pos'] e pos) (TSI (GX X cA fN) W (sFldS tbl mo m)) :=
  (ps_fld ho h hs).mono fun D σ H h => by
  obtain ⟨r, S, env, he, hs, hp⟩ := h
  refine TI.to ⟨r, S, env, he, hs, PostS.on he hp fun x S1 v r1 H1 e1 s1 q1 z => ?_⟩
  cases x with
  | fr ob => exact z.elim
  | va d =>
    dsimp only at z
    have he1 := he.ext e1
    refine ⟨r1, S1, env, he1, s1, PostS.on he1 (z.shift e1) fun ox S2 w r2 H2 e2 s2 q2 z2 => ?_⟩
    have he2 := he1.ext e2
    have q1' := Rep.ext e2 q1
    split at z2
    · rename_i n
      cases en : S2[n]? with
      | none => rw [en] at z2; exact z2.elim
      | some ob =>
        rw [en] at z2
        cases ob with
        | ins c ds =>
          dsimp only at z2
          cases ec : tbl.lookup c with
          | none => rw [ec] at z2; exact z2.elim
          | some j =>
            rw [ec] at z2
            dsimp only at z2
            cases ep : putFld ds j d with
            | none => rw [ep] at z2; exact z2.elim
            | some ds' =>
              rw [ep] at z2
              dsimp only at z2
              split at z2
              · rename_i hl
                obtain ⟨k1, k2, k3, k4⟩ := F.at_ c j ec
                obtain ⟨a, ev, ha, dx, fs, h1, h2, h3⟩ := s2.get q2 en
                have hlen : fs.length = ds.length := by
                  have := h3.length
                  rwa [List.length_map] at this
                have hm : a ∈ r2 := List.mem_of_getElem? ha
                have ew : Ext r2 H2 r2 (upd H2 a (.ins (cA c) dx (putF f v fs))) := Ext.wr hm h1 trivial
                have nd : (fs.map (·.1)).Nodup := by rw [h2]; exact k4.sublist (List.take_sublist _ _)
                refine ⟨a, _, dx, fs, ev, h1, k1, k2, by rw [hlen]; exact hl, z2 σ r2 _ (e2.trans ew) (he2.ext ew) (s2.wr ha ?_)⟩
                refine ⟨dx, putF f v fs, upd_same, ?_⟩
                unfold putFld at ep
                split at ep
                · rename_i hj
                  cases ep
                  have hp : ∃ p, fs[j]? = some p ∧ p.1 = f := by
                    have e1 : (fs.map (·.1))[j]? = some f := by rw [h2, List.getElem?_take_of_lt hj]; exact k3
                    rw [List.getElem?_map] at e1
                    cases e : fs[j]? with
                    | none => rw [e] at e1; cases e1
                    | some p => rw [e] at e1; exact ⟨p, rfl, by cases e1; rfl⟩
                  obtain ⟨p, p1, p2⟩ := hp
                  obtain ⟨i1, i2⟩ := put_at (v := v) nd p1 p2
                  rw [i1, i2, List.length_set]
                  exact ⟨h2, (h3.ext ew).set j (Rep.ext ew q1')⟩
                · split at ep
                  · rename_i hj
                    cases ep
                    have hn : f ∉ fs.map (·.1) := by
                      rw [h2]
                      intro hmem
                      obtain ⟨i, hi⟩ := List.mem_iff_getElem?.mp hmem
                      have hi2 : i < ds.length := by
                        have := (List.getElem?_eq_some_iff.mp hi).1
                        rw [List.length_take] at this
                        omega
                      rw [List.getElem?_take_of_lt hi2] at hi
                      have := nodup_at_s k4 hi k3
                      omega
                    have m1 : (putF f v fs).map (·.1) = (fN c).take (ds ++ [d]).length := by
                      rw [put_new hn, List.map_append, h2, List.length_append, List.length_singleton, List.take_add_one, ← hj]
                      rw [show (fN c)[j]? = some f from k3]
                      rfl
                    have m2 : (putF f v fs).map (·.2) = fs.map (·.2) ++ [v] := by rw [put_new hn, List.map_append]; rfl
                    refine ⟨m1, ?_⟩
                    rw [m2]
                    exact (h3.ext ew).append (.cons (Rep.ext ew q1') .nil)
                  · cases ep
              · exact z2.elim
        | lst _ => exact z2.elim
        | dct _ => exact z2.elim
        | lck _ => exact z2.elim
    · exact z2.elim
end
section
variable {X : Cx} {cA : Nat → Addr} {fN : Nat → List Str} {W : WX} {k : Nat} {f : Addr} {fd : FuncData} {ps : List Str} {fI : FI} {dvs : List V} {dds : List D} {ds : List Value} {x : Str} {p pos : Pos} {e : Expr} {es : List Expr} {ms : List EX} {m : EX} {c : Nat}
def eNew (c : Nat) (f : FI) (ms : List EX) (dds : List D) : EX := fun env S => (eArgs ms env S).bind fun xs S1 => match unva xs with
  | some ds => (match f (.ref S1.length :: (ds ++ dds)) (S1 ++ [.ins c []]) with
    | .ok (.va .non) S2 => .ok (.va (.ref S1.length)) S2
    | .err c fs S2 => .err c fs S2
    | _ => .bad)
  | none => .bad
theorem new_of {E : L2.St → XK} (ne : NoErr fI) (hd : ∀ r H, Reps (GX X cA fN) r H dvs dds) (hn : ms.length + dds.length + 1 = ps.length) {σ : L2.St} {H : Hp} {Q : VK} (h : TI (GX X cA fN) W (eNew c fI ms dds) σ H Q) :
    TAI (GX X cA fN) W (eArgs ms) σ H fun vs H1 => ∀ x dx, H1 x = none → H1 dx = none → dx ≠ x → spI (GX X cA fN) ps.length fI (.ref x :: (vs ++ dvs)) (upd (upd H1 dx (.own x)) x (.ins (cA c) dx [])) (fun v H2 => v = .non ∧ Q (.ref x) H2) (E σ) := by
  obtain ⟨r, S, env, he, hs, hp⟩ := h
  refine ⟨r, S, env, he, hs, Post.bindE hp fun xs S1 vs r1 H1 e0 e1 s1 q1 z => ?_⟩
  intro x dx hx hdx hne
  cases eu : unva xs with
  | none => rw [eu] at z; exact z.elim
  | some ds =>
    rw [eu] at z
    have q := (unva_ok q1 eu).dvs hd
    have ea : Ext r1 H1 r1 (upd H1 dx (.own x)) := Ext.new hdx
    have hx2 : upd H1 dx (.own x) x = none := by rw [upd_ne (Ne.symm hne)]; exact hx
    have eb : Ext r1 (upd H1 dx (.own x)) r1 (upd (upd H1 dx (.own x)) x (.ins (cA c) dx [])) := Ext.new hx2
    have eab := ea.trans eb
    have nx : x ∉ r1 := notin_none s1 hx
    have s2 : Sim (GX X cA fN) r1 (upd (upd H1 dx (.own x)) x (.ins (cA c) dx [])) S1 := s1.stays (fun a o h => by rw [upd_ne (ne_of_none h hx), upd_ne (ne_of_none h hdx)]; exact h) eab
    have ob : ObAt (GX X cA fN) r1 (upd (upd H1 dx (.own x)) x (.ins (cA c) dx [])) x (.ins c []) := ⟨dx, [], upd_same, rfl, .nil⟩
    have s3 := s2.own nx ob
    have e3 : Ext r1 H1 (r1 ++ [x]) (upd (upd H1 dx (.own x)) x (.ins (cA c) dx [])) := eab.own hx
    have hat : (r1 ++ [x])[S1.length]? = some x := by
      rw [← s1.len]
      simp
    have hl : vs.length = xs.length := by
      clear z eu q e0
      induction q1 with
      | nil => rfl
      | cons _ _ ih => simp [ih]
    refine ⟨?_, r1 ++ [x], S1 ++ [.ins c []], .ref S1.length :: (ds ++ dds), s3, .cons (.ref hat) (q.ext e3), ?_⟩
    · have h1 := q.length
      have h2 := (unva_ok q1 eu).length
      have h3 := args_len e0
      rw [List.length_cons, h1, List.length_append]
      omega
    · unfold postF
      dsimp only at z
      cases ef : fI (.ref S1.length :: (ds ++ dds)) (S1 ++ [.ins c []]) with
      | err c1 fs S2 => exact absurd ef (ne _ _ _ _ _)
      | bad => rw [ef] at z; exact z
      | ok y S2 =>
        rw [ef] at z
        cases y with
        | fr o => exact z.elim
        | va d =>
          cases d with
          | non =>
            intro v r' H' e4 s4 q4
            cases q4
            exact ⟨rfl, z (.ref x) r' H' (e1.trans (e3.trans e4)) s4 (.ref (e4.at_ hat))⟩
          | _ => exact z.elim
/-- C(e, ..), its __init__ lets nothing out -/
theorem i_new (ne : NoErr fI) (M : Mk X.K (cA c) f) (F : FnOk X.prog X.w X.K X.mg X.base CX0 k f fd ps (spI (GX X cA fN) ps.length fI)) (hr : Room (k + 1) X.A) (hm : X.mg x = some (.ref (cA c))) (hb : Binds X.K fd ps ds) (hd : Vals dvs ds) (hdd : ∀ r H, Reps (GX X cA fN) r H dvs dds)
    (ha : PA X (e :: es) (TAI (GX X cA fN) W (eArgs (m :: ms)))) (hn : (m :: ms).length + dds.length + 1 = ps.length := by rfl) (hg : Gl X x := by rfl) (hdb : (x == ("__debug__" : Str)) = false := by decide) (he : starEach (e :: es) X.env = (false, eval e X.env) :: starEach es X.env := by rfl)
    (hpl : (backTo pos (starEach es X.env)).any (·.1) = false := by rfl) : PE X (.Call (.Name x p) (e :: es) [] pos) (TI (GX X cA fN) W (eNew c fI (m :: ms) dds)) :=
  (pe_make M F hr hg hm hb hd pass0 ha hdb he hpl).mono fun σ H Q h => by
    have := new_of (E := fun _ => E0) ne hdd hn h
    exact this
end
def rIsB1 (neg : Bool) : R2 := fun x y H Q => ∃ b : Bool, y = .bl b ∧ Q (.bl (if neg then !decide (x = .bl b) else decide (x = .bl b))) H
theorem op_isB1 {X : Cx} : OpR X (compareOp .Is) (rIsB1 false) := by
  intro pins s σ H x y v u Q I rx ry h
  obtain ⟨b, rfl, q⟩ := h
  cases (show u = Value.bool b from ry)
  by_cases e : x = .bl b
  · subst e
    cases (show v = Value.bool b from rx)
    refine wpAny_is_self rfl ⟨.bl true, H, I, rfl, ?_⟩
    have q' : Q (.bl (decide (V.bl b = V.bl b))) H := q
    rw [decide_eq_true rfl] at q'
    exact q'
  · have q' : Q (.bl (decide (x = .bl b))) H := q
    rw [decide_eq_false e] at q'
    cases x with
    | bl c =>
      cases (show v = Value.bool c from rx)
      exact wpAny_is_other rfl (fun z => e (by cases z; rfl)) ⟨.bl false, H, I, rfl, q'⟩
    | _ => first
      | (cases rx; exact wpAny_is_other rfl (fun z => by cases z) ⟨.bl false, H, I, rfl, q'⟩)
      | (obtain ⟨t, rfl⟩ := rx; exact wpAny_is_other rfl (fun z => by cases z) ⟨.bl false, H, I, rfl, q'⟩)
theorem op_isNotB1 {X : Cx} : OpR X (compareOp .IsNot) (rIsB1 true) := by
  intro pins s σ H x y v u Q I rx ry h
  obtain ⟨b, rfl, q⟩ := h
  cases (show u = Value.bool b from ry)
  by_cases e : x = .bl b
  · subst e
    cases (show v = Value.bool b from rx)
    refine wpAny_isNot_self rfl ⟨.bl false, H, I, rfl, ?_⟩
    have q' : Q (.bl (!decide (V.bl b = V.bl b))) H := q
    rw [decide_eq_true rfl] at q'
    exact q'
  · have q' : Q (.bl (!decide (x = .bl b))) H := q
    rw [decide_eq_false e] at q'
    cases x with
    | bl c =>
      cases (show v = Value.bool c from rx)
      exact wpAny_isNot_other rfl (fun z => e (by cases z; rfl)) ⟨.bl true, H, I, rfl, q'⟩
    | _ => first
      | (cases rx; exact wpAny_isNot_other rfl (fun z => by cases z) ⟨.bl true, H, I, rfl, q'⟩)
      | (obtain ⟨t, rfl⟩ := rx; exact wpAny_isNot_other rfl (fun z => by cases z) ⟨.bl true, H, I, rfl, q'⟩)
def isBv (b : Bool) : Rv → Bool
  | .va (.bl c) => decide (c = b)
  | _ => false
theorem isBv_ok {G : Cfg} {r : List Addr} {H0 H : Hp} {v : V} {x : Rv} (b : Bool) (q : RepR G r H0 H v x) : decide (v = .bl b) = isBv b x := by
  cases x with
  | fr o => obtain ⟨a, rfl, _⟩ := q; rfl
  | va d =>
    cases q with
    | bl c => simp [isBv]
    | _ => rfl
def pIs : Sto → List Rv → Option Rv := fun _ xs => match xs with
  | [x, .va .non] => some (.va (.bl (isN x)))
  | [x, .va (.bl b)] => some (.va (.bl (isBv b x)))
  | _ => none
def pIsNot : Sto → List Rv → Option Rv := fun _ xs => match xs with
  | [x, .va .non] => some (.va (.bl (!isN x)))
  | [x, .va (.bl b)] => some (.va (.bl (!isBv b x)))
  | _ => none
def rIsA : R2 := fun x y H Q => (y = .non ∧ Q (.bl (decide (x = .non))) H) ∨ rIsB1 false x y H Q
def rIsNotA : R2 := fun x y H Q => (y = .non ∧ Q (.bl (!decide (x = .non))) H) ∨ rIsB1 true x y H Q
theorem op_isA {X : Cx} : OpR X (compareOp .Is) rIsA := op_isN.or op_isB1
theorem op_isNotA {X : Cx} : OpR X (compareOp .IsNot) rIsNotA := op_notN.or op_isNotB1
theorem ok_is {G : Cfg} : Pure1 G (L22 rIsA) pIs := by
  intro r H0 H S xs z vs Q s b q e k
  unfold pIs at e
  split at e
  · cases e
    obtain ⟨v, w, rfl, q1, q2⟩ := reps2 q
    cases q2
    exact ⟨_, _, rfl, .inl ⟨rfl, by rw [isN_ok q1]; exact fin_same k (.bl _)⟩⟩
  · cases e
    obtain ⟨v, w, rfl, q1, q2⟩ := reps2 q
    cases q2
    exact ⟨_, _, rfl, .inr ⟨_, rfl, by rw [isBv_ok _ q1]; exact fin_same k (.bl _)⟩⟩
  · cases e
theorem ok_isNot {G : Cfg} : Pure1 G (L22 rIsNotA) pIsNot := by
  intro r H0 H S xs z vs Q s b q e k
  unfold pIsNot at e
  split at e
  · cases e
    obtain ⟨v, w, rfl, q1, q2⟩ := reps2 q
    cases q2
    exact ⟨_, _, rfl, .inl ⟨rfl, by rw [isN_ok q1]; exact fin_same k (.bl _)⟩⟩
  · cases e
    obtain ⟨v, w, rfl, q1, q2⟩ := reps2 q
    cases q2
    exact ⟨_, _, rfl, .inr ⟨_, rfl, by rw [isBv_ok _ q1]; exact fin_same k (.bl _)⟩⟩
  · cases e
structure Maker (P : Program) (w : World) (K : PySem.W.Frag) (mg : Str → Option Value) (base : Heap) (cA : Nat → Addr) (fN : Nat → List Str) (k : Nat) (x : Str) (c : Nat) (ps : List Str) (dds : List D) (fI : FI) : Prop where
  ne : NoErr fI
  got : ∃ (f : Addr) (fd : FuncData) (ds : List Value) (dvs : List V), Mk K (cA c) f ∧ mg x = some (.ref (cA c)) ∧ Binds K fd ps ds ∧ Vals dvs ds ∧ (∀ r H, Reps ⟨K, cA, fN, P, w⟩ r H dvs dds) ∧ FnOk P w K mg base CX0 k f fd ps (spI ⟨K, cA, fN, P, w⟩ ps.length fI)
theorem Maker.mkN {P : Program} {w : World} {K : PySem.W.Frag} {mg : Str → Option Value} {base : Heap} {cA : Nat → Addr} {fN : Nat → List Str} {k : Nat} {x : Str} {c : Nat} {ps : List Str} {fI : FI} {a : Addr} {fd : FuncData} {ds : List Value} {dvs : List V} {dds : List D} (ne : NoErr fI) (M : Mk K (cA c) a) (hm : mg x = some (.ref (cA c))) (hb : Binds K fd ps ds) (hv : Vals dvs ds)
    (hd : ∀ r H, Reps ⟨K, cA, fN, P, w⟩ r H dvs dds) (F : FnOk P w K mg base CX0 k a fd ps (spI ⟨K, cA, fN, P, w⟩ ps.length fI)) : Maker P w K mg base cA fN k x c ps dds fI := ⟨ne, a, fd, ds, dvs, M, hm, hb, hv, hd, F⟩
theorem i_newC {X : Cx} {cA : Nat → Addr} {fN : Nat → List Str} {W : WX} {k : Nat} {ps : List Str} {fI : FI} {dds : List D} {x : Str} {p pos : Pos} {e : Expr} {es : List Expr} {ms : List EX} {m : EX} {c : Nat} (hr : Room (k + 1) X.A) (C : Maker X.prog X.w X.K X.mg X.base cA fN k x c ps dds fI) (ha : PA X (e :: es) (TAI (GX X cA fN) W (eArgs (m :: ms)))) (hn : (m :: ms).length + dds.length + 1 = ps.length := by rfl)
    (hg : Gl X x := by rfl) (hdb : (x == ("__debug__" : Str)) = false := by decide) (he : starEach (e :: es) X.env = (false, eval e X.env) :: starEach es X.env := by rfl) (hpl : (backTo pos (starEach es X.env)).any (·.1) = false := by rfl) : PE X (.Call (.Name x p) (e :: es) [] pos) (TI (GX X cA fN) W (eNew c fI (m :: ms) dds)) := by
  obtain ⟨f, fd, ds, dvs, h1, h2, h3, h4, h5, h6⟩ := C.got
  exact i_new C.ne h1 h6 hr h2 h3 h4 h5 ha hn hg hdb he hpl
end Cy
set_option Elab.async false
set_option linter.all false
set_option maxRecDepth 100000
set_option maxHeartbeats 2000000
set_option autoImplicit false
set_option Elab.async false
set_option linter.all false
set_option maxRecDepth 100000
set_option maxHeartbeats 4000000
set_option autoImplicit false
set_option Elab.async false
set_option linter.all false
set_option maxRecDepth 100000
set_option maxHeartbeats 2000000
set_option autoImplicit false
set_option Elab.async false
set_option linter.all false
set_option maxRecDepth 100000
set_option maxHeartbeats 2000000
set_option autoImplicit false
set_option Elab.async false
set_option linter.all false
set_option maxRecDepth 100000
set_option maxHeartbeats 2000000
set_option autoImplicit false
namespace Cy
open PySem L2
section
variable {G : Cfg}
theorem Reps.strs {r : List Addr} {H : Hp} (ys : List Str) : Reps G r H (ys.map V.str) (ys.map D.str) := by
  induction ys with
  | nil => exact .nil
  | cons n ys ih => exact .cons (.str n) ih
def pSplit : Sto → List Rv → Option Rv := fun _ xs => match xs with
  | [.va (.str a), .va (.str b)] => if (b.length == 0) = false ∧ a.length + 2 ≤ sizeLine ∧ (Txt.split a b).length ≤ sizeLine then some (.fr (.lst ((Txt.split a b).map .str))) else none
  | _ => none
theorem ok_split : Pure1 G (rdM fun x xs H Q => ∃ a b, x = .str a ∧ xs = [.str b] ∧ (b.length == 0) = false ∧ a.length + 2 ≤ sizeLine ∧ rNewStrs (Txt.split a b) H Q) pSplit := by
  intro r H0 H S xs z vs Q s b q e k
  unfold pSplit at e
  split at e
  · rename_i x y
    split at e
    · rename_i hz
      cases e
      obtain ⟨v, w, rfl, q1, q2⟩ := reps2 q
      cases q1
      cases q2
      refine ⟨_, _, rfl, x, y, rfl, rfl, hz.1, hz.2.1, ?_⟩
      first
      | exact ⟨hz.2.2, fin_lst s b k (Reps.strs _)⟩
      | exact fin_lst s b k (Reps.strs _)
      | exact fun p hp => fin_lst s b k (Reps.strs _) p hp
    · cases e
  · cases e
end
end Cy
set_option Elab.async false
set_option linter.all false
set_option maxRecDepth 100000
set_option maxHeartbeats 2000000
set_option autoImplicit false
set_option Elab.async false
set_option linter.all false
set_option maxRecDepth 100000
set_option maxHeartbeats 2000000
set_option autoImplicit false
namespace Cy
open PySem
def turn (t : Tg) (body : SM) (ks : List Nat) (d : D) (env : Env) (S : Sto) : SR := match t.bind d env with
  | none => .bad
  | some env' => match body env' S with
    | .nx e' S' => .nx (kill ks e') S'
    | .ct e' S' => .nx (kill ks e') S'
    | .brk e' S' => .brk (kill ks e') S'
    | m => m
section
variable {src : Src} {t : Tg} {body : SM} {ks : List Nat} {env : Env} {S : Sto}
theorem while_more {c : BX} : ∀ (f g : Nat) (env : Env) (S : Sto), f ≤ g → whileGo c body ks f env S ≠ .bad → whileGo c body ks g env S = whileGo c body ks f env S
  | 0, g, env, S, _, h => absurd rfl h
  | f + 1, 0, env, S, hl, h => absurd hl (by omega)
  | f + 1, g + 1, env, S, hl, h => by
    unfold whileGo at h ⊢
    cases ec : c env S with
    | err c ds S1 => rfl
    | bad => rfl
    | ok b S1 =>
      rw [ec] at h
      simp only [Rs.on_ok] at h ⊢
      cases b with
      | false => rfl
      | true =>
        simp only [if_true] at h ⊢
        cases em : body env S1 with
        | nx e' S' => rw [em] at h; exact while_more f g _ _ (by omega) h
        | ct e' S' => rw [em] at h; exact while_more f g _ _ (by omega) h
        | brk e' S' => rfl
        | ret x S' => rfl
        | err e' c ds S' => rfl
        | bad => rfl
end
theorem sub_len (x : Str) (i j : Nat) (h : j ≤ x.length) : (Builtin.Str.strSub x i j).length = j - i := by
  have h' : j ≤ x.cps.size := h
  show (x.cps.extract i j).size = j - i
  rw [Array.size_extract]
  omega
theorem len0 (x : Str) : x = ("" : Str) ↔ x.length = 0 := by
  constructor
  · intro h; rw [h]; rfl
  · intro h
    obtain ⟨c⟩ := x
    have : c = #[] := Array.eq_empty_of_size_eq_zero h
    rw [this]
    decide +kernel
theorem strip_none (x y : Str) : decide (Txt.stripChars x y = ("" : Str)) = x.cps.toList.all fun c => decide (c ∈ y.cps.toList) := by
  rw [Bool.eq_iff_iff, decide_eq_true_eq, List.all_eq_true, len0]
  unfold Txt.stripChars
  rw [PyProof.Rows.stripBy_eq]
  obtain ⟨a1, a2, a3⟩ := PyProof.Rows.lo_facts y.cps.contains x
  obtain ⟨b1, b2, b3, b4⟩ := PyProof.Rows.hi_facts y.cps.contains x _ a1
  rw [sub_len _ _ _ b2]
  have goes : ∀ c, y.cps.contains c = true ↔ c ∈ y.cps.toList := fun c => by simp
  have get : ∀ k, k < x.length → x.cps.getD k 0 ∈ x.cps.toList := fun k hk => by
    have hk' : k < x.cps.size := hk
    simp [Array.getD, hk']
  constructor
  · intro h c hc
    rw [decide_eq_true_eq, ← goes]
    obtain ⟨k, hk, e⟩ := List.mem_iff_getElem.mp hc
    have hk' : k < x.cps.size := by simpa using hk
    have e' : x.cps.getD k 0 = c := by simp [Array.getD, hk', ← e]
    rw [← e']
    by_cases hl : k < PySem.stripLo y.cps.contains true x
    · exact a2 k hl
    · exact b3 k (by omega) hk'
  · intro h
    have all : ∀ k, k < x.length → y.cps.contains (x.cps.getD k 0) = true := fun k hk => by
      have := h _ (get k hk)
      rw [decide_eq_true_eq] at this
      exact (goes _).mpr this
    rcases a3 with a3 | a3
    · omega
    · by_cases hl : PySem.stripLo y.cps.contains true x < x.length
      · rw [all _ hl] at a3; cases a3
      · omega
end Cy
set_option Elab.async false
set_option linter.all false
set_option maxRecDepth 100000
set_option maxHeartbeats 2000000
set_option autoImplicit false
namespace Cy
open PySem L2
def cutRv (S : Sto) : Rv → Sto → Rs Rv
  | .va d, S' => if (cutB S S' && d.und S.length) = true then .ok (.va d) (S'.take S.length) else
      match d with
      | .ref n => match S'[n]? with
        | some o => if (cutB S S' && (decide (S.length ≤ n) && o.und S.length)) = true then .ok (.fr o) (S'.take S.length) else .ok (.va d) S'
        | none => .ok (.va d) S'
      | _ => .ok (.va d) S'
  | .fr o, S' => if (cutB S S' && o.und S.length) = true then .ok (.fr o) (S'.take S.length) else .ok (.fr o) S'
def eCl (m : EX) : EX := fun env S => (m env S).bind fun x S' => cutRv S x S'
section
variable {X : Cx} {cA : Nat → Addr} {fN : Nat → List Str} {W : WX} {e : Expr} {m : EX}
theorem cl_post {G : Cfg} {σ : L2.St} {r : List Addr} {H : Hp} {S S1 : Sto} {x : Rv} {Q : VK} (s : Sim G r H S) (h : Post G W σ r H (RV G H) Q (cutRv S x S1)) : Post G W σ r H (RV G H) Q (.ok x S1 : Rs Rv) := by
  unfold cutRv at h
  cases x with
  | fr o =>
    dsimp only at h
    split at h
    · rename_i k
      have k := Bool.and_eq_true_iff.mp k
      have k := And.intro (cutB_ok k.1) k.2
      intro v r1 H1 e1 s1 q1
      obtain ⟨s2, e2⟩ := cut_sim s e1 s1 k.1
      obtain ⟨l, hl⟩ := e1.pre
      subst hl
      obtain ⟨a, h1, h2, h3, h4⟩ := q1
      exact h v r H1 e2 s2 ⟨a, h1, h2, fun z => h3 (List.mem_append_left _ z), h4.cut (by rw [s.len]; exact k.2)⟩
    · exact h
  | va d =>
    dsimp only at h
    split at h
    · rename_i k
      have k := Bool.and_eq_true_iff.mp k
      have k := And.intro (cutB_ok k.1) k.2
      intro v r1 H1 e1 s1 q1
      obtain ⟨s2, e2⟩ := cut_sim s e1 s1 k.1
      obtain ⟨l, hl⟩ := e1.pre
      subst hl
      exact h v r H1 e2 s2 (Rep.cut q1 (by rw [s.len]; exact k.2))
    · cases d with
      | ref n =>
        dsimp only at h
        cases en : S1[n]? with
        | none => rw [en] at h; exact h
        | some o =>
          rw [en] at h
          dsimp only at h
          split at h
          · rename_i k
            have k := Bool.and_eq_true_iff.mp k
            have k := And.intro (cutB_ok k.1) k.2
            intro v r1 H1 e1 s1 q1
            have k := And.intro k.1 (And.intro (of_decide_eq_true (Bool.and_eq_true_iff.mp k.2).1) (Bool.and_eq_true_iff.mp k.2).2)
            obtain ⟨s2, e2⟩ := cut_sim s e1 s1 k.1
            obtain ⟨a, rfl, ha, hob⟩ := s1.get q1 en
            obtain ⟨l, hl⟩ := e1.pre
            subst hl
            have na : a ∉ r := fun z => by
              obtain ⟨m, hm⟩ := List.mem_iff_getElem?.mp z
              have hm' : m < r.length := (List.getElem?_eq_some_iff.mp hm).1
              have hm2 : (r ++ l)[m]? = some a := by rw [List.getElem?_append_left hm']; exact hm
              have e := Sim.wr.nodup_at s1.nd hm2 ha
              have := s.len
              omega
            refine h (.ref a) r H1 e2 s2 ⟨a, rfl, ?_, na, hob.cut (by rw [s.len]; exact k.2.2)⟩
            cases eH : H a with
            | none => rfl
            | some u => exact absurd (List.mem_of_getElem? ha) (e1.keep a u eH na).2
          · exact h
      | _ => exact h
theorem i_cl (h : PE X e (TI (GX X cA fN) W m)) : PE X e (TI (GX X cA fN) W (eCl m)) := h.mono fun σ H Q h => by
  obtain ⟨r, S, env, he, hs, hp⟩ := h
  refine ⟨r, S, env, he, hs, ?_⟩
  unfold eCl at hp
  cases em : m env S with
  | bad => rw [em] at hp; exact hp
  | err c ds S1 => rw [em] at hp; exact hp
  | ok x S1 =>
    rw [em] at hp
    exact cl_post hs hp
/-- slots forgotten behind a statement -/
def sK (ks : List Nat) (s : SM) : SM := fun env S => (s env S).then fun e S' => .nx (kill ks e) S'
theorem s_k (ks : List Nat) {st : Stmt} {sm : SM} (h : PS X st (TSI (GX X cA fN) W sm)) : PS X st (TSI (GX X cA fN) W (sK ks sm)) := h.mono fun D σ H h => by
  obtain ⟨r, S, env, he, hs, hp⟩ := h
  refine ⟨r, S, env, he, hs, ?_⟩
  unfold sK at hp
  cases em : sm env S with
  | nx e' S' =>
    rw [em] at hp
    exact fun σ' r' H' x q s => hp σ' r' H' x (q.kill ks) s
  | brk e' S' => rw [em] at hp; exact hp
  | ct e' S' => rw [em] at hp; exact hp
  | ret v S' => rw [em] at hp; exact hp
  | err e' c ds S' => rw [em] at hp; exact hp
  | bad => rw [em] at hp; exact hp
/-- the ghost step behind a statement -/
theorem ps_frz {st : Stmt} {t : TS} (h : PS X st t) : PS X st fun D σ H => t { D with nx := fun σ' H' => D.nx σ' H' ∨ ∃ d u, H' d = some u ∧ Mut (some u) ∧ ∀ od, D.nx σ' (upd H' d (.frz od u)) } σ H := by
  refine ⟨fun pins s σ H D I hw => ?_⟩
  refine thn (h.run pins s σ H _ I hw) fun f s1 q => ?_
  cases f with
  | next =>
    obtain ⟨σ', H', I2, q⟩ := q
    rcases q with q | ⟨d, u, hd, mu, q⟩
    · exact ⟨σ', H', I2, q⟩
    · obtain ⟨od, I3⟩ := I2.lock hd mu
      exact ⟨σ', _, I3, q od⟩
  | brk => exact q
  | cont => exact q
  | ret v => exact q
theorem s_setLcF {i : Nat} {y : Str} {py : Pos} {spos pos : Pos} {elt tg iter : Expr} {ifs : List Expr} {scope : Scope} {own : List (Str × Nat)} {it : IX} {t : Tg} {g : TG} {c : BX} {m : EX} (T : TgOk X t g) (hu : ∀ i ∈ t.slots, i ∈ own.map (·.2)) (hc : X.calm = true) (hN : X.N.Nodup)
    (hy : X.N[i]? = some y) (hyl : X.env.scope.names.lookup y = some .local) (hsw : swapsWith (.ListComp elt [⟨tg, iter, ifs, 0⟩] scope pos) (some (.Name y py)) spos.line X.env = pure true)
    (hi : PI X tg iter (TII (GX X cA fN) W it)) (ok : BlkOk X.N X.env.scope scope own)
    (hg : ∀ (s : Shared) (H : Hp) (C : Addr) (cl : List (Str × Addr)) (fp : List Addr), PG (X.blk s H scope (compEnvC scope cl C X.env) fp) tg g)
    (ht : ∀ (s : Shared) (H : Hp) (C : Addr) (cl : List (Str × Addr)) (fp : List Addr), PTs (X.blk s H scope (compEnvC scope cl C X.env) fp) ifs (TTI (GX X cA fN) W0 c))
    (he : ∀ (s : Shared) (H : Hp) (C : Addr) (cl : List (Str × Addr)) (fp : List Addr), PE (X.blk s H scope (compEnvC scope cl C X.env) fp) elt (TI (GX X cA fN) W0 m)) (hs : ∀ x, foldedSetIterable iter X.env x = pure x := by intro _; rfl) :
    PS X (.Assign [.Name y py] (.ListComp elt [⟨tg, iter, ifs, 0⟩] scope pos) spos) (TSI (GX X cA fN) W (sAsg (.name i) (eFz (eLc it t (own.map (·.2)) c m)))) := (ps_frz (ps_setLc hc hN hy hyl hsw hi ok hg ht he hs)).mono fun D σ H h => by
  obtain ⟨r, S, env, he, hs, hp⟩ := h
  have key : TI (GX X cA fN) W (eLc it t (own.map (·.2)) c m) σ H fun v H1 => gName i v σ H1 fun σ' H' => D.nx σ' H' ∨ ∃ d u, H' d = some u ∧ Mut (some u) ∧ ∀ od, D.nx σ' (upd H' d (.frz od u)) := by
    refine ⟨r, S, env, he, hs, ?_⟩
    unfold sAsg eTo eFz at hp
    cases em : eLc it t (own.map (·.2)) c m env S with
    | bad => rw [em] at hp; exact hp.elim
    | err c' ds S1 => rw [em] at hp; exact fun cls oe r' H' e s q => hp cls oe σ r' H' e (he.ext e) s q
    | ok x S1 =>
      rw [em] at hp
      intro v r1 H1 e1 s1 q1
      have he1 := he.ext e1
      cases x with
      | va d => exact .inl (hp _ r1 H1 e1 (he1.set q1) s1)
      | fr o =>
        cases o with
        | dct kvs =>
          obtain ⟨a, rfl, h0, na, ho⟩ := q1
          have hs2 := s1.own na ho
          refine .inl (hp _ (r1 ++ [a]) H1 (e1.own h0) ((he.ext (e1.own h0)).set (.ref ?_)) hs2)
          rw [← s1.len]; simp
        | lck kvs =>
          obtain ⟨a, rfl, h0, na, ho⟩ := q1
          have hs2 := s1.own na ho
          refine .inl (hp _ (r1 ++ [a]) H1 (e1.own h0) ((he.ext (e1.own h0)).set (.ref ?_)) hs2)
          rw [← s1.len]; simp
        | lst ds =>
          obtain ⟨a, rfl, h0, na, vs, hv, rv⟩ := q1
          refine .inr ⟨a, _, hv, trivial, fun od => ?_⟩
          exact hp _ r1 _ (frz_ext e1 h0) ((he1.poke hv trivial).set (.frl (vs := vs) (.inl ⟨⟨od, upd_same⟩, na⟩) (rv.poke hv trivial))) (s1.poke hv trivial na)
        | ins c ds =>
          obtain ⟨a, rfl, h0, na, dx, fs, hv, hf, rv⟩ := q1
          refine .inr ⟨a, _, hv, trivial, fun od => ?_⟩
          exact hp _ r1 _ (frz_ext e1 h0) ((he1.poke hv trivial).set (.obj (o := od) (dx := dx) (fs := fs) upd_same na hf (rv.poke hv trivial))) (s1.poke hv trivial na)
  exact lc_of T hu key
end
end Cy
set_option Elab.async false
set_option linter.all false
set_option maxRecDepth 100000
set_option maxHeartbeats 2000000
set_option autoImplicit false
namespace Cy
open PySem L2 RT
section
variable {prog : Program} {w : World} {A : Around} {E : Value → Shared → Prop} {s : Shared}
theorem list_init_rev {R : Result → Shared → Prop} {it l S : Addr} {items : Array Value} (hh : A.handled = none) (hit : s.heap.IsRevIter it l ((items.size : Int) - 1)) (hl : s.heap.IsList l items) (hne : l ≠ it) (hn : items.size ≤ sizeLine) (hSi : S ≠ it) (hSl : S ≠ l)
    (hS : s.heap.get? S = some { cls := .type "list", data := .seq #[] })
    (hR : ∀ (h' : Heap) (tk : Nat) (acc : Array Value) (c' : Nat), (∀ b o, b ≠ it → b ≠ S → s.heap.get? b = some o → h'.get? b = some o) → h'.get? S = some { cls := .type "list", dict := none, data := .seq acc c', slots := #[] } → ItemsOf (fun i v => items[items.size - 1 - i]? = some v) acc items.size → R (.ok (.ret .none)) { s with heap := h', toks := tk }) :
    wpAny (model prog w) A.in1 (Builtin.«list.__init__» ⟨[.ref S, .ref it], []⟩)
      (fun fin s' => match fin with | .done f => R (.ok f) s' | .again c' => c'.quiet = true ∧ codeAny (model prog w) A c' R s') (fun e s' => R (.error e) s') s := by
  have W := (Walks.listRev (prog := prog) (w := w) (A := A.in1) hh it l hne items).toS
  have hSf : S ∉ [it, l] := by simp only [List.mem_cons, List.not_mem_nil, or_false, not_or]; exact ⟨hSi, hSl⟩
  show wpAny _ _ (do let old ← Builtin.List.listItems (.ref S); Builtin.List.listUpdate (.ref S) (fun _ => #[]); letGo old.toList.reverse; Builtin.List.listExtendWith (.ref S) (.ref it) .none) _ _ s
  refine wpAny_bind ?_
  unfold Builtin.List.listItems
  refine wpAny_bind (wpAny_seqItems hS rfl (wpAny_pure ?_))
  show wpAny _ _ (updateSeq S (fun _ => #[]) >>= fun _ => letGo (#[] : Array Value).toList.reverse >>= fun _ => Builtin.List.listExtendWith (.ref S) (.ref it) .none) _ _ s
  refine wpAny_bind (wpAny_updateSeq hS rfl ?_)
  have hS₂ := Heap.get?_update_self (Obj.mapSeq (fun _ => (#[] : Array Value))) hS rfl
  have oth : ∀ b o, b ≠ S → s.heap.get? b = some o → (s.heap.update S (Obj.mapSeq (fun _ => (#[] : Array Value)))).get? b = some o :=
    fun b o hb e => (Heap.get?_update_other _ _ (Ne.symm hb)).trans e
  refine wpAny_bind (wpAny_letGo ?_)
  generalize hg : s.heap.update S (Obj.mapSeq (fun _ => (#[] : Array Value))) = g at hS₂ oth
  have hit1 : g.IsRevIter it l ((items.size : Int) - 1) := hit.at fun o e => oth it o (Ne.symm hSi) e
  have hl1 : g.IsList l items := hl.at fun o e => oth l o (Ne.symm hSl) e
  have hT : ({ s with heap := g } : Shared).TypeIs (.ref it) "list_reverseiterator" := Heap.IsRevIter.typeIs (s := { s with heap := g }) hit1
  have h1 : Builtin.List.listSameRef (.ref S) (.ref it) = false := by simp [Builtin.List.listSameRef, hSi]
  unfold Builtin.List.listExtendWith
  refine wpAny_bind (wpAny_typeOf hT ?_)
  rw [if_neg (by rw [h1]; decide)]
  refine wpAny_bind (wpAny_pyIter_revIter (s := { s with heap := g }) hit1 ?_)
  refine wpAny_bind (wpAny_holding ?_)
  unfold Builtin.List.listLengthHint
  refine wpAny_bind (wpAny_specialOf hT nolen_lri ?_)
  show wpAny _ A.in1 (specialOf (Value.ref it) (Str.ofString "__length_hint__") >>= _) _ _ _
  refine wpAny_bind (wpAny_specialOf hT hint_lri ?_)
  generalize hid : ("list_reverseiterator.__length_hint__" : String) = id0
  wp_delta
  rw [show splitId id0 = some ("list_reverseiterator", "__length_hint__") from by subst hid; decide +kernel]
  subst hid
  refine wpAny_bind (wpAny_isInstance (b := true) hT (by rw [isSubtype_type]; kernel_rfl) ?_)
  refine wpAny_pure ?_
  rw [if_neg (by decide)]
  have e0 : ((items.size : Nat) : Int) - 1 - ((0 : Nat) : Int) = (items.size : Int) - 1 := by omega
  refine wpAny_pure ⟨plainId_quiet F.plain_extend_loop _, codeAny_extend_loopS W hn _ hSf _ items.size 0 _ _ _ rfl (Nat.zero_le _) ⟨Nat.zero_le _, by rw [e0]; exact hit1, hl1⟩ hS₂ (ItemsOf.nil _) fun s' acc' c' hm hS' hacc => ?_⟩
  rw [Moved.eq_with hm]
  refine hR s'.heap s'.toks acc' c' (fun b o hb hb2 e => hm.heap b o (fun hmem => ?_) (oth b o hb2 e)) hS' hacc
  rcases List.mem_cons.mp hmem with e' | hmem
  · exact hb2 e'
  · exact hb (List.mem_singleton.mp hmem)
theorem call_list_rev {it l : Addr} {items : Array Value} {Q : Value → Shared → Prop} (hh : A.handled = none) (hit : s.heap.IsRevIter it l ((items.size : Int) - 1)) (hl : s.heap.IsList l items) (hne : l ≠ it) (hn : items.size ≤ sizeLine)
    (hQ : ∀ (h' : Heap) (tk : Nat) (acc : Array Value) (c' : Nat), (∀ b o, b ≠ it → s.heap.get? b = some o → h'.get? b = some o) → h'.get? s.heap.objs.size = some { cls := .type "list", dict := none, data := .seq acc c', slots := #[] } → ItemsOf (fun i v => items[items.size - 1 - i]? = some v) acc items.size →
      Q (.ref s.heap.objs.size) { s with heap := h', toks := tk }) : wpAny (model prog w) A (call (.type "list") [.ref it]) Q E s := by
  refine callType_codes (Q₁ := fun obj s₁ => obj = .ref s.heap.objs.size ∧ s₁ = { s with heap := s.heap.push { cls := .type "list", data := .seq #[] } }) F.called_list (F.typeCall_list_1 _) F.entry_list_init
    (code_list_new _ ⟨rfl, rfl⟩) fun obj s₁ h₁ => ?_
  obtain ⟨rfl, rfl⟩ := h₁
  have hS : (s.heap.push { cls := .type "list", data := .seq #[] }).get? s.heap.objs.size = some { cls := .type "list", data := .seq #[] } := Heap.get?_push_size _ rfl
  obtain ⟨oi, hoi, _⟩ := id hit
  obtain ⟨ol, hol, _⟩ := id hl
  refine ⟨⟨_, hS, rfl⟩, F.args_list_init_2 _ _, list_init_rev (A := A.in1) (s := { s with heap := s.heap.push { cls := .type "list", data := .seq #[] } }) hh (hit.at fun o e => Heap.get?_push_of_some _ e) (hl.push _) hne hn (Nat.ne_of_gt (Heap.lt_size hoi)) (Nat.ne_of_gt (Heap.lt_size hol)) hS fun h' tk acc' c' hk hS' hacc => ?_⟩
  exact ⟨rfl, hQ h' tk acc' c' (fun b o hb e => hk b o hb (Nat.ne_of_lt (Heap.lt_size e)) (Heap.get?_push_of_some _ e)) hS' hacc⟩
end
end Cy
namespace L2
open PySem PySem.Spec PyProof.Rows
def tLstRev (K : PySem.W.Frag) (te : TE) : TE := fun σ H Q => te σ H fun v H1 => ∃ (a : Addr) (xs : List V), v = .ref a ∧ SqL K H1 a xs ∧ ∀ q, H1 q = none → Q (.ref q) (upd H1 q (.lst xs.reverse))
section
variable {X : Cx}
theorem pe_lstRev {e : Expr} {te : TE} {p p2 pos pos2 : Pos} (hc : X.calm = true) (hg : Gl X "list") (hm : X.mg "list" = none) (hg2 : Gl X "reversed") (hm2 : X.mg "reversed" = none) (he : PE X e te)
    (hs : starEach [e] X.env = (false, eval e X.env) :: starEach [] X.env)
    (hs2 : starEach [.Call (.Name "reversed" p2) [e] [] pos2] X.env = (false, eval (.Call (.Name "reversed" p2) [e] [] pos2) X.env) :: starEach [] X.env) :
    PE X (.Call (.Name "list" p) [.Call (.Name "reversed" p2) [e] [] pos2] [] pos) (tLstRev X.K te) := by
  refine ⟨fun pins s σ H Q I h => ?_⟩
  refine Call_ (ld_blt I hg hm boot_list (PyProof.Rows.callWith_type1 (args_cons (Call_ (ld_blt I hg2 hm2 PyProof.Rows.boot_reversed (PyProof.Rows.callWith_type1 (args_cons (thn (he.run pins s σ H _ I h) fun u s1 ⟨v, H1, I1, r1, q1⟩ => args_nil ?_) hs) hs rfl))) hs2) hs2 rfl))
  obtain ⟨a, xs, ev, hq, q⟩ := q1
  subst ev
  obtain rfl : u = Value.ref a := r1
  obtain ⟨its, rv, p', hz⟩ := I1.list hq
  refine call_reversed_list p'.isList (args_nil ?_)
  have k0 : ∀ b o, s1.heap.get? b = some o → (s1.heap.push (revObj a ((its.toArray.size : Int) - 1))).get? b = some o := fun b o e => Heap.get?_push_of_some _ e
  have I2 : Inv X pins σ H1 { s1 with heap := s1.heap.push (revObj a ((its.toArray.size : Int) - 1)) } := I1.kept (t' := s1.toks) k0
  have fp := I1.fpOk (H' := H1) (b := s1.heap.objs.size) (Nat.le_refl _) (I1.hok.fresh (Nat.le_refl _))
  have hl := p'.isList
  obtain ⟨ol, hol, _⟩ := id hl
  have hne : a ≠ s1.heap.objs.size := Nat.ne_of_lt (Heap.lt_size hol)
  have hn : its.toArray.size ≤ sizeLine := by rw [List.size_toArray, ← rv.length]; exact hz
  refine Cy.call_list_rev (s := { s1 with heap := s1.heap.push (revObj a ((its.toArray.size : Int) - 1)) }) (I1.ok.hd hc) ⟨_, Heap.get?_push_size _ rfl, rfl, rfl⟩ (hl.push _) hne hn fun h' tk acc c' hk e' hi => ?_
  have hfr : H1 (s1.heap.push (revObj a ((its.toArray.size : Int) - 1))).objs.size = none := I2.hok.fresh (Nat.le_refl _)
  refine ⟨.ref (s1.heap.push (revObj a ((its.toArray.size : Int) - 1))).objs.size, upd H1 (s1.heap.push (revObj a ((its.toArray.size : Int) - 1))).objs.size (.lst xs.reverse), I2.turnedNew (t' := tk) (ch := [s1.heap.objs.size]) (fun b o hb e => hk b o (fun z => hb (List.mem_singleton.mpr z)) e) (fun b hb => by rw [List.mem_singleton.mp hb]; exact fp) (Nat.le_refl _) (show ObjOk X.prog X.w _ _ _ (.lst xs.reverse) from ⟨by rw [List.length_reverse]; exact hz, acc.toList, c', RT.vals_rev rv hi, ?_⟩), rfl, q _ hfr⟩
  rw [Array.toArray_toList]; exact e'
end
end L2
namespace Cy
open PySem L2
section
variable {X : Cx} {cA : Nat → Addr} {fN : Nat → List Str} {W : WX} {pos pos' p p2 : Pos} {e : Expr} {m : EX}
/-- list(reversed(xs)) -/
def eLRev (m : EX) : EX := fun env S => (m env S).bind fun x S1 => match vL S1 x with
  | some ds => .ok (.fr (.lst ds.reverse)) S1
  | none => .bad
theorem i_lrev (hml : X.mg "list" = none) (hm : X.mg "reversed" = none) (ha : PE X e (TI (GX X cA fN) W m)) (hc : X.calm = true := by rfl) (hgl : Gl X "list" := by rfl) (hg : Gl X "reversed" := by rfl) (na : starEach [e] X.env = (false, eval e X.env) :: starEach [] X.env := by rfl)
    (nb : starEach [Expr.Call (.Name "reversed" p2) [e] [] pos'] X.env = (false, eval (.Call (.Name "reversed" p2) [e] [] pos') X.env) :: starEach [] X.env := by rfl) :
    PE X (.Call (.Name "list" p) [.Call (.Name "reversed" p2) [e] [] pos'] [] pos) (TI (GX X cA fN) W (eLRev m)) := (pe_lstRev hc hgl hml hg hm ha na nb).mono fun σ H Q h => by
  obtain ⟨r, S, env, he, hs, hp⟩ := h
  refine ⟨r, S, env, he, hs, Post.bind hp fun x S1 v r1 H1 e1 s1 q1 z => ?_⟩
  cases ev : vL S1 x with
  | none => rw [ev] at z; exact z.elim
  | some ds =>
    rw [ev] at z
    obtain ⟨a, vs, rfl, hq, rv⟩ := vL_ok s1 q1 ev
    refine ⟨a, vs, rfl, hq, ?_⟩
    exact fin_lst (H0 := H) (Q := Q) s1 (fun p hp => e1.back hp) (fun v H' x st q => z v r1 H' (e1.trans x) (s1.stays st x) q) rv.reverse
end
end Cy
set_option Elab.async false
set_option linter.all false
set_option maxRecDepth 100000
set_option maxHeartbeats 2000000
set_option autoImplicit false
set_option Elab.async false
set_option linter.all false
set_option maxRecDepth 100000
set_option maxHeartbeats 2000000
set_option autoImplicit false
set_option Elab.async false
set_option linter.all false
set_option maxRecDepth 100000
set_option maxHeartbeats 2000000
set_option autoImplicit false
namespace PySem.W
open PySem PySem.Spec PySem.Calls PyProof.Rows
section
variable {prog : Program} {w : World} {A : Around} {E : Value → Shared → Prop} {s : Shared} {K : Frag} {x D : Addr} {ox : Obj} {od : Option Obj}
theorem findObj_dataA {C : Addr} {name : Str} {a g : Value} (hc : (clsIn K C).isSome = true) (ha : findIn K (.ref C) name = some (some a)) (hg : specialIn K a "__get__" = some (some g)) (ht : takesIn K a = some true) : findObj K C od name = some (.bind g a) := by
  obtain ⟨cd, hc⟩ := Option.isSome_iff_exists.mp hc
  unfold findObj
  rw [hc, Option.bind_some, ha, Option.bind_some]
  simp [hg, ht]
theorem kin_classA {Q : Option Value → Shared → Prop} (hga : findIn K (.ref D) "__getattribute__" = some (some (.builtin "BaseException.__getattribute__"))) (hgt : findIn K (.ref D) "__getattr__" = some none) (hsub : subIn K (.ref D) (.type "BaseException") = some true)
    (hdct : hasDictIn K D = true) (ha : findIn K (.ref D) "__class__" = some (some (.builtin "object.__class__")))
    (hn : specialIn K (.builtin "object.__class__") "__get__" = some (some (.builtin "getset_descriptor.__get__"))) (htk : takesIn K (.builtin "object.__class__") = some true) (hm : mroIn K D (.type "object") = some true)
    (X : K.In s.heap) (I : InstAt s.heap x ox D od) (h : Q (some (.ref D)) { s with toks := s.toks + 1 }) : wpAny (model prog w) A (getAttr? (.ref x) "__class__") Q E s := by
  have hf : findObj K D od "__class__" = some (.bind (.builtin "getset_descriptor.__get__") (.builtin "object.__class__")) := findObj_dataA (by obtain ⟨cd, hc, _⟩ := any_some hdct; rw [hc]; rfl) ha hn htk
  obtain ⟨hp, g, d, t, os⟩ := s
  have L0 := I.type (M := model prog w)
  have L1 := looks_findIn (M := model prog w) X hga
  have L2 := looks_findIn (M := model prog w) X hgt
  have L3 := looks_find (M := model prog w) X I hf
  have sub : Looks (model prog w) hp (isInstance (.ref x) (.type "BaseException")) true := L0.andThen (looks_subIn X hsub)
  have hx0 : (false && onTheHeap (Value.builtin "BaseException.__getattribute__")) = false := rfl
  have hx2 : (Value.builtin "BaseException.__getattribute__" == Value.builtin "object.__getattribute__") = false := by decide +kernel
  have hx1 : (onTheHeap (Value.ref D) && Value.builtin "BaseException.__getattribute__" == Value.builtin "object.__getattribute__") = false := by rw [hx2]; rfl
  unfold getAttr? getAttrBy? getAttrBy
  refine wpAny_bind (wpAny_mkText (wpAny_bind (wpAny_attempt (wpAny_holding (wpAny_bind (L0.at (wpAny_bind (L1.at ?_))))))))
  show wpAny _ _ (if (onTheHeap (Value.ref D) && Value.builtin "BaseException.__getattribute__" == Value.builtin "object.__getattribute__") = true then _ else _) _ _ _
  rw [hx1, if_neg Bool.false_ne_true]
  unfold getAttrByItsOwn hookBefore
  refine wpAny_bind ?_
  rw [if_pos (show onTheHeap (Value.ref D) = true from rfl)]
  refine L2.at ?_
  refine wpAny_bind (wpAny_attempt (wpAny_holding ?_))
  unfold callGetattribute
  rw [hx0, if_neg Bool.false_ne_true]
  unfold boundAndCalled
  rw [PySem.F.excAttr_ValueError.ga.bind (.ref x)]
  refine wpAny_bind (wpAny_pure ?_)
  show wpAny _ _ (call (.builtin "BaseException.__getattribute__") [.ref x, .str "__class__" t]) _ _ _
  refine wpAny_call (codeAny_call_builtin PySem.F.excAttr_ValueError.ga.plain PySem.F.entry_bexc_ga ?_)
  refine @check_slot (model prog w) _ _ ⟨hp, g, d, t + 1, os⟩ "BaseException.__getattribute__" "BaseException" "__getattribute__" (.ref x) [.str "__class__" t] [] _ (by decide +kernel) (by decide +kernel) sub (PySem.F.args_bexc_ga (.ref x) (.str "__class__" t)) ?_
  unfold Builtin.«object.__getattribute__»
  refine wpAny_bind (wpAny_of_eq (a := ((Value.ref x : Value), [Value.str "__class__" t])) (by first | rfl | (simp only [slotArgs]; rfl)) ?_)
  refine wpAny_bind (wpAny_pure (wpAny_bind (L0.at (wpAny_bind (L3.at ?_)))))
  show wpAny _ _ (holding [Value.builtin "object.__class__"] (call (.builtin "getset_descriptor.__get__") [.builtin "object.__class__", .ref x, .ref D]) >>= ret) _ _ _
  refine wpAny_bind (wpAny_holding (wpAny_call (class_get (s := ⟨hp, g, d, t + 1, os⟩) (ox := ox) (od := od) X I hm ?_)))
  refine wpAny_pure ?_
  show wpAny _ _ (handedOut (.ref D)) _ _ _
  rw [handedOut_of (v := .ref D) rfl]
  first
    | exact wpAny_pure (wpAny_pure h)
    | exact wpAny_pure h
    | exact wpAny_pure (wpAny_bind (wpAny_pure (wpAny_pure h)))
theorem kitx_excA (C : L2.ExcC K D) : KitX K (.ref x) (.ref D) (fun h => InstAt h x ox D od) where
  ty := fun _ _ _ I => I.type
  it := fun _ _ X _ => by
    obtain ⟨cdD, hcD, _⟩ := any_some C.hd
    unfold clsIn at hcD
    split at hcD
    · rename_i c' d' cd' sl' ho
      intro A' Q' E' s' k q
      unfold isType loadHead
      exact wpAny_bind (wpAny_loadPart (k _ _ (X _ _ ho)) (wpAny_pure q))
    · cases hcD
  ne := fun h tp dd its n sl X htp => by
    obtain ⟨cdD, hcD, _⟩ := any_some C.hd
    refine Bool.eq_false_iff.mpr fun q => ?_
    have e : D = tp := Value.ref.inj (beq_iff_eq.mp q)
    subst e
    unfold clsIn at hcD
    split at hcD
    · rename_i c' d' cd' sl' ho
      have z := (X _ _ ho).symm.trans htp
      cases z
    · cases hcD
  ca := fun X I k => kin_classA C.hg C.hk C.hs C.hd C.ha C.hn C.ht C.hm X I k
end
end PySem.W
namespace Cy
open PySem L2
inductive TyE (K : PySem.W.Frag) (H : Hp) : V → Value → Prop where
  | base {x : V} {t : Value} (h : TyX K H x t) : TyE K H x t
  | exc {a C : Addr} {oe : Obj} {d : Option Addr} (h : H a = some (.frz oe exm)) (x : ExObj C d oe) (T : ExcC K C) (hd : ∀ dd, d = some dd → ∃ fs, H dd = some (.xd fs)) : TyE K H (.ref a) (.ref C)
section
variable {X : Cx} {pins : List (Addr × Obj)} {σ : St} {H : Hp} {s : Shared}
theorem inst_exc {a C : Addr} {oe : Obj} {d : Option Addr} (I : Inv X pins σ H s) (h : H a = some (.frz oe exm)) (x : ExObj C d oe) (hd : ∀ dd, d = some dd → ∃ fs, H dd = some (.xd fs)) : ∃ od, PySem.W.InstAt s.heap a oe C od := by
  obtain ⟨ha, _⟩ := (show ObjOk X.prog X.w H s.heap a (.frz oe exm) from I.hok a _ h)
  obtain ⟨h1, h2, vs, h3⟩ := x
  cases d with
  | none =>
    obtain ⟨oc, od, oda, osl⟩ := oe
    dsimp only at h1 h2 h3
    subst h1 h2 h3
    exact ⟨none, ha, rfl, rfl, trivial⟩
  | some dd =>
    obtain ⟨fs, hx⟩ := hd dd rfl
    have hx2 : ObjOk X.prog X.w H s.heap dd (.xd fs) := I.hok dd _ hx
    obtain ⟨mA, hns, hr⟩ := hx2
    obtain ⟨od, ho, hl⟩ := lookIn_ns hns
    exact ⟨some od, ha, h1, by unfold PySem.W.notCls; rw [h3] <;> rfl, by rw [h2]; exact ho⟩
theorem kit_ofE {x : V} {u t : Value} (I : Inv X pins σ H s) (rx : RelV x u) (ty : TyE X.K H x t) : ∃ P : Heap → Prop, PySem.W.KitX X.K u t P ∧ P s.heap ∧ u ≠ .builtin "__main__.__loader__#opaque" := by
  cases ty with
  | base h => exact kit_of I rx h
  | @exc a C oe d h x T hd =>
    cases (show u = Value.ref a from rx)
    obtain ⟨od, J⟩ := inst_exc I h x hd
    exact ⟨_, PySem.W.kitx_excA T, J, fun z => nomatch z⟩
def rIsi2 (K : PySem.W.Frag) : List V → Hp → VK → Prop := fun xs H Q => ∃ (x c : V) (t u : Value) (b : Bool), xs = [x, c] ∧ ClsV c u ∧ TyE K H x t ∧ PySem.W.kitOne K t u = some b ∧ Q (.bl b) H
def rIsiT2 (K : PySem.W.Frag) : List V → Hp → VK → Prop := fun xs H Q => ∃ (x : V) (tp : Addr) (cs : List V) (t : Value) (us : List Value) (b : Bool), xs = [x, .ref tp] ∧ H tp = some (.tup cs) ∧ Paired ClsV cs us ∧ TyE K H x t ∧ PySem.W.kitAny K t us = some b ∧ Q (.bl b) H
theorem call_isi2 : CallR X (.builtin "isinstance") (rIsi2 X.K) := by
  intro pins s σ H xs us Q I r h
  obtain ⟨x, c, t, u, b, rfl, k, ty, e, q⟩ := h
  obtain ⟨u1, u2, rfl, r1, r2⟩ := vals2 r
  have e2 := k.eq r2
  subst e2
  obtain ⟨P, Z, p, hx⟩ := kit_ofE I r1 ty
  exact PySem.W.kia_one Z I.kIn p e hx fun tk => ⟨.bl b, H, I.tok tk, rfl, q⟩
theorem call_isiT2 : CallR X (.builtin "isinstance") (rIsiT2 X.K) := by
  intro pins s σ H xs us Q I r h
  obtain ⟨x, tp, cs, t, ws, b, rfl, hT, k, ty, e, q⟩ := h
  obtain ⟨u1, u2, rfl, r1, r2⟩ := vals2 r
  cases (show u2 = Value.ref tp from r2)
  obtain ⟨P, Z, p, hx⟩ := kit_ofE I r1 ty
  obtain ⟨_, its, rv, o, h1, h2, n, h3⟩ := (show ObjOk X.prog X.w H s.heap tp (.tup cs) from I.hok tp _ hT)
  have e3 := ClsV.all k rv
  subst e3
  obtain ⟨oc, od, dt, sl⟩ := o
  simp only at h2 h3
  subst h2 h3
  exact PySem.W.kia_tup Z I.kIn p h1 e hx fun tk => ⟨.bl b, H, I.tok tk, rfl, q⟩
end
/-- by class number: is it one of these? nb: is None? -/
def pIsE (nb : Option Bool) (tb : List (Nat × Bool)) : Sto → List Rv → Option Rv := fun _ xs => match xs with
  | [.va (.exn c _)] => (tb.lookup c).map fun b => .va (.bl b)
  | [.va .non] => nb.map fun b => .va (.bl b)
  | _ => none
def rAsk (K : PySem.W.Frag) (ask : Value → Option Bool) : List V → Hp → VK → Prop := fun vs H Q => ∃ x, vs = [x] ∧ ∃ t b, TyE K H x t ∧ ask t = some b ∧ Q (.bl b) H
theorem ok_isE {G : Cfg} {ask : Value → Option Bool} {nb : Option Bool} {tb : List (Nat × Bool)} (T : IsTb G.K G.cA ask nb tb) : Pure1 G (rAsk G.K ask) (pIsE nb tb) := by
  intro r H0 H S xs z vs Q s b q e k
  unfold pIsE at e
  split at e
  · rename_i c ds
    cases e1 : tb.lookup c with
    | none => rw [e1] at e; cases e
    | some y =>
      rw [e1] at e
      cases e
      obtain ⟨v, rfl, q1⟩ := reps1 q
      obtain ⟨h1, h2⟩ := T.exn c y e1
      refine ⟨v, rfl, .ref (G.cA c), y, ?_, h1, fin_same k (.bl _)⟩
      cases q1 with
      | exn0 h na x => exact .exc h x h2 fun dd e => by cases e
      | exnF h na x hd nd hf q => exact .exc h x h2 fun dd e => by cases e; exact ⟨_, hd⟩
  · cases e1 : nb with
    | none => rw [e1] at e; cases e
    | some y =>
      rw [e1] at e
      cases e
      obtain ⟨v, rfl, q1⟩ := reps1 q
      cases q1
      exact ⟨_, rfl, _, y, .base (.base .non), T.non y e1, fin_same k (.bl _)⟩
  · cases e
def tVs (vs : List V) : TA := fun _ H Q => Q vs H
section
variable {X : Cx} {cA : Nat → Addr} {fN : Nat → List Str} {W : WX} {a e : Expr} {es : List Expr} {pos p tp : Pos} {ma : EX} {vs : List V} {v : V}
theorem pa_vn : PA X [] (tVs []) := ⟨fun pos pins s σ H Q I h => pa_nil.run pos pins s σ H Q I h⟩
theorem pa_vc (ha : PE X e (tC v)) (hr : PA X es (tVs vs)) (hs : starEach (e :: es) X.env = (false, eval e X.env) :: starEach es X.env := by rfl) : PA X (e :: es) (tVs (v :: vs)) := ⟨fun pos pins s σ H Q I h => (pa_cons ha hr hs).run pos pins s σ H Q I h⟩
theorem i_isE1 {c : V} {u : Value} {nb : Option Bool} {tb : List (Nat × Bool)} {e2 : Expr} (hm : X.mg "isinstance" = none) (T : IsTb X.K cA (fun t => PySem.W.kitOne X.K t u) nb tb) (hc : PE X e2 (tC c)) (k : ClsV c u) (ha : PE X a (TI (GX X cA fN) W ma)) (hg : Gl X "isinstance" := by rfl)
    (hst : starEach [a, e2] X.env = (false, eval a X.env) :: starEach [e2] X.env := by rfl) (hst2 : starEach [e2] X.env = (false, eval e2 X.env) :: starEach [] X.env := by rfl) (hpl : (backTo pos (starEach [e2] X.env)).any (·.1) = false := by rfl) :
    PE X (.Call (.Name "isinstance" p) [a, e2] [] pos) (TI (GX X cA fN) W (eP (lift (pIsE nb tb)) [ma])) :=
  (pe_callB call_isi2 hg hm (by decide +kernel) (pa_cons ha (pa_cons hc pa_nil hst2) hst) (by decide) (by decide) hst hpl).mono fun σ H Q h => by
  obtain ⟨r, S, env, he, hs, hp⟩ := h
  have hq := prim_post (ok_isE (G := GX X cA fN) T).ok hp
  refine ⟨r, S, env, he, hs, Post.bind hq fun x S1 v r1 H1 e1 s1 q1 z => ?_⟩
  obtain ⟨x', e, t, b, h1, h2, h3⟩ := z [v] r1 H1 e1 s1 (.cons q1 .nil)
  cases e
  exact ⟨v, c, t, u, b, rfl, k, h1, h2, h3⟩
theorem i_isET {cs : List V} {us : List Value} {nb : Option Bool} {tb : List (Nat × Bool)} {es : List Expr} {x1 : _} (hm : X.mg "isinstance" = none) (T : IsTb X.K cA (fun t => PySem.W.kitAny X.K t us) nb tb) (hc : PA X es (tVs cs)) (k : Paired ClsV cs us) (hz : cs.length ≤ 1000) (ha : PE X a (TI (GX X cA fN) W ma)) (hg : Gl X "isinstance" := by rfl)
    (hst : starEach [a, .Tuple es x1 tp] X.env = (false, eval a X.env) :: starEach [.Tuple es x1 tp] X.env := by rfl) (hst2 : starEach [Expr.Tuple es x1 tp] X.env = (false, eval (.Tuple es x1 tp) X.env) :: starEach [] X.env := by rfl) (hpl : (backTo pos (starEach [Expr.Tuple es x1 tp] X.env)).any (·.1) = false := by rfl) :
    PE X (.Call (.Name "isinstance" p) [a, .Tuple es x1 tp] [] pos) (TI (GX X cA fN) W (eP (lift (pIsE nb tb)) [ma])) :=
  (pe_callB call_isiT2 hg hm (by decide +kernel) (pa_cons ha (pa_cons (pe_tup hc) pa_nil hst2) hst) (by decide) (by decide) hst hpl).mono fun σ H Q h => by
  obtain ⟨r, S, env, he, hs, hp⟩ := h
  have hq := prim_post (ok_isE (G := GX X cA fN) T).ok hp
  refine ⟨r, S, env, he, hs, Post.bind hq fun x S1 v r1 H1 e1 s1 q1 z => ?_⟩
  refine ⟨Nat.le_trans hz (by rw [PySem.sizeLine_eq]; omega), fun q hq => ?_⟩
  have e2 : Ext r1 H1 r1 (upd H1 q (.tup cs)) := Ext.new hq
  have k2 : ∀ a o, H1 a = some o → upd H1 q (.tup cs) a = some o := fun a o h => by rw [upd_ne (ne_of_none h hq)]; exact h
  have s2 := s1.stays k2 e2
  obtain ⟨x', e, t, b, h1, h2, h3⟩ := z [v] r1 _ (e1.trans e2) s2 (.cons (RepR.ext e2 q1) .nil)
  cases e
  exact ⟨v, q, cs, t, us, b, rfl, upd_same, k, h1, h2, h3⟩
end
/-- a def that may let an exception out, as its callers see it -/
structure CalleeX (P : Program) (w : World) (K : PySem.W.Frag) (mg : Str → Option Value) (base : Heap) (cA : Nat → Addr) (fN : Nat → List Str) (k : Nat) (x : Str) (ps : List Str) (dds : List D) (fI : FI) : Prop where
  got : ∃ (f : Addr) (fd : FuncData) (ds : List Value) (dvs : List V), mg x = some (.ref f) ∧ PySem.W.keepIn K (.ref f) = true ∧ Binds K fd ps ds ∧ Vals dvs ds ∧ (∀ r H, Reps ⟨K, cA, fN, P, w⟩ r H dvs dds) ∧ FnOk P w K mg base (L2.CX P w) k f fd ps (spI ⟨K, cA, fN, P, w⟩ ps.length fI)
section
variable {P : Program} {w : World} {K : PySem.W.Frag} {mg : Str → Option Value} {base : Heap} {cA : Nat → Addr} {fN : Nat → List Str} {k : Nat} {x : Str} {ps : List Str} {f : FI}
theorem CalleeX.mkN {fI : FI} {a : Addr} {fd : FuncData} {ds : List Value} {dvs : List V} {dds : List D} (hm : mg x = some (.ref a)) (hk : PySem.W.keepIn K (.ref a) = true) (hb : Binds K fd ps ds) (hv : Vals dvs ds) (hd : ∀ r H, Reps ⟨K, cA, fN, P, w⟩ r H dvs dds)
    (F : FnOk P w K mg base (L2.CX P w) k a fd ps (spI ⟨K, cA, fN, P, w⟩ ps.length fI)) : CalleeX P w K mg base cA fN k x ps dds fI := ⟨a, fd, ds, dvs, hm, hk, hb, hv, hd, F⟩
end
section
variable {X : Cx} {cA : Nat → Addr} {fN : Nat → List Str} {W : WX} {k : Nat} {ps : List Str} {fI : FI} {dds : List D} {x : Str} {p pos : Pos} {e : Expr} {es : List Expr} {ms : List EX} {m : EX}
theorem i_callX (tk : Takes X W) (hr : Room k X.A) (C : CalleeX X.prog X.w X.K X.mg X.base cA fN k x ps dds fI) (ha : PA X (e :: es) (TAI (GX X cA fN) W (eArgs (m :: ms)))) (hn : (m :: ms).length + dds.length = ps.length := by rfl) (hg : Gl X x := by rfl) (hdb : (x == ("__debug__" : Str)) = false := by decide)
    (he : starEach (e :: es) X.env = (false, eval e X.env) :: starEach es X.env := by rfl) (hpl : (backTo pos (starEach es X.env)).any (·.1) = false := by rfl) : PE X (.Call (.Name x p) (e :: es) [] pos) (TI (GX X cA fN) W (eCall fI (m :: ms) dds)) := by
  obtain ⟨f, fd, ds, dvs, h1, h2, h3, h4, h5, h6⟩ := C.got
  refine ⟨fun pins s σ H Q I h => ?_⟩
  refine wpAny_Call_Name_kw (ld_glob I hg h1 ?_ hdb)
  have hargs := call_of (G := GX X cA fN) (E := fun σ => WE W σ) (ps := ps) (dvs := dvs) (fun _ _ _ _ z => z) h5 hn h
  refine PySem.W.callWith_K (h₀ := X.base) I.ok.mod.kin h2 (thn (ha.run pos pins s σ H _ I hargs) fun us s1 ⟨vs, H1, I1, r, q⟩ => ⟨I1.kIn, ?_⟩) he hpl
  -- the callee at its own defaults
  have hl : us.length + ds.length = ps.length := by
    have := h6.len _ _ _ _ q
    rw [List.length_append] at this
    rw [← r.length, ← h4.length]
    exact this
  have b := h3 s1 us I1.kIn (by rw [List.length_append]; exact hl)
  refine wpAny_call (codeAny_mono (h6.run X.A X.stack s1 H1 ⟨us, []⟩ (us ++ ds) (vs ++ dvs) Q (WE W σ) hr I1.env0 b (r.append h4) q) fun rr s' hq => ?_)
  cases rr with
  | error e => exact passAt tk σ pins H1 s1 e s' I1 hq
  | ok fl =>
    cases fl with
    | ret u => exact I1.after hq
    | next => exact False.elim hq
    | brk => exact False.elim hq
    | cont => exact False.elim hq
end
/-- where no exception may come, none is let out -/
theorem tk0 {X : Cx} : Takes X W0 := fun u s' x => by
  obtain ⟨_, _, _, _, _, _, _, _, _, _, _, _, _, _, _, _, w⟩ := x
  exact w.elim
section
variable {X : Cx} {pins : List (Addr × Obj)} {σ : St} {H : Hp} {s : Shared}
/-- what lies in the heap, new since the entry, is tracked from here on -/
theorem Inv.know {a : Addr} {o : HO} (I : Inv X pins σ H s) (na : H a = none) (h0 : X.s_0.heap.get? a = none) (hp : ∀ p ∈ X.pn ++ pins, p.1 ≠ a) (hl : a ≠ X.env.locals) (hc : ∀ x c, X.env.cells.lookup x = some c → c ≠ a) (new : ObjOk X.prog X.w (upd H a o) s.heap a o) : Inv X pins σ (upd H a o) s := by
  refine ⟨I.ok, I.os, I.bare, ⟨I.base.keep, I.base.slot, fun b u e n hx => ?_, I.base.there, fun b xs e => ?_, fun b u v e => ?_, fun b ps e => ?_⟩, I.loc, I.cell, ?_, fun x c e => ?_, fun p q => ?_, fun b u e => ?_, I.len⟩
  · rw [upd_ne (fun z => by rw [z, h0] at e; cases e)]; exact I.base.free b u e n hx
  · have q := I.base.tups b xs e
    rw [upd_ne (ne_of_none q na)]; exact q
  · have q := I.base.frzs b u v e
    rw [upd_ne (ne_of_none q na)]; exact q
  · obtain ⟨m, q⟩ := I.base.tbls b ps e
    exact ⟨m, by rw [upd_ne (ne_of_none q na)]; exact q⟩
  · rw [upd_ne (Ne.symm hl)]; exact I.free
  · rw [upd_ne (hc x c e)]; exact I.freeC x c e
  · obtain ⟨e1, e2, e3, e4, e5⟩ := I.pin p q
    exact ⟨e1, by rw [upd_ne (hp p q)]; exact e2, e3, e4, e5⟩
  · by_cases hb : b = a
    · subst hb
      rw [upd_same] at e
      cases e
      exact new
    · rw [upd_ne hb] at e
      exact (I.hok b u e).stay (fun c v _ q => q) (fun c q => by rw [upd_ne (ne_of_none q na)]; exact q) fun c xs q => by rw [upd_ne (ne_of_none q na)]; exact q
end
def killR (i : Nat) : SR → SR
  | .nx env S => .nx (env.set i none) S
  | .brk env S => .brk (env.set i none) S
  | .ct env S => .ct (env.set i none) S
  | .ret v S => .ret v S
  | .err _ _ _ _ => .bad
  | .bad => .bad
/-- try: body, except C as n: suite; tb: which classes are C's -/
def sTry (i : Nat) (tb : List (Nat × Bool)) (body suite : SM) : SM := fun env S => match body env S with
  | .err env' c ds S' => match tb.lookup c with
    | some true => killR i (suite (env'.set i (some (.exn c ds))) S')
    | some false => .err env' c ds S'
    | none => .bad
  | x => x
section
variable {X : Cx} {cA : Nat → Addr} {fN : Nat → List Str} {W : WX} {x n : Str} {cv : Value} {i : Nat} {body suite : List Stmt} {b₀ : Stmt} {np pos pos' : Pos} {mb ms : SM} {tb : List (Nat × Bool)}
theorem s_try (hs : X.stack = X.env :: X.outer) (hf : X.env.frame = some X.env.locals) (hN : X.N.Nodup) (hi : X.N[i]? = some n) (hln : X.env.kindOf n = some .local) (hex : X.ex = []) (hc : Names X x cv) (tk : Takes X W)
    (T : ∀ c b, tb.lookup c = some b → PySem.W.exmOne X.K (.ref (cA c)) cv = some b)
    (hb : ∀ (W : WX) (pn : List (Addr × Obj)) (xe : Value → Shared → Prop), Takes (X.tr pn xe) W → PassesOwn (model X.prog X.w) X.A X.env xe → PSs (X.tr pn xe) body (TSI (GX X cA fN) W mb))
    (hsu : ∀ (a : Addr) (pn : List (Addr × Obj)), PSs (X.suite a pn) (b₀ :: suite) (TSI (GX X cA fN) W0 ms)) :
    PS X (.Try body [.ExceptHandler (some (.Name x np)) (some n) (b₀ :: suite) pos'] [] [] pos) (TSI (GX X cA fN) W (sTry i tb mb ms)) := by
  refine ⟨fun pins s σ H D I h => ?_⟩
  have ok := I.ok
  obtain ⟨r, S, env, he, hsim, hp⟩ := h
  have hfr : X.A.frames = some (X.env :: X.outer) := by rw [ok.frames, hs]
  have hloc : Loc X.env.scope n := .inl hln
  refine wpAny_Try_except ?_
  -- what the body's exceptions bring
  let W1 : WX := fun cls d σ' H' => ∃ env' c ds S' r', mb env S = .err env' c ds S' ∧ Ext r H r' H' ∧ EnvR (GX X cA fN) r' H' σ' env' ∧ Sim (GX X cA fN) r' H' S' ∧ ErrAt (GX X cA fN) r' H' c ds cls d
  have hbody : TSI (GX X cA fN) W1 mb D σ H := by
    refine ⟨r, S, env, he, hsim, ?_⟩
    unfold sTry at hp
    cases em : mb env S with
    | err env' c ds S' => exact fun cls oe σ' r' H' e q s z => ⟨env', c, ds, S', r', em, e, q, s, z⟩
    | nx _ _ => rw [em] at hp; exact hp
    | brk _ _ => rw [em] at hp; exact hp
    | ct _ _ => rw [em] at hp; exact hp
    | ret _ _ => rw [em] at hp; exact hp
    | bad => rw [em] at hp; exact hp
  refine wpAny_mono ((hb W1 (X.pn ++ pins) (fun e s₁ => wpAny (model X.prog X.w) X.A (noteFrame e X.env) (fun _ s₂ => wpAny (model X.prog X.w) X.A (setFlight e none) (fun _ s₃ =>
    wpAny (model X.prog X.w) X.A (handleBy e X.env [.ExceptHandler (some (.Name x np)) (some n) (b₀ :: suite) pos']) (SP X pins D) X.xe s₃) X.xe s₂) X.xe s₁) (fun u s' xx => ?_) PassesOwn.looking).run [] s σ H D (I.toTry _) hbody) (fun f s1 hsp => ?_) (fun e s1 he => he)
  · -- the catch
    obtain ⟨a, B, sI, pins', σ', H', cls, d, rfl, J', nb, up, sky, na, os, ag, env', c, ds, S', r', em, xt, hEnv, hSim, hErr⟩ := xx
    have J : Inv X pins σ' H' sI := J'.ofTry ok
    have sky' : Sky B (X.env :: X.outer) a (Zc cls d) X.env.locals s'.heap := by rw [← hs]; exact sky
    show wpAny (model X.prog X.w) X.A (noteFrame (.ref a) X.env) _ _ _
    refine Sky.land Zc.steady hfr hf sky' fun h3 fl3 up3 => ?_
    have J3 : Inv X pins σ' H' { s' with heap := h3 } := J.landed nb fl3.1 (up.trans up3) os ag
    obtain ⟨oe3, vs3, he3, hz3, hd3⟩ := fl3.there
    have notFr : ∀ {h : Heap} {o : Obj} {vs : Array Value}, h.FunFrames B (X.env :: X.outer) → h.get? a = some o → o.data = .fields vs → a ∉ frs (X.env :: X.outer) := fun {h o vs} ff e dd hm => by
      obtain ⟨_, o', e', hnf⟩ := ff.mem hm
      rw [e] at e'; cases e'
      exact hnf _ dd
    have nfr := notFr fl3.2.2.1 he3 hd3
    have nL : a ≠ X.env.locals := fun z => nfr (List.mem_filterMap.mpr ⟨X.env, List.mem_cons_self, by rw [hf, z]⟩)
    have nF : a ∉ X.fs := fun hm => by
      obtain ⟨e, he, q⟩ := List.mem_filterMap.mp hm
      exact nfr (List.mem_filterMap.mpr ⟨e, List.mem_cons_of_mem _ he, q⟩)
    have nsI : sI.heap.get? a = none := by
      cases q : sI.heap.get? a with
      | none => rfl
      | some o =>
        have := nb a o q (by rw [hs]; exact nfr)
        rw [fl3.2.1] at this
        cases this
    have S3 := J3.suite he3 hd3 na nL nF
    refine wpAny_handleBy_cons (codeAny_handlers_test ?_) (by intro q; cases q)
    obtain ⟨ecls, hfld⟩ := hErr
    subst ecls
    unfold sTry at hp
    rw [em] at hp
    dsimp only at hp
    cases hl : tb.lookup c with
    | none => rw [hl] at hp; exact hp.elim
    | some b =>
      rw [hl] at hp
      have hb1 := T c b hl
      have LT : PySem.W.Looks (model X.prog X.w) h3 (typeOf (.ref a)) (.ref (cA c)) := fun A Q E s k q => wpAny_typeOf_ref (k _ _ he3) (by rw [hz3.1]; exact q)
      have LM := PySem.W.exm_one (M := model X.prog X.w) (J3.kIn) LT hb1
      have test : ∀ {Q : Value → Shared → Prop} {E : Value → Shared → Prop}, Q cv { s' with heap := h3 } → wpAny (model X.prog X.w) (X.A.mark (some (.ref a))) (eval (.Name x np) X.env) Q E { s' with heap := h3 } := fun {Q E} q => by
        obtain ⟨hg, hdbg, hm | ⟨hm, hv, hnn⟩⟩ := hc
        · exact ld_glob (X := X.suite a ((a, oe3) :: (X.pn ++ pins))) S3 hg hm q hdbg
        · exact ld_blt (X := X.suite a ((a, oe3) :: (X.pn ++ pins))) S3 hg hm hv q hnn hdbg
      refine test (LM.here ?_)
      cases b with
      | true =>
        refine codeAny_handlers_suite_as ?_
        refine HandSPX.lands_againZ fl3 fun h4 fl4 up4 => ?_
        have J4 : Inv X pins σ' H' { s' with heap := h4 } := J.landed nb fl4.1 ((up.trans up3).trans up4) os ag
        obtain ⟨oe4, vs4, he4, hz4, hd4⟩ := fl4.there
        -- it is held fast from here on
        have xo : ExObj (cA c) d oe4 := ⟨hz4.1, hz4.2, vs4, hd4⟩
        have new : ObjOk X.prog X.w (upd H' a (.frz oe4 exm)) h4 a (.frz oe4 exm) := ⟨he4, trivial, ⟨_, he4⟩, fun _ _ _ _ => trivial⟩
        have Jk : Inv X pins σ' (upd H' a (.frz oe4 exm)) { s' with heap := h4 } := Inv.know J4 na (by
          cases q : X.s_0.heap.get? a with
          | none => rfl
          | some o =>
            obtain ⟨o', e'⟩ := J.base.there a o q (by rw [hex]; simp)
            rw [nsI] at e'; cases e') (fun p hp z => by
          have := (J.pin p hp).1
          rw [z, nsI] at this; cases this) nL (fun y k e z => by
          obtain ⟨v, q⟩ := J4.cell y k e
          rw [z] at q
          obtain ⟨o, e1, e2⟩ := q
          rw [he4] at e1
          cases e1
          rw [hd4] at e2
          cases e2) new
        have e2 : Ext r' H' r' (upd H' a (.frz oe4 exm)) := Ext.new na
        have k2 : ∀ b o, H' b = some o → upd H' a (.frz oe4 exm) b = some o := fun b o h => by rw [upd_ne (ne_of_none h na)]; exact h
        have Sk : Inv (X.suite a (X.pn ++ pins)) [] σ' (upd H' a (.frz oe4 exm)) { s' with heap := h4 } :=
          ⟨ok.suite _ _, Jk.os, Jk.bare, Jk.base, Jk.loc, Jk.cell, Jk.free, Jk.freeC, fun p hp => Jk.pin p (by rw [List.append_nil] at hp; exact hp), Jk.hok, Jk.len⟩
        have nar : a ∉ r' := fun hm => by
          obtain ⟨n, hn⟩ := List.mem_iff_getElem?.mp hm
          have hlt : n < S'.length := by rw [← hSim.len]; exact (List.getElem?_eq_some_iff.mp hn).1
          obtain ⟨u, hu, _⟩ := (hSim.at_ n a _ hn (List.getElem?_eq_getElem hlt)).mut
          rw [na] at hu; cases hu
        have rep : Rep (GX X cA fN) r' (upd H' a (.frz oe4 exm)) (.ref a) (.exn c ds) := by
          rcases hfld with ⟨z1, z2⟩ | ⟨dd, fs, z1, z2, z3, z4, z5⟩
          · subst z1 z2
            exact .exn0 upd_same nar xo
          · subst z1
            exact .exnF upd_same nar xo (k2 _ _ z2) z3 z4 (z5.ext e2)
        refine store_ok (X := X.suite a (X.pn ++ pins)) (v := .ref a) Sk hN hi hloc rfl (fun s5 S5 => ?_) (.inr hln)
        refine wpAny_mono ((hsu a (X.pn ++ pins)).run [] s5 _ (upd H' a (.frz oe4 exm)) { nx := fun σ6 H6 => D.nx (σ6.set i none) H6, rt := D.rt, bk := fun σ6 H6 => D.bk (σ6.set i none) H6, ct := fun σ6 H6 => D.ct (σ6.set i none) H6 } S5 ⟨r', S', env'.set i (some (.exn c ds)), (hEnv.ext e2).set rep, hSim.stays k2 e2, ?_⟩) (fun f s6 hsp => ?_) (fun _ _ z => False.elim z)
        · have hp2 := hp.shift (xt.trans e2)
          cases eM : ms (env'.set i (some (.exn c ds))) S' with
          | nx e6 S6 => rw [eM] at hp2; exact fun σ6 r6 H6 x q s => hp2 _ r6 H6 x (kill_wipe q [i]) s
          | brk e6 S6 => rw [eM] at hp2; exact fun σ6 r6 H6 x q s => hp2 _ r6 H6 x (kill_wipe q [i]) s
          | ct e6 S6 => rw [eM] at hp2; exact fun σ6 r6 H6 x q s => hp2 _ r6 H6 x (kill_wipe q [i]) s
          | ret v S6 => rw [eM] at hp2; exact hp2
          | err e6 c6 d6 S6 => rw [eM] at hp2; exact hp2.elim
          | bad => rw [eM] at hp2; exact hp2.elim
        have end_ : ∀ {σ6 : St} {H6 : Hp} {Q : Shared → Prop}, Inv (X.suite a (X.pn ++ pins)) [] σ6 H6 s6 → (∀ s7, Inv X pins (σ6.set i none) H6 s7 → Q s7) →
            wpAny (model X.prog X.w) X.A (do bindName X.env n .none; unbindBehindTheSuite X.env n pos') (fun _ s7 => Q s7) X.xe s6 := fun {σ6 H6 Q} S6 hq => gone_ok (⟨ok, S6.os, S6.bare, S6.base, S6.loc, S6.cell, S6.free, S6.freeC, fun p hp => S6.pin p (by rw [List.append_nil]; exact hp), S6.hok, S6.len⟩ : Inv X pins σ6 H6 s6) hN hi hln hq
        cases f with
        | next =>
          obtain ⟨σ6, H6, S6, q6⟩ := hsp
          exact end_ S6 fun s7 J7 => ⟨_, _, J7, q6⟩
        | brk =>
          obtain ⟨σ6, H6, S6, q6⟩ := hsp
          exact end_ S6 fun s7 J7 => ⟨_, _, J7, q6⟩
        | cont =>
          obtain ⟨σ6, H6, S6, q6⟩ := hsp
          exact end_ S6 fun s7 J7 => ⟨_, _, J7, q6⟩
        | ret u =>
          obtain ⟨v6, σ6, H6, S6, r6, q6⟩ := hsp
          exact end_ S6 fun s7 J7 => ⟨_, _, _, J7, r6, q6⟩
      | false =>
        show wpAny _ X.A (handleBy (.ref a) X.env []) _ _ _
        refine wpAny_handleBy_nil ?_
        obtain ⟨k1, k2, k3, oe, vs, T', oT, ts', he, hz, hd, h1, hr⟩ := id fl3
        unfold PySem.passOn
        refine wpAny_bind (wpAny_field he hd h1 ?_)
        rw [if_neg (show ¬ ((Value.ref T' == Value.none) = true) from by simp)]
        have fin : wpAny (model X.prog X.w) X.A (setFlight (.ref a) X.env.frame) (fun _ s4 => wpAny (model X.prog X.w) X.A (throw (.ref a) : Sem Flow) (SP X pins D) X.xe s4) X.xe { s' with heap := h3 } := by
          rw [hf]
          refine HandSPX.setFlight_upZ fl3 fun h4 hh4 up4 => wpAny_throw (tk _ _ ?_)
          exact ⟨a, B, sI, pins, σ', H', _, d, rfl, J, nb, (up.trans up3).trans up4, .inr (.inr (by rw [hs]; exact hh4)), na, os, ag, hp _ d σ' r' H' xt hEnv hSim ⟨rfl, hfld⟩⟩
        first
          | exact wpAny_bind (wpAny_pure (wpAny_bind fin))
          | exact wpAny_bind fin
  · cases f with
    | next =>
      obtain ⟨σ', H', J', q⟩ := hsp
      exact wpAny_execs_nil ⟨σ', H', J'.ofTry ok, q⟩
    | brk =>
      obtain ⟨σ', H', J', q⟩ := hsp
      exact ⟨σ', H', J'.ofTry ok, q⟩
    | cont =>
      obtain ⟨σ', H', J', q⟩ := hsp
      exact ⟨σ', H', J'.ofTry ok, q⟩
    | ret u =>
      obtain ⟨v, σ', H', J', r, q⟩ := hsp
      exact ⟨v, σ', H', J'.ofTry ok, r, q⟩
end
end Cy
namespace Cy
open PySem L2
/-- a def that may raise, its wish at hand -/
theorem fnXt {P : Program} {w : World} {K : PySem.W.Frag} {mg : Str → Option Value} {base : Heap} {cA : Nat → Addr} {fN : Nat → List Str} {k : Nat} {f : Addr} {fd : FuncData} {x qual : Str} {params : Arguments} {body : List Stmt} {scope : Scope} {dvs : List V} {kws : List (Str × V)} {N ps : List Str} {sm : SM}
    (F : FunD K x qual params body scope dvs kws f fd) (S : FnScope N ps scope)
    (hb : ∀ (cdv : Value) (A : Around) (outer : List PySem.Env) (s : Shared) (H : Hp) (E : XK), Room k (A.deeper (PyProof.Rows.envOfC qual scope s.heap.objs.size f cdv)) →
      Takes (cxOf (L2.CX P w) P w K mg base N qual scope f cdv A outer s H E) (fun c o _ H => E c o H) → PassesOwn (model P w) (cxOf (L2.CX P w) P w K mg base N qual scope f cdv A outer s H E).A (cxOf (L2.CX P w) P w K mg base N qual scope f cdv A outer s H E).env (cxOf (L2.CX P w) P w K mg base N qual scope f cdv A outer s H E).xe →
      PSs (cxOf (L2.CX P w) P w K mg base N qual scope f cdv A outer s H E) body (TSI ⟨K, cA, fN, P, w⟩ (fun c o _ H => E c o H) sm)) : FnOk P w K mg base (L2.CX P w) (k + 1) f fd ps (spI ⟨K, cA, fN, P, w⟩ ps.length (clean (fnOf N.length ps.length sm))) :=
  fnX F S fun cdv A outer s H E hr => hb cdv A outer s H E hr (takes_of rfl rfl rfl rfl) (passes_of rfl)
section
variable {K : PySem.W.Frag}
theorem Fx.isa_ok {x : Str} {ys : List Cn} {b : Bool} (h : (Fx.isa x ys b).ok K = true) : PySem.W.kitAny K (.ref (He.ga K x)) (ys.map (Cn.val K)) = some b := of_decide_eq_true h
theorem Fx.isn_ok {ys : List Cn} {b : Bool} (h : (Fx.isn ys b).ok K = true) : PySem.W.kitAny K (.type "NoneType") (ys.map (Cn.val K)) = some b := of_decide_eq_true h
theorem Fx.is1_ok {x : Str} {y : Cn} {b : Bool} (h : (Fx.is1 x y b).ok K = true) : PySem.W.kitOne K (.ref (He.ga K x)) (y.val K) = some b := of_decide_eq_true h
theorem Fx.in1_ok {y : Cn} {b : Bool} (h : (Fx.in1 y b).ok K = true) : PySem.W.kitOne K (.type "NoneType") (y.val K) = some b := of_decide_eq_true h
theorem fxOk {fx : List Fx} (h : (fx.all fun f => f.ok K) = true) (i : Nat) {f : Fx} (e : fx[i]? = some f := by rfl) : f.ok K = true := List.all_eq_true.mp h f (List.mem_of_getElem? e)
theorem Fx.excC {x : Str} (h : (Fx.exC x).ok K = true) : ExcC K (He.ga K x) := by
  obtain ⟨h1, h2⟩ := He.ba h
  obtain ⟨a1, h1⟩ := He.ba h1
  obtain ⟨a2, h1⟩ := He.ba h1
  obtain ⟨a3, a4⟩ := He.ba h1
  obtain ⟨b1, h2⟩ := He.ba h2
  obtain ⟨b2, h2⟩ := He.ba h2
  obtain ⟨b3, b4⟩ := He.ba h2
  exact ⟨He.eqO_ok a1, He.eqO_ok a2, of_decide_eq_true a3, a4, He.eqO_ok b1, He.eqO_ok b2, of_decide_eq_true b3, of_decide_eq_true b4⟩
end
section
variable {K : PySem.W.Frag} {cA : Nat → Addr} {ask : Value → Option Bool} {nb : Option Bool} {tb : List (Nat × Bool)}
theorem tbX_nil {cv : Value} : ∀ c b, ([] : List (Nat × Bool)).lookup c = some b → PySem.W.exmOne K (.ref (cA c)) cv = some b := fun c b e => by cases e
theorem tbX_cons {cv : Value} {c : Nat} {b : Bool} {C : Addr} (e : cA c = C) (h1 : PySem.W.exmOne K (.ref C) cv = some b) (T : ∀ c b, tb.lookup c = some b → PySem.W.exmOne K (.ref (cA c)) cv = some b) : ∀ c' b', ((c, b) :: tb).lookup c' = some b' → PySem.W.exmOne K (.ref (cA c')) cv = some b' := fun c' b' q => by
  rw [List.lookup_cons] at q
  by_cases z : c' = c
  · subst z
    rw [beq_self_eq_true] at q
    cases q
    rw [e]; exact h1
  · rw [show (c' == c) = false from by simp [z]] at q
    exact T c' b' q
end
end Cy
set_option Elab.async false
set_option linter.all false
set_option maxRecDepth 100000
set_option maxHeartbeats 2000000
set_option autoImplicit false
namespace L2
open PySem PySem.Spec PyProof.Rows
section
variable {X : Cx} {pins : List (Addr × Obj)} {σ : St} {H : Hp} {s : Shared} {C B : Addr} {mc u : Value} {m : Str} {A : Around} {E : Value → Shared → Prop}
/-- B.m, read off the class -/
theorem getmethc_ok {pl : Sem Bool} {Q : Value × List Value → Shared → Prop} (I : Inv X pins σ H s) (rd : PySem.W.readsIn X.K B mc = true) (ga : PySem.W.specialIn X.K (.ref B) "__getattribute__" = some (some (.builtin "type.__getattribute__")))
    (at_ : PySem.W.findCls X.K (.ref B) mc m = some (.val u)) (hh : PySem.W.handedIn u = true) (h : ∀ s', Inv X pins σ H s' → Q (u, []) s') : wpAny (model X.prog X.w) A (getMethod (.ref B) m pl) Q E s :=
  PySem.W.method_cls I.kIn ga (PySem.W.cls_value I.kIn rd at_ hh (h _ (I.tok _)))
end
section
variable {X : Cx} {o e : Expr} {es : List Expr} {to te : TE} {ta : TA} {B : Addr} {mc : Value} {x : Str} {p1 p2 pos : Pos}
/-- B.__init__(self, ..), B an own class that has it from ValueError -/
theorem pe_veinitC {pl : Sem Bool} (hg : Gl X x) (hm : X.mg x = some (.ref B)) (rd : PySem.W.readsIn X.K B mc = true) (ga : PySem.W.specialIn X.K (.ref B) "__getattribute__" = some (some (.builtin "type.__getattribute__")))
    (vV : PySem.W.findCls X.K (.ref B) mc "__init__" = some (.val (.builtin "ValueError.__init__"))) (ha : PA X (e :: es) ta) (hdb : (x == ("__debug__" : Str)) = false := by decide)
    (hc : eval (.Call (.Attribute (.Name x p1) "__init__" p2) (e :: es) [] pos) X.env = (do
      let ov ← eval (.Name x p1) X.env
      standAt p2.atName
      let (f, first) ← holding [ov] (getMethod ov "__init__" pl)
      callWith pos f first (backTo pos (starEach (e :: es) X.env)) (backToKw pos (keywordEach [] X.env))) := by rfl)
    (he : starEach (e :: es) X.env = (false, eval e X.env) :: starEach es X.env := by rfl) (hpl : (backTo pos (starEach es X.env)).any (·.1) = false := by rfl) :
    PE X (.Call (.Attribute (.Name x p1) "__init__" p2) (e :: es) [] pos) (tVeI X.K ta) := by
  refine ⟨fun pins s σ H Q I h => ?_⟩
  refine PySem.W.methodCall_KW (ld_glob I hg hm ?_ hdb) hc
  refine getmethc_ok (I.tok _) rd ga vV (by decide +kernel) fun s0 I0 => ?_
  show wpAny _ _ (callWith pos (Value.builtin "ValueError.__init__") [] (backTo pos (starEach (e :: es) X.env)) []) _ _ _
  refine PyProof.Rows.callWith_method1 (thn (ha.run pos pins _ σ H _ I0 h) fun us s1 ⟨vs, H1, I1, r1, a, C, ws, ev, hl, T, ea, q⟩ => ?_) he hpl
  subst ev
  cases r1 with
  | @cons _ u0 _ ur ra rw' =>
    obtain rfl : u0 = Value.ref a := ra
    have hlen : ur.length ≤ sizeLine := by
      rw [← Paired.length rw', sizeLine_eq]
      omega
    exact oinit_ok T I1 ea hlen fun s' J => ⟨.non, H1, J, rfl, q⟩
/-- fields are set one behind another: self.f = (name) -/
def fldsTo (a : Addr) (C : Addr) (dx : Addr) (fs : List (Str × V)) (H : Hp) : Hp := upd (upd H dx (exd dx fs)) a (exo a C (some dx))
theorem fldsTo_more {a C dx : Addr} {fs gs : List (Str × V)} {H : Hp} (ne : dx ≠ a) : upd (fldsTo a C dx fs H) dx (exd dx gs) = fldsTo a C dx gs H := by
  funext b
  unfold fldsTo
  by_cases h1 : b = dx
  · subst h1
    rw [upd_same, upd_ne ne, upd_same]
  · rw [upd_ne h1]
    by_cases h2 : b = a
    · subst h2
      rw [upd_same, upd_same]
    · rw [upd_ne h2, upd_ne h2, upd_ne h1, upd_ne h1]
/-- the init of such a class: what is told of it -/
def spXi (K : PySem.W.Frag) (names : List Str) : Sp := fun vs H Q _ => ∃ (a C : Addr) (ys : List V), vs = .ref a :: ys ∧ ys.length = names.length ∧ OexC K C ∧ (∀ f ∈ names, PySem.W.findIn K (.ref C) f = some none) ∧ H a = some (exo a C none) ∧
  ∀ dx, H dx = none → dx ≠ a → Q .non (fldsTo a C dx (names.zip ys).reverse H)
end
end L2
namespace L2
open PySem PySem.Spec PyProof.Rows
/-- the body of such an init -/
def tXi (K : PySem.W.Frag) (names : List Str) : TS := fun D σ H => ∃ (a C : Addr) (ys : List V), σ[0]? = some (some (.ref a)) ∧ (∀ i y, ys[i]? = some y → σ[i + 1]? = some (some y)) ∧ ys.length = names.length ∧ OexC K C ∧ (∀ f ∈ names, PySem.W.findIn K (.ref C) f = some none) ∧ H a = some (exo a C none) ∧
  ∀ dx, H dx = none → dx ≠ a → D.nx σ (fldsTo a C dx (names.zip ys).reverse H)
theorem ost_first {K : PySem.W.Frag} {f : Str} {u : TS} {D : Ends} {σ : St} {H : Hp} {i : Nat} {a C : Addr} {y : V} (h0 : σ[0]? = some (some (.ref a))) (hi : σ[i]? = some (some y)) (T : OexC K C) (hf : PySem.W.findIn K (.ref C) f = some none) (ha : H a = some (exo a C none))
    (k : ∀ dx, H dx = none → dx ≠ a → u D σ (fldsTo a C dx [(f, y)] H)) : tSeq (tOst K f (tVar 0) (tVar i)) u D σ H :=
  ⟨y, hi, .ref a, h0, a, C, rfl, T, hf, .inl ⟨ha, fun dx n ne => k dx n ne⟩⟩
theorem ost_next {K : PySem.W.Frag} {f : Str} {u : TS} {D : Ends} {σ : St} {H : Hp} {i : Nat} {a C dx : Addr} {y : V} {fs : List (Str × V)} (h0 : σ[0]? = some (some (.ref a))) (hi : σ[i]? = some (some y)) (T : OexC K C) (hf : PySem.W.findIn K (.ref C) f = some none) (ne : dx ≠ a) (hl : fs.length ≤ 900)
    (k : u D σ (fldsTo a C dx ((f, y) :: fs) H)) : tSeq (tOst K f (tVar 0) (tVar i)) u D σ (fldsTo a C dx fs H) :=
  ⟨y, hi, .ref a, h0, a, C, rfl, T, hf, .inr ⟨dx, fs, upd_same, by
    unfold fldsTo
    rw [upd_ne ne, upd_same], hl, by
    show u D σ (upd (fldsTo a C dx fs H) dx (exd dx ((f, y) :: fs)))
    rw [fldsTo_more ne]; exact k⟩⟩
section
variable {X : Cx} {st0 st1 st2 st3 : Stmt} {m : Str} {f1 f2 f3 : Str}
theorem pss_xi1 (h0 : PS X st0 (tDrop (tVeI X.K (tCons (tVar 0) (tCons (tC (.str m)) tNil))))) (h1 : PS X st1 (tOst X.K f1 (tVar 0) (tVar 1))) : PSs X [st0, st1] (tXi X.K [f1]) := (pss_cons h0 (pss_cons h1 pss_nil)).mono fun D σ H h => by
  obtain ⟨a, C, ys, s0, sy, hl, T, hf, ha, k⟩ := h
  match ys, hl with
  | [y], _ =>
    refine ⟨.ref a, s0, a, C, [.str m], rfl, by simp, T, ha, ?_⟩
    exact ost_first s0 (sy 0 y rfl) T (hf f1 (by simp)) ha fun dx n ne => k dx n ne
theorem pss_xi3 (h0 : PS X st0 (tDrop (tVeI X.K (tCons (tVar 0) (tCons (tC (.str m)) tNil))))) (h1 : PS X st1 (tOst X.K f1 (tVar 0) (tVar 1))) (h2 : PS X st2 (tOst X.K f2 (tVar 0) (tVar 2))) (h3 : PS X st3 (tOst X.K f3 (tVar 0) (tVar 3))) : PSs X [st0, st1, st2, st3] (tXi X.K [f1, f2, f3]) :=
  (pss_cons h0 (pss_cons h1 (pss_cons h2 (pss_cons h3 pss_nil)))).mono fun D σ H h => by
  obtain ⟨a, C, ys, s0, sy, hl, T, hf, ha, k⟩ := h
  match ys, hl with
  | [y, z, w], _ =>
    refine ⟨.ref a, s0, a, C, [.str m], rfl, by simp, T, ha, ?_⟩
    exact ost_first s0 (sy 0 y rfl) T (hf f1 (by simp)) ha fun dx n ne => ost_next s0 (sy 1 z rfl) T (hf f2 (by simp)) ne (by simp) <| ost_next s0 (sy 2 w rfl) T (hf f3 (by simp)) ne (by simp) <| k dx n ne
end
section
variable {P : Program} {w : World} {K : PySem.W.Frag} {mg : Str → Option Value} {base : Heap} {k : Nat} {f : Addr} {fd : FuncData} {x qual : Str} {params : Arguments} {body : List Stmt} {scope : Scope} {dvs : List V} {kws : List (Str × V)} {N ps names : List Str}
theorem fn_xi (F : FunD K x qual params body scope dvs kws f fd) (S : FnScope N ps scope) (hp : ps.length = names.length + 1) (hN : N.length = ps.length)
    (hb : ∀ (cdv : Value) (A : Around) (outer : List PySem.Env) (s : Shared) (H : Hp) (E : XK), Room k (A.deeper (PyProof.Rows.envOfC qual scope s.heap.objs.size f cdv)) → PSs (cxOf CX0 P w K mg base N qual scope f cdv A outer s H E) body (tXi K names)) :
    FnOk P w K mg base CX0 (k + 1) f fd ps (spXi K names) := by
  refine F.ok S (fun vs H Q E h => ?_) fun cdv A outer s H vs Q E hr h => ⟨_, hb cdv A outer s H E hr, ?_⟩
  · obtain ⟨a, C, ys, rfl, hl, _⟩ := h
    rw [List.length_cons, hl, hp]
  · obtain ⟨a, C, ys, rfl, hl, T, hf, ha, q⟩ := h
    refine ⟨a, C, ys, rfl, fun i y hy => ?_, hl, T, hf, ha, q⟩
    unfold L2.start
    rw [List.getElem?_append_left (by have := (List.getElem?_eq_some_iff.mp hy).1; rw [List.length_map, List.length_cons]; omega), List.getElem?_map, List.getElem?_cons_succ, hy]; rfl
end
end L2
namespace Cy
open PySem L2
def sRaiseF (c : Nat) (ms : List EX) : SM := fun env S => (eArgs ms env S).on env fun xs S1 => match unva xs with
  | some ds => .err env c ds.reverse S1
  | none => .bad
section
variable {X : Cx} {cA : Nat → Addr} {fN : Nat → List Str} {W : WX} {e : Expr} {es : List Expr} {ms : List EX}
theorem unva_len : ∀ {xs : List Rv} {ds : List D}, unva xs = some ds → ds.length = xs.length
  | [], ds, h => by cases h; rfl
  | x :: xs, ds, h => by
    cases x with
    | fr o => cases h
    | va d =>
      unfold unva at h
      cases e : unva xs with
      | none => rw [e] at h; cases h
      | some es =>
        rw [e] at h
        cases h
        rw [List.length_cons, List.length_cons, unva_len e]
theorem passes0 {X : Cx} {E : XK} : Passes CX0 X E := fun _ _ _ _ _ _ _ h => h.elim
theorem del_fld {a C dx : Addr} {fs : List (Str × V)} {H : Hp} {o : HO} (ha : H a = none) (ne : dx ≠ a) : upd (del (fldsTo a C dx fs (upd H a o)) a) dx (.xd fs) = upd H dx (.xd fs) := by
  funext b
  by_cases h1 : b = dx
  · subst h1; rw [upd_same, upd_same]
  · rw [upd_ne h1, upd_ne h1]
    by_cases h2 : b = a
    · subst h2; rw [del_same, ha]
    · rw [del_ne h2]
      unfold fldsTo
      rw [upd_ne h2, upd_ne h1, upd_ne h2]
theorem s_raiseF {x : Str} {fI : Addr} {k c : Nat} {fd : FuncData} {ps names : List Str} {p pos pos2 : Pos} (tk : Takes X W) (T : OexC X.K (cA c)) (iC : PySem.W.findIn X.K (.ref (cA c)) "__init__" = some (some (.ref fI))) (tI : PySem.W.typeIn X.K (.ref fI) = some (.type "function"))
    (F1 : FnOk X.prog X.w X.K X.mg X.base CX0 k fI fd ps (spXi X.K names)) (hr : Room (k + 1) X.A) (hb : Binds X.K fd ps []) (hf : ∀ f ∈ names, PySem.W.findIn X.K (.ref (cA c)) f = some none) (hn : (fN c).take names.length = names.reverse) (hm : X.mg x = some (.ref (cA c)))
    (ha : PA X (e :: es) (TAI (GX X cA fN) W (eArgs ms))) (hlen : ms.length = names.length) (hz : names.length ≤ 900) (hne : names ≠ []) (hc : X.calm = true := by rfl) (hg : Gl X x := by rfl) (hdb : (x == ("__debug__" : Str)) = false := by decide)
    (he : starEach (e :: es) X.env = (false, eval e X.env) :: starEach es X.env := by rfl) (hpl : (backTo pos (starEach es X.env)).any (·.1) = false := by rfl) :
    PS X (.Raise (some (.Call (.Name x p) (e :: es) [] pos)) none pos2) (TSI (GX X cA fN) W (sRaiseF c ms)) :=
  (ps_raise hc tk (pmk_oex T iC tI F1 hr hb .nil passes0 hg hm ha hdb he hpl)).mono fun D σ H h => by
  obtain ⟨r, S, env, hE, hs, hp⟩ := h
  refine ⟨r, S, env, hE, hs, ?_⟩
  unfold sRaiseF at hp
  cases em : eArgs ms env S with
  | bad => rw [em] at hp; exact hp
  | err c' ds S1 => rw [em] at hp; exact fun cls oe r' H' x1 s q => hp cls oe σ r' H' x1 (hE.ext x1) s q
  | ok xs S1 =>
    rw [em] at hp
    intro vs r1 H1 e1 s1 q1
    have hp : PostS (GX X cA fN) W D r H (match unva xs with | some ds => .err env c ds.reverse S1 | none => .bad) := hp
    have hxl : xs.length = ms.length := args_len em
    cases eu : unva xs with
    | none => rw [eu] at hp; exact hp.elim
    | some ds =>
      rw [eu] at hp
      have q := unva_ok q1 eu
      have hvl : vs.length = names.length := by
        rw [q.length, unva_len eu, hxl, hlen]
      refine ⟨by omega, fun a ha => ?_⟩
      rw [List.append_nil]
      refine ⟨a, cA c, vs, rfl, hvl, T, hf, upd_same, fun dx hd ne => ⟨rfl, dx, (names.zip vs).reverse, upd_same, ?_, ?_, ?_⟩⟩
      · unfold fldsTo
        rw [upd_ne ne, upd_same]
      · rw [upd_ne ne] at hd; exact hd
      · rw [upd_ne ne] at hd
        rw [del_fld ha ne]
        have e2 : Ext r1 H1 r1 (upd H1 dx (.xd (names.zip vs).reverse)) := Ext.new hd
        have k2 : ∀ b o, H1 b = some o → upd H1 dx (.xd (names.zip vs).reverse) b = some o := fun b o h => by rw [upd_ne (ne_of_none h hd)]; exact h
        have m1 : (names.zip vs).map (·.1) = names := List.map_fst_zip (by omega)
        have m2 : (names.zip vs).map (·.2) = vs := List.map_snd_zip (by omega)
        refine hp _ (some dx) σ r1 _ (e1.trans e2) ((hE.ext e1).ext e2) (s1.stays k2 e2) ⟨rfl, .inr ⟨dx, (names.zip vs).reverse, rfl, upd_same, notin_lst s1 hd, ?_, ?_⟩⟩
        · rw [List.map_reverse, m1, List.length_reverse, ← q.length, hvl]; exact hn.symm
        · rw [List.map_reverse, m2]; exact (q.reverse).ext e2
end
end Cy
namespace L2
open PySem PySem.Spec PyProof.Rows
/-- err.f, err an exception held fast -/
def tXfF (K : PySem.W.Frag) (f : Str) (te : TE) : TE := fun σ H Q => te σ H fun x H1 => ∃ (a C dd : Addr) (oe : Obj) (fs : List (Str × V)) (v : V), x = .ref a ∧ H1 a = some (.frz oe Cy.exm) ∧ Cy.ExObj C (some dd) oe ∧ H1 dd = some (.xd fs) ∧ XfC K C ∧ PySem.W.findIn K (.ref C) f = some none ∧ fs.lookup f = some v ∧ Q v H1
theorem pe_xfF {X : Cx} {e : Expr} {te : TE} {pos : Pos} {n : Str} (he : PE X e te) (hb : attributeBase e n X.env (eval e X.env) = eval e X.env := by rfl) : PE X (.Attribute e n pos) (tXfF X.K n te) := by
  refine ⟨fun pins s σ H Q I h => ?_⟩
  refine attr_of hb (thn (he.run pins s σ H _ I h) fun u s1 hh => ?_)
  obtain ⟨x, H1, I1, rx, a, C, dd, oe, fs, v, ex, ea, xo, ed, T, hno, l, q⟩ := hh
  subst ex
  obtain rfl : u = Value.ref a := rx
  obtain ⟨ha, _⟩ := (show ObjOk X.prog X.w H1 s1.heap a (.frz oe Cy.exm) from I1.hok a _ ea)
  obtain ⟨z1, z2, vs, hd⟩ := xo
  have hx : ObjOk X.prog X.w H1 s1.heap dd (.xd fs) := I1.hok dd _ ed
  obtain ⟨mA, hns, hr⟩ := hx
  obtain ⟨od, ho, hl⟩ := lookIn_ns hns
  obtain ⟨u, hu, ru⟩ := RelO.some_of (v := v) (o := mA n) (by rw [← l]; exact hr n)
  have J : PySem.W.InstAt s1.heap a oe C (some od) := ⟨ha, z1, by unfold PySem.W.notCls; rw [hd] <;> rfl, by rw [z2]; exact ho⟩
  exact HandSPX.exc_get I1.kIn J T.ga T.gg T.exC (PySem.W.findObj_own T.hdC hno rfl (by rw [hl, hu])) (handed_of ru) ⟨v, H1, I1.tok _, ru, q⟩
end L2
namespace Cy
open PySem L2
def fldX (tbl : List (Nat × Nat)) : Rv → Option D
  | .va (.exn c ds) => (tbl.lookup c).bind fun j => ds[j]?
  | _ => none
def eFldX (tbl : List (Nat × Nat)) (m : EX) : EX := fun env S => (m env S).bind fun x S1 => match fldX tbl x with
  | some d => .ok (.va d) S1
  | none => .bad
section
variable {X : Cx} {cA : Nat → Addr} {fN : Nat → List Str} {W : WX} {e : Expr} {m : EX} {f : Str} {tbl : List (Nat × Nat)} {pos : Pos}
theorem i_fldX (F : FldX (GX X cA fN) f tbl) (h : PE X e (TI (GX X cA fN) W m)) (hb : attributeBase e f X.env (eval e X.env) = eval e X.env := by rfl) : PE X (.Attribute e f pos) (TI (GX X cA fN) W (eFldX tbl m)) := (pe_xfF h hb).mono fun σ H Q h => by
  obtain ⟨r, S, env, he, hs, hp⟩ := h
  refine ⟨r, S, env, he, hs, Post.bind hp fun x S1 v r1 H1 e1 s1 q1 z => ?_⟩
  cases ex : fldX tbl x with
  | none => rw [ex] at z; exact z.elim
  | some d =>
    rw [ex] at z
    unfold fldX at ex
    split at ex
    · rename_i c ds
      cases hj : tbl.lookup c with
      | none => rw [hj] at ex; cases ex
      | some j =>
        rw [hj] at ex
        have ex : ds[j]? = some d := ex
        obtain ⟨T, hno, hfj, nd⟩ := F.ok c j hj
        have q1 : Rep (GX X cA fN) r1 H1 v (.exn c ds) := q1
        cases q1 with
        | exn0 h na x => simp at ex
        | @exnF a dd oe _ fs _ h na xo hd ndd hf q =>
          obtain ⟨w, hw, rw_⟩ := q.get ex
          rw [List.getElem?_map] at hw
          cases hp2 : fs[j]? with
          | none => rw [hp2] at hw; cases hw
          | some p =>
            rw [hp2] at hw
            cases hw
            have hl : fs.map (·.1) = ((GX X cA fN).fN c).take ds.length := hf
            have hjl : j < ds.length := (List.getElem?_eq_some_iff.mp ex).1
            have n1 : (fs.map (·.1)).Nodup := by rw [hl]; exact nd.sublist (List.take_sublist _ _)
            have n2 : p.1 = f := by
              have h1 : (fs.map (·.1))[j]? = some p.1 := by rw [List.getElem?_map, hp2]; rfl
              rw [hl, List.getElem?_take_of_lt hjl] at h1
              have h2 : ((GX X cA fN).fN c)[j]? = some f := hfj
              rw [h2] at h1
              exact (Option.some.inj h1).symm
            exact ⟨a, cA c, dd, oe, fs, p.2, rfl, h, xo, hd, T, hno, look_at n1 hp2 n2, z _ r1 H1 e1 s1 rw_⟩
    · cases ex
end
end Cy
namespace Cy
open PySem L2
section
variable {K : PySem.W.Frag} {x f c : Str}
theorem Fx.xf_ok (h : (Fx.xf x f).ok K = true) : XfC K (He.ga K x) ∧ PySem.W.findIn K (.ref (He.ga K x)) f = some none := by
  obtain ⟨h1, h2⟩ := He.ba h
  exact ⟨xfB_ok h1, He.eqO_ok h2⟩
theorem Fx.ini_ok (h : (Fx.ini x c).ok K = true) : PySem.W.findIn K (.ref (He.ga K x)) "__init__" = some (some (.ref (He.fAd K (c, some "__init__")))) ∧ PySem.W.typeIn K (.ref (He.fAd K (c, some "__init__"))) = some (.type "function") := by
  obtain ⟨h1, h2⟩ := He.ba h
  exact ⟨He.eqO_ok h1, of_decide_eq_true h2⟩
theorem Fx.sup_ok (h : (Fx.sup x).ok K = true) : PySem.W.readsIn K (He.ga K x) (.type "type") = true ∧ PySem.W.specialIn K (.ref (He.ga K x)) "__getattribute__" = some (some (.builtin "type.__getattribute__")) ∧ PySem.W.findCls K (.ref (He.ga K x)) (.type "type") "__init__" = some (.val (.builtin "ValueError.__init__")) := by
  obtain ⟨h1, h2⟩ := He.ba h
  obtain ⟨h2, h3⟩ := He.ba h2
  refine ⟨h1, He.eqO_ok h2, ?_⟩
  unfold supB at h3
  split at h3
  · rename_i n e
    rw [e, beq_iff_eq.mp h3]
  · cases h3
theorem oexB_ok {C : Addr} (q : oexB K C = true) : ∃ nm q N bs bm sn sub ab col dd k0 k1 k2 k3 k5, K.lookup C = some (excClassObj nm q C N bs bm true sn sub ab col dd k0 k1 k2 k3 k5 "ValueError.__new__") ∧ PySem.HandSPX.refsVE bm = true := by
  unfold oexB at q
  split at q
  · rename_i dd cd sl ho
    split at q
    · rename_i C' bm k0 k1 k2 k3 n k5 hm hs
      simp only [Bool.and_eq_true, beq_iff_eq, Bool.not_eq_true'] at q
      obtain ⟨rfl, rfl, hdel, hdict, ht⟩ := q
      obtain ⟨nm, bs, mro, ns, qn, hd, sn, sub, ab, col, del⟩ := cd
      dsimp only at hm hdel hdict
      subst hm hdel hdict
      have hsl : sl = #[k0, k1, k2, k3, some (.builtin "ValueError.__new__"), k5] := by
        obtain ⟨l⟩ := sl
        simp only at hs
        rw [hs]
      subst hsl
      exact ⟨nm, qn, ns, bs, bm, sn, sub, ab, col, dd, k0, k1, k2, k3, k5, ho, ht⟩
    · cases q
  · cases q
theorem Fx.oex_ok (h : (Fx.oex x).ok K = true) : OexC K (He.ga K x) := by
  obtain ⟨h1, h⟩ := He.ba h
  obtain ⟨h2, h⟩ := He.ba h
  obtain ⟨h3, h⟩ := He.ba h
  obtain ⟨h4, h5⟩ := He.ba h
  exact ⟨oexB_ok h1, He.eqO_ok h2, of_decide_eq_true h3, of_decide_eq_true h4, h5⟩
end
/-- an exception class's init, as those that raise it see it -/
structure XIni (P : Program) (w : World) (K : PySem.W.Frag) (mg : Str → Option Value) (base : Heap) (k : Nat) (c : Str) (names : List Str) : Prop where
  got : ∃ (fd : FuncData) (ps : List Str), FnOk P w K mg base CX0 k (He.fAd K (c, some "__init__")) fd ps (spXi K names) ∧ Binds K fd ps []
section
variable {X : Cx} {cA : Nat → Addr} {fN : Nat → List Str} {W : WX} {e : Expr} {es : List Expr} {ms : List EX}
theorem s_raiseC {x b : Str} {k c : Nat} {names : List Str} {p pos pos2 : Pos} (tk : Takes X W) (N : XIni X.prog X.w X.K X.mg X.base k b names) (hr : Room (k + 1) X.A) (eC : cA c = He.ga X.K x) (T : OexC X.K (He.ga X.K x)) (iC : PySem.W.findIn X.K (.ref (He.ga X.K x)) "__init__" = some (some (.ref (He.fAd X.K (b, some "__init__")))) ∧ PySem.W.typeIn X.K (.ref (He.fAd X.K (b, some "__init__"))) = some (.type "function"))
    (hf : ∀ f ∈ names, PySem.W.findIn X.K (.ref (He.ga X.K x)) f = some none) (hn : (fN c).take names.length = names.reverse) (hm : X.mg x = some (.ref (He.ga X.K x)))
    (ha : PA X (e :: es) (TAI (GX X cA fN) W (eArgs ms))) (hlen : ms.length = names.length) (hz : names.length ≤ 900) (hne : names ≠ []) (hc : X.calm = true := by rfl) (hg : Gl X x := by rfl) (hdb : (x == ("__debug__" : Str)) = false := by decide)
    (he : starEach (e :: es) X.env = (false, eval e X.env) :: starEach es X.env := by rfl) (hpl : (backTo pos (starEach es X.env)).any (·.1) = false := by rfl) :
    PS X (.Raise (some (.Call (.Name x p) (e :: es) [] pos)) none pos2) (TSI (GX X cA fN) W (sRaiseF c ms)) := by
  obtain ⟨fd, ps, F, hb⟩ := N.got
  exact s_raiseF tk (by rw [eC]; exact T) (by rw [eC]; exact iC.1) iC.2 F hr hb (by rw [eC]; exact hf) hn (by rw [eC]; exact hm) ha hlen hz hne hc hg hdb he hpl
end
end Cy
set_option Elab.async false
set_option linter.all false
set_option maxRecDepth 100000
set_option maxHeartbeats 2000000
set_option autoImplicit false
namespace PySem
open Builtin Builtin.Str
namespace Txt
/-- the first y in x, if there is one, by z -/
def repl1 (x y z : Str) : Str :=
  if ((occurrences x y 0 x.length 1).isEmpty || (y.length == 0 && z.length == 0)) = true then x
  else glued z (partsBetween x (occurrences x y 0 x.length 1) y.length)
end Txt
theorem gives_str_repl1 (x y z : Str) (t u v i : Tok)
    (hf : ((occurrences x y 0 x.length 1).isEmpty || (y.length == 0 && z.length == 0)) = false →
      (u == 0 || v == 0) = false ∧ (u == v) = false ∧ (y == z) = false ∧ tooLong (x.length + (occurrences x y 0 x.length 1).length * z.length) = false) :
    Gives («str.replace» ⟨[.str x t, .str y u, .str z v, .int 1 i], []⟩) (if ((occurrences x y 0 x.length 1).isEmpty || (y.length == 0 && z.length == 0)) = true then .val (.str x t) else .str (glued z (partsBetween x (occurrences x y 0 x.length 1) y.length))) := by
  show Gives (if ((occurrences x y 0 x.length 1).isEmpty || (y.length == 0 && z.length == 0)) = true then (do rule "str.replace.nothing"; ret (.str x t)) else
          (do let same ← isSame (.str y u) (.str z v)
              if same = true then (do rule "str.replace.old-is-new"; ret (.str x t)) else
              if tooLong (x.length + (occurrences x y 0 x.length 1).length * z.length) = true then unsupported "str.replace:memory" else
              retStr (glued z (partsBetween x (occurrences x y 0 x.length 1) y.length)))) _
  cases hc : ((occurrences x y 0 x.length 1).isEmpty || (y.length == 0 && z.length == 0))
  · obtain ⟨h0, huv, hyz, hl⟩ := hf hc
    rw [isSame_str_other y z u v h0 huv hyz, hl]
    exact .of_eq rfl
  · exact .rule (.of_eq rfl)
end PySem
namespace PySem
open Builtin Builtin.Str
theorem fits_repl1 {x z : Str} (y : Str) (hb : x.length + z.length ≤ 16777216) : (glued z (partsBetween x (occurrences x y 0 x.length 1) y.length)).length ≤ sizeLine := by
  have h1 := StrLaws.occ_length_le x y 0 x.length 1
  have hy : (glued y (partsBetween x (occurrences x y 0 x.length 1) y.length)).length = x.length := by rw [StrLaws.glued_between_self]
  rw [size_glued, length_partsBetween, Nat.add_sub_cancel] at hy
  rw [size_glued, length_partsBetween, Nat.add_sub_cancel, sizeLine_eq]
  have h2 : (occurrences x y 0 x.length 1).length * z.length ≤ 1 * z.length := Nat.mul_le_mul_right _ h1
  omega
theorem Call_method3 {prog : Program} {w : World} {A : Around} {E : Value → Shared → Prop} {s : Shared} {env : Env} {o e₁ e₂ e₃ : Expr} {name : Str} {apos pos : Pos} {Q : Value → Shared → Prop}
    (hbase : attributeBase o name env (eval o env) = eval o env) (hs : starEach [e₁, e₂, e₃] env = [(false, eval e₁ env), (false, eval e₂ env), (false, eval e₃ env)]) (hline : (apos.endLine == pos.line) = true)
    (h : wpAny (model prog w) A (eval o env) (fun ov s₁ => MethodOnS prog w A E name ov pos [(false, eval e₁ env), (false, eval e₂ env), (false, eval e₃ env)] Q s₁) E s) :
    wpAny (model prog w) A (eval (.Call (.Attribute o name apos) [e₁, e₂, e₃] [] pos) env) Q E s := by
  refine wpAny_Call_method_lateS hbase (by rw [hs]; rfl) hline ?_
  rw [hs]; exact h
section
variable {prog : Program} {w : World} {A : Around} {E : Value → Shared → Prop} {s : Shared} {x y z : Str} {t u v i : Tok} {Q : Value → Shared → Prop}
theorem SC.repl1 (hu : u ≠ 0) (hv : v ≠ 0) (huv : u ≠ v) (hyz : (y == z) = false) (hb : x.length + z.length ≤ 16777216)
    (hq : ∀ t' k, Q (.str (Txt.repl1 x y z) t') { s with toks := k }) : wpAny (model prog w) A (call (.builtin "str.replace") [.str x t, .str y u, .str z v, .int 1 i]) Q E s := by
  have e : (2 : Nat) ^ 24 = 16777216 := by decide
  have hl : tooLong (x.length + (occurrences x y 0 x.length 1).length * z.length) = false := by
    have h1 := StrLaws.occ_length_le x y 0 x.length 1
    have h2 : (occurrences x y 0 x.length 1).length * z.length ≤ 1 * z.length := Nat.mul_le_mul_right _ h1
    unfold tooLong sizeLine
    exact decide_eq_false (by omega)
  refine call_gives F.slot_str_replace (typeIs_str _ _ _) F.entry_str_replace (F.args_str_replace_4 _ _ _ _)
    (gives_str_repl1 x y z t u v i fun _ => ⟨by simp [hu, hv], by simp [huv], hyz, hl⟩) ?_
  have hq' := hq
  unfold Txt.repl1 at hq'
  cases hc : ((occurrences x y 0 x.length 1).isEmpty || (y.length == 0 && z.length == 0))
  · rw [hc] at hq'
    simp only [Bool.false_eq_true, if_false] at hq' ⊢
    exact ⟨fits_repl1 y hb, hq' _ _⟩
  · rw [hc] at hq'
    simp only [if_true] at hq' ⊢
    exact hq' t s.toks
end
end PySem
namespace Cy
open PySem PySem.Spec PyProof.Rows L2
def PEO (X : Cx) (e : Expr) (t : TE) : Prop :=
  ∀ (pins : List (Addr × Obj)) (s : Shared) (σ : L2.St) (H : Hp) (Q : VK), Inv X pins σ H s → t σ H Q → wpAny (model X.prog X.w) X.A (eval e X.env) (fun v s1 => 1 ≤ s1.toks ∧ EP X pins σ Q v s1) X.xe s
def tRepl1 (to : TE) (y z : Str) : TE := fun σ H Q => to σ H fun v H1 => ∃ x, v = .str x ∧ x.length + z.length ≤ 16777216 ∧ Q (.str (Txt.repl1 x y z)) H1
section
variable {X : Cx} {o e f : Expr} {te tf : TE} {to : TE} {y z : Str} {j k l : Nat} {c0 c1 c2 apos pos p p' : Pos}
theorem pet_repl1 (ho : PE X o to) (hyz : (y == z) = false := by decide)
    (hst : starEach [.Constant (.str y) j c0, .Constant (.str z) k c1, .Constant (.int 1) l c2] X.env = [(false, eval (.Constant (.str y) j c0) X.env), (false, eval (.Constant (.str z) k c1) X.env), (false, eval (.Constant (.int 1) l c2) X.env)] := by rfl)
    (hbase : attributeBase o "replace" X.env (eval o X.env) = eval o X.env := by rfl) (hline : (apos.endLine == pos.line) = true := by rfl) :
    PET X (.Call (.Attribute o "replace" apos) [.Constant (.str y) j c0, .Constant (.str z) k c1, .Constant (.int 1) l c2] [] pos) (tRepl1 to y z) := by
  intro pins s σ H Q h0 I h
  refine Call_method3 hbase hst hline (wpAny_mono (PySem.wpAny_toks (ho.run pins s σ H _ I h)) (fun v s1 q => ?_) fun _ _ z => z.2)
  obtain ⟨hk, v', H1, I1, r1, x, e1, hb, q⟩ := q
  subst e1
  obtain ⟨tx, e2⟩ := r1
  subst e2
  refine ⟨"str", _, PySem.F.plainAttrs_str, PySem.F.slot_str_replace, PySem.F.type_str_replace, typeIs_str _ _ _, (fun _ e => nomatch e), Calls.callWith_builtin rfl (Calls.evalArgs_plain (Calls.spliced_cons ?_))⟩
  refine Calls.Constant_str (Calls.spliced_cons (Calls.Constant_str (Calls.spliced_cons (wpAny_Constant_int (Calls.spliced_nil ?_)))))
  exact PySem.SC.repl1 (by show s1.toks ≠ 0; omega) (by show s1.toks + 1 ≠ 0; omega) (by show s1.toks ≠ s1.toks + 1; omega) hyz hb fun t' k => ⟨.str (Txt.repl1 x y z), H1, I1.tok k, ⟨t', rfl⟩, q⟩
def PAO (X : Cx) (es : List Expr) (t : TA) : Prop :=
  ∀ (pos : Pos) (pins : List (Addr × Obj)) (s : Shared) (σ : L2.St) (H : Hp) (Q : List V → Hp → Prop), Inv X pins σ H s → t σ H Q → wpAny (model X.prog X.w) X.A (spliced (backTo pos (starEach es X.env))) (fun us s1 => 1 ≤ s1.toks ∧ AP X pins σ Q us s1) X.xe s
def PSO (X : Cx) (st : Stmt) (t : TS) : Prop :=
  ∀ (pins : List (Addr × Obj)) (s : Shared) (σ : L2.St) (H : Hp) (D : Ends), Inv X pins σ H s → t D σ H → wpAny (model X.prog X.w) X.A (exec st X.env) (fun f s1 => 1 ≤ s1.toks ∧ SP X pins D f s1) X.xe s
theorem peo_bm {T : String} {name : Str} {id : String} {r : V → List V → Hp → VK → Prop} {es : List Expr} {t : TA} {cpos : Pos} (pa : PlainAttrs T) (slot : Slot T name id) (hty : typeOf (.builtin id) = pure (.type "method_descriptor")) (hm : MtR X id r) (ho : PE X o to) (ha : PAO X (e :: es) t)
    (hbase : attributeBase o name X.env (eval o X.env) = eval o X.env := by rfl)
    (hfew : ((backTo cpos (starEach (e :: es) X.env)).all (fun x => !x.1) && (backToKw cpos (keywordEach [] X.env)).all (fun x => x.1.isSome)
      && decide ((e :: es).length + ([] : List Keyword).length + (if ([] : List Keyword).isEmpty then 0 else 1) < 30)) = true := by rfl)
    (hline : (apos.endLine == cpos.line) = true := by rfl) (hs : starEach (e :: es) X.env = (false, eval e X.env) :: starEach es X.env := by rfl) (hplain : (backTo cpos (starEach es X.env)).any (·.1) = false := by rfl) :
    PEO X (.Call (.Attribute o name apos) (e :: es) [] cpos) (tBM X.K T r to t) := by
  intro pins s σ H Q I h
  refine wpAny_Call_method_late hbase hfew hline rfl (thn (ho.run pins s σ H _ I h) fun v s1 ⟨x, H1, I1, r1, ty, q1⟩ => ?_)
  obtain ⟨h1, h2⟩ := tyV_is I1 r1 ty
  refine ⟨T, id, pa, slot, hty, h1, h2, ?_⟩
  have hA := ha cpos pins s1 σ H1 _ I1 q1
  rw [hs] at hA ⊢
  refine Calls.callWith_builtin (by show (false || (backTo cpos (starEach es X.env)).any (·.1)) = false; rw [hplain] <;> rfl) (Calls.evalArgs_plain ?_)
  refine wpAny_mono hA (fun us s2 q => ?_) fun _ _ z => z
  obtain ⟨hk, vs, H2, I2, r2, q2⟩ := q
  exact wpAny_mono (PySem.wpAny_toks_of hk (hm pins s2 σ H2 x vs v us Q I2 r1 r2 q2)) (fun _ _ q => q) fun _ _ z => z.2
theorem pso_set {i : Nat} {x : Str} {pos' : Pos} (hN : X.N.Nodup) (hi : X.N[i]? = some x) (hx : Loc X.env.scope x) (he : PEO X e te) (hs : swapsWith e (some (.Name x pos')) pos.line X.env = pure false := by rfl) (hf : X.fn x = true ∨ X.env.scope.names.lookup x = some .local := by first | exact .inl rfl | exact .inr rfl | assumption) :
    PSO X (.Assign [.Name x pos'] e pos) (tAsg te (gName i)) := by
  intro pins s σ H D I h
  refine wpAny_Assign_Name (wpAny_mono (he pins s σ H _ I h) (fun v s1 q => ?_) fun _ _ z => z) hs
  obtain ⟨hk, y, H1, I1, r1, q1⟩ := q
  exact wpAny_mono (PySem.wpAny_toks_of hk (store_ok (Q := fun _ s2 => SP X pins D .next s2) I1 hN hi hx r1 (fun s2 I2 => ⟨_, H1, I2, q1⟩) hf)) (fun _ _ q => q) fun _ _ z => z.2
theorem pst_set {i : Nat} {x : Str} {pos' : Pos} (hN : X.N.Nodup) (hi : X.N[i]? = some x) (hx : Loc X.env.scope x) (he : PET X e te) (hs : swapsWith e (some (.Name x pos')) pos.line X.env = pure false := by rfl) (hf : X.fn x = true ∨ X.env.scope.names.lookup x = some .local := by first | exact .inl rfl | exact .inr rfl | assumption) :
    PST X (.Assign [.Name x pos'] e pos) (tAsg te (gName i)) := by
  intro pins s σ H D h0 I h
  refine wpAny_Assign_Name (thn (he pins s σ H _ h0 I h) fun v s1 ⟨y, H1, I1, r1, q1⟩ => ?_) hs
  exact store_ok I1 hN hi hx r1 (fun s2 I2 => ⟨_, H1, I2, q1⟩) hf
theorem pss_consO {st : Stmt} {rest : List Stmt} {t u : TS} (h1 : PSO X st t) (h2 : PSsT X rest u) : PSs X (st :: rest) (tSeq t u) := by
  refine ⟨fun pins s σ H D I h => ?_⟩
  refine wpAny_execs_cons (wpAny_mono (h1 pins s σ H { D with nx := u D } I h) (fun f s1 q => ?_) fun _ _ z => z)
  obtain ⟨hk, q⟩ := q
  cases f with
  | next =>
    obtain ⟨σ', H', I', q⟩ := q
    exact h2 pins s1 σ' H' D hk I' q
  | ret v => exact q
  | brk => exact q
  | cont => exact q
theorem PET.mono {t t' : TE} (h : PET X e t) (k : ∀ σ H Q, t' σ H Q → t σ H Q) : PET X e t' := fun pins s σ H Q h0 I q => h pins s σ H Q h0 I (k σ H Q q)
theorem PEO.mono {t t' : TE} (h : PEO X e t) (k : ∀ σ H Q, t' σ H Q → t σ H Q) : PEO X e t' := fun pins s σ H Q I q => h pins s σ H Q I (k σ H Q q)
theorem PAT.mono {es : List Expr} {t t' : TA} (h : PAT X es t) (k : ∀ σ H Q, t' σ H Q → t σ H Q) : PAT X es t' := fun pos pins s σ H Q h0 I q => h pos pins s σ H Q h0 I (k σ H Q q)
theorem PAO.mono {es : List Expr} {t t' : TA} (h : PAO X es t) (k : ∀ σ H Q, t' σ H Q → t σ H Q) : PAO X es t' := fun pos pins s σ H Q I q => h pos pins s σ H Q I (k σ H Q q)
theorem PST.mono {st : Stmt} {t t' : TS} (h : PST X st t) (k : ∀ D σ H, t' D σ H → t D σ H) : PST X st t' := fun pins s σ H D h0 I q => h pins s σ H D h0 I (k D σ H q)
theorem PSO.mono {st : Stmt} {t t' : TS} (h : PSO X st t) (k : ∀ D σ H, t' D σ H → t D σ H) : PSO X st t' := fun pins s σ H D I q => h pins s σ H D I (k D σ H q)
theorem PSsT.mono {st : List Stmt} {t t' : TS} (h : PSsT X st t) (k : ∀ D σ H, t' D σ H → t D σ H) : PSsT X st t' := fun pins s σ H D h0 I q => h pins s σ H D h0 I (k D σ H q)
end
section
variable {X : Cx} {cA : Nat → Addr} {fN : Nat → List Str} {W : WX} {e o a b : Expr} {es : List Expr} {pos p apos : Pos} {m mo ma mb : EX} {ms : List EX} {x : Str} {st : Stmt} {rest : List Stmt} {sm sn : SM}
def pOne (g : Str → Option Str) : Sto → List Rv → Option Rv := fun _ xs => match xs with
  | [.va (.str a)] => (g a).map fun b => .va (.str b)
  | _ => none
theorem ok_one {G : Cfg} {C : Str → Prop} {f : Str → Str} {g : Str → Option Str} (hg : ∀ a b, g a = some b → C a ∧ b = f a) : Pure1 G (L21 fun v H Q => ∃ a, v = .str a ∧ C a ∧ Q (.str (f a)) H) (pOne g) := by
  intro r H0 H S xs z vs Q s b q e k
  unfold pOne at e
  split at e
  · rename_i a
    obtain ⟨y, hy, e⟩ := Option.map_eq_some_iff.mp e
    obtain ⟨hc, rfl⟩ := hg a y hy
    cases e
    obtain ⟨v, rfl, q1⟩ := reps1 q
    cases q1
    exact ⟨_, rfl, a, rfl, hc, fin_same k (.str _)⟩
  · cases e
def gRepl1 (y z : Str) (a : Str) : Option Str := if a.length + z.length ≤ 16777216 then some (Txt.repl1 a y z) else none
def gUpper (a : Str) : Option Str := if a.length ≤ 5592405 then some (Txt.upper a) else none
theorem ok_repl1 {G : Cfg} {y z : Str} : Pure1 G (L21 fun v H Q => ∃ a, v = .str a ∧ a.length + z.length ≤ 16777216 ∧ Q (.str (Txt.repl1 a y z)) H) (pOne (gRepl1 y z)) := ok_one (C := fun a => a.length + z.length ≤ 16777216) (f := fun a => Txt.repl1 a y z) fun a b h => by
  unfold gRepl1 at h
  split at h
  · rename_i q
    cases h
    exact ⟨q, rfl⟩
  · cases h
theorem ok_upper {G : Cfg} : Pure1 G (L21 fun v H Q => ∃ a, v = .str a ∧ a.length ≤ 5592405 ∧ Q (.str (Txt.upper a)) H) (pOne gUpper) := ok_one (C := fun a => a.length ≤ 5592405) (f := fun a => Txt.upper a) fun a b h => by
  unfold gUpper at h
  split at h
  · rename_i q
    cases h
    exact ⟨q, rfl⟩
  · cases h
theorem i_repl1 {y z : Str} {j k l : Nat} {c0 c1 c2 : Pos} (ho : PE X o (TI (GX X cA fN) W mo)) (hyz : (y == z) = false := by decide)
    (hst : starEach [.Constant (.str y) j c0, .Constant (.str z) k c1, .Constant (.int 1) l c2] X.env = [(false, eval (.Constant (.str y) j c0) X.env), (false, eval (.Constant (.str z) k c1) X.env), (false, eval (.Constant (.int 1) l c2) X.env)] := by rfl)
    (hbase : attributeBase o "replace" X.env (eval o X.env) = eval o X.env := by rfl) (hline : (apos.endLine == pos.line) = true := by rfl) :
    PET X (.Call (.Attribute o "replace" apos) [.Constant (.str y) j c0, .Constant (.str z) k c1, .Constant (.int 1) l c2] [] pos) (TI (GX X cA fN) W (eP (lift (pOne (gRepl1 y z))) [mo])) := PET.mono (pet_repl1 ho hyz hst hbase hline) fun _ _ _ h => one_of ok_repl1.ok (fun _ _ _ k => k) h
theorem i_opT {op : Operator} {ro : R2} {f : Prim} (ho : OpR X (binaryOp op) ro) (P : PrimOk (GX X cA fN) (L22 ro) f) (ha : PET X a (TI (GX X cA fN) W ma)) (hb : PET X b (TI (GX X cA fN) W mb)) :
    PET X (.BinOp a op b pos) (TI (GX X cA fN) W (eP f [ma, mb])) := PET.mono (CwR.pet_op ho ha hb) fun _ _ _ h => two_of P (fun _ _ _ k => k) h
theorem i_upper (ho : PE X o (TI (GX X cA fN) W mo)) (hbase : attributeBase o "upper" X.env (eval o X.env) = eval o X.env := by rfl) (hline : (apos.endLine == pos.line) = true := by rfl) :
    PE X (.Call (.Attribute o "upper" apos) [] [] pos) (TI (GX X cA fN) W (eP (lift (pOne gUpper)) [mo])) := (pe_upper ho hbase hline).mono fun σ H Q h =>
  one_of (ro := fun v H1 Q1 => (∃ a, v = .str a) ∧ ∃ a, v = .str a ∧ ([] : List V) = [] ∧ a.length ≤ 5592405 ∧ Q1 (.str (Txt.upper a)) H1) (ok_upper (G := GX X cA fN)).ok (fun vs H Q ⟨x, e, a, e1, c, q⟩ => ⟨x, e, ⟨a, e1⟩, a, e1, rfl, c, q⟩) h
theorem icO_str {y : Str} {j : Nat} : PEO X (.Constant (.str y) j pos) (TI (GX X cA fN) W (eC (.str y))) := PEO.mono (t := tC (.str y)) (fun pins s σ H Q I h => Calls.Constant_str ⟨(by show 1 ≤ s.toks + 1; omega), .str y, H, I.tok _, ⟨_, rfl⟩, h⟩) fun σ H Q h => by
  obtain ⟨r, S, env, he, hs, hp⟩ := h
  exact hp _ r H (Ext.refl r H) hs (.str y)
theorem pao_cons {te : TE} {ta : TA} (ha : PEO X e te) (hr : PA X es ta) (hs : starEach (e :: es) X.env = (false, eval e X.env) :: starEach es X.env := by rfl) : PAO X (e :: es) (tCons te ta) := by
  intro pos pins s σ H Q I h
  rw [hs]
  show wpAny _ _ (spliced ((false, eval e X.env) :: backTo pos (starEach es X.env))) _ _ s
  refine Calls.spliced_cons (wpAny_mono (ha pins s σ H _ I h) (fun v s1 q => ?_) fun _ _ z => z)
  obtain ⟨hk, x, H1, I1, r1, q1⟩ := q
  refine wpAny_mono (PySem.wpAny_toks_of hk (hr.run pos pins s1 σ H1 _ I1 q1)) (fun us s2 q => ?_) fun _ _ z => z.2
  obtain ⟨hk2, xs, H2, I2, r2, q2⟩ := q
  exact ⟨hk2, x :: xs, H2, I2, .cons r1 r2, q2⟩
theorem cons_of {G : Cfg} {m : EX} {ms : List EX} {σ : L2.St} {H : Hp} {Q : List V → Hp → Prop} (h : TAI G W (eArgs (m :: ms)) σ H Q) : tCons (TI G W m) (TAI G W (eArgs ms)) σ H Q := by
  obtain ⟨r, S, env, he, hs, hp⟩ := h
  refine ⟨r, S, env, he, hs, Post.bind hp fun x S1 v r1 H1 e1 s1 q1 z => ?_⟩
  refine ⟨r1, S1, env, he.ext e1, s1, Post.bind (z.shift e1 (R' := RVs _ H) fun _ _ _ _ k => k) fun xs S2 vs r2 H2 e2 s2 q2 z2 => ?_⟩
  exact z2 (v :: vs) r2 H2 (Ext.refl r2 H2 |> fun k => e2.trans k) s2 (.cons (q1.ext e2) (q2.from fun _ => e1.back))
theorem iaO_cons {ms : List EX} (h : PEO X e (TI (GX X cA fN) W m)) (t : PA X es (TAI (GX X cA fN) W (eArgs ms))) (hs : starEach (e :: es) X.env = (false, eval e X.env) :: starEach es X.env := by rfl) :
    PAO X (e :: es) (TAI (GX X cA fN) W (eArgs (m :: ms))) := PAO.mono (pao_cons h t hs) fun _ _ _ h => cons_of h
theorem iaT_cons {ms : List EX} (h : PET X e (TI (GX X cA fN) W m)) (t : PAT X es (TAI (GX X cA fN) W (eArgs ms))) (hs : starEach (e :: es) X.env = (false, eval e X.env) :: starEach es X.env := by rfl) :
    PAT X (e :: es) (TAI (GX X cA fN) W (eArgs (m :: ms))) := PAT.mono (pat_cons h t hs) fun _ _ _ h => cons_of h
theorem iaT_nil : PAT X [] (TAI (GX X cA fN) W (eArgs [])) := PAT.mono pat_nil fun σ H Q h => by
  obtain ⟨r, S, env, he, hs, hp⟩ := h
  exact hp [] r H (Ext.refl r H) hs .nil
theorem i_lstT (h : PAT X es (TAI (GX X cA fN) W (eArgs ms))) : PET X (.List es pos) (TI (GX X cA fN) W (eLst ms)) := PET.mono (pet_lst h) fun σ H Q h => by
  obtain ⟨r, S, env, he, hs, hp⟩ := h
  refine ⟨r, S, env, he, hs, Post.bind hp fun xs S1 vs r1 H1 e1 s1 q1 z => ?_⟩
  cases eu : unva xs with
  | none => rw [eu] at z; exact z.elim
  | some ds =>
    rw [eu] at z
    dsimp only at z
    split at z
    · rename_i hz
      have q := unva_ok q1 eu
      exact ⟨by rw [q.length]; exact hz, fin_lst (H0 := H) s1 (fun p hp => e1.back hp) (fun v H' x st q => z v r1 H' (e1.trans x) (s1.stays st x) q) q⟩
    · exact z.elim
theorem i_msO {name : Str} {id : String} {rm : V → List V → Hp → VK → Prop} {f : Prim} (slot : Slot "str" name id) (hty : typeOf (.builtin id) = pure (.type "method_descriptor")) (hm : MtR X id rm) (P : PrimOk (GX X cA fN) (rdM rm) f)
    (ho : PE X o (TI (GX X cA fN) W mo)) (ha : PAO X (e :: es) (TAI (GX X cA fN) W (eArgs ms)))
    (hbase : attributeBase o name X.env (eval o X.env) = eval o X.env := by rfl)
    (hfew : ((backTo pos (starEach (e :: es) X.env)).all (fun x => !x.1) && (backToKw pos (keywordEach [] X.env)).all (fun x => x.1.isSome)
      && decide ((e :: es).length + ([] : List Keyword).length + (if ([] : List Keyword).isEmpty then 0 else 1) < 30)) = true := by rfl)
    (hline : (apos.endLine == pos.line) = true := by rfl) (hs : starEach (e :: es) X.env = (false, eval e X.env) :: starEach es X.env := by rfl) (hplain : (backTo pos (starEach es X.env)).any (·.1) = false := by rfl) :
    PEO X (.Call (.Attribute o name apos) (e :: es) [] pos) (TI (GX X cA fN) W (eM (fun _ x => isS x) f mo ms)) := PEO.mono (peo_bm PySem.F.plainAttrs_str slot hty hm ho ha hbase hfew hline hs hplain) fun _ _ _ h => m_of (fun _ _ _ _ _ _ s q t => tyS_ok s q t) P h
theorem s_setO (i : Nat) {x : Str} {pos' : Pos} (hN : X.N.Nodup) (h : PEO X e (TI (GX X cA fN) W m)) (hi : X.N[i]? = some x := by rfl) (hx : Loc X.env.scope x := by first | exact Or.inl rfl | exact Or.inr rfl) (hs : swapsWith e (some (.Name x pos')) pos.line X.env = pure false := by rfl) (hf : X.fn x = true ∨ X.env.scope.names.lookup x = some .local := by first | exact .inl rfl | exact .inr rfl | assumption) :
    PSO X (.Assign [.Name x pos'] e pos) (TSI (GX X cA fN) W (sAsg (.name i) m)) := PSO.mono (pso_set hN hi hx h hs hf) fun _ _ _ h => asg_of (tg_name i) h
theorem s_setT (i : Nat) {x : Str} {pos' : Pos} (hN : X.N.Nodup) (h : PET X e (TI (GX X cA fN) W m)) (hi : X.N[i]? = some x := by rfl) (hx : Loc X.env.scope x := by first | exact Or.inl rfl | exact Or.inr rfl) (hs : swapsWith e (some (.Name x pos')) pos.line X.env = pure false := by rfl) (hf : X.fn x = true ∨ X.env.scope.names.lookup x = some .local := by first | exact .inl rfl | exact .inr rfl | assumption) :
    PST X (.Assign [.Name x pos'] e pos) (TSI (GX X cA fN) W (sAsg (.name i) m)) := PST.mono (pst_set hN hi hx h hs hf) fun _ _ _ h => asg_of (tg_name i) h
theorem ss_consO (h : PSO X st (TSI (GX X cA fN) W sm)) (k : PSsT X rest (TSI (GX X cA fN) W sn)) : PSs X (st :: rest) (TSI (GX X cA fN) W (sSeq sm sn)) := (pss_consO h k).mono fun D σ H h => by
  obtain ⟨r, S, env, he, hs, hp⟩ := h
  exact ⟨r, S, env, he, hs, hp.then⟩
theorem ssT_cons (h : PST X st (TSI (GX X cA fN) W sm)) (k : PSsT X rest (TSI (GX X cA fN) W sn)) : PSsT X (st :: rest) (TSI (GX X cA fN) W (sSeq sm sn)) := PSsT.mono (psst_cons h k) fun D σ H h => by
  obtain ⟨r, S, env, he, hs, hp⟩ := h
  exact ⟨r, S, env, he, hs, hp.then⟩
theorem fz_of {σ : L2.St} {H : Hp} {Q : VK} (h : TI (GX X cA fN) W (eFz m) σ H Q) : TI (GX X cA fN) W m σ H Q ∨ tFrz (TI (GX X cA fN) W m) σ H Q := by
  obtain ⟨r, S, env, he, hs, hp⟩ := h
  unfold eFz at hp
  cases em : m env S with
  | bad => rw [em] at hp; exact hp.elim
  | err c ds S1 =>
    rw [em] at hp
    exact .inl ⟨r, S, env, he, hs, by rw [em]; exact hp⟩
  | ok x S1 =>
    rw [em] at hp
    have keep : frzD x = x → (TI (GX X cA fN) W m σ H Q ∨ tFrz (TI (GX X cA fN) W m) σ H Q) := fun ex => .inl ⟨r, S, env, he, hs, by
      rw [em]
      rw [Rs.bind_ok, ex] at hp
      exact hp⟩
    cases x with
    | va d => exact keep rfl
    | fr o =>
      cases o with
      | dct kvs => exact keep rfl
      | lck _ => exact keep rfl
      | lst ds =>
        refine .inr ⟨r, S, env, he, hs, ?_⟩
        rw [em]
        intro v r1 H1 e1 s1 q1
        obtain ⟨a, rfl, h0, na, vs, hv, rv⟩ := q1
        refine ⟨a, _, rfl, hv, trivial, fun od => ?_⟩
        exact hp (.ref a) r1 _ (frz_ext e1 h0) (s1.poke hv trivial na) (.frl (vs := vs) (.inl ⟨⟨od, upd_same⟩, na⟩) (rv.poke hv trivial))
      | ins c ds =>
        refine .inr ⟨r, S, env, he, hs, ?_⟩
        rw [em]
        intro v r1 H1 e1 s1 q1
        obtain ⟨a, rfl, h0, na, dx, fs, hv, hf, rv⟩ := q1
        refine ⟨a, _, rfl, hv, trivial, fun od => ?_⟩
        exact hp (.ref a) r1 _ (frz_ext e1 h0) (s1.poke hv trivial na) (.obj (o := od) (dx := dx) (fs := fs) upd_same na hf (rv.poke hv trivial))
theorem i_fzT (h : PET X e (TI (GX X cA fN) W m)) : PET X e (TI (GX X cA fN) W (eFz m)) := by
  intro pins s σ H Q h0 I hw
  rcases fz_of hw with hw | hw
  · exact h pins s σ H Q h0 I hw
  · refine thn (h pins s σ H _ h0 I hw) fun v s1 ⟨x, H1, I1, rx, d, u, ex, hd, mu, q⟩ => ?_
    obtain ⟨od, I2⟩ := I1.lock hd mu
    exact ⟨x, _, I2, rx, q od⟩
theorem i_fzO (h : PEO X e (TI (GX X cA fN) W m)) : PEO X e (TI (GX X cA fN) W (eFz m)) := by
  intro pins s σ H Q I hw
  rcases fz_of hw with hw | hw
  · exact h pins s σ H Q I hw
  · refine wpAny_mono (h pins s σ H _ I hw) (fun v s1 ⟨hk, x, H1, I1, rx, d, u, ex, hd, mu, q⟩ => ?_) fun _ _ z => z
    obtain ⟨od, I2⟩ := I1.lock hd mu
    exact ⟨hk, x, _, I2, rx, q od⟩
end
end Cy
set_option Elab.async false
set_option linter.all false
set_option maxRecDepth 100000
set_option maxHeartbeats 2000000
set_option autoImplicit false
namespace Cy
open PySem L2
structure Asn where
  holds : List Nat → Sto → Prop
  loc : ∀ fp (S S' : Sto), (∀ n ∈ fp, S'[n]? = S[n]?) → holds fp S → holds fp S'
  bd : ∀ fp S, holds fp S → ∀ n ∈ fp, n < S.length
/-- an object at its place -/
def pt (n : Nat) (o : Ob) : Asn := ⟨fun fp S => fp = [n] ∧ S[n]? = some o, fun fp S S' h ⟨e, q⟩ => ⟨e, by subst e; rw [h n (List.mem_singleton.mpr rfl)]; exact q⟩, fun fp S ⟨e, q⟩ m hm => by subst e; rw [List.mem_singleton.mp hm]; exact (List.getElem?_eq_some_iff.mp q).1⟩
inductive Fit : List Asn → List (List Nat) → Sto → Prop where
  | nil {S : Sto} : Fit [] [] S
  | cons {a : Asn} {A : List Asn} {fp : List Nat} {fps : List (List Nat)} {S : Sto} (h : a.holds fp S) (t : Fit A fps S) : Fit (a :: A) (fp :: fps) S
/-- what a body found: the store, and the places in it that it was handed to change -/
structure Bs where
  S : Sto
  M : List Nat
abbrev bs (S : Sto) : Bs := ⟨S, []⟩
/-- later: what was not handed on stands -/
structure Kp (B : Bs) (S : Sto) : Prop where
  len : B.S.length ≤ S.length
  at_ : ∀ n, n < B.S.length → n ∉ B.M → S[n]? = B.S[n]?
theorem Kp.app {S0 S : Sto} (h : Kp (bs S0) S) : ∃ T, S = S0 ++ T := by
  refine ⟨S.drop S0.length, ?_⟩
  apply List.ext_getElem?
  intro n
  by_cases hn : n < S0.length
  · rw [List.getElem?_append_left hn]; exact h.at_ n hn (by simp)
  · rw [List.getElem?_append_right (Nat.le_of_not_lt hn), List.getElem?_drop, Nat.add_sub_of_le (Nat.le_of_not_lt hn)]
theorem kp_app (S T : Sto) : Kp (bs S) (S ++ T) := ⟨by simp, fun n hn _ => by rw [List.getElem?_append_left hn]⟩
theorem Kp.refl (B : Bs) : Kp B B.S := ⟨Nat.le_refl _, fun _ _ _ => rfl⟩
structure Sat (S0 : Bs) (A : List Asn) (S : Sto) : Prop where
  pre : Kp S0 S
  own : ∃ fps, Fit A fps S ∧ fps.flatten.Nodup ∧ ∀ n ∈ fps.flatten, S0.S.length ≤ n ∨ n ∈ S0.M
theorem Fit.loc {A : List Asn} {fps : List (List Nat)} {S S' : Sto} (h : Fit A fps S) (k : ∀ n ∈ fps.flatten, S'[n]? = S[n]?) : Fit A fps S' := by
  induction h with
  | nil => exact .nil
  | cons h t ih =>
    refine .cons (Asn.loc _ _ _ _ (fun n hn => k n ?_) h) (ih fun n hn => k n ?_)
    · rw [List.flatten_cons]; exact List.mem_append_left _ hn
    · rw [List.flatten_cons]; exact List.mem_append_right _ hn
theorem Fit.bd {A : List Asn} {fps : List (List Nat)} {S : Sto} (h : Fit A fps S) : ∀ n ∈ fps.flatten, n < S.length := by
  induction h with
  | nil => intro n hn; simp at hn
  | cons h t ih =>
    intro n hn
    rw [List.flatten_cons, List.mem_append] at hn
    rcases hn with hn | hn
    · exact Asn.bd _ _ _ h n hn
    · exact ih n hn
theorem Fit.get {A : List Asn} {fps : List (List Nat)} {S : Sto} (h : Fit A fps S) : ∀ {j : Nat} {a : Asn}, A[j]? = some a → ∃ fp, fps[j]? = some fp ∧ a.holds fp S := by
  induction h with
  | nil => intro j a e; simp at e
  | cons h t ih =>
    intro j a e
    cases j with
    | zero => simp at e; subst e; exact ⟨_, rfl, h⟩
    | succ j => obtain ⟨fp, h1, h2⟩ := ih (j := j) (by simpa using e); exact ⟨fp, by simpa using h1, h2⟩
theorem Sat.start0 (B : Bs) : Sat B [] B.S := ⟨Kp.refl B, [], .nil, by simp, by simp⟩
theorem Sat.start (S : Sto) : Sat (bs S) [] S := Sat.start0 (bs S)
variable {S0 : Bs} {S : Sto} {A : List Asn}
theorem Sat.tl {a : Asn} (h : Sat S0 (a :: A) S) : Sat S0 A S := by
  obtain ⟨fps, f, nd, lo⟩ := h.own
  cases f with
  | cons h1 t => exact ⟨h.pre, _, t, (List.nodup_append.mp (by simpa using nd)).2.1, fun n hn => lo n (by rw [List.flatten_cons]; exact List.mem_append_right _ hn)⟩
theorem Kp.grow (h : Kp S0 S) (T : Sto) : Kp S0 (S ++ T) := ⟨by rw [List.length_append]; exact Nat.le_trans h.len (Nat.le_add_right _ _), fun n hn hm => by
  rw [List.getElem?_append_left (Nat.lt_of_lt_of_le hn h.len)]; exact h.at_ n hn hm⟩
theorem Sat.grow (h : Sat S0 A S) (T : Sto) : Sat S0 A (S ++ T) := by
  obtain ⟨fps, f, nd, lo⟩ := h.own
  exact ⟨h.pre.grow T, fps, f.loc fun n hn => by rw [List.getElem?_append_left (f.bd n hn)], nd, lo⟩
theorem Sat.len (h : Sat S0 A S) : S0.S.length ≤ S.length := h.pre.len
theorem Sat.new (h : Sat S0 A S) (o : Ob) : Sat S0 (pt S.length o :: A) (S ++ [o]) := by
  have hl := h.len
  have g := h.grow [o]
  obtain ⟨fps, f, nd, lo⟩ := h.own
  refine ⟨g.pre, [S.length] :: fps, .cons ⟨rfl, by simp⟩ (f.loc fun n hn => by rw [List.getElem?_append_left (f.bd n hn)]), ?_, ?_⟩
  · rw [List.flatten_cons, List.nodup_append]
    refine ⟨by simp, nd, fun a ha b hb e => ?_⟩
    have := f.bd b hb
    have : a = S.length := List.mem_singleton.mp ha
    omega
  · intro n hn
    rw [List.flatten_cons, List.mem_append] at hn
    rcases hn with hn | hn
    · rw [List.mem_singleton.mp hn]; exact .inl hl
    · exact lo n hn
theorem mem_flat {fps : List (List Nat)} {j : Nat} {fp : List Nat} {n : Nat} (h : fps[j]? = some fp) (m : n ∈ fp) : n ∈ fps.flatten := List.mem_flatten.mpr ⟨fp, List.mem_of_getElem? h, m⟩
theorem Sat.get (h : Sat S0 A S) {j n : Nat} {o : Ob} (e : A[j]? = some (pt n o)) : S[n]? = some o ∧ (S0.S.length ≤ n ∨ n ∈ S0.M) := by
  obtain ⟨fps, f, nd, lo⟩ := h.own
  obtain ⟨fp, h1, h2⟩ := f.get e
  obtain ⟨rfl, h3⟩ := h2
  exact ⟨h3, lo n (mem_flat h1 (List.mem_singleton.mpr rfl))⟩
theorem Fit.set {A : List Asn} {fps : List (List Nat)} {S S' : Sto} (h : Fit A fps S) : ∀ {j : Nat} {fp fp' : List Nat} {a' : Asn}, fps[j]? = some fp → fps.flatten.Nodup → (∀ n ∈ fps.flatten, n ∉ fp → S'[n]? = S[n]?) → a'.holds fp' S' → Fit (A.set j a') (fps.set j fp') S' := by
  induction h with
  | nil => intro j fp fp' a' e; simp at e
  | @cons b A gp fps S h t ih =>
    intro j fp fp' a' e nd k q
    rw [List.flatten_cons, List.nodup_append] at nd
    cases j with
    | zero =>
      simp at e
      subst e
      exact .cons q (t.loc fun n hn => k n (by rw [List.flatten_cons]; exact List.mem_append_right _ hn) fun m => nd.2.2 n m n hn rfl)
    | succ j =>
      have e' : fps[j]? = some fp := by simpa using e
      exact .cons (Asn.loc _ _ _ _ (fun n hn => k n (by rw [List.flatten_cons]; exact List.mem_append_left _ hn) fun m => nd.2.2 n hn n (mem_flat e' m) rfl) h) (ih e' nd.2.1 (fun n hn hf => k n (by rw [List.flatten_cons]; exact List.mem_append_right _ hn) hf) q)
theorem flat_set {fps : List (List Nat)} {j : Nat} {fp : List Nat} (h : fps[j]? = some fp) : fps.set j fp = fps := by
  apply List.ext_getElem?
  intro i
  by_cases e : j = i
  · subst e; rw [List.getElem?_set_self (List.getElem?_eq_some_iff.mp h).1, h]
  · rw [List.getElem?_set_ne e]
theorem Kp.wr (h : Kp S0 S) {n : Nat} {o : Ob} (hl : S0.S.length ≤ n ∨ n ∈ S0.M) : Kp S0 (S.set n o) := ⟨by rw [List.length_set]; exact h.len, fun m hm hn => by
  have : n ≠ m := fun e => by
    subst e
    rcases hl with hl | hl
    · omega
    · exact hn hl
  rw [List.getElem?_set_ne this]; exact h.at_ m hm hn⟩
theorem Sat.wr (h : Sat S0 A S) {j n : Nat} {o o' : Ob} (e : A[j]? = some (pt n o)) : Sat S0 (A.set j (pt n o')) (S.set n o') := by
  obtain ⟨hg, hl⟩ := h.get e
  obtain ⟨fps, f, nd, lo⟩ := h.own
  obtain ⟨fp, h1, h2⟩ := f.get e
  obtain ⟨rfl, h3⟩ := h2
  have hn : n < S.length := (List.getElem?_eq_some_iff.mp hg).1
  refine ⟨h.pre.wr hl, fps, ?_, nd, lo⟩
  have := f.set (S' := S.set n o') (a' := pt n o') (fp' := [n]) h1 nd (fun m _ hm => by rw [List.getElem?_set_ne (fun z => hm (by rw [z]; exact List.mem_singleton.mpr rfl))]) ⟨rfl, List.getElem?_set_self hn⟩
  rw [flat_set h1] at this
  exact this
theorem nodup_flat : ∀ {fps : List (List Nat)} {j : Nat} {fp : List Nat}, fps[j]? = some fp → fps.flatten.Nodup → fp.Nodup
  | [], j, fp, h, _ => by simp at h
  | g :: fps, 0, fp, h, nd => by
    simp at h
    subst h
    rw [List.flatten_cons, List.nodup_append] at nd
    exact nd.1
  | g :: fps, j + 1, fp, h, nd => by
    rw [List.flatten_cons, List.nodup_append] at nd
    exact nodup_flat (fps := fps) (j := j) (by simpa using h) nd.2.1
theorem flat_uniq : ∀ {fps : List (List Nat)} {j k n : Nat} {f g : List Nat}, fps.flatten.Nodup → fps[j]? = some f → fps[k]? = some g → n ∈ f → n ∈ g → j = k
  | [], j, k, n, f, g, _, h, _, _, _ => by simp at h
  | a :: r, 0, 0, n, f, g, _, _, _, _, _ => rfl
  | a :: r, 0, k + 1, n, f, g, nd, h, h2, m1, m2 => by
    rw [List.flatten_cons, List.nodup_append] at nd
    simp at h
    subst h
    exact absurd rfl (nd.2.2 n m1 n (mem_flat (by simpa using h2) m2))
  | a :: r, j + 1, 0, n, f, g, nd, h, h2, m1, m2 => by
    rw [List.flatten_cons, List.nodup_append] at nd
    simp at h2
    subst h2
    exact absurd rfl (nd.2.2 n m2 n (mem_flat (by simpa using h) m1))
  | a :: r, j + 1, k + 1, n, f, g, nd, h, h2, m1, m2 => by
    rw [List.flatten_cons, List.nodup_append] at nd
    exact congrArg (· + 1) (flat_uniq (fps := r) (j := j) (k := k) nd.2.1 (by simpa using h) (by simpa using h2) m1 m2)
/-- these of them, in this order -/
inductive Picks {α : Type} (A : List α) : List Nat → List α → Prop where
  | nil : Picks A [] []
  | cons {j : Nat} {js : List Nat} {a : α} {B : List α} (h : A[j]? = some a) (t : Picks A js B) : Picks A (j :: js) (a :: B)
theorem Fit.picks {fps : List (List Nat)} {js : List Nat} {B : List Asn} (h : Fit A fps S) (p : Picks A js B) : ∃ gps, Fit B gps S ∧ Picks fps js gps := by
  induction p with
  | nil => exact ⟨[], .nil, .nil⟩
  | cons e t ih =>
    obtain ⟨gps, h1, h2⟩ := ih
    obtain ⟨fp, h3, h4⟩ := h.get e
    exact ⟨fp :: gps, .cons h4 h1, .cons h3 h2⟩
theorem Picks.mem {α : Type} {A : List α} {js : List Nat} {B : List α} (p : Picks A js B) {b : α} (h : b ∈ B) : ∃ j ∈ js, A[j]? = some b := by
  induction p with
  | nil => simp at h
  | cons e t ih =>
    rcases List.mem_cons.mp h with h | h
    · subst h; exact ⟨_, List.mem_cons_self, e⟩
    · obtain ⟨j, h1, h2⟩ := ih h; exact ⟨j, List.mem_cons_of_mem _ h1, h2⟩
theorem Picks.flat {fps gps : List (List Nat)} {js : List Nat} (p : Picks fps js gps) (nd : fps.flatten.Nodup) (nj : js.Nodup) : gps.flatten.Nodup := by
  induction p with
  | nil => simp
  | @cons j js a B e t ih =>
    rw [List.nodup_cons] at nj
    rw [List.flatten_cons, List.nodup_append]
    refine ⟨nodup_flat e nd, ih nj.2, fun n hn m hm z => ?_⟩
    subst z
    obtain ⟨g, hg, hm⟩ := List.mem_flatten.mp hm
    obtain ⟨k, hk, ek⟩ := t.mem hg
    exact nj.1 (by rw [flat_uniq nd e ek hn hm]; exact hk)
theorem Sat.pick {B : List Asn} (h : Sat S0 A S) (js : List Nat) (nj : js.Nodup) (p : Picks A js B) : Sat S0 B S := by
  obtain ⟨fps, f, nd, lo⟩ := h.own
  obtain ⟨gps, g, q⟩ := f.picks p
  refine ⟨h.pre, gps, g, q.flat nd nj, fun n hn => ?_⟩
  obtain ⟨x, hx, hm⟩ := List.mem_flatten.mp hn
  obtain ⟨k, _, ek⟩ := q.mem hx
  exact lo n (mem_flat ek hm)
def eU : Unit → D := fun _ => .non
def eO {α : Type} (e : α → D) : Option α → D
  | none => .non
  | some a => e a
def eP2 {α β : Type} (e : α → D) (f : β → D) : α × β → D := fun p => .tup [e p.1, f p.2]
def eP3 {α β γ : Type} (e : α → D) (f : β → D) (g : γ → D) : α × β × γ → D := fun p => .tup [e p.1, f p.2.1, g p.2.2]
def eP4 {α β γ δ : Type} (e : α → D) (f : β → D) (g : γ → D) (h : δ → D) : α × β × γ × δ → D := fun p => .tup [e p.1, f p.2.1, g p.2.2.1, h p.2.2.2]
def eP1 {α : Type} (e : α → D) : α → D := fun p => .tup [e p]
def eTL {α : Type} (e : α → D) : List α → D := fun l => .tup (l.map e)
def eFL {α : Type} (e : α → D) : List α → D := fun l => .frl (l.map e)
def va {α : Type} (e : α → D) : α → Rv := fun a => .va (e a)
def fl {α : Type} (e : α → D) : List α → Rv := fun l => .fr (.lst (l.map e))
/-- nothing of the store in it -/
class Cl {α : Type} (e : α → D) : Prop where
  und : ∀ a n, (e a).und n = true
theorem unds_map {α : Type} {e : α → D} [c : Cl e] (n : Nat) : ∀ l : List α, D.unds n (l.map e) = true
  | [] => rfl
  | a :: r => by
    show ((e a).und n && D.unds n (r.map e)) = true
    rw [c.und, unds_map n r]; rfl
instance : Cl D.int := ⟨fun _ _ => rfl⟩
instance : Cl D.bl := ⟨fun _ _ => rfl⟩
instance : Cl D.str := ⟨fun _ _ => rfl⟩
instance : Cl eU := ⟨fun _ _ => rfl⟩
section
variable {α β γ δ : Type} {e : α → D} {f : β → D} {g : γ → D} {h : δ → D}
instance [c : Cl e] : Cl (eO e) := ⟨fun a n => by cases a with | none => rfl | some a => exact c.und a n⟩
instance [c : Cl e] : Cl (eP1 e) := ⟨fun p n => by show ((e p).und n && true) = true; rw [c.und]; rfl⟩
instance [c : Cl e] [d : Cl f] : Cl (eP2 e f) := ⟨fun p n => by show ((e p.1).und n && ((f p.2).und n && true)) = true; rw [c.und, d.und]; rfl⟩
instance [c : Cl e] [d : Cl f] [k : Cl g] : Cl (eP3 e f g) := ⟨fun p n => by show ((e p.1).und n && ((f p.2.1).und n && ((g p.2.2).und n && true))) = true; rw [c.und, d.und, k.und]; rfl⟩
instance [c : Cl e] [d : Cl f] [k : Cl g] [l : Cl h] : Cl (eP4 e f g h) := ⟨fun p n => by show ((e p.1).und n && ((f p.2.1).und n && ((g p.2.2.1).und n && ((h p.2.2.2).und n && true)))) = true; rw [c.und, d.und, k.und, l.und]; rfl⟩
instance [c : Cl e] : Cl (eTL e) := ⟨fun l n => unds_map n l⟩
instance [c : Cl e] : Cl (eFL e) := ⟨fun l n => unds_map n l⟩
end
/-- it evaluates to x and leaves the store -/
def Ex (S0 : Bs) (A : List Asn) (m : EX) (env : Env) (x : Rv) : Prop := ∀ S, Sat S0 A S → m env S = .ok x S
def ExA (S0 : Bs) (A : List Asn) (ms : List EX) (env : Env) (xs : List Rv) : Prop := ∀ S, Sat S0 A S → eArgs ms env S = .ok xs S
/-- where the typed value is there, it evaluates to it -/
def XM {α : Type} (S0 : Bs) (A : List Asn) (m : EX) (env : Env) (X : Option α) (e : α → Rv) : Prop := ∀ a, X = some a → Ex S0 A m env (e a)
def BM (S0 : Bs) (A : List Asn) (c : BX) (env : Env) (X : Option Bool) : Prop := ∀ b, X = some b → ∀ S, Sat S0 A S → c env S = .ok b S
section
variable {env : Env} {α β γ : Type} {m ma mb mc : EX} {ms : List EX} {c d : BX}
theorem xm {X : Option α} {e : α → Rv} {a : α} (q : X = some a) (h : Ex S0 A m env (e a)) : XM S0 A m env X e := fun b hb => by
  rw [q] at hb
  cases hb
  exact h
theorem xm_pure {e : α → Rv} {a : α} (h : Ex S0 A m env (e a)) : XM S0 A m env (some a) e := xm rfl h
theorem xm_sub {X : Option α} {e : α → Rv} {K : α → Option β} {f : β → Rv} (h : XM S0 A ma env X e) (k : ∀ t, Ex S0 A ma env (e t) → XM S0 A m env (K t) f) : XM S0 A m env (X.bind K) f := fun b hb => by
  cases X with
  | none => cases hb
  | some t => exact k t (h t rfl) b hb
/-- a side condition -/
theorem xm_if {p : Prop} [Decidable p] {X : Option α} {e : α → Rv} (k : p → XM S0 A m env X e) : XM S0 A m env (if p then X else none) e := fun b hb => by
  by_cases h : p
  · rw [if_pos h] at hb; exact k h b hb
  · rw [if_neg h] at hb; cases hb
theorem ex_var {i : Nat} {d : D} (h : env[i]? = some (some d)) : Ex S0 A (eVar i) env (.va d) := fun S _ => by
  unfold eVar
  rw [h]
theorem ex_c {d : D} : Ex S0 A (eC d) env (.va d) := fun _ _ => rfl
theorem exa_nil : ExA S0 A [] env [] := fun _ _ => rfl
theorem exa_cons {x : Rv} {xs : List Rv} (h : Ex S0 A m env x) (t : ExA S0 A ms env xs) : ExA S0 A (m :: ms) env (x :: xs) := fun S s => by
  unfold eArgs
  rw [h S s, Rs.bind_ok, t S s]; rfl
theorem ex_p {f : Sto → List Rv → Option Rv} {xs : List Rv} {z : Rv} (h : ExA S0 A ms env xs) (hf : ∀ S, Sat S0 A S → f S xs = some z) : Ex S0 A (eP (lift f) ms) env z := fun S s => by
  unfold eP lift
  rw [h S s, Rs.bind_ok, hf S s]; rfl
theorem ex_p1 {f : Sto → List Rv → Option Rv} {x z : Rv} (h : Ex S0 A ma env x) (hf : ∀ S, Sat S0 A S → f S [x] = some z) : Ex S0 A (eP (lift f) [ma]) env z := ex_p (exa_cons h exa_nil) hf
theorem ex_p2 {f : Sto → List Rv → Option Rv} {x y z : Rv} (h : Ex S0 A ma env x) (k : Ex S0 A mb env y) (hf : ∀ S, Sat S0 A S → f S [x, y] = some z) : Ex S0 A (eP (lift f) [ma, mb]) env z := ex_p (exa_cons h (exa_cons k exa_nil)) hf
theorem ex_to {d : D} (h : Ex S0 A m env (.va d)) : Ex S0 A (eTo m) env (.va d) := fun S s => by
  unfold eTo
  rw [h S s]; rfl
theorem ex_fz {x : Rv} (h : Ex S0 A m env x) : Ex S0 A (eFz m) env (frzD x) := fun S s => by
  unfold eFz
  rw [h S s]; rfl
theorem ex_fzl {e : α → D} {l : List α} (h : Ex S0 A m env (fl e l)) : Ex S0 A (eFz m) env (.va (eFL e l)) := ex_fz h
/-- what is there of what may be None -/
theorem xm_some {e : α → D} {o : Option α} (h : Ex S0 A m env (.va (eO e o))) : XM S0 A m env o (va e) := fun a q => by
  rw [q] at h
  exact h
theorem bm_val {X : Option Bool} (h : XM S0 A m env X (va D.bl)) : BM S0 A (bB m) env X := fun b hb S s => by
  unfold bB
  rw [h b hb S s]; rfl
theorem bm_sub {X : Option α} {e : α → Rv} {K : α → Option Bool} (h : XM S0 A ma env X e) (k : ∀ t, Ex S0 A ma env (e t) → BM S0 A c env (K t)) : BM S0 A c env (X.bind K) := fun b hb => by
  cases X with
  | none => cases hb
  | some t => exact k t (h t rfl) b hb
theorem bm_not {b : Bool} (h : BM S0 A c env (some b)) : BM S0 A (bNot c) env (some (!b)) := fun k hk S s => by
  cases hk
  unfold bNot
  rw [h b rfl S s]; rfl
theorem bm_and {X Y : Option Bool} (h : BM S0 A c env X) (k : BM S0 A d env Y) : BM S0 A (bAnd c d) env (X.bind fun b => if b = true then Y else some false) := fun r hr S s => by
  cases X with
  | none => cases hr
  | some b =>
    unfold bAnd
    rw [h b rfl S s]
    cases b with
    | true => exact k r hr S s
    | false => cases hr; rfl
theorem bm_or {X Y : Option Bool} (h : BM S0 A c env X) (k : BM S0 A d env Y) : BM S0 A (bOr c d) env (X.bind fun b => if b = true then some true else Y) := fun r hr S s => by
  cases X with
  | none => cases hr
  | some b =>
    unfold bOr
    rw [h b rfl S s]
    cases b with
    | true => cases hr; rfl
    | false => exact k r hr S s
theorem xm_not {X : Option Bool} (h : XM S0 A m env X (va D.bl)) : XM S0 A (eNot m) env (X.map (!·)) (va D.bl) := fun k hk S s => by
  cases X with
  | none => cases hk
  | some b => cases hk; unfold eNot bB; rw [h b rfl S s]; rfl
theorem xm_and {X : Option Bool} {Y : Option Bool} (h : XM S0 A ma env X (va D.bl)) (k : XM S0 A mb env Y (va D.bl)) : XM S0 A (eAnd ma mb) env (X.bind fun b => if b = true then Y else some false) (va D.bl) := fun r hr S s => by
  cases X with
  | none => cases hr
  | some b =>
    unfold eAnd bB
    rw [h b rfl S s]
    cases b with
    | true => exact k r hr S s
    | false => cases hr; rfl
theorem bm_andP {a b : Bool} (h : BM S0 A c env (some a)) (k : BM S0 A d env (some b)) : BM S0 A (bAnd c d) env (some (a && b)) := by
  cases a with
  | true => exact bm_and h k
  | false => exact bm_and h k
theorem bm_orP {a b : Bool} (h : BM S0 A c env (some a)) (k : BM S0 A d env (some b)) : BM S0 A (bOr c d) env (some (a || b)) := by
  cases a with
  | true => exact bm_or h k
  | false => exact bm_or h k
theorem ex_not {b : Bool} (h : Ex S0 A m env (.va (.bl b))) : Ex S0 A (eNot m) env (.va (.bl (!b))) := xm_not (X := some b) (fun k hk => by cases hk; exact h) _ rfl
theorem bm_of {b : Bool} (h : Ex S0 A m env (.va (.bl b))) : BM S0 A (bB m) env (some b) := bm_val (xm_pure (e := va D.bl) h)
theorem xm_call {X : Option α} {e : α → Rv} {f : FI} {xs : List Rv} {ds dds : List D} (h : ExA S0 A ms env xs) (hu : unva xs = some ds) (hf : ∀ S a, X = some a → f (ds ++ dds) S = .ok (e a) S) : XM S0 A (eCall f ms dds) env X e := fun a ha S s => by
  unfold eCall
  rw [h S s, Rs.bind_ok, hu]
  exact hf S a ha
end
/-- where the typed result is there, the body ends so -/
def Sx {τ : Type} (P : SR → τ → Prop) (S0 : Bs) (A : List Asn) (s : SM) (env : Env) (X : Option τ) : Prop := ∀ t, X = some t → ∀ S, Sat S0 A S → P (s env S) t
/-- to its end, with these slots -/
/- W: the places of lists made anew -/
def PN {W σ : Type} (S0 : Bs) (ks : List Nat) (E : W → σ → Env) (B : W → σ → List Asn) : SR → σ → Prop := fun o s => ∃ w e S, (o = .nx e S ∨ o = .ct e S) ∧ kill ks e = E w s ∧ Sat S0 (B w s) S
inductive Fw (σ ρ : Type) where
  | nx (s : σ)
  | brk (s : σ)
  | ret (r : ρ)
inductive Lo (σ ρ : Type) where
  | nx (s : σ)
  | ret (r : ρ)
def Lo.on {σ ρ τ : Type} (w : Lo σ ρ) (f : σ → Option τ) (g : ρ → τ) : Option τ := match w with
  | .nx s => f s
  | .ret r => some (g r)
@[simp] theorem Lo.on_nx {σ ρ τ : Type} (s : σ) (f : σ → Option τ) (g : ρ → τ) : (Lo.nx s : Lo σ ρ).on f g = f s := rfl
@[simp] theorem Lo.on_ret {σ ρ τ : Type} (r : ρ) (f : σ → Option τ) (g : ρ → τ) : (Lo.ret r : Lo σ ρ).on f g = some (g r) := rfl
def PF {W σ ρ : Type} (S0 : Bs) (ks : List Nat) (E : W → σ → Env) (B : W → σ → List Asn) (Pr : SR → ρ → Prop) : SR → Fw σ ρ → Prop := fun o w => match w with
  | .nx s => PN S0 ks E B o s
  | .brk s => ∃ w e S, o = .brk e S ∧ kill ks e = E w s ∧ Sat S0 (B w s) S
  | .ret r => Pr o r
def PL {W σ ρ : Type} (S0 : Bs) (E : W → σ → Env) (B : W → σ → List Asn) (Pr : SR → ρ → Prop) : SR → Lo σ ρ → Prop := fun o w => match w with
  | .nx s => ∃ w S, o = .nx (E w s) S ∧ Sat S0 (B w s) S
  | .ret r => Pr o r
def PV {ρ : Type} (S0 : Bs) (e : ρ → D) : SR → ρ → Prop := fun o r => ∃ S, o = .ret (.va (e r)) S ∧ Kp S0 S
def PVL {α : Type} (S0 : Bs) (e : α → D) : SR → List α → Prop := fun o r => ∃ S, Kp S0 S ∧ (o = .ret (.fr (.lst (r.map e))) S ∨ ∃ n, S0.S.length ≤ n ∧ o = .ret (.va (.ref n)) S ∧ S[n]? = some (.lst (r.map e)))
/-- an exit passes -/
def Leaves (P : SR → Prop) : Prop := ∀ o, P o → (∃ x S, o = .ret x S) ∨ ∃ e c ds S, o = .err e c ds S
section
variable {env : Env} {α β σ ρ τ : Type} {P : SR → τ → Prop} {m : EX} {s rest : SM} {c : BX}
theorem sx_asg {X : Option α} {e : α → D} {K : α → Option τ} {i : Nat} (h : XM S0 A m env X (va e)) (k : ∀ x, Sx P S0 A rest (env.set i (some (e x))) (K x)) : Sx P S0 A (sSeq (sAsg (.name i) m) rest) env (X.bind K) := fun t ht S hs => by
  cases X with
  | none => cases ht
  | some x =>
    have h1 := ex_to (h x rfl) S hs
    unfold sSeq sAsg
    rw [h1]
    exact k x t ht S hs
/-- names in a row -/
theorem sx_asgs {X : Option α} {e : α → D} {K : α → Option τ} {is : List Nat} {f : α → Env} (h : XM S0 A m env X (va e)) (hb : ∀ x, (Tg.names is).bind (e x) env = some (f x)) (k : ∀ x, Sx P S0 A rest (f x) (K x)) : Sx P S0 A (sSeq (sAsg (.names is) m) rest) env (X.bind K) := fun t ht S hs => by
  cases X with
  | none => cases ht
  | some x =>
    have h1 := ex_to (h x rfl) S hs
    unfold sSeq sAsg
    rw [h1]
    dsimp only [Rs.on]
    rw [hb x]
    exact k x t ht S hs
/-- a list of one's own -/
theorem sx_new {X : Option (List α)} {e : α → D} {K : List α → Option τ} {i : Nat} (h : XM S0 A m env X (fl e)) (k : ∀ x n, Sx P S0 (pt n (.lst (x.map e)) :: A) rest (env.set i (some (.ref n))) (K x)) : Sx P S0 A (sSeq (sAsg (.name i) m) rest) env (X.bind K) := fun t ht S hs => by
  cases X with
  | none => cases ht
  | some x =>
    have h1 := h x rfl S hs
    unfold sSeq sAsg eTo
    rw [h1]
    exact k x S.length t ht _ (hs.new _)
def snoc (l : List α) (x : α) : Option (List α) := if l.length < sizeLine then some (l ++ [x]) else none
theorem sx_app {X : Option α} {e : α → D} {l : List α} {K : List α → Option τ} {i j n : Nat} (he : env[i]? = some (some (.ref n))) (ha : A[j]? = some (pt n (.lst (l.map e)))) (h : XM S0 A m env X (va e))
    (k : ∀ l', Sx P S0 (A.set j (pt n (.lst (l'.map e)))) rest env (K l')) : Sx P S0 A (sSeq (sEx (eM isL pApp (eVar i) [m])) rest) env (X.bind fun x => (snoc l x).bind K) := fun t ht S hs => by
  cases X with
  | none => cases ht
  | some x =>
    have h1 := h x rfl S hs
    obtain ⟨h2, h3⟩ := hs.get ha
    have ht : (snoc l x).bind K = some t := ht
    unfold snoc at ht
    by_cases hz : l.length < sizeLine
    · rw [if_pos hz] at ht
      have hw : ∀ S', Sat S0 (A.set j (pt n (.lst ((l ++ [x]).map e)))) S' → P (rest env S') t := fun S' h' => k _ t ht S' h'
      unfold sSeq sEx eM
      rw [ex_var he S hs]
      have hl : isL S (.va (.ref n)) = true := by unfold isL vL; dsimp only; rw [h2]; rfl
      rw [Rs.bind_ok, if_pos hl]
      have hp : pApp S [.va (.ref n), .va (e x)] = some (.va .non, S.set n (.lst (l.map e ++ [e x]))) := by
        unfold pApp
        dsimp only
        rw [h2]
        dsimp only
        rw [if_pos (by rw [List.length_map]; exact hz)]
      unfold eArgs eArgs
      rw [h1]
      dsimp only [va, Rs.bind, Rs.on]
      rw [hp]
      dsimp only [SR.then]
      rw [show l.map e ++ [e x] = (l ++ [x]).map e from by simp]
      exact hw _ (hs.wr ha)
    · rw [if_neg hz] at ht; cases ht
/-- one way leaves -/
theorem sx_ifL {X : Option Bool} {Y Z : Option τ} {a : SM} (h : BM S0 A c env X) (ha : Sx P S0 A (sSeq a rest) env Y) (hb : Sx P S0 A rest env Z) : Sx P S0 A (sSeq (sIf c a sNil) rest) env (X.bind fun b => if b = true then Y else Z) := fun t ht S hs => by
  cases X with
  | none => cases ht
  | some b =>
    unfold sSeq sIf
    rw [h b rfl S hs]
    cases b with
    | true => exact ha t ht S hs
    | false => exact hb t ht S hs
theorem sx_if {X : Option Bool} {Y Z : Option τ} {a b : SM} (h : BM S0 A c env X) (ha : Sx P S0 A (sSeq a rest) env Y) (hb : Sx P S0 A (sSeq b rest) env Z) : Sx P S0 A (sSeq (sIf c a b) rest) env (X.bind fun b => if b = true then Y else Z) := fun t ht S hs => by
  cases X with
  | none => cases ht
  | some k =>
    unfold sSeq sIf
    rw [h k rfl S hs]
    cases k with
    | true => exact ha t ht S hs
    | false => exact hb t ht S hs
theorem sx_nil {X : Option τ} (h : Sx P S0 A rest env X) : Sx P S0 A (sSeq sNil rest) env X := h
theorem sx_assoc {a b : SM} {X : Option τ} (h : Sx P S0 A (sSeq a (sSeq b rest)) env X) : Sx P S0 A (sSeq (sSeq a b) rest) env X := fun t ht S hs => by
  have := h t ht S hs
  unfold sSeq at this ⊢
  cases e : a env S with
  | nx e' S' => rw [e] at this; exact this
  | brk e' S' => rw [e] at this; exact this
  | ct e' S' => rw [e] at this; exact this
  | ret v S' => rw [e] at this; exact this
  | err e' c ds S' => rw [e] at this; exact this
  | bad => rw [e] at this; exact this
/-- the ways come together -/
def PJ {W σ : Type} (S0 : Bs) (ks : List Nat) (E : W → σ → Env) (B : W → σ → List Asn) : SR → σ → Prop := fun o s => ∃ w e S, o = .nx e S ∧ kill ks e = E w s ∧ Sat S0 (B w s) S
theorem sx_join {W : Type} {X : Option σ} {ks : List Nat} {E : W → σ → Env} {B : W → σ → List Asn} {K : σ → Option τ} (h : Sx (PJ S0 ks E B) S0 A s env X) (k : ∀ w x, Sx P S0 (B w x) rest (E w x) (K x)) : Sx P S0 A (sSeq (sK ks s) rest) env (X.bind K) := fun t ht S hs => by
  cases X with
  | none => cases ht
  | some x =>
    obtain ⟨w, e, S', h1, h2, h3⟩ := h x rfl S hs
    unfold sSeq sK
    rw [h1]
    dsimp only [SR.then]
    rw [h2]
    exact k w x t ht S' h3
theorem sx_if0 {X : Option Bool} {Y Z : Option τ} {a b : SM} (h : BM S0 A c env X) (ha : Sx P S0 A a env Y) (hb : Sx P S0 A b env Z) : Sx P S0 A (sIf c a b) env (X.bind fun b => if b = true then Y else Z) := fun t ht S hs => by
  cases X with
  | none => cases ht
  | some k =>
    unfold sIf
    rw [h k rfl S hs]
    cases k with
    | true => exact ha t ht S hs
    | false => exact hb t ht S hs
theorem sx_endJ {W : Type} {ks : List Nat} {E : W → σ → Env} {B : W → σ → List Asn} {x : σ} (w : W) (he : kill ks env = E w x) (hw : ∀ S, Sat S0 A S → Sat S0 (B w x) S) : Sx (PJ S0 ks E B) S0 A sNil env (some x) := fun t ht S hs => by
  cases ht
  exact ⟨w, env, S, rfl, he, hw S hs⟩
theorem sx_end {W : Type} {ks : List Nat} {E : W → σ → Env} {B : W → σ → List Asn} {x : σ} (w : W) (he : kill ks env = E w x) (hw : ∀ S, Sat S0 A S → Sat S0 (B w x) S) : Sx (PN S0 ks E B) S0 A sNil env (some x) := fun t ht S hs => by
  cases ht
  exact ⟨w, env, S, .inl rfl, he, hw S hs⟩
theorem sx_endF {W : Type} {ks : List Nat} {E : W → σ → Env} {B : W → σ → List Asn} {Pr : SR → ρ → Prop} {x : σ} (w : W) (he : kill ks env = E w x) (hw : ∀ S, Sat S0 A S → Sat S0 (B w x) S) : Sx (PF S0 ks E B Pr) S0 A sNil env (some (.nx x)) := fun t ht S hs => by
  cases ht
  exact ⟨w, env, S, .inl rfl, he, hw S hs⟩
/-- return -/
theorem sx_ret {X : Option ρ} {e : ρ → D} {ι : ρ → τ} (hι : ∀ o r, PV S0 e o r → P o (ι r)) (h : XM S0 A m env X (va e)) : Sx P S0 A (sSeq (sRet m) rest) env (X.map ι) := fun t ht S hs => by
  cases X with
  | none => cases ht
  | some r =>
    cases ht
    refine hι _ r ⟨S, ?_, hs.pre⟩
    unfold sSeq sRet
    rw [h r rfl S hs]; rfl
theorem sx_retF {X : Option (List α)} {e : α → D} {ι : List α → τ} (hι : ∀ o r, PVL S0 e o r → P o (ι r)) (h : XM S0 A m env X (fl e)) : Sx P S0 A (sSeq (sRet m) rest) env (X.map ι) := fun t ht S hs => by
  cases X with
  | none => cases ht
  | some r =>
    cases ht
    refine hι _ r ⟨S, hs.pre, .inl ?_⟩
    unfold sSeq sRet
    rw [h r rfl S hs]; rfl
/-- .. of a list of one's own -/
theorem sx_retO {e : α → D} {ι : List α → τ} {i j n : Nat} {l : List α} (hι : ∀ o r, PVL S0 e o r → P o (ι r)) (he : env[i]? = some (some (.ref n))) (ha : A[j]? = some (pt n (.lst (l.map e)))) (hM : S0.M = [] := by rfl) : Sx P S0 A (sSeq (sRet (eVar i)) rest) env (some (ι l)) := fun t ht S hs => by
  cases ht
  obtain ⟨h2, h3⟩ := hs.get ha
  have h3 : S0.S.length ≤ n := h3.elim id fun z => by rw [hM] at z; cases z
  refine hι _ l ⟨S, hs.pre, .inr ⟨n, h3, ?_, h2⟩⟩
  unfold sSeq sRet
  rw [ex_var he _ hs]; rfl
/-- as long as Ai stands, these are the items -/
def IxM (S0 : Bs) (A Ai : List Asn) (it : IX) (env : Env) (X : Option (List α)) (e : α → D) : Prop := ∀ xs, X = some xs → ∀ S, Sat S0 A S → ∃ src, it env S = .ok src S ∧ src.len = xs.length ∧ ∀ i S', Sat S0 Ai S' → src.get i S' = some (xs.map e)[i]?
theorem Sat.nil (h : Sat S0 A S) : Sat S0 [] S := ⟨h.pre, [], .nil, by simp, by simp⟩
def foldO (F : σ → α → Option σ) : σ → List α → Option σ
  | s, [] => some s
  | s, x :: r => (F s x).bind fun s' => foldO F s' r
def loopO (F : σ → α → Option (Fw σ ρ)) : σ → List α → Option (Lo σ ρ)
  | s, [] => some (.nx s)
  | s, x :: r => (F s x).bind fun w => match w with
    | .nx s' => loopO F s' r
    | .brk s' => some (.nx s')
    | .ret v => some (.ret v)
section
variable {t : Tg} {body : SM} {ks : List Nat} {e : α → D} {W : Type} {E : W → σ → Env} {B : W → σ → List Asn} {it : IX}
theorem fold_typed {src : Src} {Ai : List Asn} {all : List α} (hsrc : ∀ i S', Sat S0 Ai S' → src.get i S' = some (all.map e)[i]?) (hAi : ∀ w s S, Sat S0 (B w s) S → Sat S0 Ai S) {F : σ → α → Option σ} (hb : ∀ w s x, ∃ e', t.bind (e x) (E w s) = some e' ∧ Sx (PN S0 ks E B) S0 (B w s) body e' (F s x)) :
    ∀ (xs pre : List α) (fuel : Nat) (w : W) (s r : σ), pre ++ xs = all → xs.length < fuel → foldO F s xs = some r → ∀ S, Sat S0 (B w s) S → ∃ w' S', forGo src t body ks fuel pre.length (E w s) S = .nx (E w' r) S' ∧ Sat S0 (B w' r) S'
  | xs, pre, 0, w, s, r, h1, h2, h, S, hs => absurd h2 (Nat.not_lt_zero _)
  | [], pre, fuel + 1, w, s, r, h1, h2, h, S, hs => by
    cases h
    rw [List.append_nil] at h1
    subst h1
    refine ⟨w, S, ?_, hs⟩
    unfold forGo
    rw [hsrc _ _ (hAi _ _ _ hs), List.getElem?_eq_none (by simp)]
  | x :: xs, pre, fuel + 1, w, s, r, h1, h2, h, S, hs => by
    obtain ⟨e', b1, b2⟩ := hb w s x
    have hg : (all.map e)[pre.length]? = some (e x) := by
      rw [← h1, List.getElem?_map, List.getElem?_append_right (Nat.le_refl _)]
      simp
    unfold foldO at h
    cases hF : F s x with
    | none => rw [hF] at h; cases h
    | some s' =>
      rw [hF] at h
      obtain ⟨w2, e2, S2, h3, h4, h5⟩ := b2 s' hF S hs
      obtain ⟨w3, S3, h6, h7⟩ := fold_typed hsrc hAi hb xs (pre ++ [x]) fuel w2 s' r (by rw [← h1]; simp) (by simpa using h2) h S2 h5
      rw [List.length_append] at h6
      refine ⟨w3, S3, ?_, h7⟩
      unfold forGo
      rw [hsrc _ _ (hAi _ _ _ hs), hg]
      dsimp only
      rw [b1]
      dsimp only
      rcases h3 with h3 | h3
      · rw [h3]; dsimp only; rw [h4]; exact h6
      · rw [h3]; dsimp only; rw [h4]; exact h6
/-- a for without an exit -/
theorem sx_forN {Ai : List Asn} {X : Option (List α)} {F : σ → α → Option σ} {s0 : σ} {K : σ → Option τ} (hi : IxM S0 A Ai it env X e) (w0 : W) (h0 : kill ks env = E w0 s0) (hA : ∀ S, Sat S0 A S → Sat S0 (B w0 s0) S) (hAi : ∀ w s S, Sat S0 (B w s) S → Sat S0 Ai S)
    (hb : ∀ w s x, ∃ e', t.bind (e x) (E w s) = some e' ∧ Sx (PN S0 ks E B) S0 (B w s) body e' (F s x)) (k : ∀ w s, Sx P S0 (B w s) rest (E w s) (K s)) : Sx P S0 A (sSeq (sFor it t body ks) rest) env (X.bind fun xs => (foldO F s0 xs).bind K) := fun v hv S hs => by
  cases X with
  | none => cases hv
  | some xs =>
    have hv : (foldO F s0 xs).bind K = some v := hv
    cases hf : foldO F s0 xs with
    | none => rw [hf] at hv; cases hv
    | some r =>
      rw [hf] at hv
      obtain ⟨src, h1, h2, h3⟩ := hi xs rfl S hs
      obtain ⟨w', S', h4, h5⟩ := fold_typed h3 hAi hb xs [] (src.len + 1) w0 s0 r rfl (by rw [h2]; exact Nat.lt_succ_self _) hf S (hA S hs)
      unfold sSeq sFor
      rw [h1]
      dsimp only [Rs.on]
      rw [h0]
      rw [show (0 : Nat) = ([] : List α).length from rfl, h4]
      exact k w' r v hv S' h5
theorem loop_typed {src : Src} {Ai : List Asn} {all : List α} (hsrc : ∀ i S', Sat S0 Ai S' → src.get i S' = some (all.map e)[i]?) (hAi : ∀ w s S, Sat S0 (B w s) S → Sat S0 Ai S) {Pr : SR → ρ → Prop} (hl : ∀ r, Leaves (Pr · r)) {F : σ → α → Option (Fw σ ρ)} (hb : ∀ w s x, ∃ e', t.bind (e x) (E w s) = some e' ∧ Sx (PF S0 ks E B Pr) S0 (B w s) body e' (F s x)) :
    ∀ (xs pre : List α) (fuel : Nat) (w : W) (s : σ) (r : Lo σ ρ), pre ++ xs = all → xs.length < fuel → loopO F s xs = some r → ∀ S, Sat S0 (B w s) S → PL S0 E B Pr (forGo src t body ks fuel pre.length (E w s) S) r
  | xs, pre, 0, w, s, r, h1, h2, h, S, hs => absurd h2 (Nat.not_lt_zero _)
  | [], pre, fuel + 1, w, s, r, h1, h2, h, S, hs => by
    cases h
    rw [List.append_nil] at h1
    subst h1
    refine ⟨w, S, ?_, hs⟩
    unfold forGo
    rw [hsrc _ _ (hAi _ _ _ hs), List.getElem?_eq_none (by simp)]
  | x :: xs, pre, fuel + 1, w, s, r, h1, h2, h, S, hs => by
    obtain ⟨e', b1, b2⟩ := hb w s x
    have hg : (all.map e)[pre.length]? = some (e x) := by
      rw [← h1, List.getElem?_map, List.getElem?_append_right (Nat.le_refl _)]
      simp
    unfold loopO at h
    cases hF : F s x with
    | none => rw [hF] at h; cases h
    | some z =>
      rw [hF] at h
      have h3 := b2 z hF S hs
      unfold forGo
      rw [hsrc _ _ (hAi _ _ _ hs), hg]
      dsimp only
      rw [b1]
      dsimp only
      cases z with
      | nx s' =>
        obtain ⟨w2, e2, S2, h3, h4, h5⟩ := h3
        have ih := loop_typed hsrc hAi hl hb xs (pre ++ [x]) fuel w2 s' r (by rw [← h1]; simp) (by simpa using h2) h S2 h5
        rw [List.length_append] at ih
        rcases h3 with h3 | h3
        · rw [h3]; dsimp only; rw [h4]; exact ih
        · rw [h3]; dsimp only; rw [h4]; exact ih
      | brk s' =>
        obtain ⟨w2, e2, S2, h3, h4, h5⟩ := h3
        cases h
        rw [h3]
        dsimp only
        exact ⟨w2, S2, by rw [h4], h5⟩
      | ret v =>
        cases h
        have h3 : Pr (body e' S) v := h3
        rcases hl v _ h3 with ⟨x, S2, q⟩ | ⟨e2, c, ds, S2, q⟩
        · rw [q]; rw [q] at h3; exact h3
        · rw [q]; rw [q] at h3; exact h3
/-- a for with exits -/
theorem sx_forF {Ai : List Asn} {X : Option (List α)} {Pr : SR → ρ → Prop} (hl : ∀ r, Leaves (Pr · r)) {ι : ρ → τ} (hι : ∀ o r, Pr o r → P o (ι r)) {F : σ → α → Option (Fw σ ρ)} {s0 : σ} {K : σ → Option τ} (hi : IxM S0 A Ai it env X e) (w0 : W) (h0 : kill ks env = E w0 s0) (hA : ∀ S, Sat S0 A S → Sat S0 (B w0 s0) S) (hAi : ∀ w s S, Sat S0 (B w s) S → Sat S0 Ai S)
    (hb : ∀ w s x, ∃ e', t.bind (e x) (E w s) = some e' ∧ Sx (PF S0 ks E B Pr) S0 (B w s) body e' (F s x)) (k : ∀ w s, Sx P S0 (B w s) rest (E w s) (K s)) :
    Sx P S0 A (sSeq (sFor it t body ks) rest) env (X.bind fun xs => (loopO F s0 xs).bind fun w => w.on K ι) := fun v hv S hs => by
  cases X with
  | none => cases hv
  | some xs =>
    have hv : ((loopO F s0 xs).bind fun w => w.on K ι) = some v := hv
    cases hf : loopO F s0 xs with
    | none => rw [hf] at hv; cases hv
    | some w =>
      rw [hf] at hv
      obtain ⟨src, h1, h2, h3⟩ := hi xs rfl S hs
      have h4 := loop_typed h3 hAi hl hb xs [] (src.len + 1) w0 s0 w rfl (by rw [h2]; exact Nat.lt_succ_self _) hf S (hA S hs)
      unfold sSeq sFor
      rw [h1]
      dsimp only [Rs.on]
      rw [h0]
      rw [show ([] : List α).length = 0 from rfl] at h4
      cases w with
      | nx s =>
        obtain ⟨w', S', h5, h6⟩ := h4
        rw [h5]
        exact k w' s v hv S' h6
      | ret r =>
        have h4 : Pr (forGo src t body ks (src.len + 1) 0 (E w0 s0) S) r := h4
        cases hv
        rcases hl r _ h4 with ⟨x, S2, q⟩ | ⟨e2, c, ds, S2, q⟩
        · rw [q] at h4 ⊢; exact hι _ _ h4
        · rw [q] at h4 ⊢; exact hι _ _ h4
def whileO (c : σ → Option Bool) (F : σ → Option (Fw σ ρ)) : Nat → σ → Option (Lo σ ρ)
  | 0, _ => none
  | k + 1, s => (c s).bind fun b => if b = true then (F s).bind fun w => match w with
      | .nx s' => whileO c F k s'
      | .brk s' => some (.nx s')
      | .ret v => some (.ret v)
    else some (.nx s)
theorem while_typed {Pr : SR → ρ → Prop} (hl : ∀ r, Leaves (Pr · r)) {cx : BX} {C : σ → Option Bool} {F : σ → Option (Fw σ ρ)} (hc : ∀ w s, BM S0 (B w s) cx (E w s) (C s)) (hb : ∀ w s, Sx (PF S0 ks E B Pr) S0 (B w s) body (E w s) (F s)) :
    ∀ (k : Nat) (w : W) (s : σ) (r : Lo σ ρ), whileO C F k s = some r → ∀ S, Sat S0 (B w s) S → PL S0 E B Pr (whileGo cx body ks k (E w s) S) r ∧ whileGo cx body ks k (E w s) S ≠ .bad
  | 0, w, s, r, h, S, hs => by cases h
  | k + 1, w, s, r, h, S, hs => by
    unfold whileO at h
    cases hC : C s with
    | none => rw [hC] at h; cases h
    | some b =>
      rw [hC] at h
      have h1 := hc w s b hC S hs
      unfold whileGo
      rw [h1]
      dsimp only [Rs.on]
      cases b with
      | false =>
        cases h
        exact ⟨⟨w, S, rfl, hs⟩, fun q => by cases q⟩
      | true =>
        have h : ((F s).bind fun w => match w with | .nx s' => whileO C F k s' | .brk s' => some (.nx s') | .ret v => some (.ret v)) = some r := h
        rw [if_pos rfl]
        cases hF : F s with
        | none => rw [hF] at h; cases h
        | some z =>
          rw [hF] at h
          have h3 := hb w s z hF S hs
          cases z with
          | nx s' =>
            obtain ⟨w2, e2, S2, h3, h4, h5⟩ := h3
            have ih := while_typed hl hc hb k w2 s' r h S2 h5
            rcases h3 with h3 | h3
            · rw [h3]; dsimp only; rw [h4]; exact ih
            · rw [h3]; dsimp only; rw [h4]; exact ih
          | brk s' =>
            obtain ⟨w2, e2, S2, h3, h4, h5⟩ := h3
            cases h
            rw [h3]
            dsimp only
            exact ⟨⟨w2, S2, by rw [h4], h5⟩, fun q => by cases q⟩
          | ret v =>
            cases h
            have h3 : Pr (body (E w s) S) v := h3
            rcases hl v _ h3 with ⟨x, S2, q⟩ | ⟨e2, c, ds, S2, q⟩
            · rw [q]; rw [q] at h3; exact ⟨h3, fun q => by cases q⟩
            · rw [q]; rw [q] at h3; exact ⟨h3, fun q => by cases q⟩
theorem sx_while {Pr : SR → ρ → Prop} (hl : ∀ r, Leaves (Pr · r)) {ι : ρ → τ} (hι : ∀ o r, Pr o r → P o (ι r)) {cx : BX} {C : σ → Option Bool} {F : σ → Option (Fw σ ρ)} {s0 : σ} {K : σ → Option τ} {n : Nat} (w0 : W) (h0 : kill ks env = E w0 s0) (hA : ∀ S, Sat S0 A S → Sat S0 (B w0 s0) S)
    (hc : ∀ w s, BM S0 (B w s) cx (E w s) (C s)) (hb : ∀ w s, Sx (PF S0 ks E B Pr) S0 (B w s) body (E w s) (F s)) (k : ∀ w s, Sx P S0 (B w s) rest (E w s) (K s)) :
    Sx P S0 A (sSeq (sWhile cx body ks) rest) env ((whileO C F n s0).bind fun w => w.on K ι) := fun v hv S hs => by
  cases hf : whileO C F n s0 with
  | none => rw [hf] at hv; cases hv
  | some w =>
    rw [hf] at hv
    obtain ⟨h3, h4⟩ := while_typed hl hc hb n w0 s0 w hf S (hA S hs)
    have hw : sWhile cx body ks env S = whileGo cx body ks n (E w0 s0) S := by
      rw [← h0] at h4 ⊢
      have hx : ∃ n, whileGo cx body ks n (kill ks env) S ≠ .bad := ⟨n, h4⟩
      unfold sWhile
      rw [dif_pos hx]
      rcases Nat.le_total n hx.choose with hl | hl
      · exact while_more n _ _ _ hl h4
      · exact (while_more _ n _ _ hl hx.choose_spec).symm
    unfold sSeq
    rw [hw]
    cases w with
    | nx s =>
      obtain ⟨w', S', h5, h6⟩ := h3
      rw [h5]
      exact k w' s v hv S' h6
    | ret r =>
      have h3 : Pr (whileGo cx body ks n (E w0 s0) S) r := h3
      cases hv
      rcases hl r _ h3 with ⟨x, S2, q⟩ | ⟨e2, c, ds, S2, q⟩
      · rw [q] at h3 ⊢; exact hι _ _ h3
      · rw [q] at h3 ⊢; exact hι _ _ h3
end
def mapO (F : α → Option β) : List α → Option (List β)
  | [] => some []
  | x :: r => (F x).bind fun y => (mapO F r).bind fun ys => some (y :: ys)
def fmapO (C : α → Option Bool) (F : α → Option β) : List α → Option (List β)
  | [] => some []
  | x :: r => (C x).bind fun b => if b = true then (F x).bind fun y => (fmapO C F r).bind fun ys => some (y :: ys) else fmapO C F r
theorem lc_typed {src : Src} {t : Tg} {env : Env} {c : BX} {m : EX} {e : α → D} {g : β → D} {C : α → Option Bool} {F : α → Option β} {xs : List α} (hsrc : ∀ i S', Sat S0 A S' → src.get i S' = some (xs.map e)[i]?) (hl : xs.length ≤ sizeLine)
    (hb : ∀ x, ∃ e', t.bind (e x) env = some e' ∧ BM S0 A c e' (C x) ∧ XM S0 A m e' (F x) (va g)) : ∀ (suf pre : List α) (acc : List D) (ys : List β) (fuel : Nat), pre ++ suf = xs → suf.length < fuel → acc.length ≤ pre.length → fmapO C F suf = some ys → ∀ S, Sat S0 A S →
      lcGo src t c m fuel pre.length env S acc = .ok (.fr (.lst (acc ++ ys.map g))) S
  | suf, pre, acc, ys, 0, h1, h2, h3, h4, S, hs => absurd h2 (Nat.not_lt_zero _)
  | [], pre, acc, ys, fuel + 1, h1, h2, h3, h4, S, hs => by
    rw [List.append_nil] at h1
    subst h1
    cases h4
    unfold lcGo
    rw [hsrc _ _ hs, List.getElem?_eq_none (by simp)]
    simp
  | x :: suf, pre, acc, ys, fuel + 1, h1, h2, h3, h4, S, hs => by
    obtain ⟨e', b1, b2, b3⟩ := hb x
    have hg : (xs.map e)[pre.length]? = some (e x) := by
      rw [← h1, List.getElem?_map, List.getElem?_append_right (Nat.le_refl _)]
      simp
    have hlen : pre.length < xs.length := by rw [← h1]; simp
    unfold fmapO at h4
    cases hC : C x with
    | none => rw [hC] at h4; cases h4
    | some b =>
      rw [hC] at h4
      have h4 : (if b = true then (F x).bind fun y => (fmapO C F suf).bind fun ys => some (y :: ys) else fmapO C F suf) = some ys := h4
      unfold lcGo
      rw [hsrc _ _ hs, hg]
      dsimp only
      rw [b1]
      dsimp only
      rw [b2 b hC S hs]
      have h2' : suf.length < fuel := by simpa using h2
      cases b with
      | false =>
        have ih := lc_typed hsrc hl hb suf (pre ++ [x]) acc ys fuel (by rw [← h1]; simp) h2' (by rw [List.length_append]; exact Nat.le_trans h3 (Nat.le_add_right _ _)) h4 S hs
        rw [List.length_append] at ih
        exact ih
      | true =>
        rw [if_pos rfl] at h4
        cases hF : F x with
        | none => rw [hF] at h4; cases h4
        | some y =>
          rw [hF] at h4
          have h4 : ((fmapO C F suf).bind fun ys => some (y :: ys)) = some ys := h4
          cases hR : fmapO C F suf with
          | none => rw [hR] at h4; cases h4
          | some zs =>
            rw [hR] at h4
            cases h4
            have ih := lc_typed hsrc hl hb suf (pre ++ [x]) (acc ++ [g y]) zs fuel (by rw [← h1]; simp) h2' (by rw [List.length_append, List.length_append]; exact Nat.add_le_add_right h3 _) hR S hs
            rw [List.length_append] at ih
            have := ex_to (b3 y hF) S hs
            dsimp only
            rw [this]
            dsimp only
            rw [if_pos (Nat.lt_of_le_of_lt h3 (Nat.lt_of_lt_of_le hlen hl))]
            rw [List.append_assoc] at ih
            exact ih
theorem fmap_yes {F : α → Option β} : ∀ xs : List α, fmapO (fun _ => some true) F xs = mapO F xs
  | [] => rfl
  | x :: r => by
    show ((F x).bind fun y => (fmapO (fun _ => some true) F r).bind fun ys => some (y :: ys)) = _
    rw [fmap_yes r]; rfl
theorem fmap_pure {f : α → β} : ∀ xs : List α, mapO (fun x => some (f x)) xs = some (xs.map f)
  | [] => rfl
  | x :: r => by
    show ((mapO (fun x => some (f x)) r).bind fun ys => some (f x :: ys)) = _
    rw [fmap_pure r]; rfl
/-- of so many things -/
def fits (xs : List α) : Option (List α) := if xs.length ≤ sizeLine then some xs else none
theorem fits_inv {xs ys : List α} (h : fits xs = some ys) : ys = xs ∧ xs.length ≤ sizeLine := by
  unfold fits at h
  split at h
  · cases h; exact ⟨rfl, by assumption⟩
  · cases h
theorem xm_lcC {it : IX} {t : Tg} {own : List Nat} {c : BX} {X : Option (List α)} {e : α → D} {g : β → D} {C : α → Option Bool} {F : α → Option β} (hi : IxM S0 A A it env X e)
    (hb : ∀ x, ∃ e', t.bind (e x) (kill own env) = some e' ∧ BM S0 A c e' (C x) ∧ XM S0 A m e' (F x) (va g)) : XM S0 A (eLc it t own c m) env (X.bind fun xs => (fits xs).bind (fmapO C F)) (fl g) := fun ys hy S hs => by
  cases X with
  | none => cases hy
  | some xs =>
    have hy2 : (fits xs).bind (fmapO C F) = some ys := hy
    cases hf : fits xs with
    | none => rw [hf] at hy2; cases hy2
    | some zs =>
      rw [hf] at hy2
      obtain ⟨rfl, hl⟩ := fits_inv hf
      obtain ⟨src, h1, h2, h3⟩ := hi zs rfl S hs
      unfold eLc
      rw [h1]
      have := lc_typed h3 hl hb zs [] [] ys (src.len + 1) rfl (by rw [h2]; exact Nat.lt_succ_self _) (Nat.le_refl _) hy2 S hs
      exact this
theorem bm_yes : BM S0 A bYes env (some true) := fun b hb S _ => by cases hb; rfl
theorem xm_lc {it : IX} {t : Tg} {own : List Nat} {X : Option (List α)} {e : α → D} {g : β → D} {F : α → Option β} (hi : IxM S0 A A it env X e)
    (hb : ∀ x, ∃ e', t.bind (e x) (kill own env) = some e' ∧ XM S0 A m e' (F x) (va g)) : XM S0 A (eLc it t own bYes m) env (X.bind fun xs => (fits xs).bind (mapO F)) (fl g) := by
  have := xm_lcC (c := bYes) (C := fun _ => some true) (F := F) hi (g := g) (m := m) fun x => let ⟨e', h1, h2⟩ := hb x; ⟨e', h1, bm_yes, h2⟩
  have e : (fmapO (fun _ => some true) F) = mapO F := funext fmap_yes
  rw [e] at this
  exact this
theorem xm_lcP {it : IX} {t : Tg} {own : List Nat} {X : Option (List α)} {e : α → D} {g : β → D} {f : α → β} (hi : IxM S0 A A it env X e)
    (hb : ∀ x, ∃ e', t.bind (e x) (kill own env) = some e' ∧ Ex S0 A m e' (.va (g (f x)))) : XM S0 A (eLc it t own bYes m) env (X.bind fun xs => (fits xs).bind fun xs => some (xs.map f)) (fl g) := by
  have := xm_lc (F := fun x => some (f x)) hi (g := g) (m := m) fun x => let ⟨e', h1, h2⟩ := hb x; ⟨e', h1, xm_pure h2⟩
  have e : (mapO fun x => some (f x)) = fun xs => some (xs.map f) := funext fmap_pure
  rw [e] at this
  exact this
end
section
variable {n ar : Nat} {b : SM} {ds : List D} {ρ α : Type}
theorem def_v {S0 : Sto} {e : ρ → D} [c : Cl e] {X : Option ρ} (h : Sx (PV (bs S0) e) (bs S0) [] b (ds.map some ++ List.replicate (n - ar) none) X) {r : ρ} (hr : X = some r) : clean (noErr (fnOf n ar b)) ds S0 = .ok (.va (e r)) S0 := by
  obtain ⟨S, h, k⟩ := h r hr S0 (Sat.start S0)
  obtain ⟨T, rfl⟩ := k.app
  exact fn_va h (c.und _ _)
theorem def_l {S0 : Sto} {e : α → D} [c : Cl e] {X : Option (List α)} (h : Sx (PVL (bs S0) e) (bs S0) [] b (ds.map some ++ List.replicate (n - ar) none) X) {r : List α} (hr : X = some r) : clean (noErr (fnOf n ar b)) ds S0 = .ok (.fr (.lst (r.map e))) S0 := by
  have u : (Ob.lst (r.map e)).und S0.length = true := unds_map _ _
  obtain ⟨S, k, h⟩ := h r hr S0 (Sat.start S0)
  obtain ⟨T, rfl⟩ := k.app
  rcases h with h | ⟨k, hk, h, h2⟩
  · exact fn_fr h u
  · have hk : S0.length ≤ k := hk
    have e1 : k = S0.length + (k - S0.length) := by omega
    rw [e1] at h
    rw [List.getElem?_append_right hk] at h2
    exact fn_ref h h2 u
theorem lv_v {e : ρ → D} (r : ρ) : Leaves (PV S0 e · r) := fun o ⟨T, h, _⟩ => .inl ⟨_, _, h⟩
theorem lv_l {e : α → D} (r : List α) : Leaves (PVL S0 e · r) := fun o ⟨T, _, h⟩ => by
  rcases h with h | ⟨_, _, h, _⟩
  · exact .inl ⟨_, _, h⟩
  · exact .inl ⟨_, _, h⟩
end
end Cy
set_option Elab.async false
set_option linter.all false
set_option maxRecDepth 100000
set_option maxHeartbeats 2000000
set_option autoImplicit false
namespace Cy
open PySem L2
section
variable {S0 : Bs} {A : List Asn} {env : Env} {α β γ : Type} {m ma mb mc : EX} {ms : List EX} {i j k : Int}
theorem ex_add (h : Ex S0 A ma env (.va (.int i))) (l : Ex S0 A mb env (.va (.int j))) : Ex S0 A (eP (lift pAdd) [ma, mb]) env (.va (.int (i + j))) := ex_p2 h l fun _ _ => rfl
theorem ex_sub (h : Ex S0 A ma env (.va (.int i))) (l : Ex S0 A mb env (.va (.int j))) : Ex S0 A (eP (lift (pII gSub)) [ma, mb]) env (.va (.int (i - j))) := ex_p2 h l fun _ _ => rfl
theorem ex_mulK (q : mulB i j = true) (h : Ex S0 A ma env (.va (.int i))) (l : Ex S0 A mb env (.va (.int j))) : Ex S0 A (eP (lift pMul) [ma, mb]) env (.va (.int (i * j))) := ex_p2 h l fun _ _ => by
  unfold pMul
  dsimp only
  rw [if_pos q]
theorem mulB_lit {i j : Int} (h : i.natAbs < 18446744073709551616) : mulB i j = true := by
  unfold mulB
  rw [decide_eq_true h]; rfl
theorem mulB_litR {i j : Int} (h : j.natAbs < 18446744073709551616) : mulB i j = true := by
  unfold mulB
  rw [decide_eq_true h, Bool.or_true]; rfl
def mulC (i j : Int) : Option Int := if mulB i j = true then some (i * j) else none
theorem xm_mul (h : Ex S0 A ma env (.va (.int i))) (l : Ex S0 A mb env (.va (.int j))) : XM S0 A (eP (lift pMul) [ma, mb]) env (mulC i j) (va D.int) := xm_if fun q => xm_pure (ex_mulK q h l)
theorem ex_divK (q : divOk j = true) (h : Ex S0 A ma env (.va (.int i))) (l : Ex S0 A mb env (.va (.int j))) : Ex S0 A (eP (lift (pII gDiv)) [ma, mb]) env (.va (.int (i / j))) := ex_p2 h l fun _ _ => by
  show (gDiv i j).map Rv.va = _
  unfold gDiv
  rw [if_pos q]; rfl
def divC (i j : Int) : Option Int := if divOk j = true then some (i / j) else none
theorem xm_div (h : Ex S0 A ma env (.va (.int i))) (l : Ex S0 A mb env (.va (.int j))) : XM S0 A (eP (lift (pII gDiv)) [ma, mb]) env (divC i j) (va D.int) := xm_if fun q => xm_pure (ex_divK q h l)
theorem ex_modK (q : 0 < j) (h : Ex S0 A ma env (.va (.int i))) (l : Ex S0 A mb env (.va (.int j))) : Ex S0 A (eP (lift (pII gMod)) [ma, mb]) env (.va (.int (i % j))) := ex_p2 h l fun _ _ => by
  show (gMod i j).map Rv.va = _
  unfold gMod
  rw [if_pos q]; rfl
def modC (i j : Int) : Option Int := if 0 < j then some (i % j) else none
theorem xm_mod (h : Ex S0 A ma env (.va (.int i))) (l : Ex S0 A mb env (.va (.int j))) : XM S0 A (eP (lift (pII gMod)) [ma, mb]) env (modC i j) (va D.int) := xm_if fun q => xm_pure (ex_modK q h l)
theorem ex_shlK (q : powOk i j = true) (h : Ex S0 A ma env (.va (.int i))) (l : Ex S0 A mb env (.va (.int j))) : Ex S0 A (eP (lift (pII gShl)) [ma, mb]) env (.va (.int (i * 2 ^ j.toNat))) := ex_p2 h l fun _ _ => by
  show (gShl i j).map Rv.va = _
  unfold gShl
  rw [if_pos q]; rfl
def shlC (i j : Int) : Option Int := if powOk i j = true then some (i * 2 ^ j.toNat) else none
theorem xm_shl (h : Ex S0 A ma env (.va (.int i))) (l : Ex S0 A mb env (.va (.int j))) : XM S0 A (eP (lift (pII gShl)) [ma, mb]) env (shlC i j) (va D.int) := xm_if fun q => xm_pure (ex_shlK q h l)
abbrev bXorI := Builtin.bitXor
theorem ex_bxor (h : Ex S0 A ma env (.va (.int i))) (l : Ex S0 A mb env (.va (.int j))) : Ex S0 A (eP (lift (pII gXor)) [ma, mb]) env (.va (.int (bXorI i j))) := ex_p2 h l fun _ _ => rfl
theorem ex_lt (h : Ex S0 A ma env (.va (.int i))) (l : Ex S0 A mb env (.va (.int j))) : Ex S0 A (eP (lift pLt) [ma, mb]) env (.va (.bl (decide (i < j)))) := ex_p2 h l fun _ _ => rfl
theorem ex_gt (h : Ex S0 A ma env (.va (.int i))) (l : Ex S0 A mb env (.va (.int j))) : Ex S0 A (eP (lift (pII gGt)) [ma, mb]) env (.va (.bl (decide (j < i)))) := ex_p2 h l fun _ _ => rfl
theorem ex_ge (h : Ex S0 A ma env (.va (.int i))) (l : Ex S0 A mb env (.va (.int j))) : Ex S0 A (eP (lift (pII gGe)) [ma, mb]) env (.va (.bl (decide (j ≤ i)))) := ex_p2 h l fun _ _ => rfl
def b2i (b : Bool) : Int := if b then 1 else 0
theorem ex_intB {b : Bool} (h : Ex S0 A ma env (.va (.bl b))) : Ex S0 A (eP (lift pInt) [ma]) env (.va (.int (b2i b))) := ex_p1 h fun _ _ => rfl
def intT (x : Str) : Option Int := if x.length ≤ 640 then PySem.intText? x else none
theorem xm_intT {x : Str} (h : Ex S0 A ma env (.va (.str x))) : XM S0 A (eP (lift pInt) [ma]) env (intT x) (va D.int) := xm_if fun q => fun a ha => ex_p1 h fun S _ => by
  unfold pInt
  dsimp only
  rw [if_pos q, ha]; rfl
def strI (i : Int) : Option Str := if i.natAbs.log2 < 1920 then some (toString i) else none
theorem xm_strI (h : Ex S0 A ma env (.va (.int i))) : XM S0 A (eP (lift pStr) [ma]) env (strI i) (va D.str) := xm_if fun q => xm_pure (ex_p1 h fun S _ => by
  unfold pStr
  dsimp only
  rw [if_pos q]; rfl)
theorem ex_eqI (h : Ex S0 A ma env (.va (.int i))) (l : Ex S0 A mb env (.va (.int j))) : Ex S0 A (eP (lift pEq) [ma, mb]) env (.va (.bl (decide (i = j)))) := ex_p2 h l fun _ _ => rfl
theorem ex_neI (h : Ex S0 A ma env (.va (.int i))) (l : Ex S0 A mb env (.va (.int j))) : Ex S0 A (eP (lift pNe) [ma, mb]) env (.va (.bl (!decide (i = j)))) := ex_p2 h l fun _ _ => rfl
theorem ex_neB {a b : Bool} (h : Ex S0 A ma env (.va (.bl a))) (l : Ex S0 A mb env (.va (.bl b))) : Ex S0 A (eP (lift pNe) [ma, mb]) env (.va (.bl (!decide (a = b)))) := ex_p2 h l fun _ _ => rfl
theorem ex_eqT {a b : Str} (h : Ex S0 A ma env (.va (.str a))) (l : Ex S0 A mb env (.va (.str b))) : Ex S0 A (eP (lift pEq) [ma, mb]) env (.va (.bl (decide (a = b)))) := ex_p2 h l fun _ _ => rfl
theorem ex_neT {a b : Str} (h : Ex S0 A ma env (.va (.str a))) (l : Ex S0 A mb env (.va (.str b))) : Ex S0 A (eP (lift pNe) [ma, mb]) env (.va (.bl (!decide (a = b)))) := ex_p2 h l fun _ _ => rfl
/-- what is compared by its items -/
class EqE (α : Type) (e : α → D) where
  dep : Nat
  ok : α → Bool
  dat : α → PyData
  py : ∀ (a : α) (S : Sto) (f : Nat), dep < f → Cy.py f S (e a) = some (dat a)
  lay : ∀ a, ok a = true → (dat a).canLay0 = true
  depth : ∀ a, (dat a).depth ≤ dep
  inj : ∀ a b, PyData.eqv (dat a) (dat b) = true ↔ a = b
class NoN (α : Type) (e : α → D) [EqE α e] : Prop where
  non : ∀ a, PyData.eqv .none (EqE.dat e a) = false ∧ PyData.eqv (EqE.dat e a) .none = false
instance : EqE Int D.int := ⟨0, fun _ => true, .int, fun a S f h => by cases f with | zero => omega | succ f => rfl, fun _ _ => rfl, fun _ => Nat.le_refl _, fun a b => by show (a == b) = true ↔ _; exact beq_iff_eq⟩
instance : NoN Int D.int := ⟨fun _ => ⟨rfl, rfl⟩⟩
instance : EqE Bool D.bl := ⟨0, fun _ => true, .bool, fun a S f h => by cases f with | zero => omega | succ f => rfl, fun _ _ => rfl, fun _ => Nat.le_refl _, fun a b => by show (a == b) = true ↔ _; exact beq_iff_eq⟩
instance : NoN Bool D.bl := ⟨fun _ => ⟨rfl, rfl⟩⟩
instance : EqE Str D.str := ⟨0, PyData.strOk, .str, fun a S f h => by cases f with | zero => omega | succ f => rfl, fun _ h => h, fun _ => Nat.le_refl _, fun a b => by show (a == b) = true ↔ _; exact beq_iff_eq⟩
instance : NoN Str D.str := ⟨fun _ => ⟨rfl, rfl⟩⟩
instance : EqE Unit eU := ⟨0, fun _ => true, fun _ => .none, fun a S f h => by cases f with | zero => omega | succ f => rfl, fun _ _ => rfl, fun _ => Nat.le_refl _, fun a b => ⟨fun _ => rfl, fun _ => rfl⟩⟩
variable {e : α → D} {f : β → D} {g : γ → D}
instance [q : EqE α e] [n : NoN α e] : EqE (Option α) (eO e) where
  dep := q.dep
  ok := fun o => match o with | none => true | some a => q.ok a
  dat := fun o => match o with | none => .none | some a => q.dat a
  py := fun o S f h => by
    cases o with
    | none => cases f with | zero => omega | succ f => rfl
    | some a => exact q.py a S f h
  lay := fun o h => by
    cases o with
    | none => rfl
    | some a => exact q.lay a h
  depth := fun o => by
    cases o with
    | none => exact Nat.zero_le _
    | some a => exact q.depth a
  inj := fun a b => by
    cases a with
    | none => cases b with
      | none => exact ⟨fun _ => rfl, fun _ => rfl⟩
      | some b => exact ⟨fun h => absurd h (by rw [(n.non b).1]; exact Bool.false_ne_true), fun h => (by cases h)⟩
    | some a => cases b with
      | none => exact ⟨fun h => absurd h (by rw [(n.non a).2]; exact Bool.false_ne_true), fun h => (by cases h)⟩
      | some b => exact (q.inj a b).trans ⟨fun h => by rw [h], fun h => Option.some.inj h⟩
theorem lay_all {q : EqE α e} : ∀ l : List α, l.all q.ok = true → PyData.canLayAll0 (l.map q.dat) = true
  | [], _ => rfl
  | a :: r, h => by
    rw [List.all_cons, Bool.and_eq_true] at h
    show (PyData.canLay0 (q.dat a) && PyData.canLayAll0 (r.map q.dat)) = true
    rw [q.lay a h.1, lay_all r h.2]; rfl
theorem depth_all {q : EqE α e} : ∀ l : List α, PyData.depthAll (l.map q.dat) ≤ q.dep
  | [] => Nat.zero_le _
  | a :: r => by
    show max (PyData.depth (q.dat a)) (PyData.depthAll (r.map q.dat)) ≤ _
    exact Nat.max_le.mpr ⟨q.depth a, depth_all r⟩
theorem py_all {q : EqE α e} {S : Sto} {k : Nat} (h : q.dep < k) : ∀ l : List α, pyAll (Cy.py k S) (l.map e) = some (l.map q.dat)
  | [] => rfl
  | a :: r => by
    unfold pyAll
    rw [List.map_cons]
    dsimp only
    rw [q.py a S k h, py_all h r]; rfl
theorem eqv_all {q : EqE α e} : ∀ l k : List α, PyData.eqvAll (l.map q.dat) (k.map q.dat) = true ↔ l = k
  | [], [] => ⟨fun _ => rfl, fun _ => rfl⟩
  | [], _ :: _ => ⟨fun h => (by cases h), fun h => (by cases h)⟩
  | _ :: _, [] => ⟨fun h => (by cases h), fun h => (by cases h)⟩
  | a :: r, b :: t => by
    show (PyData.eqv (q.dat a) (q.dat b) && PyData.eqvAll (r.map q.dat) (t.map q.dat)) = true ↔ _
    rw [Bool.and_eq_true, q.inj, eqv_all r t]
    exact ⟨fun h => by rw [h.1, h.2], fun h => by cases h; exact ⟨rfl, rfl⟩⟩
instance instEqTL [q : EqE α e] : EqE (List α) (eTL e) where
  dep := q.dep + 1
  ok := fun l => l.all q.ok
  dat := fun l => .tuple (l.map q.dat)
  py := fun l S f h => by
    cases f with
    | zero => omega
    | succ f =>
      show (pyAll (Cy.py f S) (l.map e)).map PyData.tuple = _
      rw [py_all (by omega)]; rfl
  lay := fun l h => lay_all l h
  depth := fun l => Nat.succ_le_succ (depth_all l)
  inj := fun l k => eqv_all l k
instance instEqFL [q : EqE α e] : EqE (List α) (eFL e) where
  dep := q.dep + 1
  ok := fun l => l.all q.ok
  dat := fun l => .list (l.map q.dat)
  py := fun l S f h => by
    cases f with
    | zero => omega
    | succ f =>
      show (pyAll (Cy.py f S) (l.map e)).map PyData.list = _
      rw [py_all (by omega)]; rfl
  lay := fun l h => lay_all l h
  depth := fun l => Nat.succ_le_succ (depth_all l)
  inj := fun l k => eqv_all l k
instance [q : EqE α e] : NoN (List α) (eTL e) := ⟨fun _ => ⟨rfl, rfl⟩⟩
instance [q : EqE α e] : NoN (List α) (eFL e) := ⟨fun _ => ⟨rfl, rfl⟩⟩
instance [q : EqE α e] : EqE α (eP1 e) where
  dep := q.dep + 1
  ok := q.ok
  dat := fun p => .tuple [q.dat p]
  py := fun l S f h => by
    cases f with
    | zero => omega
    | succ k =>
      show (pyAll (Cy.py k S) [e l]).map PyData.tuple = _
      unfold pyAll pyAll
      rw [q.py l S k (by omega)]; rfl
  lay := fun p h => by show (PyData.canLay0 (q.dat p) && true) = true; rw [q.lay p h]; rfl
  depth := fun p => by show max (PyData.depth (q.dat p)) 0 + 1 ≤ _; have := q.depth p; omega
  inj := fun a b => by
    show (PyData.eqv (q.dat a) (q.dat b) && true) = true ↔ _
    rw [Bool.and_true]; exact q.inj a b
instance [q : EqE α e] [r : EqE β f] : EqE (α × β) (eP2 e f) where
  dep := max q.dep r.dep + 1
  ok := fun p => q.ok p.1 && r.ok p.2
  dat := fun p => .tuple [q.dat p.1, r.dat p.2]
  py := fun l S f' h => by
    cases f' with
    | zero => omega
    | succ k =>
      show (pyAll (Cy.py k S) [e l.1, f l.2]).map PyData.tuple = _
      unfold pyAll pyAll pyAll
      rw [q.py l.1 S k (by omega), r.py l.2 S k (by omega)]; rfl
  lay := fun p h => by
    rw [Bool.and_eq_true] at h
    show (PyData.canLay0 (q.dat p.1) && (PyData.canLay0 (r.dat p.2) && true)) = true
    rw [q.lay _ h.1, r.lay _ h.2]; rfl
  depth := fun p => by
    show max (PyData.depth (q.dat p.1)) (max (PyData.depth (r.dat p.2)) 0) + 1 ≤ _
    have := q.depth p.1; have := r.depth p.2; omega
  inj := fun a b => by
    show (PyData.eqv (q.dat a.1) (q.dat b.1) && (PyData.eqv (r.dat a.2) (r.dat b.2) && true)) = true ↔ _
    rw [Bool.and_true, Bool.and_eq_true, q.inj, r.inj]
    exact ⟨fun h => Prod.ext h.1 h.2, fun h => by rw [h]; exact ⟨rfl, rfl⟩⟩
instance [q : EqE α e] [r : EqE β f] [s : EqE γ g] : EqE (α × β × γ) (eP3 e f g) where
  dep := max q.dep (max r.dep s.dep) + 1
  ok := fun p => q.ok p.1 && (r.ok p.2.1 && s.ok p.2.2)
  dat := fun p => .tuple [q.dat p.1, r.dat p.2.1, s.dat p.2.2]
  py := fun l S f' h => by
    cases f' with
    | zero => omega
    | succ k =>
      show (pyAll (Cy.py k S) [e l.1, f l.2.1, g l.2.2]).map PyData.tuple = _
      unfold pyAll pyAll pyAll pyAll
      rw [q.py l.1 S k (by omega), r.py l.2.1 S k (by omega), s.py l.2.2 S k (by omega)]; rfl
  lay := fun p h => by
    rw [Bool.and_eq_true, Bool.and_eq_true] at h
    show (PyData.canLay0 (q.dat p.1) && (PyData.canLay0 (r.dat p.2.1) && (PyData.canLay0 (s.dat p.2.2) && true))) = true
    rw [q.lay _ h.1, r.lay _ h.2.1, s.lay _ h.2.2]; rfl
  depth := fun p => by
    show max (PyData.depth (q.dat p.1)) (max (PyData.depth (r.dat p.2.1)) (max (PyData.depth (s.dat p.2.2)) 0)) + 1 ≤ _
    have := q.depth p.1; have := r.depth p.2.1; have := s.depth p.2.2; omega
  inj := fun a b => by
    show (PyData.eqv (q.dat a.1) (q.dat b.1) && (PyData.eqv (r.dat a.2.1) (r.dat b.2.1) && (PyData.eqv (s.dat a.2.2) (s.dat b.2.2) && true))) = true ↔ _
    rw [Bool.and_true, Bool.and_eq_true, Bool.and_eq_true, q.inj, r.inj, s.inj]
    exact ⟨fun h => Prod.ext h.1 (Prod.ext h.2.1 h.2.2), fun h => by rw [h]; exact ⟨rfl, rfl, rfl⟩⟩
instance [q : EqE α e] [r : EqE β f] : NoN (α × β) (eP2 e f) := ⟨fun _ => ⟨rfl, rfl⟩⟩
instance [q : EqE α e] : NoN α (eP1 e) := ⟨fun _ => ⟨rfl, rfl⟩⟩
instance [q : EqE α e] [r : EqE β f] [s : EqE γ g] : NoN (α × β × γ) (eP3 e f g) := ⟨fun _ => ⟨rfl, rfl⟩⟩
theorem eqD_typed [q : EqE α e] [DecidableEq α] (hd : q.dep < 12) {a b : α} (ha : q.ok a = true) (hb : q.ok b = true) (S : Sto) : eqD S (.va (e a)) (.va (e b)) = some (decide (a = b)) := by
  unfold eqD pyR
  dsimp only
  rw [q.py a S 40 (by omega), q.py b S 40 (by omega)]
  dsimp only
  have s1 : SeqAt.shaped (q.dat a) = true := by
    unfold SeqAt.shaped
    rw [q.lay a ha, decide_eq_true (show (q.dat a).depth ≤ 64 by have := q.depth a; omega)]; rfl
  have s2 : SeqAt.shaped (q.dat b) = true := by
    unfold SeqAt.shaped
    rw [q.lay b hb, decide_eq_true (show (q.dat b).depth ≤ 64 by have := q.depth b; omega)]; rfl
  rw [s1, s2]
  show some _ = some _
  congr 1
  rw [Bool.eq_iff_iff, q.inj, decide_eq_true_iff]
theorem eqS_py {d d' : D} {b : Bool} {p p' : PyData} {S : Sto} (h : eqS d d' = some b) (hp : Cy.py 40 S d = some p) (hp' : Cy.py 40 S d' = some p') : PyData.eqv p p' = b := by
  cases d <;> cases d' <;> first
    | (cases h; done)
    | (cases h; cases hp; cases hp'; first | rfl | (rw [Bool.eq_iff_iff]; show (_ == _) = true ↔ _; rw [beq_iff_eq, decide_eq_true_iff]))
theorem eqB_typed [q : EqE α e] [DecidableEq α] (hd : q.dep < 12) {a b : α} (ha : q.ok a = true) (hb : q.ok b = true) (S : Sto) : eqB S (.va (e a)) (.va (e b)) = some (decide (a = b)) := by
  unfold eqB
  dsimp only
  cases h : eqS (e a) (e b) with
  | none => exact eqD_typed hd ha hb S
  | some c =>
    dsimp only
    have := eqS_py h (q.py a S 40 (by omega)) (q.py b S 40 (by omega))
    congr 1
    rw [← this, Bool.eq_iff_iff, q.inj, decide_eq_true_iff]
/-- .. of what has no texts -/
class OkE (α : Type) (e : α → D) [q : EqE α e] : Prop where
  all : ∀ a, q.ok a = true
instance : OkE Int D.int := ⟨fun _ => rfl⟩
instance : OkE Bool D.bl := ⟨fun _ => rfl⟩
instance : OkE Unit eU := ⟨fun _ => rfl⟩
instance [q : EqE α e] [n : NoN α e] [o : OkE α e] : OkE (Option α) (eO e) := ⟨fun a => by cases a with | none => rfl | some a => exact o.all a⟩
instance [q : EqE α e] [o : OkE α e] : OkE (List α) (eTL e) := ⟨fun l => List.all_eq_true.mpr fun a _ => o.all a⟩
instance [q : EqE α e] [o : OkE α e] : OkE (List α) (eFL e) := ⟨fun l => List.all_eq_true.mpr fun a _ => o.all a⟩
instance [q : EqE α e] [o : OkE α e] : OkE α (eP1 e) := ⟨fun a => o.all a⟩
instance [q : EqE α e] [r : EqE β f] [o : OkE α e] [p : OkE β f] : OkE (α × β) (eP2 e f) := ⟨fun a => by show (q.ok a.1 && r.ok a.2) = true; rw [o.all, p.all]; rfl⟩
instance [q : EqE α e] [r : EqE β f] [s : EqE γ g] [o : OkE α e] [p : OkE β f] [u : OkE γ g] : OkE (α × β × γ) (eP3 e f g) := ⟨fun a => by show (q.ok a.1 && (r.ok a.2.1 && s.ok a.2.2)) = true; rw [o.all, p.all, u.all]; rfl⟩
theorem ex_eq [q : EqE α e] [o : OkE α e] [DecidableEq α] {a b : α} (hd : q.dep < 12) (h : Ex S0 A ma env (.va (e a))) (l : Ex S0 A mb env (.va (e b))) : Ex S0 A (eP (lift pEq) [ma, mb]) env (.va (.bl (decide (a = b)))) := ex_p2 h l fun S _ => by
  unfold pEq
  dsimp only
  rw [eqB_typed hd (o.all a) (o.all b)]; rfl
class NonE (α : Type) (e : α → D) : Prop where
  not : ∀ a, e a ≠ .non
instance : NonE Int D.int := ⟨fun _ h => by cases h⟩
instance : NonE Bool D.bl := ⟨fun _ h => by cases h⟩
instance : NonE Str D.str := ⟨fun _ h => by cases h⟩
instance : NonE (List α) (eTL e) := ⟨fun _ h => by cases h⟩
instance : NonE (List α) (eFL e) := ⟨fun _ h => by cases h⟩
instance : NonE α (eP1 e) := ⟨fun _ h => by cases h⟩
instance : NonE (α × β) (eP2 e f) := ⟨fun _ h => by cases h⟩
instance : NonE (α × β × γ) (eP3 e f g) := ⟨fun _ h => by cases h⟩
theorem isN_O [q : NonE α e] (o : Option α) : isN (.va (eO e o)) = o.isNone := by
  cases o with
  | none => rfl
  | some a =>
    have := q.not a
    show isN (.va (e a)) = false
    cases h : e a with
    | non => exact absurd h this
    | _ => rfl
theorem ex_isN [q : NonE α e] {o : Option α} (h : Ex S0 A ma env (.va (eO e o))) (l : Ex S0 A mb env (.va .non)) : Ex S0 A (eP (lift pIs) [ma, mb]) env (.va (.bl o.isNone)) := ex_p2 h l fun S _ => by
  unfold pIs
  dsimp only
  rw [isN_O]
theorem ex_notN [q : NonE α e] {o : Option α} (h : Ex S0 A ma env (.va (eO e o))) (l : Ex S0 A mb env (.va .non)) : Ex S0 A (eP (lift pIsNot) [ma, mb]) env (.va (.bl (!o.isNone))) := ex_p2 h l fun S _ => by
  unfold pIsNot
  dsimp only
  rw [isN_O]
end
end Cy
set_option Elab.async false
set_option linter.all false
set_option maxRecDepth 100000
set_option maxHeartbeats 2000000
set_option autoImplicit false
namespace Cy
open PySem L2
theorem atI_map {α β : Type} (f : α → β) (l : List α) (i : Int) : atI (l.map f) i = (atI l i).map f := by
  unfold atI
  rw [List.length_map]
  cases ixN l.length i with
  | none => rfl
  | some j => exact List.getElem?_map ..
abbrev idx {α : Type} (l : List α) (i : Int) : Option α := atI l i
def cutT {α : Type} (l : List α) (lo hi : Option Int) : List α := (l.drop (HT.sIx l.length 0 lo)).take (HT.sIx l.length l.length hi - HT.sIx l.length 0 lo)
theorem cutD_map {α : Type} (e : α → D) (l : List α) (lo hi : Option Int) : cutD (l.map e) lo hi = (cutT l lo hi).map e := by
  unfold cutD cutT
  rw [List.length_map, List.map_take, List.map_drop]
section
variable {S0 : Bs} {A : List Asn} {env : Env} {α β γ δ : Type} {m ma mb mc : EX} {ms : List EX} {i j k : Int} {e : α → D} {f : β → D} {g : γ → D} {x y : Rv}
/-- a row's items -/
def Ls (S0 : Bs) (A : List Asn) (x : Rv) (ds : List D) : Prop := ∀ S, Sat S0 A S → vL S x = some ds
def Qs (S0 : Bs) (A : List Asn) (x : Rv) (ds : List D) : Prop := ∀ S, Sat S0 A S → vQ S x = some ds
theorem ls_fr {l : List α} : Ls S0 A (fl e l) (l.map e) := fun _ _ => rfl
theorem ls_frl {l : List α} : Ls S0 A (.va (eFL e l)) (l.map e) := fun _ _ => rfl
theorem ls_ref {n j : Nat} {l : List α} (h : A[j]? = some (pt n (.lst (l.map e)))) : Ls S0 A (.va (.ref n)) (l.map e) := fun S s => by
  unfold vL
  dsimp only
  rw [(s.get h).1]
theorem qs_tl {l : List α} : Qs S0 A (.va (eTL e l)) (l.map e) := fun _ _ => rfl
theorem vT_none {S : Sto} {ds : List D} (h : vL S x = some ds) : vT x = none := by
  cases x with
  | fr o => rfl
  | va d => cases d <;> first | rfl | cases h
theorem qs_l {ds : List D} (h : Ls S0 A x ds) : Qs S0 A x ds := fun S s => by
  unfold vQ
  rw [vT_none (h S s)]
  exact h S s
theorem ex_tup {xs : List Rv} {ds : List D} (h : ExA S0 A ms env xs) (hu : unva xs = some ds) (hl : ds.length ≤ 100) : Ex S0 A (eTup ms) env (.va (.tup ds)) := fun S s => by
  unfold eTup
  rw [h S s, Rs.bind_ok, hu]
  exact if_pos (Nat.le_trans hl (by decide +kernel))
theorem ex_lst {xs : List Rv} {ds : List D} (h : ExA S0 A ms env xs) (hu : unva xs = some ds) (hl : ds.length ≤ 100) : Ex S0 A (eLst ms) env (.fr (.lst ds)) := fun S s => by
  unfold eLst
  rw [h S s, Rs.bind_ok, hu]
  exact if_pos (Nat.le_trans hl (by decide +kernel))
theorem ix_ne {S : Sto} (ds : List D) (hq : vQ S x = some ds) : pIx S [x, .va (.int i)] = (atI ds i).map .va := by
  unfold pIx
  cases x with
  | fr o => dsimp only; rw [hq]
  | va d =>
    cases d with
    | str z => cases hq
    | _ => dsimp only; rw [hq]
theorem xm_ix {l : List α} (h : Ex S0 A ma env x) (q : Qs S0 A x (l.map e)) (k : Ex S0 A mb env (.va (.int i))) : XM S0 A (eP (lift pIx) [ma, mb]) env (idx l i) (va e) := fun a ha => ex_p2 h k fun S s => by
  rw [ix_ne _ (q S s), atI_map, show atI l i = some a from ha]; rfl
theorem ex_ixP {ds : List D} {d : D} (h : Ex S0 A ma env (.va (.tup ds))) (k : Ex S0 A mb env (.va (.int i))) (hd : atI ds i = some d) : Ex S0 A (eP (lift pIx) [ma, mb]) env (.va d) := ex_p2 h k fun S s => by
  rw [ix_ne ds rfl, hd]; rfl
def chr (z : Str) (i : Int) : Option Str := if z.length ≤ sizeLine then (atI z.cps.toList i).map fun c => ⟨#[c]⟩ else none
theorem xm_ixS {z : Str} (h : Ex S0 A ma env (.va (.str z))) (k : Ex S0 A mb env (.va (.int i))) : XM S0 A (eP (lift pIx) [ma, mb]) env (chr z i) (va D.str) := xm_if fun q => fun a ha => ex_p2 h k fun S s => by
  unfold pIx
  dsimp only
  rw [if_pos q]
  cases hc : atI z.cps.toList i with
  | none => rw [hc] at ha; cases ha
  | some c => rw [hc] at ha; cases ha; rfl
def ExO (S0 : Bs) (A : List Asn) (o : OX) (env : Env) (v : Option Int) : Prop := ∀ S, Sat S0 A S → o env S = .ok v S
theorem exo_none : ExO S0 A oNone env none := fun _ _ => rfl
theorem exo_some (h : Ex S0 A m env (.va (.int i))) : ExO S0 A (oSome m) env (some i) := fun S s => by
  unfold oSome
  rw [h S s]; rfl
theorem ex_sl {lo hi : OX} {a b : Option Int} {z : Rv} (h : Ex S0 A m env x) (h1 : ExO S0 A lo env a) (h2 : ExO S0 A hi env b) (hz : ∀ S, Sat S0 A S → cutR S x a b = some z) : Ex S0 A (eSl m lo hi) env z := fun S s => by
  unfold eSl
  rw [h S s, Rs.bind_ok, h1 S s, Rs.bind_ok, h2 S s, Rs.bind_ok, hz S s]
theorem ex_slL {lo hi : OX} {a b : Option Int} {l : List α} (h : Ex S0 A m env x) (q : Ls S0 A x (l.map e)) (h1 : ExO S0 A lo env a) (h2 : ExO S0 A hi env b) : Ex S0 A (eSl m lo hi) env (fl e (cutT l a b)) := ex_sl h h1 h2 fun S s => by
  have hq := q S s
  have : cutR S x a b = (vL S x).map fun ds => .fr (.lst (cutD ds a b)) := by
    cases x with
    | fr o => rfl
    | va d => cases d <;> first | rfl | cases hq
  rw [this, hq]
  show some (Rv.fr (.lst (cutD (l.map e) a b))) = _
  rw [cutD_map]; rfl
def slS (z : Str) (a b : Option Int) : Option Str := if z.length ≤ sizeLine then some (cutS z a b) else none
theorem xm_slS {lo hi : OX} {a b : Option Int} {z : Str} (h : Ex S0 A m env (.va (.str z))) (h1 : ExO S0 A lo env a) (h2 : ExO S0 A hi env b) : XM S0 A (eSl m lo hi) env (slS z a b) (va D.str) := xm_if fun q => xm_pure (ex_sl h h1 h2 fun S _ => by
  show (if z.length ≤ sizeLine then some (Rv.va (.str (cutS z a b))) else none) = _
  rw [if_pos q]; rfl)
theorem ex_len {l : List α} (h : Ex S0 A m env x) (q : Qs S0 A x (l.map e)) : Ex S0 A (eP (lift pLen) [m]) env (.va (.int l.length)) := ex_p1 h fun S s => by
  have hq := q S s
  have : pLen S [x] = (vQ S x).map fun ds => .va (.int ds.length) := by
    cases x with
    | fr o => rfl
    | va d => cases d <;> first | rfl | cases hq
  rw [this, hq]
  show some (Rv.va (.int ((l.map e).length : Nat))) = _
  rw [List.length_map]
def lenS (z : Str) : Option Int := if z.length ≤ sizeLine then some z.length else none
theorem xm_lenS {z : Str} (h : Ex S0 A m env (.va (.str z))) : XM S0 A (eP (lift pLen) [m]) env (lenS z) (va D.int) := xm_if fun q => xm_pure (ex_p1 h fun S s => by
  unfold pLen
  dsimp only
  rw [if_pos q]; rfl)
def catC (l k : List α) : Option (List α) := if l.length + k.length ≤ sizeLine then some (l ++ k) else none
theorem xm_catL {l k : List α} (h : Ex S0 A ma env x) (q1 : Ls S0 A x (l.map e)) (h2 : Ex S0 A mb env y) (q2 : Ls S0 A y (k.map e)) : XM S0 A (eP (lift pAdd) [ma, mb]) env (catC l k) (fl e) := xm_if fun q => xm_pure (ex_p2 h h2 fun S s => by
  have a1 := q1 S s
  have a2 := q2 S s
  have : pAdd S [x, y] = match vL S x, vL S y with
    | some a, some b => if a.length + b.length ≤ sizeLine then some (.fr (.lst (a ++ b))) else none
    | _, _ => none := by
    cases x with
    | fr o => cases y <;> rfl
    | va d => cases d <;> first | rfl | cases a1
  rw [this, a1, a2]
  dsimp only
  rw [List.length_map, List.length_map, if_pos q, ← List.map_append]; rfl)
def catS (x y : Str) : Option Str := if x.length + y.length ≤ sizeLine then some (x ++ y) else none
theorem xm_catS {x y : Str} (h : Ex S0 A ma env (.va (.str x))) (h2 : Ex S0 A mb env (.va (.str y))) : XM S0 A (eP (lift pAdd) [ma, mb]) env (catS x y) (va D.str) := xm_if fun q => xm_pure (ex_p2 h h2 fun S s => by
  unfold pAdd
  dsimp only
  rw [if_pos q]; rfl)
theorem rep_map (l : List α) (n : Nat) : (List.replicate n (l.map e)).flatten = ((List.replicate n l).flatten).map e := by
  rw [List.map_flatten, List.map_replicate]
def repL (l : List α) (k : Int) : Option (List α) := if (decide (k.natAbs < 9223372036854775808) && decide (l.length * k.toNat ≤ sizeLine)) = true then some (List.replicate k.toNat l).flatten else none
theorem xm_repL {l : List α} {k : Int} (h : Ex S0 A ma env (fl e l)) (h2 : Ex S0 A mb env (.va (.int k))) : XM S0 A (eP (lift pMul) [ma, mb]) env (repL l k) (fl e) := xm_if fun q => xm_pure (ex_p2 h h2 fun S s => by
  show (if (decide (k.natAbs < 9223372036854775808) && decide ((l.map e).length * k.toNat ≤ sizeLine)) = true then some (Rv.fr (.lst (List.replicate k.toNat (l.map e)).flatten)) else none) = _
  rw [List.length_map, if_pos q, rep_map]; rfl)
def mulT (x : Str) (k : Int) : Option Str := if (decide (k.natAbs ≤ 1000) && decide (x.length ≤ 1000)) = true then some (Txt.mul x k) else none
theorem xm_mulT {x : Str} {k : Int} (h : Ex S0 A ma env (.va (.str x))) (h2 : Ex S0 A mb env (.va (.int k))) : XM S0 A (eP (lift pMul) [ma, mb]) env (mulT x k) (va D.str) := xm_if fun q => xm_pure (ex_p2 h h2 fun S s => by
  unfold pMul
  dsimp only
  rw [if_pos q]; rfl)
theorem ex_tupOf {l : List α} (h : Ex S0 A m env x) (q : Ls S0 A x (l.map e)) : Ex S0 A (eP (lift pTupOf) [m]) env (.va (eTL e l)) := ex_p1 h fun S s => by
  have hq := q S s
  have : pTupOf S [x] = (vL S x).map fun ds => .va (.tup ds) := by
    cases x with
    | fr o => rfl
    | va d => cases d <;> first | rfl | cases hq
  rw [this, hq]; rfl
theorem ex_lstOf {l : List α} (h : Ex S0 A m env x) (q : Qs S0 A x (l.map e)) : Ex S0 A (eP (lift pLstOf) [m]) env (fl e l) := ex_p1 h fun S s => by
  show (vQ S x).map _ = _
  rw [q S s]; rfl
def rangeI (lo hi : Int) : List Int := (List.range (hi - lo).toNat).map fun (i : Nat) => lo + (i : Int)
theorem range_map (lo hi : Int) : rangeD lo hi = (rangeI lo hi).map D.int := by
  unfold rangeD rangeI
  rw [List.map_map]; rfl
def memB [DecidableEq α] (a : α) (l : List α) : Bool := decide (a ∈ l)
def memC (e : α → D) [q : EqE α e] [DecidableEq α] (a : α) (l : List α) : Option Bool := if (q.ok a && l.all q.ok) = true then some (decide (a ∈ l)) else none
theorem any_eqv [q : EqE α e] [DecidableEq α] (a : α) : ∀ l : List α, (l.map q.dat).any (fun z => PyData.eqv z (q.dat a)) = decide (a ∈ l)
  | [] => rfl
  | b :: r => by
    rw [List.map_cons, List.any_cons, any_eqv a r]
    rw [Bool.eq_iff_iff, Bool.or_eq_true, q.inj, decide_eq_true_iff, decide_eq_true_iff, List.mem_cons]
    exact ⟨fun h => h.imp Eq.symm id, fun h => h.imp Eq.symm id⟩
theorem pyR_ls {S : Sto} {l : List α} [q : EqE α e] (hd : q.dep < 11) (h : vL S x = some (l.map e)) : pyR S x = some (.list (l.map q.dat)) := by
  cases x with
  | fr o =>
    cases o with
    | lst ds => cases h; show (pyAll (py 40 S) (l.map e)).map PyData.list = _; rw [py_all (by omega)]; rfl
    | _ => cases h
  | va d =>
    cases d with
    | ref n =>
      unfold vL at h
      dsimp only at h
      show py 40 S (.ref n) = _
      unfold py
      cases hn : S[n]? with
      | none => rw [hn] at h; cases h
      | some o =>
        rw [hn] at h
        cases o with
        | lst ds => cases h; dsimp only; rw [py_all (by omega)]; rfl
        | _ => cases h
    | frl ds => cases h; show (pyAll (py 39 S) (l.map e)).map PyData.list = _; rw [py_all (k := 39) (by omega)]; rfl
    | _ => cases h
theorem shaped_all [q : EqE α e] (hd : q.dep < 11) {l : List α} (h : l.all q.ok = true) : SeqAt.shaped (.list (l.map q.dat)) = true := by
  unfold SeqAt.shaped
  rw [show PyData.canLay0 (.list (l.map q.dat)) = true from lay_all l h, decide_eq_true (show PyData.depth (.list (l.map q.dat)) ≤ 64 by show PyData.depthAll _ + 1 ≤ 64; have := depth_all (q := q) l; omega)]; rfl
theorem shaped_one [q : EqE α e] (hd : q.dep < 11) {a : α} (h : q.ok a = true) : SeqAt.shaped (q.dat a) = true := by
  unfold SeqAt.shaped
  rw [q.lay a h, decide_eq_true (show (q.dat a).depth ≤ 64 by have := q.depth a; omega)]; rfl
theorem xm_inR (neg : Bool) [q : EqE α e] [DecidableEq α] {a : α} {l : List α} {xa : Rv} (hd : q.dep < 11) (h : Ex S0 A ma env xa) (ha : ∀ S, Sat S0 A S → pyR S xa = some (q.dat a)) (k : Ex S0 A mb env x) (hq : ∀ S, Sat S0 A S → pyR S x = some (.list (l.map q.dat)) ∨ pyR S x = some (.tuple (l.map q.dat))) :
    XM S0 A (eP (lift (pInB neg)) [ma, mb]) env ((memC e a l).map fun b => if neg then !b else b) (va D.bl) := fun c hc => by
  unfold memC at hc
  by_cases z : (q.ok a && l.all q.ok) = true
  · rw [if_pos z] at hc
    cases hc
    refine ex_p2 h k fun S s => ?_
    have z' := Bool.and_eq_true_iff.mp z
    have h1 : pyR S xa = some (q.dat a) := ha S s
    have h3 : inRes neg (q.dat a) (l.map q.dat) = some (va D.bl (if neg then !decide (a ∈ l) else decide (a ∈ l))) := by
      unfold inRes
      rw [shaped_one hd z'.1, shaped_all hd z'.2, any_eqv]
      rfl
    show (match pyR S xa, pyR S x with
      | some d, some (.list ds) => inRes neg d ds
      | some d, some (.tuple ds) => inRes neg d ds
      | _, _ => none) = _
    rcases hq S s with h2 | h2
    · rw [h1, h2]; exact h3
    · rw [h1, h2]; exact h3
  · rw [if_neg z] at hc; cases hc
theorem xm_inB (neg : Bool) [q : EqE α e] [DecidableEq α] {a : α} {l : List α} (hd : q.dep < 11) (h : Ex S0 A ma env (.va (e a))) (k : Ex S0 A mb env x) (hq : Ls S0 A x (l.map e)) :
    XM S0 A (eP (lift (pInB neg)) [ma, mb]) env ((memC e a l).map fun b => if neg then !b else b) (va D.bl) := xm_inR neg hd h (fun S _ => q.py a S 40 (by omega)) k fun S s => .inl (pyR_ls hd (hq S s))
theorem pyR_tl {S : Sto} {l : List α} [q : EqE α e] (hd : q.dep < 11) : pyR S (.va (eTL e l)) = some (.tuple (l.map q.dat)) := by
  show (pyAll (py 39 S) (l.map e)).map PyData.tuple = _
  rw [py_all (k := 39) (by omega)]; rfl
theorem xm_notInT [q : EqE α e] [DecidableEq α] {a : α} {l : List α} (hd : q.dep < 11) (h : Ex S0 A ma env (.va (e a))) (k : Ex S0 A mb env (.va (eTL e l))) : XM S0 A (eP (lift pNotIn) [ma, mb]) env ((memC e a l).map (!·)) (va D.bl) := by
  have := xm_inR true hd h (fun S _ => q.py a S 40 (by omega)) k fun S _ => .inr (pyR_tl hd)
  simpa using this
theorem xm_notInTf {e : α → D} [q : EqE α e] [DecidableEq α] {a : List α} {l : List (List α)} {xa : Rv} (hd : q.dep < 10) (h : Ex S0 A ma env xa) (ha : Ls S0 A xa (a.map e)) (k : Ex S0 A mb env (.va (eTL (eFL e) l))) : XM S0 A (eP (lift pNotIn) [ma, mb]) env ((memC (eFL e) a l).map (!·)) (va D.bl) := by
  have := xm_inR (e := eFL e) (a := a) (l := l) true (show q.dep + 1 < 11 by omega) h (fun S s => pyR_ls (by omega) (ha S s)) k fun S _ => .inr (pyR_tl (show q.dep + 1 < 11 by omega))
  simpa using this
theorem ex_notInT [q : EqE α e] [o : OkE α e] [DecidableEq α] {a : α} {l : List α} (hd : q.dep < 11) (h : Ex S0 A ma env (.va (e a))) (k : Ex S0 A mb env (.va (eTL e l))) : Ex S0 A (eP (lift pNotIn) [ma, mb]) env (.va (.bl (!memB a l))) :=
  xm_notInT hd h k _ (by rw [show memC e a l = some (decide (a ∈ l)) from if_pos (by rw [o.all a, List.all_eq_true.mpr fun b _ => o.all b]; rfl)]; rfl)
theorem xm_in [q : EqE α e] [DecidableEq α] {a : α} {l : List α} (hd : q.dep < 11) (h : Ex S0 A ma env (.va (e a))) (k : Ex S0 A mb env x) (hq : Ls S0 A x (l.map e)) : XM S0 A (eP (lift pIn) [ma, mb]) env (memC e a l) (va D.bl) := by
  have := xm_inB false hd h k hq
  simpa using this
theorem ex_in [q : EqE α e] [o : OkE α e] [DecidableEq α] {a : α} {l : List α} (hd : q.dep < 11) (h : Ex S0 A ma env (.va (e a))) (k : Ex S0 A mb env x) (hq : Ls S0 A x (l.map e)) : Ex S0 A (eP (lift pIn) [ma, mb]) env (.va (.bl (memB a l))) :=
  xm_in hd h k hq _ (if_pos (by rw [o.all a, List.all_eq_true.mpr fun b _ => o.all b]; rfl))
theorem ex_isi {T C : String} {b : Bool} (h : Ex S0 A m env x) (ht : ∀ S, Sat S0 A S → tyN S x = some T) (hb : isiB T C = some b) : Ex S0 A (eP (lift (pIsi C)) [m]) env (.va (.bl b)) := ex_p1 h fun S s => by
  unfold pIsi
  dsimp only
  rw [ht S s]
  dsimp only
  rw [hb]; rfl
variable {Ai : List Asn} {it : IX}
theorem ix_fr {l : List α} (h : Ex S0 A m env (fl e l)) : IxM S0 A Ai (ixL m) env (some l) e := fun xs hx S s => by
  cases hx
  refine ⟨.fix (l.map e), ?_, List.length_map .., fun i S' _ => rfl⟩
  unfold ixL
  rw [h S s]; rfl
theorem ix_frl {l : List α} (h : Ex S0 A m env (.va (eFL e l))) : IxM S0 A Ai (ixL m) env (some l) e := fun xs hx S s => by
  cases hx
  refine ⟨.fix (l.map e), ?_, List.length_map .., fun i S' _ => rfl⟩
  unfold ixL
  rw [h S s]; rfl
theorem live_get {n : Nat} {l : List α} {L : Nat} (S' : Sto) (h : S'[n]? = some (.lst (l.map e))) (i : Nat) : Src.get (.live n L) i S' = some (l.map e)[i]? := by
  show (match S'[n]? with | some (.lst ds) => some ds[i]? | _ => none) = _
  rw [h]
theorem ix_ref {n j k : Nat} {l : List α} (h : Ex S0 A m env (.va (.ref n))) (ha : A[j]? = some (pt n (.lst (l.map e)))) (hi : Ai[k]? = some (pt n (.lst (l.map e)))) : IxM S0 A Ai (ixL m) env (some l) e := fun xs hx S s => by
  cases hx
  refine ⟨.live n (l.map e).length, ?_, List.length_map .., fun i S' s' => live_get S' (s'.get hi).1 i⟩
  unfold ixL
  rw [h S s]
  dsimp only [Rs.bind]
  rw [(s.get ha).1]
theorem ix_tl {l : List α} (h : Ex S0 A m env (.va (eTL e l))) : IxM S0 A Ai (ixT m) env (some l) e := fun xs hx S s => by
  cases hx
  refine ⟨.fix (l.map e), ?_, List.length_map .., fun i S' _ => rfl⟩
  unfold ixT
  rw [h S s]; rfl
def signsT (z : Str) : List Str := z.cps.toList.map fun c => ⟨#[c]⟩
theorem ix_str {z : Str} (h : Ex S0 A m env (.va (.str z))) : IxM S0 A Ai (ixS m) env (some (signsT z)) D.str := fun xs hx S s => by
  cases hx
  have e : signs z = (signsT z).map D.str := by unfold signs signsT; rw [List.map_map]; rfl
  refine ⟨.fix (signs z), ?_, by rw [show Src.len (.fix (signs z)) = (signs z).length from rfl, e, List.length_map], fun i S' _ => by rw [← e]; rfl⟩
  unfold ixS
  rw [h S s]; rfl
def rngC (i j : Int) : Option (List Int) := if (small62 i && small62 j) = true then some (rangeI i j) else none
theorem rng_is (lo hi : Int) (i : Nat) (S : Sto) : Src.get (.fix (rangeD lo hi)) i S = some ((rangeI lo hi).map D.int)[i]? := by rw [← range_map]; rfl
theorem ix_r1 (h : Ex S0 A m env (.va (.int i))) : IxM S0 A Ai (ixR1 m) env (rngC 0 i) D.int := fun xs hx S s => by
  unfold rngC at hx
  by_cases q : (small62 0 && small62 i) = true
  · rw [if_pos q] at hx
    cases hx
    have q2 := (Bool.and_eq_true_iff.mp q).2
    refine ⟨.fix (rangeD 0 i), ?_, by rw [show Src.len (.fix (rangeD 0 i)) = (rangeD 0 i).length from rfl, range_map, List.length_map], fun i' S' _ => rng_is _ _ _ _⟩
    unfold ixR1
    rw [h S s]
    dsimp only [Rs.bind]
    rw [if_pos q2]
  · rw [if_neg q] at hx; cases hx
/-- of numbers of any size -/
def rngB (i j : Int) : Option (List Int) := some (rangeI i j)
theorem ix_r2B (h : Ex S0 A ma env (.va (.int i))) (k : Ex S0 A mb env (.va (.int j))) : IxM S0 A Ai (ixR2 ma mb) env (rngB i j) D.int := fun xs hx S s => by
  cases hx
  refine ⟨.fix (rangeD i j), ?_, by rw [show Src.len (.fix (rangeD i j)) = (rangeD i j).length from rfl, range_map, List.length_map], fun i' S' _ => rng_is _ _ _ _⟩
  unfold ixR2
  rw [h S s]
  dsimp only [Rs.bind]
  rw [k S s]
theorem ix_r2 (h : Ex S0 A ma env (.va (.int i))) (k : Ex S0 A mb env (.va (.int j))) : IxM S0 A Ai (ixR2 ma mb) env (rngC i j) D.int := fun xs hx => by
  refine ix_r2B h k xs ?_
  unfold rngC at hx
  by_cases q : (small62 i && small62 j) = true
  · rw [if_pos q] at hx; exact hx
  · rw [if_neg q] at hx; cases hx
/-- what is walked wants a condition -/
theorem ix_sub {X : Option α} {c : α → Rv} {K : α → Option (List β)} (h : XM S0 A m env X c) (k : ∀ t, Ex S0 A m env (c t) → IxM S0 A Ai it env (K t) f) : IxM S0 A Ai it env (X.bind K) f := fun xs hx S s => by
  cases X with
  | none => cases hx
  | some t => exact k t (h t rfl) xs hx S s
theorem tg_1 {n : Nat} {d : D} : (Tg.name n).bind d env = some (env.set n (some d)) := rfl
theorem tg_2 {n n2 : Nat} {p : α × β} : (Tg.names [n, n2]).bind (eP2 e f p) env = some ((env.set n (some (e p.1))).set n2 (some (f p.2))) := rfl
theorem tg_3 {n n2 n3 : Nat} {p : α × β × γ} : (Tg.names [n, n2, n3]).bind (eP3 e f g p) env = some (((env.set n (some (e p.1))).set n2 (some (f p.2.1))).set n3 (some (g p.2.2))) := rfl
def okSplit (x y : Str) : Option (List Str) := if (y.length == 0) = false ∧ x.length + 2 ≤ sizeLine ∧ (Txt.split x y).length ≤ sizeLine then some (Txt.split x y) else none
theorem ex_m {f : Sto → List Rv → Option Rv} {isT : Sto → Rv → Bool} {xs : List Rv} {z : Rv} (h : Ex S0 A m env x) (hT : ∀ S, Sat S0 A S → isT S x = true) (h2 : ExA S0 A ms env xs) (hf : ∀ S, Sat S0 A S → f S (x :: xs) = some z) : Ex S0 A (eM isT (lift f) m ms) env z := fun S s => by
  unfold eM lift
  rw [h S s, Rs.bind_ok, if_pos (hT S s), h2 S s, Rs.bind_ok, hf S s]; rfl
theorem xm_split {x y : Str} (h : Ex S0 A ma env (.va (.str x))) (k : Ex S0 A mb env (.va (.str y))) : XM S0 A (eM isSt (lift pSplit) ma [mb]) env (okSplit x y) (fl D.str) := xm_if fun q => xm_pure (ex_m h (fun _ _ => rfl) (exa_cons k exa_nil) fun S s => by
  unfold pSplit
  dsimp only
  rw [if_pos q]; rfl)
def okStrip (x y : Str) : Option Str := if x.length ≤ sizeLine then some (Txt.stripChars x y) else none
theorem xm_strip {x y : Str} (h : Ex S0 A ma env (.va (.str x))) (k : Ex S0 A mb env (.va (.str y))) : XM S0 A (eM isSt (lift (pSS gStrip)) ma [mb]) env (okStrip x y) (va D.str) := xm_if fun q => xm_pure (ex_m h (fun _ _ => rfl) (exa_cons k exa_nil) fun S s => by
  show (gStrip x y).map Rv.va = _
  unfold gStrip
  rw [if_pos q]; rfl)
theorem ex_find {x y : Str} (h : Ex S0 A ma env (.va (.str x))) (k : Ex S0 A mb env (.va (.str y))) : Ex S0 A (eM isSt (lift (pSS gFind)) ma [mb]) env (.va (.int (Txt.find x y))) := ex_m h (fun _ _ => rfl) (exa_cons k exa_nil) fun S s => rfl
end
end Cy
set_option Elab.async false
set_option linter.all false
set_option maxRecDepth 100000
set_option maxHeartbeats 2000000
set_option autoImplicit false
namespace Cy
open PySem L2
section
variable {S0 : Bs} {A : List Asn} {env : Env} {α β γ δ τ κ : Type} {m ma mb mc : EX} {ms : List EX} {i j k : Int} {e : α → D} {f : β → D} {g : γ → D} {x y : Rv} {P : SR → τ → Prop} {rest : SM}
theorem dStrs_map (l : List Str) : dStrs (l.map D.str) = some l := by
  induction l with
  | nil => rfl
  | cons a r ih => show (dStrs (r.map D.str)).map (a :: ·) = _; rw [ih]; rfl
def joinC (a : Str) (l : List Str) : Option Str := if (l.map (·.length)).sum + l.length * a.length ≤ 16777216 then some (Txt.join a l) else none
theorem xm_join {a : Str} {l : List Str} (h : Ex S0 A ma env (.va (.str a))) (k : Ex S0 A mb env x) (q : Qs S0 A x (l.map D.str)) : XM S0 A (eM isSt (lift pJoin) ma [mb]) env (joinC a l) (va D.str) := xm_if fun z => xm_pure (ex_m h (fun _ _ => rfl) (exa_cons k exa_nil) fun S s => by
  unfold pJoin
  dsimp only
  rw [q S s]
  dsimp only
  rw [dStrs_map]
  dsimp only
  rw [if_pos z]; rfl)
theorem sx_aug {X : Option α} {e : α → D} {K : α → Option τ} {n : Nat} {d : D} {f : Sto → List Rv → Option Rv} {y : Rv} (hv : env[n]? = some (some d)) (h : Ex S0 A m env y) (hf : ∀ a, X = some a → ∀ S, Sat S0 A S → f S [.va d, y] = some (va e a)) (k : ∀ x, Sx P S0 A rest (env.set n (some (e x))) (K x)) :
    Sx P S0 A (sSeq (sAug n (lift f) m) rest) env (X.bind K) := fun t ht S hs => by
  cases X with
  | none => cases ht
  | some x =>
    unfold sSeq sAug
    rw [hv]
    dsimp only
    rw [h S hs]
    dsimp only [Rs.on]
    unfold lift
    rw [hf x rfl S hs]
    exact k x t ht S hs
theorem sx_augI {K : Int → Option τ} {n : Nat} (hv : env[n]? = some (some (.int i))) (h : Ex S0 A m env (.va (.int j))) (k : ∀ x, Sx P S0 A rest (env.set n (some (.int x))) (K x)) : Sx P S0 A (sSeq (sAug n (lift pIadd) m) rest) env ((some (i + j)).bind K) := sx_aug (e := D.int) hv h (fun a ha S s => by cases ha; rfl) k
/-- what a statement wants of its expression first -/
theorem sx_sub {X : Option α} {c : α → Rv} {K : α → Option τ} {s : SM} (h : XM S0 A m env X c) (k : ∀ t, Ex S0 A m env (c t) → Sx P S0 A s env (K t)) : Sx P S0 A s env (X.bind K) := fun t ht S hs => by
  cases X with
  | none => cases ht
  | some v => exact k v (h v rfl) t ht S hs
def fldI (tbl : List (Nat × Nat)) (c : Nat) (ds : List D) : Option D := match tbl.lookup c with
  | some j => ds[j]?
  | none => none
theorem ex_fld {tbl : List (Nat × Nat)} {c : Nat} {ds : List D} {d : D} (h : Ex S0 A m env (.va (.obj c ds))) (q : fldI tbl c ds = some d) : Ex S0 A (eFld tbl m) env (.va d) := fun S s => by
  unfold eFld
  rw [h S s]
  dsimp only [Rs.bind]
  rw [show fldAt tbl S (.va (.obj c ds)) = some d from q]
/-- made: its __init__ has this to tell -/
def IniOk (f : FI) (c : Nat) (as ds : List D) : Prop := ∀ S, f (.ref S.length :: as) (S ++ [.ins c []]) = .ok (.va .non) (S ++ [.ins c ds])
theorem ex_new {f : FI} {c : Nat} {xs : List Rv} {as ds dds : List D} (h : ExA S0 A ms env xs) (hu : unva xs = some as) (hi : IniOk f c (as ++ dds) ds) (u : ∀ n, D.unds n ds = true) : Ex S0 A (eFz (eCl (eNew c f ms dds))) env (.va (.obj c ds)) := fun S s => by
  have e1 : eNew c f ms dds env S = .ok (.va (.ref S.length)) (S ++ [.ins c ds]) := by
    unfold eNew
    rw [h S s]
    dsimp only [Rs.bind]
    rw [hu]
    dsimp only
    rw [hi S]
  have e2 : eCl (eNew c f ms dds) env S = .ok (.fr (.ins c ds)) S := by
    unfold eCl
    rw [e1]
    dsimp only [Rs.bind]
    unfold cutRv
    have hn : (D.ref S.length).und S.length = false := by
      show decide (S.length < S.length) = false
      exact decide_eq_false (Nat.lt_irrefl _)
    dsimp only
    rw [hn, Bool.and_false, if_neg Bool.false_ne_true]
    have hg : (S ++ [Ob.ins c ds])[S.length]? = some (.ins c ds) := by simp
    rw [hg]
    dsimp only
    rw [cutB_app, decide_eq_true (Nat.le_refl _), show Ob.und S.length (.ins c ds) = true from u _, List.take_left]
    rfl
  unfold eFz
  rw [e2]; rfl
class KeyE (κ : Type) [DecidableEq κ] (e : κ → D) : Prop where
  key : ∀ a, isKey (e a) = true
  inj : ∀ a b, keyEq (e a) (e b) = decide (a = b)
  same : ∀ a b, isTK (e a) = isTK (e b)
instance : KeyE Int D.int := ⟨fun _ => rfl, fun _ _ => rfl, fun _ _ => rfl⟩
instance : KeyE Str D.str := ⟨fun _ => rfl, fun _ _ => rfl, fun _ _ => rfl⟩
/-- keys that are tuples, to this depth -/
class KN {α : Type} (e : α → D) (n : Nat) : Prop where
  tell : ∃ f : α → NestedKey, (∀ a, keyN (e a) = some (f a)) ∧ (∀ a b, f a = f b → a = b) ∧ ∀ a, (f a).depth ≤ n
instance (n : Nat) : KN D.int n := ⟨fun i => .num i, fun _ => rfl, (fun _ _ h => by cases h; rfl), fun _ => Nat.zero_le _⟩
instance (n : Nat) : KN D.str n := ⟨fun i => .text i, fun _ => rfl, (fun _ _ h => by cases h; rfl), fun _ => Nat.zero_le _⟩
instance (n : Nat) : KN D.bl n := ⟨fun b => .num (if b = true then 1 else 0), fun _ => rfl, (by intro a b h; cases a <;> cases b <;> first | rfl | cases h), fun _ => Nat.zero_le _⟩
theorem keysN_map {α : Type} {e : α → D} {f : α → NestedKey} (h : ∀ a, keyN (e a) = some (f a)) : ∀ l : List α, keysN (l.map e) = some (l.map f)
  | [] => rfl
  | a :: r => by
    show (keyN (e a)).bind (fun k => (keysN (r.map e)).map (k :: ·)) = _
    rw [h, keysN_map h r]; rfl
theorem depth_map {α : Type} {f : α → NestedKey} {n : Nat} (h : ∀ a, (f a).depth ≤ n) : ∀ l : List α, NestedKey.depthAll (l.map f) ≤ n
  | [] => Nat.zero_le _
  | a :: r => by
    show max (f a).depth (NestedKey.depthAll (r.map f)) ≤ n
    have := h a
    have := depth_map h r
    omega
theorem map_injL {α β : Type} {f : α → β} (h : ∀ a b, f a = f b → a = b) : ∀ a b : List α, a.map f = b.map f → a = b
  | [], [], _ => rfl
  | [], _ :: _, e => by simp at e
  | _ :: _, [], e => by simp at e
  | x :: xs, y :: ys, e => by
    rw [List.map_cons, List.map_cons] at e
    injection e with e1 e2
    rw [h _ _ e1, map_injL h _ _ e2]
instance {α : Type} {e : α → D} (n : Nat) [q : KN e n] : KN (eTL e) (n + 1) := by
  obtain ⟨f, h1, h2, h3⟩ := q.tell
  refine ⟨fun l => .tup (l.map f), fun l => ?_, fun a b h => ?_, fun l => Nat.succ_le_succ (depth_map h3 l)⟩
  · show (keysN (l.map e)).map NestedKey.tup = _
    rw [keysN_map h1]; rfl
  · injection h with h
    exact map_injL h2 a b h
instance {α β : Type} {e : α → D} {f : β → D} (n : Nat) [q : KN e n] [p : KN f n] : KN (eP2 e f) (n + 1) := by
  obtain ⟨j, h1, h2, h3⟩ := q.tell
  obtain ⟨k, k1, k2, k3⟩ := p.tell
  refine ⟨fun l => .tup [j l.1, k l.2], fun l => ?_, fun a b h => ?_, fun l => ?_⟩
  · show (keysN [e l.1, f l.2]).map NestedKey.tup = _
    unfold keysN keysN keysN
    rw [h1, k1]; rfl
  · injection h with h
    injection h with e1 h
    injection h with e2 h
    exact Prod.ext (h2 _ _ e1) (k2 _ _ e2)
  · have a1 := h3 l.1
    have a2 := k3 l.2
    show max (j l.1).depth (max (k l.2).depth 0) + 1 ≤ n + 1
    omega
instance {α β γ : Type} {e : α → D} {f : β → D} {g : γ → D} (n : Nat) [q : KN e n] [p : KN f n] [r : KN g n] : KN (eP3 e f g) (n + 1) := by
  obtain ⟨j, h1, h2, h3⟩ := q.tell
  obtain ⟨k, k1, k2, k3⟩ := p.tell
  obtain ⟨m, m1, m2, m3⟩ := r.tell
  refine ⟨fun l => .tup [j l.1, k l.2.1, m l.2.2], fun l => ?_, fun a b h => ?_, fun l => ?_⟩
  · show (keysN [e l.1, f l.2.1, g l.2.2]).map NestedKey.tup = _
    unfold keysN keysN keysN keysN
    rw [h1, k1, m1]; rfl
  · injection h with h
    injection h with e1 h
    injection h with e2 h
    injection h with e3 h
    exact Prod.ext (h2 _ _ e1) (Prod.ext (k2 _ _ e2) (m2 _ _ e3))
  · have a1 := h3 l.1
    have a2 := k3 l.2.1
    have a3 := m3 l.2.2
    show max (j l.1).depth (max (k l.2.1).depth (max (m l.2.2).depth 0)) + 1 ≤ n + 1
    omega
theorem keyE_tup {κ : Type} [DecidableEq κ] {e : κ → D} (h : ∀ a, ∃ ds, e a = .tup ds) (q : KN e 8) : KeyE κ e := by
  obtain ⟨f, h1, h2, h3⟩ := q.tell
  have t : ∀ a, isTK (e a) = true := fun a => by
    obtain ⟨ds, hd⟩ := h a
    have := h1 a
    rw [hd] at this ⊢
    show (match keyN (.tup ds) with | some k => decide (k.depth ≤ 8) | none => false) = true
    rw [this]
    exact decide_eq_true (h3 a)
  refine ⟨fun a => by unfold isKey; rw [t, Bool.or_true], fun a b => ?_, fun a b => by rw [t, t]⟩
  rw [keyEq_n (h1 a) (h1 b) (t a) (t b)]
  by_cases e : a = b
  · subst e; simp
  · rw [decide_eq_false e, decide_eq_false fun z => e (h2 _ _ z)]
instance {α β : Type} [DecidableEq (α × β)] {e : α → D} {f : β → D} [q : KN e 7] [p : KN f 7] : KeyE (α × β) (eP2 e f) := keyE_tup (fun _ => ⟨_, rfl⟩) inferInstance
instance {α β γ : Type} [DecidableEq (α × β × γ)] {e : α → D} {f : β → D} {g : γ → D} [q : KN e 7] [p : KN f 7] [r : KN g 7] : KeyE (α × β × γ) (eP3 e f g) := keyE_tup (fun _ => ⟨_, rfl⟩) inferInstance
instance {α : Type} [DecidableEq (List α)] {e : α → D} [q : KN e 7] : KeyE (List α) (eTL e) := keyE_tup (fun _ => ⟨_, rfl⟩) inferInstance
def eKV (e : κ → D) (f : β → D) (l : List (κ × β)) : List (D × D) := l.map fun p => (e p.1, f p.2)
def dget [DecidableEq κ] (l : List (κ × β)) (k : κ) : Option β := (l.find? fun p => decide (p.1 = k)).map (·.2)
def dput [DecidableEq κ] (l : List (κ × β)) (k : κ) (v : β) : List (κ × β) := if (l.any fun p => decide (p.1 = k)) = true then l.map fun p => if decide (p.1 = k) = true then (p.1, v) else p else l ++ [(k, v)]
variable {ek : κ → D} [DecidableEq κ] [q : KeyE κ ek]
theorem dget_map (l : List (κ × β)) (k : κ) : dGetD (eKV ek f l) (ek k) = (dget l k).map f := by
  unfold dGetD eKV dget
  induction l with
  | nil => rfl
  | cons p r ih =>
    rw [List.map_cons, List.find?_cons, List.find?_cons]
    dsimp only
    rw [q.inj]
    cases decide (p.1 = k) with
    | true => rfl
    | false => exact ih
theorem kv_keyB (l : List (κ × β)) (k : κ) : keyB (eKV ek f l) (ek k) = true := by
  unfold keyB kindB eKV
  rw [q.key, Bool.true_and, List.all_map]
  refine List.all_eq_true.mpr fun p _ => ?_
  show (isTK (ek p.1) == isTK (ek k)) = true
  rw [q.same p.1 k]
  cases isTK (ek k) <;> rfl
theorem dput_map' (l : List (κ × β)) (k : κ) (v : β) : dPutD (eKV ek f l) (ek k) (f v) = eKV ek f (dput l k v) := by
  unfold dPutD dput eKV
  have h1 : ((l.map fun p => (ek p.1, f p.2)).any fun kv => keyEq kv.1 (ek k)) = l.any fun p => decide (p.1 = k) := by
    rw [List.any_map]
    congr 1
    funext p
    exact q.inj _ _
  rw [h1]
  by_cases h : (l.any fun p => decide (p.1 = k)) = true
  · rw [if_pos h, if_pos h, List.map_map, List.map_map]
    refine List.map_congr_left fun p _ => ?_
    show (if keyEq (ek p.1) (ek k) = true then (ek p.1, f v) else (ek p.1, f p.2)) = _
    rw [q.inj]
    show _ = (ek (if decide (p.1 = k) = true then (p.1, v) else p).1, f (if decide (p.1 = k) = true then (p.1, v) else p).2)
    split <;> rfl
  · rw [if_neg h, if_neg h, List.map_append]; rfl
theorem vd_ref {n j : Nat} {l : List (κ × β)} {S : Sto} (s : Sat S0 A S) (h : A[j]? = some (pt n (.dct (eKV ek f l)))) : vD S (.va (.ref n)) = some (eKV ek f l) := by
  unfold vD
  dsimp only
  rw [(s.get h).1]
theorem ex_din {n j : Nat} {l : List (κ × β)} {a : κ} {neg : Bool} (h : Ex S0 A ma env (.va (ek a))) (k : Ex S0 A mb env (.va (.ref n))) (hA : A[j]? = some (pt n (.dct (eKV ek f l)))) : Ex S0 A (eDIn neg ma mb) env (.va (.bl (if neg then !(dget l a).isSome else (dget l a).isSome))) := fun S s => by
  unfold eDIn
  rw [h S s]
  dsimp only [Rs.bind]
  rw [k S s]
  dsimp only [Rs.bind]
  rw [vd_ref s hA]
  dsimp only
  rw [if_pos (kv_keyB l a), dget_map]
  cases dget l a <;> rfl
def dputC (l : List (κ × β)) (k : κ) (v : β) : Option (List (κ × β)) := if l.length < sizeLine then some (dput l k v) else none
theorem sx_dput {X : Option β} {K : List (κ × β) → Option τ} {n j : Nat} {l : List (κ × β)} {a : κ} {mo mi : EX} (ho : Ex S0 A mo env (.va (.ref n))) (hA : A[j]? = some (pt n (.dct (eKV ek f l)))) (hi : Ex S0 A mi env (.va (ek a))) (h : XM S0 A m env X (va f))
    (k : ∀ l', Sx P S0 (A.set j (pt n (.dct (eKV ek f l')))) rest env (K l')) : Sx P S0 A (sSeq (sDPut mo mi m) rest) env (X.bind fun v => (dputC l a v).bind K) := fun t ht S hs => by
  cases X with
  | none => cases ht
  | some v =>
    have ht : (dputC l a v).bind K = some t := ht
    unfold dputC at ht
    by_cases hz : l.length < sizeLine
    · rw [if_pos hz] at ht
      have h1 := ex_to (h v rfl) S hs
      unfold sSeq sDPut
      rw [h1]
      dsimp only [Rs.on]
      rw [ho S hs]
      dsimp only [Rs.on]
      rw [hi S hs]
      dsimp only [Rs.on]
      rw [(hs.get hA).1]
      dsimp only
      rw [if_pos ⟨kv_keyB l a, by unfold eKV; rw [List.length_map]; exact hz⟩]
      dsimp only [SR.then]
      rw [dput_map']
      exact k _ t ht _ (hs.wr hA)
    · rw [if_neg hz] at ht; cases ht
end
end Cy
set_option Elab.async false
set_option linter.all false
set_option maxRecDepth 100000
set_option maxHeartbeats 2000000
set_option autoImplicit false
namespace Cy
open PySem L2
section
variable {S0 : Bs} {A : List Asn} {env : Env} {α β γ δ τ κ ρ : Type} {m ma mb mc mo mi : EX} {ms : List EX} {i j k : Int} {e : α → D} {f : β → D} {g : γ → D} {x y : Rv} {P : SR → τ → Prop} {rest : SM}
theorem ex_conv {d d' : D} (q : d = d') (h : Ex S0 A m env (.va d)) : Ex S0 A m env (.va d') := q ▸ h
theorem ex_convF {d d' : List D} (q : d = d') (h : Ex S0 A m env (.fr (.lst d))) : Ex S0 A m env (.fr (.lst d')) := q ▸ h
theorem ex_fzv {d : D} (h : Ex S0 A m env (.va d)) : Ex S0 A (eFz m) env (.va d) := ex_fz h
def CmpI (f : Sto → List Rv → Option Rv) (g : Int → Int → Bool) : Prop := ∀ S i j, f S [.va (.int i), .va (.int j)] = some (.va (.bl (g i j)))
theorem cl_le : CmpI (pII gLe) fun i j => decide (i ≤ j) := fun _ _ _ => rfl
theorem ex_chain {f f' : Sto → List Rv → Option Rv} {g g' : Int → Int → Bool} (c1 : CmpI f g) (c2 : CmpI f' g') (h1 : Ex S0 A ma env (.va (.int i))) (h2 : Ex S0 A mb env (.va (.int j))) (h3 : Ex S0 A mc env (.va (.int k))) : Ex S0 A (eChain (lift f) (lift f') ma mb mc) env (.va (.bl (g i j && g' j k))) := fun S s => by
  unfold eChain lift
  rw [h1 S s, Rs.bind_ok, h2 S s, Rs.bind_ok, c1 S i j]
  dsimp only [Option.map]
  cases g i j with
  | false => rfl
  | true =>
    rw [if_pos rfl, h3 S s, Rs.bind_ok, c2 S j k]; rfl
theorem eqL_typedC [q : EqE α e] [DecidableEq α] {a b : List α} (hd : q.dep < 11) (ka : a.all q.ok = true) (kb : b.all q.ok = true) {S : Sto} (h1 : vL S x = some (a.map e)) (h2 : vL S y = some (b.map e)) : eqB S x y = some (decide (a = b)) := by
  have key : eqD S x y = some (decide (a = b)) := by
    unfold eqD
    rw [pyR_ls hd h1, pyR_ls hd h2]
    dsimp only
    rw [shaped_all hd ka, shaped_all hd kb]
    show some _ = some _
    congr 1
    rw [Bool.eq_iff_iff, decide_eq_true_iff]
    exact eqv_all a b
  unfold eqB
  cases x with
  | fr o => cases y <;> exact key
  | va d =>
    cases y with
    | fr o => exact key
    | va d' =>
      dsimp only
      have : eqS d d' = none := by
        cases d <;> first | (cases h1; done) | (cases d' <;> first | rfl | (cases h2; done))
      rw [this]
      exact key
theorem eqL_typed [q : EqE α e] [o : OkE α e] [DecidableEq α] {a b : List α} (hd : q.dep < 11) {S : Sto} (h1 : vL S x = some (a.map e)) (h2 : vL S y = some (b.map e)) : eqB S x y = some (decide (a = b)) := eqL_typedC hd (List.all_eq_true.mpr fun b _ => o.all b) (List.all_eq_true.mpr fun b _ => o.all b) h1 h2
def eqLC (e : α → D) [q : EqE α e] [DecidableEq α] (a b : List α) : Option Bool := if (a.all q.ok && b.all q.ok) = true then some (decide (a = b)) else none
theorem xm_eqL [q : EqE α e] [DecidableEq α] {a b : List α} (hd : q.dep < 11) (h : Ex S0 A ma env x) (q1 : Ls S0 A x (a.map e)) (l : Ex S0 A mb env y) (q2 : Ls S0 A y (b.map e)) : XM S0 A (eP (lift pEq) [ma, mb]) env (eqLC e a b) (va D.bl) := xm_if fun z => xm_pure (ex_p2 h l fun S s => by
  have z' := Bool.and_eq_true_iff.mp z
  unfold pEq
  dsimp only
  rw [eqL_typedC hd z'.1 z'.2 (q1 S s) (q2 S s)]; rfl)
theorem ex_neL [q : EqE α e] [o : OkE α e] [DecidableEq α] {a b : List α} (hd : q.dep < 11) (h : Ex S0 A ma env x) (q1 : Ls S0 A x (a.map e)) (l : Ex S0 A mb env y) (q2 : Ls S0 A y (b.map e)) : Ex S0 A (eP (lift pNe) [ma, mb]) env (.va (.bl (!decide (a = b)))) := ex_p2 h l fun S s => by
  unfold pNe
  dsimp only
  rw [eqL_typed hd (q1 S s) (q2 S s)]; rfl
def tl2 : List α → Option (α × α)
  | [a, b] => some (a, b)
  | _ => none
theorem tl2_inv {l : List α} {p : α × α} (h : tl2 l = some p) : l = [p.1, p.2] := by
  match l, h with
  | [a, b], h => cases h; rfl
theorem mapO_inv {F : α → Option β} {G : β → α} (hF : ∀ a b, F a = some b → a = G b) : ∀ {l : List α} {k : List β}, mapO F l = some k → l = k.map G
  | [], k, h => by cases h; rfl
  | a :: r, k, h => by
    unfold mapO at h
    cases h1 : F a with
    | none => rw [h1] at h; cases h
    | some b =>
      rw [h1] at h
      have h : ((mapO F r).bind fun ys => some (b :: ys)) = some k := h
      cases h2 : mapO F r with
      | none => rw [h2] at h; cases h
      | some ks =>
        rw [h2] at h
        cases h
        rw [List.map_cons, ← mapO_inv hF h2, ← hF a b h1]
theorem ixm_conv {Ai : List Asn} {it : IX} {X : Option (List α)} {F : α → Option β} {G : β → α} (hF : ∀ a b, F a = some b → a = G b) (he : ∀ b, e (G b) = f b) (h : IxM S0 A Ai it env X e) : IxM S0 A Ai it env (X.bind (mapO F)) f := fun xs hx S s => by
  cases X with
  | none => cases hx
  | some l =>
    have hl := mapO_inv hF (show mapO F l = some xs from hx)
    obtain ⟨src, h1, h2, h3⟩ := h l rfl S s
    have e1 : l.map e = xs.map f := by
      rw [hl, List.map_map]
      exact List.map_congr_left fun b _ => he b
    exact ⟨src, h1, by rw [h2, hl, List.length_map], fun i S' s' => by rw [h3 i S' s', e1]⟩
theorem ixm_tl2 {Ai : List Asn} {it : IX} {X : Option (List (List α))} (h : IxM S0 A Ai it env X (eTL e)) : IxM S0 A Ai it env (X.bind (mapO tl2)) (eP2 e e) := ixm_conv (G := fun p => [p.1, p.2]) (fun _ _ h => tl2_inv h) (fun _ => rfl) h
theorem sx_ret0 {X : Option ρ} {e : ρ → D} (h : XM S0 A m env X (va e)) : Sx (PV S0 e) S0 A (sSeq (sRet m) rest) env X := by
  have := sx_ret (P := PV S0 e) (rest := rest) (ι := fun r => r) (fun _ _ h => h) h
  have e1 : X.map (fun r => r) = X := by cases X <;> rfl
  rw [e1] at this
  exact this
theorem sx_retF0 {X : Option (List α)} {e : α → D} (h : XM S0 A m env X (fl e)) : Sx (PVL S0 e) S0 A (sSeq (sRet m) rest) env X := by
  have := sx_retF (P := PVL S0 e) (rest := rest) (ι := fun r => r) (fun _ _ h => h) h
  have e1 : X.map (fun r => r) = X := by cases X <;> rfl
  rw [e1] at this
  exact this
theorem sx_dnew0 {X : Option τ} {ek : κ → D} {n : Nat} (k : ∀ a, Sx P S0 (pt a (.dct (eKV ek f [])) :: A) rest (env.set n (some (.ref a))) X) : Sx P S0 A (sSeq (sAsg (.name n) eDNew) rest) env X := fun t ht S hs => k S.length t ht _ (hs.new _)
def putAt (l : List α) (i : Int) (v : α) : Option (List α) := (ixN l.length i).map fun j => l.set j v
theorem sx_sub1 {X : Option α} {K : List α → Option τ} {n j : Nat} {i : Int} {l : List α} (ho : Ex S0 A mo env (.va (.ref n))) (hA : A[j]? = some (pt n (.lst (l.map e)))) (hi : Ex S0 A mi env (.va (.int i))) (h : XM S0 A m env X (va e))
    (k : ∀ l', Sx P S0 (A.set j (pt n (.lst (l'.map e)))) rest env (K l')) : Sx P S0 A (sSeq (sSub mo mi m) rest) env (X.bind fun v => (putAt l i v).bind K) := fun t ht S hs => by
  cases X with
  | none => cases ht
  | some v =>
    have ht : (putAt l i v).bind K = some t := ht
    unfold putAt at ht
    cases hx : ixN l.length i with
    | none => rw [hx] at ht; cases ht
    | some z =>
      rw [hx] at ht
      have h1 := ex_to (h v rfl) S hs
      unfold sSeq sSub
      rw [h1]
      dsimp only [Rs.on]
      rw [ho S hs]
      dsimp only [Rs.on]
      rw [hi S hs]
      dsimp only [Rs.on]
      unfold pSetL
      dsimp only
      rw [(hs.get hA).1]
      dsimp only
      rw [List.length_map, hx]
      dsimp only [Option.map, SR.then]
      rw [← List.map_set]
      exact k _ t ht _ (hs.wr hA)
theorem er_map : ∀ (l : List α) (n : Nat), (l.map e).eraseIdx n = (l.eraseIdx n).map e
  | [], _ => rfl
  | a :: r, 0 => rfl
  | a :: r, n + 1 => by
    show e a :: (r.map e).eraseIdx n = _
    rw [er_map r n]; rfl
def popAt (l : List α) (i : Int) : Option (α × List α) := if i.natAbs < 9223372036854775808 then (seqIndex? i l.length).bind fun k => (l[k]?).map fun a => (a, l.eraseIdx k) else none
theorem sx_pop {K : α × List α → Option τ} {n j v : Nat} {s : Nat} {i : Int} {l : List α} (he : env[v]? = some (some (.ref n))) (hA : A[j]? = some (pt n (.lst (l.map e)))) (hi : Ex S0 A mi env (.va (.int i)))
    (k : ∀ q : α × List α, Sx P S0 (A.set j (pt n (.lst (q.2.map e)))) rest (env.set s (some (e q.1))) (K q)) : Sx P S0 A (sSeq (sAsg (.name s) (eFz (eM isL pPopAt (eVar v) [mi]))) rest) env ((popAt l i).bind K) := fun t ht S hs => by
  unfold popAt at ht
  by_cases hz : i.natAbs < 9223372036854775808
  · rw [if_pos hz] at ht
    cases hx : seqIndex? i l.length with
    | none => rw [hx] at ht; cases ht
    | some z =>
      rw [hx] at ht
      have ht : (((l[z]?).map fun a => (a, l.eraseIdx z)).bind K) = some t := ht
      cases hg : l[z]? with
      | none => rw [hg] at ht; cases ht
      | some a =>
        rw [hg] at ht
        have h2 := (hs.get hA).1
        have hl : isL S (.va (.ref n)) = true := by unfold isL vL; dsimp only; rw [h2]; rfl
        have hp : pPopAt S [.va (.ref n), .va (.int i)] = some (.va (e a), S.set n (.lst ((l.eraseIdx z).map e))) := by
          unfold pPopAt
          dsimp only
          rw [h2]
          dsimp only
          rw [if_pos hz, List.length_map, hx]
          dsimp only
          rw [List.getElem?_map, hg]
          dsimp only [Option.map]
          rw [er_map]
        have hm : eM isL pPopAt (eVar v) [mi] env S = .ok (.va (e a)) (S.set n (.lst ((l.eraseIdx z).map e))) := by
          unfold eM
          rw [ex_var he S hs, Rs.bind_ok, if_pos hl]
          unfold eArgs eArgs
          rw [hi S hs]
          dsimp only [Rs.bind]
          rw [hp]
        unfold sSeq sAsg eTo eFz
        rw [hm]
        exact k (a, l.eraseIdx z) t ht _ (hs.wr hA)
  · rw [if_neg hz] at ht; cases ht
end
def Ini (b : SM) (c : Nat) (as : Env) (ds ds' : List D) : Prop := ∀ S : Sto, b (some (.ref S.length) :: as) (S ++ [.ins c ds]) = .nx (some (.ref S.length) :: as) (S ++ [.ins c ds'])
theorem sat0 (S : Sto) : Sat (bs []) [] S := ⟨kp_app [] S, [], .nil, by simp, by simp⟩
section
variable {b rest : SM} {c : Nat} {as : Env} {ds ds2 ds' : List D} {m : EX} {d : D}
theorem ini_end : Ini sNil c as ds ds := fun _ => rfl
theorem ini_fld {tbl : List (Nat × Nat)} {j : Nat} (h : ∀ n, Ex (bs []) [] m (some (.ref n) :: as) (.va d)) (hj : tbl.lookup c = some j) (hp : putFld ds j d = some ds2) (hl : ds.length ≤ 100) (k : Ini rest c as ds2 ds') : Ini (sSeq (sFldS tbl (eVar 0) m) rest) c as ds ds' := fun S => by
  have h1 := ex_to (h S.length) (S ++ [.ins c ds]) (sat0 _)
  have hg : (S ++ [Ob.ins c ds])[S.length]? = some (.ins c ds) := by simp
  unfold sSeq sFldS
  rw [h1]
  dsimp only [Rs.on]
  rw [ex_var (S0 := bs []) (A := []) (d := .ref S.length) rfl _ (sat0 _)]
  dsimp only [Rs.on]
  rw [hg]
  dsimp only
  rw [hj]
  dsimp only
  rw [hp]
  dsimp only
  rw [if_pos (by omega)]
  dsimp only [SR.then]
  rw [List.set_append_right _ _ (Nat.le_refl _), Nat.sub_self]
  exact k S
theorem ini_of {n ar : Nat} {as : List D} (h : Ini b c (as.map some ++ List.replicate (n - ar) none) [] ds) : IniOk (clean (noErr (fnOf n ar b))) c as ds := fun S => by
  have h1 := h S
  have e1 : fnOf n ar b (.ref S.length :: as) (S ++ [.ins c []]) = .ok (.va .non) (S ++ [.ins c ds]) := by
    unfold fnOf
    rw [show (D.ref S.length :: as).map some ++ List.replicate (n - ar) none = some (.ref S.length) :: (as.map some ++ List.replicate (n - ar) none) from rfl, h1]
  unfold clean noErr
  rw [e1]
  dsimp only
  have e2 : (S ++ [Ob.ins c ds]).take (S ++ [Ob.ins c []]).length = S ++ [Ob.ins c ds] := by
    rw [List.length_append, List.length_singleton]
    exact List.take_of_length_le (by simp)
  split
  · rw [e2]
  · rfl
end
end Cy
namespace Cy
open PySem L2
section
variable {S0 : Bs} {A : List Asn} {env : Env} {α β γ δ τ κ ρ : Type} {m ma mb mc mo mi : EX} {ms : List EX} {c d : BX} {P : SR → τ → Prop} {rest a : SM} {X : Option τ}
theorem ex_lrev {e : α → D} {x : Rv} {l : List α} (h : Ex S0 A m env x) (q : Ls S0 A x (l.map e)) : Ex S0 A (eLRev m) env (fl e l.reverse) := fun S s => by
  unfold eLRev
  rw [h S s]
  dsimp only [Rs.bind]
  rw [q S s]
  dsimp only
  rw [← List.map_reverse]; rfl
end
end Cy
namespace Cy
open PySem L2
section
variable {S0 : Bs} {A Ai : List Asn} {env : Env} {α β : Type} {m : EX} {ms : List EX} {e : α → D} {n : Nat} {l : List α}
theorem Sat.preg {S0 S : Sto} {o : Ob} (h : Sat (bs S0) A S) (e : S0[n]? = some o) : S[n]? = some o := by
  rw [h.pre.at_ n (List.getElem?_eq_some_iff.mp e).1 (by simp)]; exact e
theorem ls_pre {S0 : Sto} (h : S0[n]? = some (.lst (l.map e))) : Ls (bs S0) A (.va (.ref n)) (l.map e) := fun S s => by
  unfold vL
  dsimp only
  rw [s.preg h]
def IniS (S : Sto) (b : SM) (c : Nat) (as : Env) (ds ds' : List D) : Prop := b (some (.ref S.length) :: as) (S ++ [.ins c ds]) = .nx (some (.ref S.length) :: as) (S ++ [.ins c ds'])
variable {b rest : SM} {c : Nat} {as : Env} {ds ds2 ds' : List D} {d : D} {S : Sto}
theorem inis_end : IniS S sNil c as ds ds := rfl
theorem satS (S T : Sto) : Sat (bs S) [] (S ++ T) := ⟨kp_app S T, [], .nil, by simp, by simp⟩
theorem inis_fld {tbl : List (Nat × Nat)} {j : Nat} (h : ∀ n, Ex (bs S) [] m (some (.ref n) :: as) (.va d)) (hj : tbl.lookup c = some j) (hp : putFld ds j d = some ds2) (hl : ds.length ≤ 100) (k : IniS S rest c as ds2 ds') : IniS S (sSeq (sFldS tbl (eVar 0) m) rest) c as ds ds' := by
  have h1 := ex_to (h S.length) (S ++ [.ins c ds]) (satS _ _)
  have hg : (S ++ [Ob.ins c ds])[S.length]? = some (.ins c ds) := by simp
  unfold IniS sSeq sFldS
  rw [h1]
  dsimp only [Rs.on]
  rw [ex_var (S0 := bs S) (A := []) (d := .ref S.length) rfl _ (satS _ _)]
  dsimp only [Rs.on]
  rw [hg]
  dsimp only
  rw [hj]
  dsimp only
  rw [hp]
  dsimp only
  rw [if_pos (by omega)]
  dsimp only [SR.then]
  rw [List.set_append_right _ _ (Nat.le_refl _), Nat.sub_self]
  exact k
def IniOkS (S : Sto) (f : FI) (c : Nat) (as ds : List D) : Prop := f (.ref S.length :: as) (S ++ [.ins c []]) = .ok (.va .non) (S ++ [.ins c ds])
theorem inis_of {n ar : Nat} {as : List D} (h : IniS S b c (as.map some ++ List.replicate (n - ar) none) [] ds) : IniOkS S (clean (noErr (fnOf n ar b))) c as ds := by
  have e1 : fnOf n ar b (.ref S.length :: as) (S ++ [.ins c []]) = .ok (.va .non) (S ++ [.ins c ds]) := by
    unfold fnOf
    rw [show (D.ref S.length :: as).map some ++ List.replicate (n - ar) none = some (.ref S.length) :: (as.map some ++ List.replicate (n - ar) none) from rfl, h]
  unfold IniOkS clean noErr
  rw [e1]
  dsimp only
  have e2 : (S ++ [Ob.ins c ds]).take (S ++ [Ob.ins c []]).length = S ++ [Ob.ins c ds] := by
    rw [List.length_append, List.length_singleton]
    exact List.take_of_length_le (by simp)
  split
  · rw [e2]
  · rfl
theorem new_cut {f : FI} {ds dds : List D} {S : Sto} (e1 : eNew c f ms dds env S = .ok (.va (.ref S.length)) (S ++ [.ins c ds])) (u : ∀ n, D.unds n ds = true) : eFz (eCl (eNew c f ms dds)) env S = .ok (.va (.obj c ds)) S := by
  have e2 : eCl (eNew c f ms dds) env S = .ok (.fr (.ins c ds)) S := by
    unfold eCl
    rw [e1]
    dsimp only [Rs.bind]
    unfold cutRv
    have hn : (D.ref S.length).und S.length = false := by
      show decide (S.length < S.length) = false
      exact decide_eq_false (Nat.lt_irrefl _)
    dsimp only
    rw [hn, Bool.and_false, if_neg Bool.false_ne_true]
    have hg : (S ++ [Ob.ins c ds])[S.length]? = some (.ins c ds) := by simp
    rw [hg]
    dsimp only
    rw [cutB_app, decide_eq_true (Nat.le_refl _), show Ob.und S.length (.ins c ds) = true from u _, List.take_left]
    rfl
  unfold eFz
  rw [e2]; rfl
theorem ex_newS {f : FI} {xs : List Rv} {as ds dds : List D} (h : ExA S0 A ms env xs) (hu : unva xs = some as) (hi : ∀ S, Sat S0 A S → IniOkS S f c (as ++ dds) ds) (u : ∀ n, D.unds n ds = true) : Ex S0 A (eFz (eCl (eNew c f ms dds))) env (.va (.obj c ds)) := fun S s => by
  have e1 : eNew c f ms dds env S = .ok (.va (.ref S.length)) (S ++ [.ins c ds]) := by
    unfold eNew
    rw [h S s]
    dsimp only [Rs.bind]
    rw [hu]
    dsimp only
    rw [show f (.ref S.length :: (as ++ dds)) (S ++ [.ins c []]) = .ok (.va .non) (S ++ [.ins c ds]) from hi S s]
  exact new_cut e1 u
end
end Cy
set_option Elab.async false
set_option linter.all false
set_option maxRecDepth 100000
set_option maxHeartbeats 2000000
set_option autoImplicit false
namespace Cy
open PySem L2
section
variable {B : Bs} {A R : List Asn} {S S' : Sto}
theorem Fit.app {P R : List Asn} {fps : List (List Nat)} (h : Fit (P ++ R) fps S) : ∃ g k, fps = g ++ k ∧ Fit P g S ∧ Fit R k S := by
  induction P generalizing fps with
  | nil => exact ⟨[], fps, rfl, .nil, h⟩
  | cons a P ih =>
    cases h with
    | cons h t =>
      obtain ⟨g, k, e, h1, h2⟩ := ih t
      exact ⟨_ :: g, k, by rw [e]; rfl, .cons h h1, h2⟩
theorem Fit.join {P R : List Asn} {g k : List (List Nat)} (h1 : Fit P g S) (h2 : Fit R k S) : Fit (P ++ R) (g ++ k) S := by
  induction P generalizing g with
  | nil => cases h1; exact h2
  | cons a P ih =>
    cases h1 with
    | cons h t => exact .cons h (ih t)
/-- what is handed on apart -/
theorem Sat.frame {P : List Asn} (h : Sat B (P ++ R) S) : ∃ M, Sat ⟨S, M⟩ P S ∧ ∀ P' S', Sat ⟨S, M⟩ P' S' → Sat B (P' ++ R) S' := by
  obtain ⟨fps, f, nd, lo⟩ := h.own
  obtain ⟨g, k, rfl, f1, f2⟩ := f.app
  rw [List.flatten_append] at nd lo
  rw [List.nodup_append] at nd
  refine ⟨g.flatten, ⟨Kp.refl ⟨S, g.flatten⟩, g, f1, nd.1, fun n hn => .inr hn⟩, fun P' S' h' => ?_⟩
  obtain ⟨g', f1', nd', lo'⟩ := h'.own
  have kb := f2.bd
  have dis : ∀ n ∈ g'.flatten, n ∉ k.flatten := fun n hn hk => by
    rcases lo' n hn with z | z
    · have := kb n hk
      have z : S.length ≤ n := z
      omega
    · exact nd.2.2 n z n hk rfl
  refine ⟨⟨Nat.le_trans h.pre.len h'.pre.len, fun n hn hm => ?_⟩, g' ++ k, f1'.join (f2.loc fun n hn => ?_), ?_, ?_⟩
  · rw [h'.pre.at_ n (Nat.lt_of_lt_of_le hn h.pre.len) fun z => (lo n (List.mem_append_left _ z)).elim (fun q => by omega) hm]
    exact h.pre.at_ n hn hm
  · exact h'.pre.at_ n (kb n hn) fun z => nd.2.2 n z n hn rfl
  · rw [List.flatten_append, List.nodup_append]
    exact ⟨nd', nd.2.1, fun a ha b hb e => dis a ha (by rw [e]; exact hb)⟩
  · intro n hn
    rw [List.flatten_append, List.mem_append] at hn
    rcases hn with hn | hn
    · rcases lo' n hn with z | z
      · exact .inl (Nat.le_trans h.pre.len z)
      · exact lo n (List.mem_append_left _ z)
    · exact lo n (List.mem_append_right _ hn)
/-- single objects -/
def Pts : List Asn → Prop
  | [] => True
  | a :: A => (∃ n o, a = pt n o) ∧ Pts A
theorem Fit.det {fps gps : List (List Nat)} (hp : Pts A) (h : Fit A fps S) (k : Fit A gps S') : fps = gps ∧ ∀ n ∈ fps.flatten, S'[n]? = S[n]? := by
  induction A generalizing fps gps with
  | nil => cases h; cases k; exact ⟨rfl, by simp⟩
  | cons a A ih =>
    obtain ⟨⟨n, o, rfl⟩, hp⟩ := hp
    cases h with
    | cons h t =>
      cases k with
      | cons k u =>
        obtain ⟨rfl, h2⟩ := h
        obtain ⟨rfl, k2⟩ := k
        obtain ⟨rfl, e⟩ := ih hp t u
        refine ⟨rfl, fun m hm => ?_⟩
        rw [List.flatten_cons, List.mem_append] at hm
        rcases hm with hm | hm
        · rw [List.mem_singleton.mp hm, h2, k2]
        · exact e m hm
/-- these stand as they stood: nothing but new objects -/
theorem Sat.same {P : List Asn} {M : List Nat} (hp : Pts P) (h : Sat ⟨S, M⟩ P S) (hM : ∀ fps, Fit P fps S → ∀ n ∈ M, n ∈ fps.flatten) (h' : Sat ⟨S, M⟩ P S') : ∃ T, S' = S ++ T := by
  obtain ⟨fps, f, nd, lo⟩ := h.own
  obtain ⟨gps, g, _, _⟩ := h'.own
  obtain ⟨_, e⟩ := f.det hp g
  have hl : S.length ≤ S'.length := h'.pre.len
  refine Kp.app (S0 := S) ⟨hl, fun n hn _ => ?_⟩
  by_cases hm : n ∈ M
  · exact e n (hM fps f n hm)
  · exact h'.pre.at_ n hn hm
end
end Cy
set_option Elab.async false
set_option linter.all false
set_option maxRecDepth 100000
set_option maxHeartbeats 2000000
set_option autoImplicit false
set_option Elab.async false
set_option linter.all false
set_option maxRecDepth 100000
set_option maxHeartbeats 2000000
set_option autoImplicit false
set_option Elab.async false
set_option linter.all false
set_option maxRecDepth 100000
set_option maxHeartbeats 2000000
set_option autoImplicit false
set_option Elab.async false
set_option linter.all false
set_option maxRecDepth 100000
set_option maxHeartbeats 2000000
set_option autoImplicit false
namespace Cy
open PySem L2
/-- an exception: its class's number, the numbers it bears -/
structure Exn where
  c : Nat
  fs : List Int
  deriving DecidableEq
def e_E (x : Exn) : D := .exn x.c (x.fs.map D.int)
instance : Cl e_E := ⟨fun x n => unds_map (e := D.int) n x.fs⟩
instance : NonE Exn e_E := ⟨fun _ h => by cases h⟩
/-- an answer, or an exception let out -/
inductive Rq (ρ : Type) where
  | ok (r : ρ)
  | er (x : Exn)
section
variable {ρ α β σ τ : Type}
def Rq.on (z : Rq ρ) (f : Exn → β) (g : ρ → β) : β := match z with
  | .ok r => g r
  | .er x => f x
def Rq.get? (z : Rq ρ) : Option ρ := match z with
  | .ok r => some r
  | .er _ => none
@[simp] theorem Rq.on_ok (r : ρ) (f : Exn → β) (g : ρ → β) : (Rq.ok r).on f g = g r := rfl
@[simp] theorem Rq.on_er (x : Exn) (f : Exn → β) (g : ρ → β) : (Rq.er x : Rq ρ).on f g = f x := rfl
@[simp] theorem Rq.get_ok (r : ρ) : (Rq.ok r).get? = some r := rfl
def rqR (e : ρ → Rv) (r : Rq ρ) (S : Sto) : Rs Rv := match r with
  | .ok a => .ok (e a) S
  | .er x => .err x.c (x.fs.map D.int) S
/-- it ends as P says, or with an exception -/
def PX (S0 : Bs) (P : SR → ρ → Prop) : SR → Rq ρ → Prop := fun o r => match r with
  | .ok r => P o r
  | .er x => ∃ env S, o = .err env x.c (x.fs.map D.int) S ∧ Kp S0 S
theorem lv_x {S0 : Bs} {P : SR → ρ → Prop} (hl : ∀ r, Leaves (P · r)) (r : Rq ρ) : Leaves (PX S0 P · r) := fun o h => by
  cases r with
  | ok r => exact hl r o h
  | er x => obtain ⟨env, T, h, _⟩ := h; exact .inr ⟨_, _, _, _, h⟩
theorem clean_same {f g : FI} {ds : List D} {S : Sto} (h : f ds S = g ds S) : clean f ds S = clean g ds S := by
  unfold clean
  rw [h]
theorem noErr_ok {f : FI} {ds : List D} {S S' : Sto} {x : Rv} (h : f ds S = .ok x S') : noErr f ds S = f ds S := by
  unfold noErr
  rw [h]
section
variable {n ar : Nat} {b : SM} {ds : List D}
theorem fn_er {S T : Sto} {env : Env} {x : Exn} (h : b (ds.map some ++ List.replicate (n - ar) none) S = .err env x.c (x.fs.map D.int) (S ++ T)) : clean (fnOf n ar b) ds S = .err x.c (x.fs.map D.int) S := by
  unfold clean fnOf
  rw [h]
  dsimp only
  rw [cutB_app, unds_map, List.take_left]; rfl
theorem def_x {S0 : Sto} {e : ρ → D} [c : Cl e] {X : Option (Rq ρ)} (h : Sx (PX (bs S0) (PV (bs S0) e)) (bs S0) [] b (ds.map some ++ List.replicate (n - ar) none) X) {r : Rq ρ} (hr : X = some r) : clean (fnOf n ar b) ds S0 = rqR (va e) r S0 := by
  have h1 := h r hr S0 (Sat.start S0)
  cases r with
  | ok r =>
    obtain ⟨S, h2, k⟩ := h1
    obtain ⟨T, rfl⟩ := k.app
    have h3 := fn_va (n := n) (ar := ar) h2 (c.und _ _)
    have h4 : fnOf n ar b ds S0 = .ok (.va (e r)) (S0 ++ T) := by unfold fnOf; rw [h2]
    rw [clean_same (noErr_ok h4)] at h3
    exact h3
  | er x =>
    obtain ⟨env, S, h2, k⟩ := h1
    obtain ⟨T, rfl⟩ := k.app
    exact fn_er h2
end
section
variable {S0 : Bs} {A : List Asn} {env : Env} {m : EX} {ms : List EX} {rest mb mh : SM} {P : SR → τ → Prop}
/-- where the typed answer is there, it is evaluated to it or lets that exception out -/
def XR (S0 : Bs) (A : List Asn) (m : EX) (env : Env) (X : Option (Rq α)) (e : α → Rv) : Prop := ∀ r, X = some r → ∀ S, Sat S0 A S → m env S = rqR e r S
theorem xr_call {X : Option (Rq α)} {e : α → Rv} {f : FI} {xs : List Rv} {ds dds : List D} (h : ExA S0 A ms env xs) (hu : unva xs = some ds) (hf : ∀ S a, X = some a → f (ds ++ dds) S = rqR e a S) : XR S0 A (eCall f ms dds) env X e := fun a ha S s => by
  unfold eCall
  rw [h S s, Rs.bind_ok, hu]
  exact hf S a ha
theorem xr_fzv {X : Option (Rq α)} {e : α → D} (h : XR S0 A m env X (va e)) : XR S0 A (eFz m) env X (va e) := fun a ha S s => by
  unfold eFz
  rw [h a ha S s]
  cases a <;> rfl
/-- where no exception comes -/
theorem xm_get {X : Option (Rq α)} {e : α → Rv} (h : XR S0 A m env X e) : XM S0 A m env (X.bind Rq.get?) e := fun a ha S s => by
  cases X with
  | none => cases ha
  | some r =>
    cases r with
    | ok b => cases ha; exact h _ rfl S s
    | er x => cases ha
theorem sx_exX {X : Option (Rq α)} {e : α → Rv} {K : α → Option τ} {ε : Exn → τ} (hE : ∀ x S, Sat S0 A S → P (.err env x.c (x.fs.map D.int) S) (ε x)) (h : XR S0 A m env X e) (k : ∀ a, Sx P S0 A rest env (K a)) : Sx P S0 A (sSeq (sEx m) rest) env (X.bind fun z => z.on (fun x => some (ε x)) K) := fun t ht S hs => by
  cases X with
  | none => cases ht
  | some z =>
    unfold sSeq sEx
    rw [h z rfl S hs]
    cases z with
    | ok a => exact k a t ht S hs
    | er x => cases ht; exact hE x S hs
theorem sx_asgX {X : Option (Rq α)} {e : α → D} {K : α → Option τ} {i : Nat} {ε : Exn → τ} (hE : ∀ x S, Sat S0 A S → P (.err env x.c (x.fs.map D.int) S) (ε x)) (h : XR S0 A m env X (va e)) (k : ∀ x, Sx P S0 A rest (env.set i (some (e x))) (K x)) : Sx P S0 A (sSeq (sAsg (.name i) m) rest) env (X.bind fun z => z.on (fun x => some (ε x)) K) := fun t ht S hs => by
  cases X with
  | none => cases ht
  | some z =>
    unfold sSeq sAsg eTo
    rw [h z rfl S hs]
    cases z with
    | ok a => exact k a t ht S hs
    | er x => cases ht; exact hE x S hs
theorem sx_asgsX {X : Option (Rq α)} {e : α → D} {K : α → Option τ} {is : List Nat} {f : α → Env} {ε : Exn → τ} (hE : ∀ x S, Sat S0 A S → P (.err env x.c (x.fs.map D.int) S) (ε x)) (h : XR S0 A m env X (va e)) (hb : ∀ x, (Tg.names is).bind (e x) env = some (f x)) (k : ∀ x, Sx P S0 A rest (f x) (K x)) : Sx P S0 A (sSeq (sAsg (.names is) m) rest) env (X.bind fun z => z.on (fun x => some (ε x)) K) := fun t ht S hs => by
  cases X with
  | none => cases ht
  | some z =>
    cases z with
    | ok a =>
      have h1 : Ex S0 A (eTo m) env (.va (e a)) := fun S s => by
        unfold eTo
        rw [h _ rfl S s]; rfl
      have h1 := h1 S hs
      unfold sSeq sAsg
      rw [h1]
      dsimp only [Rs.on]
      rw [hb a]
      exact k a t ht S hs
    | er x =>
      cases ht
      unfold sSeq sAsg eTo
      rw [h _ rfl S hs]
      exact hE x S hs
theorem sx_retX {X : Option (Rq ρ)} {e : ρ → D} {ι : ρ → τ} {ε : Exn → τ} (hE : ∀ x S, Sat S0 A S → P (.err env x.c (x.fs.map D.int) S) (ε x)) (hι : ∀ o r, PV S0 e o r → P o (ι r)) (h : XR S0 A m env X (va e)) : Sx P S0 A (sSeq (sRet m) rest) env (X.bind fun z => z.on (fun x => some (ε x)) fun r => some (ι r)) := fun t ht S hs => by
  cases X with
  | none => cases ht
  | some z =>
    have h1 := h z rfl S hs
    unfold sSeq sRet
    rw [h1]
    cases z with
    | ok a =>
      cases ht
      exact hι _ a ⟨S, rfl, hs.pre⟩
    | er x => cases ht; exact hE x S hs
theorem er_x {P' : SR → ρ → Prop} : ∀ (x : Exn) S, Sat S0 A S → PX S0 P' (.err env x.c (x.fs.map D.int) S) (.er x) := fun x S h => ⟨env, S, rfl, h.pre⟩
theorem er_f {W σ : Type} {ks : List Nat} {E : W → σ → Env} {B : W → σ → List Asn} {P' : SR → ρ → Prop} : ∀ (x : Exn) S, Sat S0 A S → PF S0 ks E B (PX S0 P') (.err env x.c (x.fs.map D.int) S) (Fw.ret (Rq.er x)) := fun x S h => ⟨env, S, rfl, h.pre⟩
/-- the body of a try: the ways come together, or an exception with all as it was -/
def PT {W : Type} (S0 : Bs) (A : List Asn) (env0 : Env) (ks : List Nat) (E : W → σ → Env) (B : W → σ → List Asn) : SR → Rq σ → Prop := fun o r => match r with
  | .ok s => PJ S0 ks E B o s
  | .er x => ∃ S, o = .err env0 x.c (x.fs.map D.int) S ∧ Sat S0 A S
theorem er_t {W : Type} {ks : List Nat} {E : W → σ → Env} {B : W → σ → List Asn} : ∀ (x : Exn) S, Sat S0 A S → PT S0 A env ks E B (.err env x.c (x.fs.map D.int) S) (.er x) := fun x S h => ⟨S, rfl, h⟩
theorem sx_endT {W : Type} {A0 : List Asn} {env0 : Env} {ks : List Nat} {E : W → σ → Env} {B : W → σ → List Asn} {x : σ} (w : W) (he : kill ks env = E w x) (hw : ∀ S, Sat S0 A S → Sat S0 (B w x) S) : Sx (PT S0 A0 env0 ks E B) S0 A sNil env (some (.ok x)) := fun t ht S hs => by
  cases ht
  exact ⟨w, env, S, rfl, he, hw S hs⟩
theorem kill_set {i : Nat} : ∀ {ks : List Nat} {e : Env}, i ∈ ks → kill ks (e.set i none) = kill ks e
  | [], _, h => by cases h
  | k :: ks, e, h => by
    show (kill ks (e.set i none)).set k none = (kill ks e).set k none
    rcases List.mem_cons.mp h with rfl | h
    · have all : ∀ (ks : List Nat) (e : Env), (kill ks (e.set i none)).set i none = (kill ks e).set i none := by
        intro ks
        induction ks with
        | nil => intro e; show (e.set i none).set i none = e.set i none; rw [List.set_set]
        | cons k ks ih =>
          intro e
          show ((kill ks (e.set i none)).set k none).set i none = ((kill ks e).set k none).set i none
          by_cases hk : k = i
          · subst hk; rw [List.set_set, List.set_set]; exact ih e
          · rw [List.set_comm _ _ hk, List.set_comm _ _ hk, ih e]
      exact all ks e
    · rw [kill_set h]
theorem sx_try0 {W : Type} {ks : List Nat} {E : W → σ → Env} {B : W → σ → List Asn} {i : Nat} {tb : List (Nat × Bool)} {X : Option (Rq σ)} {Y : Exn → Option σ} (hi : i ∈ ks) (hb : Sx (PT S0 A env ks E B) S0 A mb env X) (hh : ∀ x, Sx (PJ S0 ks E B) S0 A mh (env.set i (some (e_E x))) (Y x)) :
    Sx (PJ S0 ks E B) S0 A (sTry i tb mb mh) env (X.bind fun z => z.on (fun x => (tb.lookup x.c).bind fun b => if b = true then Y x else none) some) := fun t ht S hs => by
  cases X with
  | none => cases ht
  | some z =>
    have h1 := hb z rfl S hs
    cases z with
    | ok s =>
      cases ht
      obtain ⟨w, e, S', h2, h3, h4⟩ := h1
      unfold sTry
      rw [h2]
      exact ⟨w, e, S', rfl, h3, h4⟩
    | er x =>
      obtain ⟨S', h2, h3⟩ := h1
      have ht : ((tb.lookup x.c).bind fun b => if b = true then Y x else none) = some t := ht
      cases hl : tb.lookup x.c with
      | none => rw [hl] at ht; cases ht
      | some b =>
        rw [hl] at ht
        cases b with
        | false => cases ht
        | true =>
          have ht : Y x = some t := ht
          obtain ⟨w, e, S2, h5, h6, h7⟩ := hh x t ht S' h3
          unfold sTry
          rw [h2]
          dsimp only
          rw [hl]
          dsimp only
          have h5' : mh (env.set i (some (.exn x.c (x.fs.map D.int)))) S' = .nx e S2 := h5
          rw [h5']
          exact ⟨w, _, S2, rfl, (kill_set hi).trans h6, h7⟩
def isE (nb : Option Bool) (tb : List (Nat × Bool)) : Option Exn → Option Bool
  | none => nb
  | some x => tb.lookup x.c
theorem xm_isO {x : Option Exn} {nb : Option Bool} {tb : List (Nat × Bool)} (h : Ex S0 A m env (.va (eO e_E x))) : XM S0 A (eP (lift (pIsE nb tb)) [m]) env (isE nb tb x) (va D.bl) := fun b hb => ex_p1 h fun S s => by
  cases x with
  | none =>
    show nb.map _ = _
    have hb : nb = some b := hb
    rw [hb]; rfl
  | some x =>
    show (tb.lookup x.c).map _ = _
    have hb : tb.lookup x.c = some b := hb
    rw [hb]; rfl
end
end
end Cy
set_option Elab.async false
set_option linter.all false
set_option maxRecDepth 100000
set_option maxHeartbeats 2000000
set_option autoImplicit false
namespace Cy
open PySem L2
section
variable {S0 : Bs} {A : List Asn} {env : Env} {m : EX} {ms : List EX} {τ : Type} {P : SR → τ → Prop} {rest : SM}
theorem unva_ints : ∀ is : List Int, unva (is.map fun i => Rv.va (.int i)) = some (is.map D.int)
  | [] => rfl
  | i :: r => by
    show (unva (r.map fun i => Rv.va (.int i))).map (D.int i :: ·) = _
    rw [unva_ints r]; rfl
theorem sx_raiseF {c : Nat} {is : List Int} {ε : Exn → τ} (hE : ∀ x S, Sat S0 A S → P (.err env x.c (x.fs.map D.int) S) (ε x)) (h : ExA S0 A ms env (is.map fun i => Rv.va (.int i))) : Sx P S0 A (sSeq (sRaiseF c ms) rest) env (some (ε ⟨c, is.reverse⟩)) := fun t ht S hs => by
  cases ht
  unfold sSeq sRaiseF
  rw [h S hs]
  dsimp only [Rs.on]
  rw [unva_ints]
  dsimp only [SR.then]
  have := hE ⟨c, is.reverse⟩ S hs
  rw [List.map_reverse] at this
  exact this
def fldE (tb : List (Nat × Nat)) (x : Exn) : Option Int := (tb.lookup x.c).bind fun j => x.fs[j]?
theorem xm_fldX {tb : List (Nat × Nat)} {x : Exn} (h : Ex S0 A m env (.va (e_E x))) : XM S0 A (eFldX tb m) env (fldE tb x) (va D.int) := fun i hi S s => by
  unfold eFldX
  rw [h S s]
  dsimp only [Rs.bind]
  have : fldX tb (.va (e_E x)) = some (.int i) := by
    show ((tb.lookup x.c).bind fun j => (x.fs.map D.int)[j]?) = _
    unfold fldE at hi
    cases e : tb.lookup x.c with
    | none => rw [e] at hi; cases hi
    | some j =>
      rw [e] at hi
      have hi : x.fs[j]? = some i := hi
      show (x.fs.map D.int)[j]? = _
      rw [List.getElem?_map, hi]; rfl
  rw [this]; rfl
end
end Cy
set_option Elab.async false
set_option linter.all false
set_option maxRecDepth 100000
set_option maxHeartbeats 2000000
set_option autoImplicit false
namespace Cy
open PySem L2
inductive Vy where
  | non
  | bl (b : Bool)
  | int (z : Int)
  | str (s : Str)
  | tup (l : List Vy)
  | frl (l : List Vy)
mutual
def eV : Vy → D
  | .non => .non
  | .bl b => .bl b
  | .int z => .int z
  | .str s => .str s
  | .tup l => .tup (eVs l)
  | .frl l => .frl (eVs l)
def eVs : List Vy → List D
  | [] => []
  | a :: r => eV a :: eVs r
end
mutual
theorem eV_und (n : Nat) : ∀ v : Vy, (eV v).und n = true
  | .non => rfl
  | .bl _ => rfl
  | .int _ => rfl
  | .str _ => rfl
  | .tup l => eVs_und n l
  | .frl l => eVs_und n l
theorem eVs_und (n : Nat) : ∀ l : List Vy, D.unds n (eVs l) = true
  | [] => rfl
  | a :: r => by
    show ((eV a).und n && D.unds n (eVs r)) = true
    rw [eV_und n a, eVs_und n r]; rfl
end
instance : Cl eV := ⟨fun v n => eV_und n v⟩
end Cy
set_option Elab.async false
set_option linter.all false
set_option maxRecDepth 100000
set_option maxHeartbeats 2000000
set_option autoImplicit false
namespace Cy
open PySem L2
def tyV : Vy → String
  | .non => "NoneType"
  | .bl _ => "bool"
  | .int _ => "int"
  | .str _ => "str"
  | .tup _ => "tuple"
  | .frl _ => "list"
end Cy
set_option Elab.async false
set_option linter.all false
set_option maxRecDepth 100000
set_option maxHeartbeats 2000000
set_option autoImplicit false
namespace Cy
open PySem L2
theorem line_big : 16777216 ≤ sizeLine := by decide +kernel
section
variable {α β σ ρ : Type}
@[simp] theorem sbind (a : α) (f : α → Option β) : (some a).bind f = f a := rfl
theorem modC_pos {i j : Int} (h : 0 < j) : modC i j = some (i % j) := if_pos h
theorem mulC_r {i j : Int} (h : j.natAbs < 18446744073709551616) : mulC i j = some (i * j) := if_pos (mulB_litR h)
theorem divC_ok {i j : Int} (h0 : 0 < j) (h1 : j.natAbs.log2 < 9000) : divC i j = some (i / j) := by
  unfold divC divOk
  rw [decide_eq_true h0, decide_eq_true h1]; rfl
theorem fits_ok {l : List α} (h : l.length ≤ 16777216) : fits l = some l := if_pos (Nat.le_trans h line_big)
theorem snoc_ok {l : List α} {a : α} (h : l.length < 16777216) : snoc l a = some (l ++ [a]) := if_pos (Nat.lt_of_lt_of_le h line_big)
theorem catC_ok {l k : List α} (h : l.length + k.length ≤ 16777216) : catC l k = some (l ++ k) := if_pos (Nat.le_trans h line_big)
theorem idx_nat {l : List α} {i : Int} {n : Nat} (h : i = n) : idx l i = l[n]? := by
  subst h
  by_cases hn : n < l.length
  · rw [List.getElem?_eq_getElem hn]
    exact atI_nat (List.getElem?_eq_getElem hn)
  · rw [List.getElem?_eq_none (by omega)]
    unfold idx atI ixN
    rw [if_pos (by omega), if_neg (by omega)]; rfl
theorem idx_ge {l : List α} {i : Int} (h : 0 ≤ i) : idx l i = l[i.toNat]? := idx_nat (by omega)
theorem rngC_ok {i j : Int} (hi : i.natAbs < 4611686018427387904) (hj : j.natAbs < 4611686018427387904) : rngC i j = some (rangeI i j) := if_pos (by unfold small62; rw [decide_eq_true hi, decide_eq_true hj]; rfl)
theorem range_len' (i j : Int) : (rangeI i j).length = (j - i).toNat := by unfold rangeI; simp
theorem range_get' {i j : Int} {n : Nat} (h : n < (j - i).toNat) : (rangeI i j)[n]? = some (i + n) := by
  unfold rangeI
  rw [List.getElem?_map, List.getElem?_range h]; rfl
/-- nothing stops it, nothing changes -/
theorem loop_all {F : Unit → α → Option (Fw Unit ρ)} {l : List α} (h : ∀ a ∈ l, F () a = some (.nx ())) : loopO F () l = some (.nx ()) := by
  induction l with
  | nil => rfl
  | cons a r ih =>
    unfold loopO
    rw [h a List.mem_cons_self]
    exact ih fun b hb => h b (List.mem_cons_of_mem _ hb)
theorem fold_inv {F : σ → α → Option σ} (I : Nat → σ → Prop) (l : List α) (s : σ) (h0 : I 0 s) (h : ∀ i a s, l[i]? = some a → I i s → ∃ s', F s a = some s' ∧ I (i + 1) s') : ∃ s', foldO F s l = some s' ∧ I l.length s' := by
  suffices H : ∀ (r pre : List α) (s : σ), pre ++ r = l → I pre.length s → ∃ s', foldO F s r = some s' ∧ I l.length s' from H l [] s rfl h0
  intro r
  induction r with
  | nil => intro pre s e hI; rw [List.append_nil] at e; subst e; exact ⟨s, rfl, hI⟩
  | cons a r ih =>
    intro pre s e hI
    obtain ⟨s1, h1, h2⟩ := h pre.length a s (by rw [← e]; simp) hI
    obtain ⟨s2, h3, h4⟩ := ih (pre ++ [a]) s1 (by rw [← e]; simp) (by rw [List.length_append]; exact h2)
    refine ⟨s2, ?_, h4⟩
    unfold foldO
    rw [h1]
    exact h3
theorem loop_inv {F : σ → α → Option (Fw σ ρ)} (I : Nat → σ → Prop) (l : List α) (s : σ) (h0 : I 0 s) (h : ∀ i a s, l[i]? = some a → I i s → ∃ s', F s a = some (.nx s') ∧ I (i + 1) s') : ∃ s', loopO F s l = some (.nx s') ∧ I l.length s' := by
  suffices H : ∀ (r pre : List α) (s : σ), pre ++ r = l → I pre.length s → ∃ s', loopO F s r = some (.nx s') ∧ I l.length s' from H l [] s rfl h0
  intro r
  induction r with
  | nil => intro pre s e hI; rw [List.append_nil] at e; subst e; exact ⟨s, rfl, hI⟩
  | cons a r ih =>
    intro pre s e hI
    obtain ⟨s1, h1, h2⟩ := h pre.length a s (by rw [← e]; simp) hI
    obtain ⟨s2, h3, h4⟩ := ih (pre ++ [a]) s1 (by rw [← e]; simp) (by rw [List.length_append]; exact h2)
    refine ⟨s2, ?_, h4⟩
    unfold loopO
    rw [h1]
    exact h3
theorem mapO_pure {F : α → Option β} {f : α → β} {l : List α} (h : ∀ a ∈ l, F a = some (f a)) : mapO F l = some (l.map f) := by
  induction l with
  | nil => rfl
  | cons a r ih =>
    unfold mapO
    rw [h a List.mem_cons_self]
    rw [ih fun b hb => h b (List.mem_cons_of_mem _ hb)]; rfl
theorem cut_len (l : List α) (a b : Option Int) : (cutT l a b).length ≤ l.length := by
  unfold cutT
  rw [List.length_take, List.length_drop]; omega
theorem sIx_none' (n d : Nat) : HT.sIx n d none = d := rfl
theorem cut_to (l : List α) (n : Nat) (i : Int) (h : i = n) : cutT l none (some i) = l.take n := by
  subst h
  unfold cutT
  rw [sIx_none', HT.sIx_nat, List.drop_zero, Nat.sub_zero]
  by_cases hn : n ≤ l.length
  · rw [Nat.min_eq_left hn]
  · rw [Nat.min_eq_right (by omega), List.take_length, List.take_of_length_le (by omega)]
theorem cut_from (l : List α) (n : Nat) (i : Int) (h : i = n) : cutT l (some i) none = l.drop n := by
  subst h
  unfold cutT
  rw [sIx_none', HT.sIx_nat]
  by_cases hn : n ≤ l.length
  · rw [Nat.min_eq_left hn, List.take_of_length_le (by rw [List.length_drop]; omega)]
  · rw [Nat.min_eq_right (by omega), List.drop_length, List.drop_of_length_le (by omega)]; simp
end
end Cy
namespace Cy
open PySem L2
theorem idx_mem {α : Type} {l : List α} {i : Int} (h0 : 0 ≤ i) (h1 : i < l.length) : ∃ a, idx l i = some a ∧ a ∈ l := by
  have hn : i.toNat < l.length := by omega
  exact ⟨l[i.toNat], by rw [idx_ge h0, List.getElem?_eq_getElem hn], List.getElem_mem hn⟩
/-- a value below -/
theorem mod_bd (i : Int) {j : Int} (h : 0 < j) : 0 ≤ i % j ∧ i % j < j := ⟨Int.emod_nonneg _ (by omega), Int.emod_lt_of_pos _ h⟩
end Cy
set_option Elab.async false
set_option linter.all false
set_option maxRecDepth 100000
set_option maxHeartbeats 2000000
set_option autoImplicit false
namespace Cy
open PySem L2
abbrev Turn := List (Int × Int)
abbrev Cor := List Int
def perms : Nat → List (List Int)
  | 2 => [[0, 1], [1, 0]]
  | 3 => [[0, 1, 2], [0, 2, 1], [1, 0, 2], [1, 2, 0], [2, 0, 1], [2, 1, 0]]
  | _ => []
def flips : Nat → List (List Int)
  | 2 => [[0, 0], [1, 0], [0, 1], [1, 1]]
  | 3 => [[0, 0, 0], [1, 0, 0], [0, 1, 0], [1, 1, 0], [0, 0, 1], [1, 0, 1], [0, 1, 1], [1, 1, 1]]
  | _ => []
/-- all turns of so many axes; all corners -/
def Ts (d : Nat) : List Turn := (perms d).flatMap fun p => (flips d).map fun f => p.zip f
def Cs (d : Nat) : List Cor := flips d
abbrev x2 (a b : Int) : Int := bXorI a b
/-- a corner turned -/
def tw (t : Turn) (c : Cor) : Cor := t.map fun p => x2 (c.getD p.1.toNat 0) p.2
/-- t after u -/
def af (t u : Turn) : Turn := t.map fun p => ((u.getD p.1.toNat (0, 0)).1, x2 (u.getD p.1.toNat (0, 0)).2 p.2)
def stl (d : Nat) : Turn := (List.range d).map fun (i : Nat) => ((i : Int), (0 : Int))
/-- back again: found among all -/
def un (d : Nat) (t : Turn) : Turn := ((Ts d).find? fun u => decide (af u t = stl d)).getD []
def okT (d : Nat) (t : Turn) : Bool := decide (t.length = d) && t.all fun p => decide (0 ≤ p.1) && decide (p.1 < d) && (decide (p.2 = 0) || decide (p.2 = 1))
def okC (d : Nat) (c : Cor) : Bool := decide (c.length = d) && c.all fun b => decide (b = 0) || decide (b = 1)
theorem T_ok2 : (Ts 2).all (okT 2) = true := by decide +kernel
theorem T_ok3 : (Ts 3).all (okT 3) = true := by decide +kernel
theorem C_ok2 : (Cs 2).all (okC 2) = true := by decide +kernel
theorem C_ok3 : (Cs 3).all (okC 3) = true := by decide +kernel
theorem af2 : ((Ts 2).all fun t => (Ts 2).all fun u => (Ts 2).contains (af t u)) = true := by decide +kernel
theorem af3 : ((Ts 3).all fun t => (Ts 3).all fun u => (Ts 3).contains (af t u)) = true := by decide +kernel
theorem tw2 : ((Ts 2).all fun t => (Cs 2).all fun c => (Cs 2).contains (tw t c)) = true := by decide +kernel
theorem tw3 : ((Ts 3).all fun t => (Cs 3).all fun c => (Cs 3).contains (tw t c)) = true := by decide +kernel
theorem un2 : ((Ts 2).all fun t => (Ts 2).contains (un 2 t) && decide (af (un 2 t) t = stl 2) && decide (af t (un 2 t) = stl 2)) = true := by decide +kernel
theorem un3 : ((Ts 3).all fun t => (Ts 3).contains (un 3 t) && decide (af (un 3 t) t = stl 3) && decide (af t (un 3 t) = stl 3)) = true := by decide +kernel
abbrev Dm (d : Nat) : Prop := d = 2 ∨ d = 3
section
variable {d : Nat} (hd : Dm d) {t u v : Turn} {c : Cor}
include hd
theorem T_ok (h : t ∈ Ts d) : t.length = d ∧ ∀ p ∈ t, 0 ≤ p.1 ∧ p.1 < d ∧ (p.2 = 0 ∨ p.2 = 1) := by
  have : okT d t = true := by
    rcases hd with rfl | rfl
    · exact List.all_eq_true.mp T_ok2 t h
    · exact List.all_eq_true.mp T_ok3 t h
  unfold okT at this
  rw [Bool.and_eq_true, decide_eq_true_iff, List.all_eq_true] at this
  refine ⟨this.1, fun p hp => ?_⟩
  have := this.2 p hp
  simpa [and_assoc] using this
theorem C_ok (h : c ∈ Cs d) : c.length = d ∧ ∀ b ∈ c, b = 0 ∨ b = 1 := by
  have : okC d c = true := by
    rcases hd with rfl | rfl
    · exact List.all_eq_true.mp C_ok2 c h
    · exact List.all_eq_true.mp C_ok3 c h
  unfold okC at this
  rw [Bool.and_eq_true, decide_eq_true_iff, List.all_eq_true] at this
  refine ⟨this.1, fun b hb => ?_⟩
  have := this.2 b hb
  simpa using this
theorem af_mem (h : t ∈ Ts d) (k : u ∈ Ts d) : af t u ∈ Ts d := by
  rcases hd with rfl | rfl
  · exact List.contains_iff_mem.mp (List.all_eq_true.mp (List.all_eq_true.mp af2 t h) u k)
  · exact List.contains_iff_mem.mp (List.all_eq_true.mp (List.all_eq_true.mp af3 t h) u k)
theorem tw_mem (h : t ∈ Ts d) (k : c ∈ Cs d) : tw t c ∈ Cs d := by
  rcases hd with rfl | rfl
  · exact List.contains_iff_mem.mp (List.all_eq_true.mp (List.all_eq_true.mp tw2 t h) c k)
  · exact List.contains_iff_mem.mp (List.all_eq_true.mp (List.all_eq_true.mp tw3 t h) c k)
theorem un_ok (h : t ∈ Ts d) : un d t ∈ Ts d ∧ af (un d t) t = stl d ∧ af t (un d t) = stl d := by
  rcases hd with rfl | rfl
  · have := List.all_eq_true.mp un2 t h
    rw [Bool.and_eq_true, Bool.and_eq_true, decide_eq_true_iff, decide_eq_true_iff] at this
    exact ⟨List.contains_iff_mem.mp this.1.1, this.1.2, this.2⟩
  · have := List.all_eq_true.mp un3 t h
    rw [Bool.and_eq_true, Bool.and_eq_true, decide_eq_true_iff, decide_eq_true_iff] at this
    exact ⟨List.contains_iff_mem.mp this.1.1, this.1.2, this.2⟩
end
theorem x2_assoc {a b c : Int} (ha : a = 0 ∨ a = 1) (hb : b = 0 ∨ b = 1) (hc : c = 0 ∨ c = 1) : x2 (x2 a b) c = x2 a (x2 b c) := by
  rcases ha with rfl | rfl <;> rcases hb with rfl | rfl <;> rcases hc with rfl | rfl <;> decide +kernel
section
variable {d : Nat} (hd : Dm d) {t u v : Turn} {c : Cor}
include hd
theorem getD_mem {α : Type} {l : List α} {i : Int} {a : α} (h0 : 0 ≤ i) (h1 : i < l.length) : l.getD i.toNat a ∈ l := by
  have : i.toNat < l.length := by omega
  rw [List.getD_eq_getElem?_getD, List.getElem?_eq_getElem this]
  exact List.getElem_mem this
/-- one turn, then the other -/
theorem tw_af (h : t ∈ Ts d) (k : u ∈ Ts d) (hc : c ∈ Cs d) : tw (af t u) c = tw t (tw u c) := by
  obtain ⟨l1, t1⟩ := T_ok hd h
  obtain ⟨l2, u1⟩ := T_ok hd k
  obtain ⟨l3, c1⟩ := C_ok hd hc
  unfold tw af
  rw [List.map_map]
  refine List.map_congr_left fun p hp => ?_
  obtain ⟨p0, p1, pb⟩ := t1 p hp
  have hn : p.1.toNat < u.length := by omega
  have hq : u.getD p.1.toNat (0, 0) = u[p.1.toNat] := by rw [List.getD_eq_getElem?_getD, List.getElem?_eq_getElem hn]; rfl
  obtain ⟨q0, q1, qb⟩ := u1 _ (List.getElem_mem hn)
  have hcb : c.getD (u[p.1.toNat]).1.toNat 0 = 0 ∨ c.getD (u[p.1.toNat]).1.toNat 0 = 1 := c1 _ (getD_mem hd q0 (by omega))
  have e2 : (u.map fun p => x2 (c.getD p.1.toNat 0) p.2).getD p.1.toNat 0 = x2 (c.getD (u[p.1.toNat]).1.toNat 0) (u[p.1.toNat]).2 := by
    rw [List.getD_eq_getElem?_getD, List.getElem?_map, List.getElem?_eq_getElem hn]; rfl
  show x2 (c.getD (u.getD p.1.toNat (0, 0)).1.toNat 0) (x2 (u.getD p.1.toNat (0, 0)).2 p.2) = x2 ((u.map fun p => x2 (c.getD p.1.toNat 0) p.2).getD p.1.toNat 0) p.2
  rw [e2, hq, x2_assoc hcb qb pb]
end
theorem tws2 : ((Cs 2).all fun c => decide (tw (stl 2) c = c)) = true := by decide +kernel
theorem tws3 : ((Cs 3).all fun c => decide (tw (stl 3) c = c)) = true := by decide +kernel
section
variable {d : Nat} (hd : Dm d) {t u v : Turn} {c e : Cor}
include hd
theorem tw_stl (h : c ∈ Cs d) : tw (stl d) c = c := by
  rcases hd with rfl | rfl
  · exact of_decide_eq_true (List.all_eq_true.mp tws2 c h)
  · exact of_decide_eq_true (List.all_eq_true.mp tws3 c h)
theorem tw_un (h : t ∈ Ts d) (hc : c ∈ Cs d) : tw (un d t) (tw t c) = c ∧ tw t (tw (un d t) c) = c := by
  obtain ⟨u1, u2, u3⟩ := un_ok hd h
  rw [← tw_af hd u1 h hc, ← tw_af hd h u1 hc, u2, u3]
  exact ⟨tw_stl hd hc, tw_stl hd hc⟩
theorem tw_inj (h : t ∈ Ts d) (hc : c ∈ Cs d) (he : e ∈ Cs d) (q : tw t c = tw t e) : c = e := by
  rw [← (tw_un hd h hc).1, ← (tw_un hd h he).1, q]
end
end Cy
namespace Cy
open PySem L2
section
variable {α β σ ρ : Type}
theorem idx_getD {l : List α} {i : Int} (a : α) (h0 : 0 ≤ i) (h1 : i < l.length) : idx l i = some (l.getD i.toNat a) := by
  have : i.toNat < l.length := by omega
  rw [idx_ge h0, List.getElem?_eq_getElem this, List.getD_eq_getElem?_getD, List.getElem?_eq_getElem this]; rfl
theorem fold_snoc {F : List β → α → Option (List β)} {f : α → β} : ∀ (l : List α) (s : List β), s.length + l.length ≤ 1000000 → (∀ s, s.length < 1000000 → ∀ a ∈ l, F s a = some (s ++ [f a])) → foldO F s l = some (s ++ l.map f)
  | [], s, _, _ => by rw [List.map_nil, List.append_nil]; rfl
  | a :: r, s, h, hF => by
    rw [List.length_cons] at h
    unfold foldO
    rw [hF s (by omega) a List.mem_cons_self, sbind, fold_snoc r _ (by rw [List.length_append, List.length_singleton]; omega) fun s hs b hb => hF s hs b (List.mem_cons_of_mem _ hb), List.map_cons, List.append_assoc]
    rfl
theorem while_inv {C : σ → Option Bool} {F : σ → Option (Fw σ ρ)} (I : σ → Prop) (μ : σ → Nat) (h : ∀ s, I s → ∃ b, C s = some b ∧ (b = true → ∃ s', F s = some (.nx s') ∧ I s' ∧ μ s' < μ s)) : ∀ (k : Nat) (s : σ), I s → μ s < k → ∃ s', whileO C F k s = some (.nx s') ∧ I s' ∧ C s' = some false
  | 0, s, _, h0 => absurd h0 (Nat.not_lt_zero _)
  | k + 1, s, hI, hk => by
    obtain ⟨b, hb, hb2⟩ := h s hI
    unfold whileO
    rw [hb, sbind]
    cases b with
    | false => exact ⟨s, rfl, hI, hb⟩
    | true =>
      obtain ⟨s', h1, h2, h3⟩ := hb2 rfl
      rw [if_pos rfl, h1, sbind]
      exact while_inv I μ h k s' h2 (by omega)
theorem pigeon [DecidableEq α] : ∀ {l m : List α}, l.Nodup → (∀ a ∈ l, a ∈ m) → l.length ≤ m.length
  | [], _, _, _ => Nat.zero_le _
  | a :: r, m, nd, h => by
    rw [List.nodup_cons] at nd
    have ha := h a List.mem_cons_self
    have := pigeon (l := r) (m := m.erase a) nd.2 fun b hb => (List.mem_erase_of_ne (fun e => nd.1 (by rw [← e]; exact hb))).mpr (h b (List.mem_cons_of_mem _ hb))
    rw [List.length_erase_of_mem ha] at this
    have := List.length_pos_of_mem ha
    rw [List.length_cons]; omega
/-- all of them are met -/
theorem all_met [DecidableEq α] {l m : List α} (nd : l.Nodup) (h : ∀ a ∈ l, a ∈ m) (hl : m.length ≤ l.length) : ∀ a ∈ m, a ∈ l := fun a ha => by
  by_cases h2 : a ∈ l
  · exact h2
  · have := pigeon (l := a :: l) (m := m) (List.nodup_cons.mpr ⟨h2, nd⟩) fun b hb => by
      rcases List.mem_cons.mp hb with rfl | hb
      · exact ha
      · exact h b hb
    rw [List.length_cons] at this
    omega
theorem erase_perm : ∀ {l : List α} {n : Nat} (h : n < l.length), (l[n] :: l.eraseIdx n).Perm l
  | a :: r, 0, _ => List.Perm.refl _
  | a :: r, n + 1, h => (List.Perm.swap a _ _).trans ((erase_perm (l := r) (n := n) (by simpa using h)).cons a)
theorem pop_ok {l : List α} {i : Int} (h0 : 0 ≤ i) (h1 : i < l.length) (hz : l.length ≤ 1000000) : ∃ a r, popAt l i = some (a, r) ∧ (a :: r).Perm l := by
  have hn : i.toNat < l.length := by omega
  have e : seqIndex? i l.length = some i.toNat := (ixN_seq (j := i.toNat) (by unfold ixN; rw [if_pos h0, if_pos h1])).1
  refine ⟨l[i.toNat], l.eraseIdx i.toNat, ?_, erase_perm hn⟩
  unfold popAt
  rw [if_pos (by omega), e, sbind, List.getElem?_eq_getElem hn]; rfl
end
abbrev Prt := Cor × Turn × Bool
structure PartsOk (d : Nat) (ps : List Prt) : Prop where
  len : ps.length = 2 ^ d
  cor : ∀ p ∈ ps, p.1 ∈ Cs d
  trn : ∀ p ∈ ps, p.2.1 ∈ Ts d
  nd : (ps.map (·.1)).Nodup
theorem Cs_len {d : Nat} (hd : Dm d) : (Cs d).length = 2 ^ d := by rcases hd with rfl | rfl <;> rfl
theorem Cs_nd {d : Nat} (hd : Dm d) : (Cs d).Nodup := by rcases hd with rfl | rfl <;> decide +kernel
theorem PartsOk.find {d : Nat} (hd : Dm d) {ps : List Prt} (h : PartsOk d ps) {c : Cor} (hc : c ∈ Cs d) : ∃ n, ∃ hn : n < ps.length, ps[n].1 = c := by
  have := all_met (l := ps.map (·.1)) (m := Cs d) h.nd (fun a ha => by
    obtain ⟨p, hp, rfl⟩ := List.mem_map.mp ha
    exact h.cor p hp) (by rw [List.length_map, h.len, Cs_len hd]; exact Nat.le_refl _) c hc
  obtain ⟨p, hp, e⟩ := List.mem_map.mp this
  obtain ⟨n, hn, e2⟩ := List.mem_iff_getElem.mp hp
  exact ⟨n, hn, by rw [e2]; exact e⟩
theorem PartsOk.uniq {d : Nat} {ps : List Prt} (h : PartsOk d ps) {m n : Nat} (hm : m < ps.length) (hn : n < ps.length) (e : ps[m].1 = ps[n].1) : m = n := by
  have h1 : m < (ps.map (·.1)).length := by rw [List.length_map]; exact hm
  have h2 : n < (ps.map (·.1)).length := by rw [List.length_map]; exact hn
  exact (List.getElem_inj h.nd (h₀ := h1) (h₁ := h2)).mp (by rw [List.getElem_map, List.getElem_map]; exact e)
/-- where the curve lies so: the part walked digit-th -/
abbrev Sta := Turn × Bool
def ixP (n : Nat) (s : Sta) (i : Nat) : Nat := if s.2 then n - 1 - i else i
def subS (s : Sta) (p : Prt) : Sta := (af s.1 p.2.1, s.2 != p.2.2)
end Cy
set_option Elab.async false
set_option linter.all false
set_option maxRecDepth 100000
set_option maxHeartbeats 2000000
set_option autoImplicit false
namespace Cy
open PySem L2
theorem two_pos (l : Nat) : (0 : Int) < 2 ^ l := by
  have : (0 : Nat) < 2 ^ l := Nat.pos_of_ne_zero (by simp)
  exact_mod_cast this
/-- the part walked i-th, its corner, the state in it -/
def prt (ps : List Prt) (s : Sta) (i : Nat) : Prt := ps.getD (ixP ps.length s i) ([], [], false)
def nxt (ps : List Prt) (s : Sta) (i : Nat) : Sta := subS s (prt ps s i)
def fin (d : Nat) (ps : List Prt) : Nat → Sta → Nat → Sta
  | 0, s, _ => s
  | l + 1, s, n => fin d ps l (nxt ps s (n / 2 ^ (d * l) % 2 ^ d)) n
end Cy
namespace Cy
open PySem L2
def base : Nat → List (Cor × Turn)
  | 2 => [([0, 0], [(1, 0), (0, 0)]), ([0, 1], [(0, 0), (1, 0)]), ([1, 1], [(0, 0), (1, 0)]), ([1, 0], [(1, 1), (0, 1)])]
  | 3 => [([0, 0, 0], [(1, 0), (0, 0), (2, 0)]), ([0, 1, 0], [(1, 0), (2, 0), (0, 0)]), ([0, 1, 1], [(0, 0), (1, 0), (2, 0)]), ([0, 0, 1], [(1, 1), (2, 1), (0, 0)]), ([1, 0, 1], [(1, 0), (2, 1), (0, 1)]), ([1, 1, 1], [(0, 0), (1, 0), (2, 0)]), ([1, 1, 0], [(1, 1), (2, 0), (0, 1)]), ([1, 0, 0], [(1, 1), (0, 1), (2, 0)])]
  | _ => []
def bsr (d : Nat) (rev : Bool) : List (Cor × Turn) := if rev = true then (base d).reverse else base d
def mir (d : Nat) : Turn := (List.range d).map fun (i : Nat) => ((i : Int), if i = 0 then 1 else 0)
def cj (d : Nat) (t u : Turn) : Turn := af t (af u (un d t))
def jpart (d : Nat) (t : Turn) (bits : Int) (i : Nat) (p : Cor × Turn) : Prt := (tw t p.1, if bits / 2 ^ i % 2 = 1 then af (cj d t p.2) (cj d t (mir d)) else cj d t p.2, decide (bits / 2 ^ i % 2 = 1))
def jnd (d : Nat) (t : Turn) (rev : Bool) (bits : Int) : List Prt := (bsr d rev).zipIdx.map fun p => jpart d t bits p.2 p.1
theorem base_ok2 : ((base 2).all fun p => (Cs 2).contains p.1 && (Ts 2).contains p.2) = true := by decide +kernel
theorem base_ok3 : ((base 3).all fun p => (Cs 3).contains p.1 && (Ts 3).contains p.2) = true := by decide +kernel
theorem base_nd {d : Nat} (hd : Dm d) : ((base d).map (·.1)).Nodup := by rcases hd with rfl | rfl <;> decide +kernel
section
variable {d : Nat} (hd : Dm d) {t u : Turn}
include hd
theorem mir_mem : mir d ∈ Ts d := by rcases hd with rfl | rfl <;> decide +kernel
theorem cj_mem (h : t ∈ Ts d) (k : u ∈ Ts d) : cj d t u ∈ Ts d := af_mem hd h (af_mem hd k (un_ok hd h).1)
theorem base_ok {p : Cor × Turn} (h : p ∈ base d) : p.1 ∈ Cs d ∧ p.2 ∈ Ts d := by
  have : ((Cs d).contains p.1 && (Ts d).contains p.2) = true := by
    rcases hd with rfl | rfl
    · exact List.all_eq_true.mp base_ok2 p h
    · exact List.all_eq_true.mp base_ok3 p h
  rw [Bool.and_eq_true] at this
  exact ⟨List.contains_iff_mem.mp this.1, List.contains_iff_mem.mp this.2⟩
theorem bsr_ok (rev : Bool) : ∀ p ∈ bsr d rev, p.1 ∈ Cs d ∧ p.2 ∈ Ts d := fun p h => by
  unfold bsr at h
  split at h
  · exact base_ok hd (List.mem_reverse.mp h)
  · exact base_ok hd h
theorem bsr_len (rev : Bool) : (bsr d rev).length = 2 ^ d := by
  unfold bsr
  split
  · rw [List.length_reverse]; rcases hd with rfl | rfl <;> rfl
  · rcases hd with rfl | rfl <;> rfl
theorem bsr_nd (rev : Bool) : ((bsr d rev).map (·.1)).Nodup := by
  unfold bsr
  split
  · rcases hd with rfl | rfl <;> decide +kernel
  · exact base_nd hd
theorem jnd_ok (h : t ∈ Ts d) (rev : Bool) (bits : Int) : PartsOk d (jnd d t rev bits) := by
  have hm := mir_mem hd
  refine ⟨by unfold jnd; rw [List.length_map, List.length_zipIdx, bsr_len hd], fun p hp => ?_, fun p hp => ?_, ?_⟩
  · obtain ⟨q, hq, rfl⟩ := List.mem_map.mp hp
    have hb := bsr_ok hd rev q.1 (List.fst_mem_of_mem_zipIdx hq)
    exact tw_mem hd h hb.1
  · obtain ⟨q, hq, rfl⟩ := List.mem_map.mp hp
    have hb := bsr_ok hd rev q.1 (List.fst_mem_of_mem_zipIdx hq)
    unfold jpart
    dsimp only
    split
    · exact af_mem hd (cj_mem hd h hb.2) (cj_mem hd h hm)
    · exact cj_mem hd h hb.2
  · unfold jnd
    rw [List.map_map]
    have e : ((bsr d rev).zipIdx.map ((fun x : Prt => x.1) ∘ fun p => jpart d t bits p.2 p.1)) = ((bsr d rev).map (·.1)).map (tw t) := by
      have e2 : ((fun x : Prt => x.1) ∘ fun p : (Cor × Turn) × Nat => jpart d t bits p.2 p.1) = (fun q : Cor × Turn => tw t q.1) ∘ Prod.fst := rfl
      rw [e2, ← List.map_map, List.zipIdx_map_fst, List.map_map]; rfl
    rw [e]
    refine List.Pairwise.map _ (fun a b hab => hab) ?_
    have nd := bsr_nd hd rev
    have hc : ∀ a ∈ (bsr d rev).map (·.1), a ∈ Cs d := fun a ha => by
      obtain ⟨q, hq, rfl⟩ := List.mem_map.mp ha
      exact (bsr_ok hd rev q hq).1
    generalize (bsr d rev).map (·.1) = l at nd hc
    induction l with
    | nil => exact .nil
    | cons a l ih =>
      rw [List.nodup_cons] at nd
      refine .cons (fun b hb e => nd.1 ?_) (ih nd.2 fun b hb => hc b (List.mem_cons_of_mem _ hb))
      rw [tw_inj hd h (hc a List.mem_cons_self) (hc b (List.mem_cons_of_mem _ hb)) e]; exact hb
end
theorem PartsOk.put {d : Nat} {ps : List Prt} (h : PartsOk d ps) {i : Nat} (hi : i < ps.length) {p : Prt} (hc : p.1 = ps[i].1) (ht : p.2.1 ∈ Ts d) : PartsOk d (ps.set i p) := by
  have e : (ps.set i p).map (·.1) = ps.map (·.1) := by
    rw [List.map_set, hc]
    apply List.ext_getElem?
    intro j
    by_cases hj : i = j
    · subst hj
      rw [List.getElem?_set_self (by rw [List.length_map]; exact hi), List.getElem?_map, List.getElem?_eq_getElem hi]; rfl
    · rw [List.getElem?_set_ne hj]
  refine ⟨by rw [List.length_set]; exact h.len, fun q hq => ?_, fun q hq => ?_, by rw [e]; exact h.nd⟩
  · rcases List.mem_or_eq_of_mem_set hq with hq | rfl
    · exact h.cor q hq
    · rw [hc]; exact h.cor _ (List.getElem_mem hi)
  · rcases List.mem_or_eq_of_mem_set hq with hq | rfl
    · exact h.trn q hq
    · exact ht
end Cy
namespace Cy
open PySem L2
section
variable {κ β : Type} [DecidableEq κ]
theorem dget_none {l : List (κ × β)} {k : κ} (h : ∀ p ∈ l, p.1 ≠ k) : dget l k = none := by
  unfold dget
  rw [List.find?_eq_none.mpr fun p hp => by simpa using h p hp]; rfl
theorem dput_new {l : List (κ × β)} {k : κ} {v : β} (h : ∀ p ∈ l, p.1 ≠ k) (hl : l.length < 1000000) : dputC l k v = some (l ++ [(k, v)]) := by
  unfold dputC dput
  rw [if_pos (Nat.lt_of_lt_of_le (show l.length < 16777216 by omega) line_big)]
  have : (l.any fun p => decide (p.1 = k)) = false := by
    rw [List.any_eq_false]
    intro p hp
    simpa using h p hp
  rw [this]; rfl
end
end Cy
set_option Elab.async false
set_option linter.all false
set_option maxRecDepth 100000
set_option maxHeartbeats 2000000
set_option autoImplicit false
namespace Cy
open PySem L2
section
variable {S0 : Bs} {A : List Asn} {env : Env} {ma : EX}
theorem xm_one {g : Str → Option Str} {x : Str} (h : Ex S0 A ma env (.va (.str x))) : XM S0 A (eP (lift (pOne g)) [ma]) env (g x) (va D.str) := fun b hb => ex_p1 h fun S _ => by
  show (g x).map _ = _
  rw [hb]; rfl
end
end Cy
set_option Elab.async false
set_option linter.all false
set_option maxRecDepth 100000
set_option autoImplicit false
namespace Pf
open PySem L2 Cy
/-- turned: 0 turn 1 corner 2 axis 3 flip -/
noncomputable def b_p_turned : SM := (sSeq (sRet (eP (lift pTupOf) [(eLc (ixT (eVar 0)) (.names [2, 3]) [2, 3] bYes (eFz (eP (lift (pII gXor)) [(eP (lift pIx) [(eVar 1), (eVar 2)]), (eVar 3)])))]))
    sNil)
noncomputable def m_p_turned : FI := clean (noErr (fnOf 4 2 b_p_turned))
/-- still: 0 dims 1 axis -/
noncomputable def b_p_still : SM := (sSeq (sRet (eP (lift pTupOf) [(eLc (ixR1 (eVar 0)) (.name 1) [1] bYes (eTup [(eVar 1), (eC (.int 0))]))]))
    sNil)
noncomputable def m_p_still : FI := clean (noErr (fnOf 2 1 b_p_still))
/-- after: 0 one 1 other 2 made 3 axis 4 flip 5 inner 6 bit -/
noncomputable def lb_p_after_0 : SM := (sSeq (sAsg (.names [5, 6]) (eP (lift pIx) [(eVar 1), (eVar 3)]))
    (sSeq (sEx (eM isL pApp (eVar 2) [(eTup [(eVar 5), (eFz (eP (lift (pII gXor)) [(eVar 6), (eVar 4)]))])]))
    sNil))
noncomputable def l_p_after_0 : SM := (sFor (ixT (eVar 0)) (.names [3, 4]) lb_p_after_0 [3, 4, 5, 6])
noncomputable def b_p_after : SM := (sSeq (sAsg (.name 2) (eLst []))
    (sSeq l_p_after_0
    (sSeq (sRet (eP (lift pTupOf) [(eVar 2)]))
    sNil)))
noncomputable def m_p_after : FI := clean (noErr (fnOf 7 2 b_p_after))
/-- turn_of: 0 text 1 dims 2 made 3 place 4 flip 5 axis 6 pair -/
noncomputable def lb_p_turn_of_0 : SM := (sSeq (sAsg (.name 4) (eFz (eM isSt (lift (pSS gFind)) (eC (.str "+-")) [(eP (lift pIx) [(eVar 0), (eP (lift (pMul)) [(eC (.int 2)), (eVar 3)])])])))
    (sSeq (sAsg (.name 5) (eFz (eM isSt (lift (pSS gFind)) (eSl (eC (.str "xyz")) oNone (oSome (eVar 1))) [(eP (lift pIx) [(eVar 0), (eP (lift (pAdd)) [(eP (lift (pMul)) [(eC (.int 2)), (eVar 3)]), (eC (.int 1))])])])))
    (sSeq (sIf (bOr (bB (eP (lift (pLt)) [(eVar 4), (eC (.int 0))])) (bOr (bB (eP (lift (pLt)) [(eVar 5), (eC (.int 0))])) (bB (eP (lift (pIn)) [(eVar 5), (eLc (ixL (eVar 2)) (.name 6) [6] bYes (eP (lift pIx) [(eVar 6), (eC (.int 0))]))])))) (sSeq (sRet (eC .non))
    sNil) sNil)
    (sSeq (sEx (eM isL pApp (eVar 2) [(eTup [(eVar 5), (eVar 4)])]))
    sNil))))
noncomputable def l_p_turn_of_0 : SM := (sFor (ixR1 (eVar 1)) (.name 3) lb_p_turn_of_0 [3, 4, 5])
noncomputable def b_p_turn_of : SM := (sSeq (sIf (bB (eP (lift (pNe)) [(eP (lift pLen) [(eVar 0)]), (eP (lift (pMul)) [(eC (.int 2)), (eVar 1)])])) (sSeq (sRet (eC .non))
    sNil) sNil)
    (sSeq (sAsg (.name 2) (eLst []))
    (sSeq l_p_turn_of_0
    (sSeq (sRet (eP (lift pTupOf) [(eVar 2)]))
    sNil))))
noncomputable def m_p_turn_of : FI := clean (noErr (fnOf 7 2 b_p_turn_of))
/-- corner_of: 0 text 1 dims 2 sign -/
noncomputable def b_p_corner_of : SM := (sSeq (sIf (bOr (bB (eP (lift (pNe)) [(eP (lift pLen) [(eVar 0)]), (eVar 1)])) (bB (eP (lift (pNe)) [(eM isSt (lift (pSS gStrip)) (eVar 0) [(eC (.str "01"))]), (eC (.str ""))]))) (sSeq (sRet (eC .non))
    sNil) sNil)
    (sSeq (sRet (eP (lift pTupOf) [(eLc (ixS (eVar 0)) (.name 2) [2] bYes (eFz (eP (lift pInt) [(eVar 2)])))]))
    sNil))
noncomputable def m_p_corner_of : FI := clean (noErr (fnOf 3 2 b_p_corner_of))
/-- Part.__init__: 0 self 1 corner 2 turn 3 back -/
noncomputable def b_p_Part_init : SM := (sSeq (sFldS [(0, 0)] (eVar 0) (eVar 1))
    (sSeq (sFldS [(0, 1)] (eVar 0) (eVar 2))
    (sSeq (sFldS [(0, 2)] (eVar 0) (eVar 3))
    sNil)))
noncomputable def m_p_Part_init : FI := clean (noErr (fnOf 4 4 b_p_Part_init))
/-- Curve.__init__: 0 self 1 name 2 dims 3 joined 4 parts -/
noncomputable def b_p_Curve_init : SM := (sSeq (sFldS [(1, 0)] (eVar 0) (eVar 1))
    (sSeq (sFldS [(1, 1)] (eVar 0) (eVar 2))
    (sSeq (sFldS [(1, 2)] (eVar 0) (eVar 3))
    (sSeq (sFldS [(1, 3)] (eVar 0) (eFz (eP (lift pLstOf) [(eVar 4)])))
    sNil))))
noncomputable def m_p_Curve_init : FI := clean (noErr (fnOf 5 5 b_p_Curve_init))
/-- is_of: 0 text 1 signs 2 most -/
noncomputable def b_p_is_of : SM := (sSeq (sRet (eAnd (eChain (lift (pII gLe)) (lift (pII gLe)) (eC (.int 1)) (eP (lift pLen) [(eVar 0)]) (eVar 2)) (eP (lift (pEq)) [(eM isSt (lift (pSS gStrip)) (eVar 0) [(eVar 1)]), (eC (.str ""))])))
    sNil)
noncomputable def m_p_is_of : FI := clean (noErr (fnOf 3 3 b_p_is_of))
/-- axis_between: 0 one 1 other 2 axes 3 axis -/
noncomputable def b_p_axis_between : SM := (sSeq (sAsg (.name 2) (eFz (eLc (ixR1 (eP (lift pLen) [(eVar 0)])) (.name 3) [3] (bB (eP (lift (pNe)) [(eP (lift pIx) [(eVar 0), (eVar 3)]), (eP (lift pIx) [(eVar 1), (eVar 3)])])) (eVar 3))))
    (sSeq (sIf (bB (eP (lift (pNe)) [(eP (lift pLen) [(eVar 2)]), (eC (.int 1))])) (sSeq (sRet (eC .non))
    sNil) sNil)
    (sSeq (sRet (eP (lift pIx) [(eVar 2), (eC (.int 0))]))
    sNil)))
noncomputable def m_p_axis_between : FI := clean (noErr (fnOf 4 2 b_p_axis_between))
/-- touches: 0 one 1 other 2 axis 3 upward 4 k -/
noncomputable def lb_p_touches_0 : SM := (sSeq (sIf (bB (eP (lift (pEq)) [(eVar 4), (eVar 2)])) (sSeq (sIf (bOr (bB (eP (lift (pNe)) [(eP (lift pIx) [(eVar 0), (eVar 4)]), (eVar 3)])) (bB (eP (lift (pEq)) [(eP (lift pIx) [(eVar 1), (eVar 4)]), (eVar 3)]))) (sSeq (sRet (eC (.bl false)))
    sNil) sNil)
    sNil) (sSeq (sIf (bB (eP (lift (pNe)) [(eP (lift pIx) [(eVar 0), (eVar 4)]), (eP (lift pIx) [(eVar 1), (eVar 4)])])) (sSeq (sRet (eC (.bl false)))
    sNil) sNil)
    sNil))
    sNil)
noncomputable def l_p_touches_0 : SM := (sFor (ixR1 (eP (lift pLen) [(eVar 0)])) (.name 4) lb_p_touches_0 [4])
noncomputable def b_p_touches : SM := (sSeq l_p_touches_0
    (sSeq (sRet (eC (.bl true)))
    sNil))
noncomputable def m_p_touches : FI := clean (noErr (fnOf 5 4 b_p_touches))
/-- _law_mix: 0 _law_cell 1 _law_factor 2 _law_mixed -/
noncomputable def b_L_mix : SM := (sSeq (sAsg (.name 2) (eFz (eP (lift (pII gMod)) [(eP (lift (pAdd)) [(eP (lift (pMul)) [(eVar 0), (eVar 1)]), (eC (.int 12345))]), (eC (.int 2147483647))])))
    (sSeq (sRet (eP (lift (pII gDiv)) [(eP (lift (pII gMod)) [(eP (lift (pMul)) [(eVar 2), (eVar 2)]), (eC (.int 2147483629))]), (eC (.int 3))]))
    sNil))
noncomputable def m_L_mix : FI := clean (noErr (fnOf 3 2 b_L_mix))
/-- _law_turned: 0 _law_turn_here 1 _law_corner 2 _law_axis 3 _law_flip -/
noncomputable def b_L_turned : SM := (sSeq (sRet (eP (lift pTupOf) [(eLc (ixT (eVar 0)) (.names [2, 3]) [2, 3] bYes (eFz (eP (lift (pII gXor)) [(eP (lift pIx) [(eVar 1), (eVar 2)]), (eVar 3)])))]))
    sNil)
noncomputable def m_L_turned : FI := clean (noErr (fnOf 4 2 b_L_turned))
/-- _law_after: 0 _law_one 1 _law_other 2 _law_axis 3 _law_flip -/
noncomputable def b_L_after : SM := (sSeq (sRet (eP (lift pTupOf) [(eLc (ixT (eVar 0)) (.names [2, 3]) [2, 3] bYes (eTup [(eP (lift pIx) [(eP (lift pIx) [(eVar 1), (eVar 2)]), (eC (.int 0))]), (eFz (eP (lift (pII gXor)) [(eP (lift pIx) [(eP (lift pIx) [(eVar 1), (eVar 2)]), (eC (.int 1))]), (eVar 3)]))]))]))
    sNil)
noncomputable def m_L_after : FI := clean (noErr (fnOf 4 2 b_L_after))
/-- _law_undone: 0 _law_turn_here 1 _law_back 2 _law_k -/
noncomputable def lb_L_undone_0 : SM := (sSeq (sSub (eVar 1) (eP (lift pIx) [(eP (lift pIx) [(eVar 0), (eVar 2)]), (eC (.int 0))]) (eTup [(eVar 2), (eP (lift pIx) [(eP (lift pIx) [(eVar 0), (eVar 2)]), (eC (.int 1))])]))
    sNil)
noncomputable def l_L_undone_0 : SM := (sFor (ixR1 (eP (lift pLen) [(eVar 0)])) (.name 2) lb_L_undone_0 [2])
noncomputable def b_L_undone : SM := (sSeq (sAsg (.name 1) (eP (lift (pMul)) [(eLst [(eC .non)]), (eP (lift pLen) [(eVar 0)])]))
    (sSeq l_L_undone_0
    (sSeq (sRet (eP (lift pTupOf) [(eVar 1)]))
    sNil)))
noncomputable def m_L_undone : FI := clean (noErr (fnOf 3 1 b_L_undone))
/-- _law_turn: 0 _law_number 1 _law_dims 2 _law_axes 3 _law_k -/
noncomputable def b_L_turn : SM := (sSeq (sAsg (.name 2) (eFz (eLst [(eC (.int 0)), (eC (.int 1))])))
    (sSeq (sK [] (sIf (bB (eP (lift (pEq)) [(eVar 1), (eC (.int 3))])) (sSeq (sAsg (.name 2) (eP (lift pIx) [(eLst [(eFz (eLst [(eC (.int 0)), (eC (.int 1)), (eC (.int 2))])), (eFz (eLst [(eC (.int 0)), (eC (.int 2)), (eC (.int 1))])), (eFz (eLst [(eC (.int 1)), (eC (.int 0)), (eC (.int 2))])), (eFz (eLst [(eC (.int 1)), (eC (.int 2)), (eC (.int 0))])), (eFz (eLst [(eC (.int 2)), (eC (.int 0)), (eC (.int 1))])), (eFz (eLst [(eC (.int 2)), (eC (.int 1)), (eC (.int 0))]))]), (eP (lift (pII gMod)) [(eP (lift (pII gDiv)) [(eVar 0), (eC (.int 8))]), (eC (.int 6))])]))
    sNil) (sSeq (sK [] (sIf (bB (eP (lift (pEq)) [(eP (lift (pII gMod)) [(eP (lift (pII gDiv)) [(eVar 0), (eC (.int 8))]), (eC (.int 2))]), (eC (.int 1))])) (sSeq (sAsg (.name 2) (eFz (eLst [(eC (.int 1)), (eC (.int 0))])))
    sNil) sNil))
    sNil)))
    (sSeq (sRet (eP (lift pTupOf) [(eLc (ixR1 (eVar 1)) (.name 3) [3] bYes (eTup [(eP (lift pIx) [(eVar 2), (eVar 3)]), (eFz (eP (lift (pII gMod)) [(eP (lift (pII gDiv)) [(eVar 0), (eP (lift pIx) [(eLst [(eC (.int 1)), (eC (.int 2)), (eC (.int 4))]), (eVar 3)])]), (eC (.int 2))]))]))]))
    sNil)))
noncomputable def m_L_turn : FI := clean (noErr (fnOf 4 2 b_L_turn))
/-- _law_base: 0 _law_dims 1 _law_plain 2 _law_parts -/
noncomputable def b_L_base : SM := (sSeq (sIf (bB (eP (lift (pEq)) [(eVar 0), (eC (.int 2))])) (sSeq (sAsg (.name 1) (eTup [(eTup [(eC (.int 0)), (eC (.int 0))]), (eTup [(eC (.int 1)), (eC (.int 0))])]))
    (sSeq (sAsg (.name 2) (eLst [(eTup [(eTup [(eC (.int 0)), (eC (.int 0))]), (eTup [(eTup [(eC (.int 1)), (eC (.int 0))]), (eTup [(eC (.int 0)), (eC (.int 0))])])]), (eTup [(eTup [(eC (.int 0)), (eC (.int 1))]), (eVar 1)]), (eTup [(eTup [(eC (.int 1)), (eC (.int 1))]), (eVar 1)]), (eTup [(eTup [(eC (.int 1)), (eC (.int 0))]), (eTup [(eTup [(eC (.int 1)), (eC (.int 1))]), (eTup [(eC (.int 0)), (eC (.int 1))])])])]))
    (sSeq (sRet (eVar 2))
    sNil))) sNil)
    (sSeq (sAsg (.name 1) (eTup [(eTup [(eC (.int 0)), (eC (.int 0))]), (eTup [(eC (.int 1)), (eC (.int 0))]), (eTup [(eC (.int 2)), (eC (.int 0))])]))
    (sSeq (sAsg (.name 2) (eLst [(eTup [(eTup [(eC (.int 0)), (eC (.int 0)), (eC (.int 0))]), (eTup [(eTup [(eC (.int 1)), (eC (.int 0))]), (eTup [(eC (.int 0)), (eC (.int 0))]), (eTup [(eC (.int 2)), (eC (.int 0))])])]), (eTup [(eTup [(eC (.int 0)), (eC (.int 1)), (eC (.int 0))]), (eTup [(eTup [(eC (.int 1)), (eC (.int 0))]), (eTup [(eC (.int 2)), (eC (.int 0))]), (eTup [(eC (.int 0)), (eC (.int 0))])])]), (eTup [(eTup [(eC (.int 0)), (eC (.int 1)), (eC (.int 1))]), (eVar 1)])]))
    (sSeq (sAsg (.name 2) (eP (lift (pAdd)) [(eVar 2), (eLst [(eTup [(eTup [(eC (.int 0)), (eC (.int 0)), (eC (.int 1))]), (eTup [(eTup [(eC (.int 1)), (eC (.int 1))]), (eTup [(eC (.int 2)), (eC (.int 1))]), (eTup [(eC (.int 0)), (eC (.int 0))])])]), (eTup [(eTup [(eC (.int 1)), (eC (.int 0)), (eC (.int 1))]), (eTup [(eTup [(eC (.int 1)), (eC (.int 0))]), (eTup [(eC (.int 2)), (eC (.int 1))]), (eTup [(eC (.int 0)), (eC (.int 1))])])])])]))
    (sSeq (sAsg (.name 2) (eP (lift (pAdd)) [(eVar 2), (eLst [(eTup [(eTup [(eC (.int 1)), (eC (.int 1)), (eC (.int 1))]), (eVar 1)]), (eTup [(eTup [(eC (.int 1)), (eC (.int 1)), (eC (.int 0))]), (eTup [(eTup [(eC (.int 1)), (eC (.int 1))]), (eTup [(eC (.int 2)), (eC (.int 0))]), (eTup [(eC (.int 0)), (eC (.int 1))])])])])]))
    (sSeq (sRet (eP (lift (pAdd)) [(eVar 2), (eLst [(eTup [(eTup [(eC (.int 1)), (eC (.int 0)), (eC (.int 0))]), (eTup [(eTup [(eC (.int 1)), (eC (.int 1))]), (eTup [(eC (.int 0)), (eC (.int 1))]), (eTup [(eC (.int 2)), (eC (.int 0))])])])])]))
    sNil))))))
noncomputable def m_L_base : FI := clean (noErr (fnOf 3 1 b_L_base))
/-- _law_corners: 0 _law_dims 1 _law_corners_here 2 _law_x 3 _law_y -/
noncomputable def b_L_corners : SM := (sSeq (sAsg (.name 1) (eLst [(eTup [(eC (.int 0)), (eC (.int 0))]), (eTup [(eC (.int 1)), (eC (.int 0))]), (eTup [(eC (.int 0)), (eC (.int 1))]), (eTup [(eC (.int 1)), (eC (.int 1))])]))
    (sSeq (sK [] (sIf (bB (eP (lift (pEq)) [(eVar 0), (eC (.int 3))])) (sSeq (sAsg (.name 1) (eP (lift (pAdd)) [(eLc (ixL (eVar 1)) (.names [2, 3]) [2, 3] bYes (eTup [(eVar 2), (eVar 3), (eC (.int 0))])), (eLc (ixL (eVar 1)) (.names [2, 3]) [2, 3] bYes (eTup [(eVar 2), (eVar 3), (eC (.int 1))]))]))
    sNil) sNil))
    (sSeq (sRet (eVar 1))
    sNil)))
noncomputable def m_L_corners : FI := clean (noErr (fnOf 4 1 b_L_corners))
/-- _law_rows: 0 _law_dims 1 _law_joined_here 2 _law_parts 3 _law_rows_here 4 _law_corner 5 _law_turn_here 6 _law_back 7 _law_signs 8 _law_row 9 _law_axis 10 _law_flip 11 _law_bit -/
noncomputable def lb_L_rows_0 : SM := (sSeq (sAsg (.name 7) (eFz (eM isSt (lift (pJoin)) (eC (.str "")) [(eLc (ixT (eVar 5)) (.names [9, 10]) [9, 10] bYes (eFz (eP (lift (pAdd)) [(eP (lift pIx) [(eC (.str "+-")), (eVar 10)]), (eP (lift pIx) [(eC (.str "xyz")), (eVar 9)])])))])))
    (sSeq (sAsg (.name 8) (eFz (eP (lift (pAdd)) [(eP (lift (pAdd)) [(eP (lift (pAdd)) [(eC (.str "part ")), (eM isSt (lift (pJoin)) (eC (.str "")) [(eLc (ixT (eVar 4)) (.name 11) [11] bYes (eFz (eP (lift pStr) [(eVar 11)])))])]), (eC (.str " "))]), (eVar 7)])))
    (sSeq (sK [] (sIf (bB (eVar 6)) (sSeq (sAsg (.name 8) (eFz (eP (lift (pAdd)) [(eVar 8), (eC (.str " back"))])))
    sNil) sNil))
    (sSeq (sEx (eM isL pApp (eVar 3) [(eVar 8)]))
    sNil))))
noncomputable def l_L_rows_0 : SM := (sFor (ixL (eVar 2)) (.names [4, 5, 6]) lb_L_rows_0 [4, 5, 6, 7, 8])
noncomputable def b_L_rows : SM := (sSeq (sAsg (.name 3) (eLst [(eFz (eP (lift (pAdd)) [(eP (lift (pAdd)) [(eP (lift (pAdd)) [(eC (.str "curve fold ")), (eP (lift pIx) [(eLst [(eC (.str "loose")), (eC (.str "joined"))]), (eP (lift pInt) [(eVar 1)])])]), (eC (.str " "))]), (eP (lift pStr) [(eVar 0)])]))]))
    (sSeq l_L_rows_0
    (sSeq (sRet (eVar 3))
    sNil)))
noncomputable def m_L_rows : FI := clean (noErr (fnOf 12 3 b_L_rows))
/-- _law_bad_head: 0 _law_row 1 _law_draw 2 _law_words 3 _law_some -/
noncomputable def b_L_bad_head : SM := (sSeq (sAsg (.name 2) (eFz (eM isSt (lift (pSplit)) (eVar 0) [(eC (.str " "))])))
    (sSeq (sAsg (.name 3) (eFz (eLst [(eFz (eM isSt (lift (pJoin)) (eC (.str " ")) [(eP (lift (pAdd)) [(eLst [(eC (.str "curves"))]), (eSl (eVar 2) (oSome (eC (.int 1))) oNone)])])), (eFz (eM isSt (lift (pJoin)) (eC (.str " ")) [(eSl (eVar 2) oNone (oSome (eC (.int 3))))])), (eFz (eP (lift (pAdd)) [(eVar 0), (eC (.str " "))])), (eFz (eP (lift (pAdd)) [(eC (.str " ")), (eVar 0)])), (eFz (eP (lift (pOne (gRepl1 " " "  "))) [(eVar 0)]))])))
    (sSeq (sAsg (.name 3) (eFz (eP (lift (pAdd)) [(eVar 3), (eLst [(eFz (eP (lift (pOne (gRepl1 " " "\t"))) [(eVar 0)])), (eFz (eP (lift (pAdd)) [(eVar 0), (eC (.str "\t"))]))])])))
    (sSeq (sAsg (.name 3) (eFz (eP (lift (pAdd)) [(eVar 3), (eLst [(eC (.str "curve fold joine 2")), (eC (.str "curve fold loose 1")), (eC (.str "curve fold loose 4")), (eC (.str "curve fold loose 02")), (eC (.str ""))])])))
    (sSeq (sAsg (.name 3) (eFz (eP (lift (pAdd)) [(eVar 3), (eLst [(eC (.str "curve Fold loose 2")), (eC (.str "curve abcdefghijklm loose 3")), (eC (.str "curve  loose 2")), (eC (.str "curve f1 joined 3"))])])))
    (sSeq (sAsg (.name 3) (eFz (eP (lift (pAdd)) [(eVar 3), (eLst [(eC (.str "curve fold Joined 2")), (eFz (eP (lift (pAdd)) [(eVar 0), (eC (.str " back"))])), (eC (.str "curve fold loose +2")), (eC (.str "curve fold joined two"))])])))
    (sSeq (sRet (eP (lift pIx) [(eVar 3), (eP (lift (pII gMod)) [(eVar 1), (eP (lift pLen) [(eVar 3)])])]))
    sNil)))))))
noncomputable def m_L_bad_head : FI := clean (noErr (fnOf 4 2 b_L_bad_head))
/-- _law_bad_part: 0 _law_row 1 _law_draw 2 _law_words 3 _law_corner 4 _law_turn_here 5 _law_turns 6 _law_corners_here 7 _law_some 8 _law_one -/
noncomputable def b_L_bad_part : SM := (sSeq (sAsg (.name 2) (eFz (eM isSt (lift (pSplit)) (eVar 0) [(eC (.str " "))])))
    (sSeq (sAsg (.name 3) (eP (lift pIx) [(eVar 2), (eC (.int 1))]))
    (sSeq (sAsg (.name 4) (eP (lift pIx) [(eVar 2), (eC (.int 2))]))
    (sSeq (sAsg (.name 5) (eFz (eLst [(eFz (eP (lift (pAdd)) [(eSl (eVar 4) (oSome (eC (.int 2))) oNone), (eC (.str "+w"))])), (eFz (eP (lift (pMul)) [(eC (.str "+x")), (eP (lift pLen) [(eVar 3)])])), (eFz (eSl (eVar 4) (oSome (eC (.int 2))) oNone)), (eFz (eP (lift (pAdd)) [(eVar 4), (eC (.str "+x"))]))])))
    (sSeq (sAsg (.name 5) (eFz (eP (lift (pAdd)) [(eVar 5), (eLst [(eFz (eP (lift (pAdd)) [(eSl (eVar 4) (oSome (eC (.int 1))) oNone), (eC (.str "+"))])), (eFz (eP (lift (pOne gUpper)) [(eVar 4)])), (eFz (eP (lift (pAdd)) [(eC (.str "x")), (eSl (eVar 4) (oSome (eC (.int 1))) oNone)]))])])))
    (sSeq (sAsg (.name 6) (eFz (eLst [(eFz (eP (lift (pAdd)) [(eC (.str "2")), (eSl (eVar 3) (oSome (eC (.int 1))) oNone)])), (eFz (eSl (eVar 3) (oSome (eC (.int 1))) oNone)), (eFz (eP (lift (pAdd)) [(eVar 3), (eC (.str "0"))])), (eFz (eP (lift (pAdd)) [(eVar 3), (eC (.str "1"))]))])))
    (sSeq (sAsg (.name 6) (eFz (eP (lift (pAdd)) [(eVar 6), (eLst [(eFz (eP (lift (pAdd)) [(eC (.str "-")), (eSl (eVar 3) (oSome (eC (.int 1))) oNone)])), (eFz (eP (lift (pAdd)) [(eP (lift (pMul)) [(eC (.str "0")), (eP (lift (pII gSub)) [(eP (lift pLen) [(eVar 3)]), (eC (.int 1))])]), (eC (.str "O"))]))])])))
    (sSeq (sAsg (.name 7) (eFz (eP (lift (pAdd)) [(eLc (ixL (eVar 5)) (.name 8) [8] bYes (eFz (eP (lift (pAdd)) [(eP (lift (pAdd)) [(eP (lift (pAdd)) [(eC (.str "part ")), (eVar 3)]), (eC (.str " "))]), (eVar 8)]))), (eLc (ixL (eVar 6)) (.name 8) [8] bYes (eFz (eP (lift (pAdd)) [(eP (lift (pAdd)) [(eP (lift (pAdd)) [(eC (.str "part ")), (eVar 8)]), (eC (.str " "))]), (eVar 4)])))])))
    (sSeq (sAsg (.name 7) (eFz (eP (lift (pAdd)) [(eVar 7), (eLst [(eFz (eP (lift (pAdd)) [(eP (lift (pAdd)) [(eP (lift (pAdd)) [(eC (.str "parts ")), (eVar 3)]), (eC (.str " "))]), (eVar 4)])), (eFz (eP (lift (pAdd)) [(eC (.str "part ")), (eVar 3)])), (eFz (eP (lift (pAdd)) [(eP (lift (pAdd)) [(eP (lift (pAdd)) [(eP (lift (pAdd)) [(eC (.str "part ")), (eVar 3)]), (eC (.str " "))]), (eVar 4)]), (eC (.str " Back"))])), (eC (.str ""))])])))
    (sSeq (sAsg (.name 7) (eFz (eP (lift (pAdd)) [(eVar 7), (eLst [(eFz (eP (lift (pAdd)) [(eP (lift (pAdd)) [(eP (lift (pAdd)) [(eP (lift (pAdd)) [(eC (.str "part ")), (eVar 3)]), (eC (.str " "))]), (eVar 4)]), (eC (.str " back back"))])), (eFz (eP (lift (pAdd)) [(eVar 0), (eC (.str " "))])), (eFz (eP (lift (pAdd)) [(eC (.str " ")), (eVar 0)])), (eFz (eP (lift (pAdd)) [(eP (lift (pAdd)) [(eP (lift (pAdd)) [(eC (.str "part  ")), (eVar 3)]), (eC (.str " "))]), (eVar 4)]))])])))
    (sSeq (sAsg (.name 7) (eFz (eP (lift (pAdd)) [(eVar 7), (eLst [(eFz (eP (lift (pOne (gRepl1 " " "\t"))) [(eVar 0)])), (eFz (eP (lift (pAdd)) [(eVar 0), (eC (.str "\t"))]))])])))
    (sSeq (sRet (eP (lift pIx) [(eVar 7), (eP (lift (pII gMod)) [(eVar 1), (eP (lift pLen) [(eVar 7)])])]))
    sNil))))))))))))
noncomputable def m_L_bad_part : FI := clean (noErr (fnOf 9 2 b_L_bad_part))
/-- _law_second: 0 _law_rows_here 1 _law_first 2 _law_draw 3 _law_at -/
noncomputable def b_L_second : SM := (sSeq (sIf (bOr (bB (eP (lift (pEq)) [(eP (lift (pII gMod)) [(eVar 2), (eC (.int 2))]), (eC (.int 0))])) (bB (eP (lift (pII gGe)) [(eVar 1), (eP (lift pLen) [(eVar 0)])]))) (sSeq (sRet (eVar 0))
    sNil) sNil)
    (sSeq (sAsg (.name 3) (eFz (eP (lift (pAdd)) [(eVar 1), (eP (lift (pII gMod)) [(eP (lift (pII gDiv)) [(eVar 2), (eC (.int 2))]), (eP (lift (pII gSub)) [(eP (lift pLen) [(eVar 0)]), (eVar 1)])])])))
    (sSeq (sRet (eFz (eP (lift (pAdd)) [(eP (lift (pAdd)) [(eSl (eVar 0) oNone (oSome (eVar 3))), (eLst [(eC (.str "part 0 back"))])]), (eSl (eVar 0) (oSome (eP (lift (pAdd)) [(eVar 3), (eC (.int 1))])) oNone)])))
    sNil)))
noncomputable def m_L_second : FI := clean (noErr (fnOf 4 3 b_L_second))
/-- _law_refused: 0 _law_caught_here 1 _law_row 2 _law_kind -/
noncomputable def b_L_refused : SM := (sSeq (sIf (bOr (bNot (bB (eP (lift (pIsE (some false) [(6, true), (7, true), (4, false)])) [(eVar 0)]))) (bNot (bB (eP (lift (pIsE (some false) [(6, true), (7, true), (4, true)])) [(eVar 0)])))) (sSeq (sRet (eC (.bl false)))
    sNil) sNil)
    (sSeq (sIf (bOr (bB (eP (lift (pIsE (some false) [(6, false), (7, false), (4, true)])) [(eVar 0)])) (bB (eP (lift (pNe)) [(eP (lift (pIsE (some false) [(6, true), (7, false), (4, false)])) [(eVar 0)]), (eP (lift (pEq)) [(eVar 2), (eC (.str "row"))])]))) (sSeq (sRet (eC (.bl false)))
    sNil) sNil)
    (sSeq (sIf (bB (eP (lift (pNe)) [(eP (lift (pIsE (some false) [(6, false), (7, true), (4, false)])) [(eVar 0)]), (eP (lift (pEq)) [(eVar 2), (eC (.str "corner"))])])) (sSeq (sRet (eC (.bl false)))
    sNil) sNil)
    (sSeq (sRet (eAnd (eP (lift (pIsi "int")) [(eFldX [(6, 0), (7, 0)] (eVar 0))]) (eAnd (eNot (eP (lift (pIsi "bool")) [(eFldX [(6, 0), (7, 0)] (eVar 0))])) (eP (lift (pEq)) [(eFldX [(6, 0), (7, 0)] (eVar 0)), (eVar 1)]))))
    sNil))))
noncomputable def m_L_refused : FI := clean (noErr (fnOf 3 3 b_L_refused))
/-- first_state: 0 dims -/
noncomputable def b_p_first_state : SM := (sSeq (sRet (eTup [(eFz (eCall m_p_still [(eVar 0)] [])), (eC (.bl false))]))
    sNil)
noncomputable def m_p_first_state : FI := clean (noErr (fnOf 1 1 b_p_first_state))
/-- part_at: 0 curve 1 state 2 digit 3 part 4 turn 5 back -/
noncomputable def b_p_part_at : SM := (sSeq (sAsg (.names [4, 5]) (eVar 1))
    (sSeq (sK [] (sIf (bB (eVar 5)) (sSeq (sAsg (.name 2) (eFz (eP (lift (pII gSub)) [(eP (lift (pII gSub)) [(eP (lift pLen) [(eFld [(1, 3)] (eVar 0))]), (eC (.int 1))]), (eVar 2)])))
    sNil) sNil))
    (sSeq (sAsg (.name 3) (eP (lift pIx) [(eFld [(1, 3)] (eVar 0)), (eVar 2)]))
    (sSeq (sRet (eTup [(eFz (eCall m_p_turned [(eVar 4), (eFld [(0, 0)] (eVar 3))] [])), (eTup [(eFz (eCall m_p_after [(eVar 4), (eFld [(0, 1)] (eVar 3))] [])), (eP (lift (pNe)) [(eVar 5), (eFld [(0, 2)] (eVar 3))])])]))
    sNil))))
noncomputable def m_p_part_at : FI := clean (noErr (fnOf 6 3 b_p_part_at))
/-- is_word: 0 text -/
noncomputable def b_p_is_word : SM := (sSeq (sRet (eCall m_p_is_of [(eVar 0), (eC (.str "abcdefghijklmnopqrstuvwxyz")), (eC (.int 12))] []))
    sNil)
noncomputable def m_p_is_word : FI := clean (noErr (fnOf 1 1 b_p_is_word))
/-- _law_joined: 0 _law_dims 1 _law_number 2 _law_base_here 3 _law_turn_here 4 _law_mirror 5 _law_parts 6 _law_bits 7 _law_corner 8 _law_inner 9 _law_lies 10 _law_axis -/
noncomputable def lb_L_joined_0 : SM := (sSeq (sAsg (.name 9) (eFz (eCall m_L_after [(eVar 3), (eFz (eCall m_L_after [(eVar 8), (eFz (eCall m_L_undone [(eVar 3)] []))] []))] [])))
    (sSeq (sK [] (sIf (bB (eP (lift (pEq)) [(eP (lift (pII gMod)) [(eVar 6), (eC (.int 2))]), (eC (.int 1))])) (sSeq (sAsg (.name 9) (eFz (eCall m_L_after [(eVar 9), (eVar 4)] [])))
    sNil) sNil))
    (sSeq (sEx (eM isL pApp (eVar 5) [(eTup [(eFz (eCall m_L_turned [(eVar 3), (eVar 7)] [])), (eVar 9), (eP (lift (pEq)) [(eP (lift (pII gMod)) [(eVar 6), (eC (.int 2))]), (eC (.int 1))])])]))
    (sSeq (sAsg (.name 6) (eFz (eP (lift (pII gDiv)) [(eVar 6), (eC (.int 2))])))
    sNil))))
noncomputable def l_L_joined_0 : SM := (sFor (ixL (eVar 2)) (.names [7, 8]) lb_L_joined_0 [7, 8, 9])
noncomputable def b_L_joined : SM := (sSeq (sAsg (.name 2) (eFz (eCall m_L_base [(eVar 0)] [])))
    (sSeq (sAsg (.name 3) (eFz (eCall m_L_turn [(eVar 1), (eVar 0)] [])))
    (sSeq (sK [] (sIf (bB (eP (lift (pEq)) [(eP (lift (pII gMod)) [(eP (lift (pII gDiv)) [(eVar 1), (eC (.int 48))]), (eC (.int 2))]), (eC (.int 1))])) (sSeq (sAsg (.name 2) (eFz (eLRev (eVar 2))))
    sNil) sNil))
    (sSeq (sAsg (.name 4) (eFz (eP (lift pTupOf) [(eLc (ixR1 (eVar 0)) (.name 10) [10] bYes (eTup [(eVar 10), (eFz (eP (lift pInt) [(eP (lift (pEq)) [(eVar 10), (eC (.int 0))])]))]))])))
    (sSeq (sAsg (.name 4) (eFz (eCall m_L_after [(eVar 3), (eFz (eCall m_L_after [(eVar 4), (eFz (eCall m_L_undone [(eVar 3)] []))] []))] [])))
    (sSeq (sAsg (.name 5) (eLst []))
    (sSeq (sAsg (.name 6) (eFz (eP (lift (pII gDiv)) [(eVar 1), (eC (.int 96))])))
    (sSeq l_L_joined_0
    (sSeq (sRet (eVar 5))
    sNil)))))))))
noncomputable def m_L_joined : FI := clean (noErr (fnOf 11 2 b_L_joined))
/-- _law_loose: 0 _law_dims 1 _law_cell 2 _law_left 3 _law_parts 4 _law_number 5 _law_corner -/
noncomputable def lb_L_loose_0 : SM := (sSeq (sAsg (.name 4) (eFz (eCall m_L_mix [(eVar 1), (eFz (eP (lift (pAdd)) [(eC (.int 48271)), (eP (lift (pMul)) [(eC (.int 997)), (eP (lift pLen) [(eVar 2)])])]))] [])))
    (sSeq (sAsg (.name 5) (eFz (eM isL pPopAt (eVar 2) [(eP (lift (pII gMod)) [(eVar 4), (eP (lift pLen) [(eVar 2)])])])))
    (sSeq (sEx (eM isL pApp (eVar 3) [(eTup [(eVar 5), (eFz (eCall m_L_turn [(eFz (eP (lift (pII gDiv)) [(eVar 4), (eC (.int 8))])), (eVar 0)] [])), (eP (lift (pEq)) [(eP (lift (pII gMod)) [(eP (lift (pII gDiv)) [(eVar 4), (eC (.int 800))]), (eC (.int 2))]), (eC (.int 1))])])]))
    sNil)))
noncomputable def l_L_loose_0 : SM := (sWhile (bB (eP (lift (pNe)) [(eVar 2), (eLst [])])) lb_L_loose_0 [4, 5])
noncomputable def b_L_loose : SM := (sSeq (sAsg (.name 2) (eCall m_L_corners [(eVar 0)] []))
    (sSeq (sAsg (.name 3) (eLst []))
    (sSeq l_L_loose_0
    (sSeq (sRet (eVar 3))
    sNil))))
noncomputable def m_L_loose : FI := clean (noErr (fnOf 6 2 b_L_loose))
/-- _law_faulty: 0 _law_rows_here 1 _law_draw 2 _law_kind 3 _law_at 4 _law_more 5 _law_words -/
noncomputable def b_L_faulty : SM := (sSeq (sAsg (.name 2) (eFz (eP (lift (pII gMod)) [(eVar 1), (eC (.int 6))])))
    (sSeq (sAsg (.name 3) (eFz (eP (lift (pAdd)) [(eC (.int 1)), (eP (lift (pII gMod)) [(eP (lift (pII gDiv)) [(eVar 1), (eC (.int 6))]), (eP (lift (pII gSub)) [(eP (lift pLen) [(eVar 0)]), (eC (.int 1))])])])))
    (sSeq (sAsg (.name 4) (eFz (eP (lift (pII gDiv)) [(eVar 1), (eC (.int 60))])))
    (sSeq (sIf (bB (eP (lift (pEq)) [(eVar 2), (eC (.int 0))])) (sSeq (sRet (eTup [(eFz (eP (lift (pAdd)) [(eLst [(eFz (eCall m_L_bad_head [(eP (lift pIx) [(eVar 0), (eC (.int 0))]), (eVar 4)] []))]), (eSl (eVar 0) (oSome (eC (.int 1))) oNone)])), (eC (.int 1)), (eC (.str "row"))]))
    sNil) sNil)
    (sSeq (sIf (bB (eP (lift (pLt)) [(eVar 2), (eC (.int 3))])) (sSeq (sRet (eTup [(eFz (eP (lift (pAdd)) [(eP (lift (pAdd)) [(eSl (eVar 0) oNone (oSome (eVar 3))), (eLst [(eFz (eCall m_L_bad_part [(eP (lift pIx) [(eVar 0), (eVar 3)]), (eVar 4)] []))])]), (eSl (eVar 0) (oSome (eP (lift (pAdd)) [(eVar 3), (eC (.int 1))])) oNone)])), (eFz (eP (lift (pAdd)) [(eVar 3), (eC (.int 1))])), (eC (.str "row"))]))
    sNil) sNil)
    (sSeq (sIf (bAnd (bB (eP (lift (pEq)) [(eVar 2), (eC (.int 3))])) (bB (eP (lift (pII gGt)) [(eVar 3), (eC (.int 1))]))) (sSeq (sAsg (.name 5) (eM isSt (lift (pSplit)) (eP (lift pIx) [(eVar 0), (eVar 3)]) [(eC (.str " "))]))
    (sSeq (sSub (eVar 5) (eC (.int 1)) (eP (lift pIx) [(eM isSt (lift (pSplit)) (eP (lift pIx) [(eVar 0), (eP (lift (pAdd)) [(eC (.int 1)), (eP (lift (pII gMod)) [(eVar 4), (eP (lift (pII gSub)) [(eVar 3), (eC (.int 1))])])])]) [(eC (.str " "))]), (eC (.int 1))]))
    (sSeq (sRet (eTup [(eFz (eP (lift (pAdd)) [(eP (lift (pAdd)) [(eSl (eVar 0) oNone (oSome (eVar 3))), (eLst [(eFz (eM isSt (lift (pJoin)) (eC (.str " ")) [(eVar 5)]))])]), (eSl (eVar 0) (oSome (eP (lift (pAdd)) [(eVar 3), (eC (.int 1))])) oNone)])), (eFz (eP (lift (pAdd)) [(eVar 3), (eC (.int 1))])), (eC (.str "corner"))]))
    sNil))) sNil)
    (sSeq (sIf (bB (eP (lift (pLt)) [(eVar 2), (eC (.int 5))])) (sSeq (sRet (eTup [(eFz (eSl (eVar 0) oNone (oSome (eVar 3)))), (eFz (eP (lift (pAdd)) [(eVar 3), (eC (.int 1))])), (eC (.str "row"))]))
    sNil) sNil)
    (sSeq (sRet (eTup [(eFz (eP (lift (pAdd)) [(eVar 0), (eLst [(eP (lift pIx) [(eLst [(eC (.str "")), (eC (.str "part 00 +x+y")), (eC (.str "floor 3 4"))]), (eP (lift (pII gMod)) [(eVar 4), (eC (.int 3))])])])])), (eFz (eP (lift (pAdd)) [(eP (lift pLen) [(eVar 0)]), (eC (.int 1))])), (eC (.str "row"))]))
    sNil))))))))
noncomputable def m_L_faulty : FI := clean (noErr (fnOf 6 2 b_L_faulty))
/-- unmet_at: 0 curve 1 first 2 last 3 level 4 axis 5 upward 6 seen 7 here 8 end 9 there 10 begin -/
noncomputable def lb_p_unmet_at_0 : SM := (sSeq (sDPut (eVar 6) (eTup [(eVar 8), (eVar 10)]) (eC (.bl true)))
    (sSeq (sAug 3 (lift pIadd) (eC (.int 1)))
    (sSeq (sAsg (.names [7, 8]) (eFz (eCall m_p_part_at [(eVar 0), (eVar 8), (eVar 2)] [])))
    (sSeq (sAsg (.names [9, 10]) (eFz (eCall m_p_part_at [(eVar 0), (eVar 10), (eC (.int 0))] [])))
    (sSeq (sIf (bNot (bB (eCall m_p_touches [(eVar 7), (eVar 9), (eVar 4), (eVar 5)] []))) (sSeq (sRet (eVar 3))
    sNil) sNil)
    sNil)))))
noncomputable def l_p_unmet_at_0 : SM := (sWhile (bB (eDIn true (eTup [(eVar 8), (eVar 10)]) (eVar 6))) lb_p_unmet_at_0 [7, 9])
noncomputable def b_p_unmet_at : SM := (sSeq (sAsg (.name 2) (eFz (eP (lift (pII gSub)) [(eP (lift pLen) [(eFld [(1, 3)] (eVar 0))]), (eC (.int 1))])))
    (sSeq (sAsg (.names [7, 8]) (eFz (eCall m_p_part_at [(eVar 0), (eFz (eCall m_p_first_state [(eFld [(1, 1)] (eVar 0))] [])), (eVar 1)] [])))
    (sSeq (sAsg (.names [9, 10]) (eFz (eCall m_p_part_at [(eVar 0), (eFz (eCall m_p_first_state [(eFld [(1, 1)] (eVar 0))] [])), (eFz (eP (lift (pAdd)) [(eVar 1), (eC (.int 1))]))] [])))
    (sSeq (sAsg (.name 3) (eC (.int 1)))
    (sSeq (sAsg (.name 4) (eFz (eCall m_p_axis_between [(eVar 7), (eVar 9)] [])))
    (sSeq (sIf (bB (eP (lift (pIs)) [(eVar 4), (eC .non)])) (sSeq (sRet (eVar 3))
    sNil) sNil)
    (sSeq (sAsg (.name 5) (eP (lift pIx) [(eVar 9), (eVar 4)]))
    (sSeq (sAsg (.name 6) eDNew)
    (sSeq l_p_unmet_at_0
    (sSeq (sRet (eC .non))
    sNil))))))))))
noncomputable def m_p_unmet_at : FI := clean (noErr (fnOf 11 2 b_p_unmet_at))
/-- head_of: 0 row 1 words -/
noncomputable def b_p_head_of : SM := (sSeq (sAsg (.name 1) (eFz (eM isSt (lift (pSplit)) (eVar 0) [(eC (.str " "))])))
    (sSeq (sIf (bOr (bB (eP (lift (pNe)) [(eP (lift pLen) [(eVar 1)]), (eC (.int 4))])) (bOr (bB (eP (lift (pNe)) [(eP (lift pIx) [(eVar 1), (eC (.int 0))]), (eC (.str "curve"))])) (bNot (bB (eCall m_p_is_word [(eP (lift pIx) [(eVar 1), (eC (.int 1))])] []))))) (sSeq (sRaiseF 6 [(eC (.int 1))])
    sNil) sNil)
    (sSeq (sIf (bOr (bB (eP (lift (pNotIn)) [(eP (lift pIx) [(eVar 1), (eC (.int 2))]), (eTup [(eC (.str "joined")), (eC (.str "loose"))])])) (bB (eP (lift (pNotIn)) [(eP (lift pIx) [(eVar 1), (eC (.int 3))]), (eTup [(eC (.str "2")), (eC (.str "3"))])]))) (sSeq (sRaiseF 6 [(eC (.int 1))])
    sNil) sNil)
    (sSeq (sRet (eTup [(eP (lift pIx) [(eVar 1), (eC (.int 1))]), (eFz (eP (lift pInt) [(eP (lift pIx) [(eVar 1), (eC (.int 3))])])), (eP (lift (pEq)) [(eP (lift pIx) [(eVar 1), (eC (.int 2))]), (eC (.str "joined"))])]))
    sNil))))
noncomputable def m_p_head_of : FI := clean (fnOf 2 1 b_p_head_of)
/-- part_of: 0 row 1 number 2 dims 3 words 4 corner 5 turn -/
noncomputable def b_p_part_of : SM := (sSeq (sAsg (.name 3) (eFz (eM isSt (lift (pSplit)) (eVar 0) [(eC (.str " "))])))
    (sSeq (sIf (bOr (bB (eP (lift (pNotIn)) [(eP (lift pLen) [(eVar 3)]), (eTup [(eC (.int 3)), (eC (.int 4))])])) (bB (eP (lift (pNe)) [(eP (lift pIx) [(eVar 3), (eC (.int 0))]), (eC (.str "part"))]))) (sSeq (sRaiseF 6 [(eVar 1)])
    sNil) sNil)
    (sSeq (sAsg (.name 4) (eFz (eCall m_p_corner_of [(eP (lift pIx) [(eVar 3), (eC (.int 1))]), (eVar 2)] [])))
    (sSeq (sAsg (.name 5) (eFz (eCall m_p_turn_of [(eP (lift pIx) [(eVar 3), (eC (.int 2))]), (eVar 2)] [])))
    (sSeq (sIf (bOr (bB (eP (lift (pIs)) [(eVar 4), (eC .non)])) (bOr (bB (eP (lift (pIs)) [(eVar 5), (eC .non)])) (bB (eP (lift (pNotIn)) [(eSl (eVar 3) (oSome (eC (.int 3))) oNone), (eTup [(eFz (eLst [])), (eFz (eLst [(eC (.str "back"))]))])])))) (sSeq (sRaiseF 6 [(eVar 1)])
    sNil) sNil)
    (sSeq (sRet (eFz (eCl (eNew 0 m_p_Part_init [(eVar 4), (eVar 5), (eP (lift (pEq)) [(eSl (eVar 3) (oSome (eC (.int 3))) oNone), (eLst [(eC (.str "back"))])])] []))))
    sNil))))))
noncomputable def m_p_part_of : FI := clean (fnOf 6 3 b_p_part_of)
/-- meeting_of: 0 curve 1 found 2 first 3 level -/
noncomputable def lb_p_meeting_of_0 : SM := (sSeq (sAsg (.name 3) (eFz (eCall m_p_unmet_at [(eVar 0), (eVar 2)] [])))
    (sSeq (sK [] (sIf (bAnd (bB (eP (lift (pIsNot)) [(eVar 3), (eC .non)])) (bOr (bB (eP (lift (pIs)) [(eVar 1), (eC .non)])) (bB (eP (lift (pLt)) [(eVar 3), (eP (lift pIx) [(eVar 1), (eC (.int 1))])])))) (sSeq (sAsg (.name 1) (eTup [(eVar 2), (eVar 3)]))
    sNil) sNil))
    sNil))
noncomputable def l_p_meeting_of_0 : SM := (sFor (ixR1 (eP (lift (pII gSub)) [(eP (lift pLen) [(eFld [(1, 3)] (eVar 0))]), (eC (.int 1))])) (.name 2) lb_p_meeting_of_0 [2, 3])
noncomputable def b_p_meeting_of : SM := (sSeq (sAsg (.name 1) (eC .non))
    (sSeq l_p_meeting_of_0
    (sSeq (sRet (eVar 1))
    sNil)))
noncomputable def m_p_meeting_of : FI := clean (noErr (fnOf 4 1 b_p_meeting_of))
/-- curve_from: 0 rows 1 parts 2 seen 3 number 4 name 5 dims 6 joined 7 part -/
noncomputable def lb_p_curve_from_0 : SM := (sSeq (sIf (bB (eP (lift (pII gGt)) [(eVar 3), (eP (lift pLen) [(eVar 0)])])) (sSeq (sRaiseF 6 [(eVar 3)])
    sNil) sNil)
    (sSeq (sAsg (.name 7) (eFz (eCall m_p_part_of [(eP (lift pIx) [(eVar 0), (eP (lift (pII gSub)) [(eVar 3), (eC (.int 1))])]), (eVar 3), (eVar 5)] [])))
    (sSeq (sIf (bB (eDIn false (eFld [(0, 0)] (eVar 7)) (eVar 2))) (sSeq (sRaiseF 7 [(eVar 3)])
    sNil) sNil)
    (sSeq (sDPut (eVar 2) (eFld [(0, 0)] (eVar 7)) (eC (.bl true)))
    (sSeq (sEx (eM isL pApp (eVar 1) [(eVar 7)]))
    sNil)))))
noncomputable def l_p_curve_from_0 : SM := (sFor (ixR2 (eC (.int 2)) (eP (lift (pAdd)) [(eC (.int 2)), (eP (lift (pII gShl)) [(eC (.int 1)), (eVar 5)])])) (.name 3) lb_p_curve_from_0 [3, 7])
noncomputable def b_p_curve_from : SM := (sSeq (sAsg (.names [4, 5, 6]) (eFz (eCall m_p_head_of [(eP (lift pIx) [(eVar 0), (eC (.int 0))])] [])))
    (sSeq (sAsg (.name 1) (eLst []))
    (sSeq (sAsg (.name 2) eDNew)
    (sSeq l_p_curve_from_0
    (sSeq (sRet (eFz (eCl (eNew 1 m_p_Curve_init [(eVar 4), (eVar 5), (eVar 6), (eVar 1)] []))))
    sNil)))))
noncomputable def m_p_curve_from : FI := clean (fnOf 8 1 b_p_curve_from)
/-- fitted: 0 curve 1 found -/
noncomputable def b_p_fitted : SM := (sSeq (sIf (bB (eFld [(1, 2)] (eVar 0))) (sSeq (sAsg (.name 1) (eFz (eCall m_p_meeting_of [(eVar 0)] [])))
    (sSeq (sIf (bB (eP (lift (pIsNot)) [(eVar 1), (eC .non)])) (sSeq (sRaiseF 4 [(eP (lift pIx) [(eVar 1), (eC (.int 0))]), (eFz (eP (lift (pAdd)) [(eP (lift pIx) [(eVar 1), (eC (.int 0))]), (eC (.int 1))])), (eP (lift pIx) [(eVar 1), (eC (.int 1))])])
    sNil) sNil)
    sNil)) sNil)
    (sSeq (sRet (eVar 0))
    sNil))
noncomputable def m_p_fitted : FI := clean (fnOf 2 1 b_p_fitted)
/-- curve_of: 0 text 1 rows 2 curve -/
noncomputable def b_p_curve_of : SM := (sSeq (sAsg (.name 1) (eFz (eM isSt (lift (pSplit)) (eVar 0) [(eC (.str "\n"))])))
    (sSeq (sAsg (.name 2) (eFz (eCall m_p_curve_from [(eVar 1)] [])))
    (sSeq (sIf (bB (eP (lift (pII gGt)) [(eP (lift pLen) [(eVar 1)]), (eP (lift (pAdd)) [(eC (.int 1)), (eP (lift pLen) [(eFld [(1, 3)] (eVar 2))])])])) (sSeq (sRaiseF 6 [(eFz (eP (lift (pAdd)) [(eC (.int 2)), (eP (lift pLen) [(eFld [(1, 3)] (eVar 2))])]))])
    sNil) sNil)
    (sSeq (sRet (eCall m_p_fitted [(eVar 2)] []))
    sNil))))
noncomputable def m_p_curve_of : FI := clean (fnOf 3 1 b_p_curve_of)
/-- _law_caught: 0 _law_rows_here 1 _law_whole 2 _law_caught_here 3 e -/
noncomputable def b_L_caught : SM := (sSeq (sAsg (.name 2) (eC .non))
    (sSeq (sK [3] (sTry 3 [(6, true), (7, true), (4, true)] (sSeq (sIf (bB (eVar 1)) (sSeq (sEx (eCall m_p_curve_of [(eFz (eM isSt (lift (pJoin)) (eC (.str "\n")) [(eVar 0)]))] []))
    sNil) (sSeq (sEx (eCall m_p_curve_from [(eVar 0)] []))
    sNil))
    sNil) (sSeq (sAsg (.name 2) (eVar 3))
    sNil)))
    (sSeq (sRet (eVar 2))
    sNil)))
noncomputable def m_L_caught : FI := clean (noErr (fnOf 4 2 b_L_caught))
/-- law: 0 _law_script 1 _law_cell 2 _law_number 3 _law_dims 4 _law_parts 5 _law_good 6 _law_rows_here 7 _law_caught_here 8 _law_row 9 _law_kind -/
noncomputable def lb_L_law_0 : SM := (sSeq (sAsg (.name 2) (eFz (eCall m_L_mix [(eVar 1), (eC (.int 69621))] [])))
    (sSeq (sAsg (.name 3) (eFz (eP (lift (pAdd)) [(eC (.int 2)), (eP (lift (pII gMod)) [(eVar 2), (eC (.int 2))])])))
    (sSeq (sAsg (.name 4) (eFz (eCall m_L_loose [(eVar 3), (eVar 1)] [])))
    (sSeq (sK [] (sIf (bB (eP (lift (pEq)) [(eP (lift (pII gMod)) [(eP (lift (pII gDiv)) [(eVar 2), (eC (.int 2))]), (eC (.int 2))]), (eC (.int 1))])) (sSeq (sAsg (.name 4) (eFz (eCall m_L_joined [(eVar 3), (eFz (eP (lift (pII gDiv)) [(eVar 2), (eC (.int 8))]))] [])))
    sNil) sNil))
    (sSeq (sAsg (.name 5) (eFz (eCall m_L_rows [(eVar 3), (eC (.bl false)), (eVar 4)] [])))
    (sSeq (sAsg (.names [6, 8, 9]) (eFz (eCall m_L_faulty [(eFz (eCall m_L_rows [(eVar 3), (eP (lift (pEq)) [(eP (lift (pII gMod)) [(eP (lift (pII gDiv)) [(eVar 2), (eC (.int 4))]), (eC (.int 2))]), (eC (.int 1))]), (eVar 4)] [])), (eFz (eCall m_L_mix [(eVar 1), (eC (.int 39373))] []))] [])))
    (sSeq (sAsg (.name 6) (eFz (eCall m_L_second [(eVar 6), (eVar 8), (eFz (eCall m_L_mix [(eVar 1), (eC (.int 16807))] []))] [])))
    (sSeq (sIf (bNot (bB (eCall m_L_refused [(eFz (eCall m_L_caught [(eVar 6), (eC (.bl true))] [])), (eVar 8), (eVar 9)] []))) (sSeq (sRet (eC (.bl false)))
    sNil) sNil)
    (sSeq (sAsg (.name 7) (eFz (eCall m_L_caught [(eVar 6), (eC (.bl false))] [])))
    (sSeq (sIf (bB (eP (lift (pII gGt)) [(eVar 8), (eP (lift pLen) [(eVar 5)])])) (sSeq (sIf (bB (eP (lift (pIsNot)) [(eVar 7), (eC .non)])) (sSeq (sRet (eC (.bl false)))
    sNil) sNil)
    sNil) (sSeq (sIf (bNot (bB (eCall m_L_refused [(eVar 7), (eVar 8), (eVar 9)] []))) (sSeq (sRet (eC (.bl false)))
    sNil) sNil)
    sNil))
    (sSeq (sIf (bB (eP (lift (pNe)) [(eFld [(1, 1)] (eCall m_p_curve_of [(eFz (eM isSt (lift (pJoin)) (eC (.str "\n")) [(eVar 5)]))] [])), (eVar 3)])) (sSeq (sRet (eC (.bl false)))
    sNil) sNil)
    sNil)))))))))))
noncomputable def l_L_law_0 : SM := (sFor (ixL (eP (lift (pAdd)) [(eSl (eVar 0) oNone (oSome (eC (.int 20)))), (eLst [(eC (.int 13))])])) (.name 1) lb_L_law_0 [1, 2, 3, 4, 5, 6, 7, 8, 9])
noncomputable def b_L_law : SM := (sSeq l_L_law_0
    (sSeq (sRet (eC (.bl true)))
    sNil))
noncomputable def m_L_law : FI := clean (noErr (fnOf 10 1 b_L_law))
end Pf
set_option Elab.async false
set_option linter.all false
set_option maxRecDepth 100000
set_option maxHeartbeats 4000000
set_option autoImplicit false
namespace Pf
open PySem L2 Cy
noncomputable def F_p_turned (turn : (List (Int × Int))) (corner : (List Int)) : Option (List Int) := (((some turn).bind fun xs => (fits xs).bind (mapO fun (x_1 : (Int × Int)) => ((idx corner x_1.1).bind fun t_2 => (some (bXorI t_2 x_1.2))))).bind fun t_4 => (some t_4))
theorem R_p_turned (S : Sto) (turn : (List (Int × Int))) (corner : (List Int)) (r : (List Int)) (h : F_p_turned turn corner = some r) : m_p_turned [(eTL (eP2 D.int D.int)) turn, (eTL D.int) corner] S = .ok (.va ((eTL D.int) r)) S := by
  refine def_v (e := (eTL D.int)) (b := b_p_turned) (n := 4) (ar := 2) (X := F_p_turned turn corner) ?_ h
  delta F_p_turned
  exact (sx_ret0 (e := (eTL D.int)) (xm_sub (e := (fl D.int)) (xm_lc (e := (eP2 D.int D.int)) (g := D.int) (ix_tl (e := (eP2 D.int D.int)) (ex_var (d := (eTL (eP2 D.int D.int)) turn) rfl)) fun x_1 => ⟨_, tg_2, (xm_sub (e := (va D.int)) (xm_ix (e := D.int) (ex_var (d := (eTL D.int) corner) rfl) (qs_tl (e := D.int) (l := corner)) (ex_var (d := D.int x_1.1) rfl)) fun t_2 h_3 => (xm_pure (e := (va D.int)) (ex_fzv (ex_bxor h_3 (ex_var (d := D.int x_1.2) rfl)))))⟩) fun t_4 h_5 => (xm_pure (e := (va (eTL D.int))) (ex_tupOf (e := D.int) h_5 (ls_fr (e := D.int) (l := t_4))))))
noncomputable def F_p_still (dims : Int) : Option (List (Int × Int)) := (((rngC 0 dims).bind fun xs => (fits xs).bind fun xs => some (xs.map fun (x_6 : Int) => (x_6, 0))).bind fun t_7 => (some t_7))
theorem R_p_still (S : Sto) (dims : Int) (r : (List (Int × Int))) (h : F_p_still dims = some r) : m_p_still [D.int dims] S = .ok (.va ((eTL (eP2 D.int D.int)) r)) S := by
  refine def_v (e := (eTL (eP2 D.int D.int))) (b := b_p_still) (n := 2) (ar := 1) (X := F_p_still dims) ?_ h
  delta F_p_still
  exact (sx_ret0 (e := (eTL (eP2 D.int D.int))) (xm_sub (e := (fl (eP2 D.int D.int))) (xm_lcP (e := D.int) (g := (eP2 D.int D.int)) (f := fun (x_6 : Int) => (x_6, 0)) (ix_r1 (ex_var (d := D.int dims) rfl)) fun x_6 => ⟨_, tg_1, (ex_tup (exa_cons (ex_var (d := D.int x_6) rfl) (exa_cons ex_c exa_nil)) rfl (Nat.le_of_ble_eq_true rfl))⟩) fun t_7 h_8 => (xm_pure (e := (va (eTL (eP2 D.int D.int)))) (ex_tupOf (e := (eP2 D.int D.int)) h_8 (ls_fr (e := (eP2 D.int D.int)) (l := t_7))))))
noncomputable def G_p_after_0 (other : (List (Int × Int))) (s_13 : (List (Int × Int))) (x_11 : (Int × Int)) : Option (List (Int × Int)) := ((idx other x_11.1).bind fun p_18 => ((some (p_18.1, (bXorI p_18.2 x_11.2))).bind fun w_20 => (snoc s_13 w_20).bind fun made_19 => (some made_19)))
noncomputable def F_p_after (one : (List (Int × Int))) (other : (List (Int × Int))) : Option (List (Int × Int)) := ((some []).bind fun made_9 => ((some one).bind fun xs => (foldO (G_p_after_0 other) made_9 xs).bind fun s_12 => (some s_12)))
theorem R_p_after (S : Sto) (one : (List (Int × Int))) (other : (List (Int × Int))) (r : (List (Int × Int))) (h : F_p_after one other = some r) : m_p_after [(eTL (eP2 D.int D.int)) one, (eTL (eP2 D.int D.int)) other] S = .ok (.va ((eTL (eP2 D.int D.int)) r)) S := by
  refine def_v (e := (eTL (eP2 D.int D.int))) (b := b_p_after) (n := 7) (ar := 2) (X := F_p_after one other) ?_ h
  delta F_p_after
  exact (sx_new (e := (eP2 D.int D.int)) (xm_pure (e := (fl (eP2 D.int D.int))) (ex_lst exa_nil rfl (Nat.le_of_ble_eq_true rfl))) fun made_9 n_10 => (sx_forN (e := (eP2 D.int D.int)) (E := (fun (w : Unit) (s : (List (Int × Int))) => [some ((eTL (eP2 D.int D.int)) one), some ((eTL (eP2 D.int D.int)) other), some (.ref n_10), none, none, none, none])) (B := (fun (w : Unit) (s : (List (Int × Int))) => [pt n_10 (.lst (s.map (eP2 D.int D.int)))])) (Ai := []) (s0 := made_9) (ix_tl (e := (eP2 D.int D.int)) (ex_var (d := (eTL (eP2 D.int D.int)) one) rfl)) () rfl (fun _ h => h) (fun _ _ _ h => h.nil) (fun w_14 s_13 x_11 => ⟨_, tg_2, (sx_asgs (e := (eP2 D.int D.int)) (xm_ix (e := (eP2 D.int D.int)) (ex_var (d := (eTL (eP2 D.int D.int)) other) rfl) (qs_tl (e := (eP2 D.int D.int)) (l := other)) (ex_var (d := D.int x_11.1) rfl)) (fun _ => tg_2) fun p_18 => (sx_app (e := (eP2 D.int D.int)) (l := s_13) rfl (j := 0) rfl (xm_pure (e := (va (eP2 D.int D.int))) (ex_tup (exa_cons (ex_var (d := D.int p_18.1) rfl) (exa_cons (ex_fzv (ex_bxor (ex_var (d := D.int p_18.2) rfl) (ex_var (d := D.int x_11.2) rfl))) exa_nil)) rfl (Nat.le_of_ble_eq_true rfl))) fun made_19 => (sx_end (x := made_19) () rfl (fun _ h => h))))⟩) fun w_15 s_12 => (sx_ret0 (e := (eTL (eP2 D.int D.int))) (xm_pure (e := (va (eTL (eP2 D.int D.int)))) (ex_tupOf (e := (eP2 D.int D.int)) (ex_var (d := .ref n_10) rfl) (ls_ref (e := (eP2 D.int D.int)) (l := s_12) (j := 0) rfl))))))
noncomputable def G_p_turn_of_0 (text : Str) (dims : Int) (s_27 : (List (Int × Int))) (x_25 : Int) : Option (Fw (List (Int × Int)) (Option (List (Int × Int)))) := (((chr text (2 * x_25)).bind fun t_31 => (some (Txt.find ("+-" : Str) t_31))).bind fun flip_30 => (((slS ("xyz" : Str) none (some dims)).bind fun t_34 => ((chr text ((2 * x_25) + 1)).bind fun t_36 => (some (Txt.find t_34 t_36)))).bind fun axis_33 => (((some (decide (flip_30 < 0))).bind fun b => if b = true then some true else ((some (decide (axis_33 < 0))).bind fun b => if b = true then some true else (((some s_27).bind fun xs => (fits xs).bind fun xs => some (xs.map fun (x_38 : (Int × Int)) => x_38.1)).bind fun t_39 => (some (memB axis_33 t_39))))).bind fun b => if b = true then (some (.ret none)) else ((some (axis_33, flip_30)).bind fun w_42 => (snoc s_27 w_42).bind fun made_41 => (some (.nx made_41))))))
noncomputable def F_p_turn_of (text : Str) (dims : Int) : Option (Option (List (Int × Int))) := (((lenS text).bind fun t_21 => (some (!decide (t_21 = (2 * dims))))).bind fun b => if b = true then (some none) else ((some []).bind fun made_23 => ((rngC 0 dims).bind fun xs => (loopO (ρ := (Option (List (Int × Int)))) (G_p_turn_of_0 text dims) made_23 xs).bind fun w => w.on (fun s_26 => (some (some s_26))) fun r => r)))
theorem R_p_turn_of (S : Sto) (text : Str) (dims : Int) (r : (Option (List (Int × Int)))) (h : F_p_turn_of text dims = some r) : m_p_turn_of [D.str text, D.int dims] S = .ok (.va ((eO (eTL (eP2 D.int D.int))) r)) S := by
  refine def_v (e := (eO (eTL (eP2 D.int D.int)))) (b := b_p_turn_of) (n := 7) (ar := 2) (X := F_p_turn_of text dims) ?_ h
  delta F_p_turn_of
  exact (sx_ifL (bm_sub (e := (va D.int)) (xm_lenS (ex_var (d := D.str text) rfl)) fun t_21 h_22 => (bm_of (ex_neI h_22 (ex_mulK (mulB_lit (by decide)) ex_c (ex_var (d := D.int dims) rfl))))) (sx_assoc (sx_ret0 (e := (eO (eTL (eP2 D.int D.int)))) (xm_pure (e := (va (eO (eTL (eP2 D.int D.int))))) ex_c))) (sx_new (e := (eP2 D.int D.int)) (xm_pure (e := (fl (eP2 D.int D.int))) (ex_lst exa_nil rfl (Nat.le_of_ble_eq_true rfl))) fun made_23 n_24 => (sx_forF (e := D.int) (E := (fun (w : Unit) (s : (List (Int × Int))) => [some (D.str text), some (D.int dims), some (.ref n_24), none, none, none, none])) (B := (fun (w : Unit) (s : (List (Int × Int))) => [pt n_24 (.lst (s.map (eP2 D.int D.int)))])) (Ai := []) (s0 := made_23) (Pr := (PV (bs S) (eO (eTL (eP2 D.int D.int))))) lv_v (ι := fun r => r) (fun _ _ h => h) (ix_r1 (ex_var (d := D.int dims) rfl)) () rfl (fun _ h => h) (fun _ _ _ h => h.nil) (fun w_28 s_27 x_25 => ⟨_, tg_1, (sx_asg (e := D.int) (xm_sub (e := (va D.str)) (xm_ixS (ex_var (d := D.str text) rfl) (ex_mulK (mulB_lit (by decide)) ex_c (ex_var (d := D.int x_25) rfl))) fun t_31 h_32 => (xm_pure (e := (va D.int)) (ex_fzv (ex_find ex_c h_32)))) fun flip_30 => (sx_asg (e := D.int) (xm_sub (e := (va D.str)) (xm_slS ex_c exo_none (exo_some (ex_var (d := D.int dims) rfl))) fun t_34 h_35 => (xm_sub (e := (va D.str)) (xm_ixS (ex_var (d := D.str text) rfl) (ex_add (ex_mulK (mulB_lit (by decide)) ex_c (ex_var (d := D.int x_25) rfl)) ex_c)) fun t_36 h_37 => (xm_pure (e := (va D.int)) (ex_fzv (ex_find h_35 h_37))))) fun axis_33 => (sx_ifL (bm_or (bm_of (ex_lt (ex_var (d := D.int flip_30) rfl) ex_c)) (bm_or (bm_of (ex_lt (ex_var (d := D.int axis_33) rfl) ex_c)) (bm_sub (e := (fl D.int)) (xm_lcP (e := (eP2 D.int D.int)) (g := D.int) (f := fun (x_38 : (Int × Int)) => x_38.1) (ix_ref (e := (eP2 D.int D.int)) (ex_var (d := .ref n_24) rfl) (j := 0) rfl (k := 0) rfl) fun x_38 => ⟨_, tg_1, (ex_ixP (ex_var (d := (eP2 D.int D.int) x_38) rfl) ex_c rfl)⟩) fun t_39 h_40 => (bm_of (ex_in (e := D.int) (by decide) (ex_var (d := D.int axis_33) rfl) h_40 (ls_fr (e := D.int) (l := t_39))))))) (sx_assoc (sx_ret (e := (eO (eTL (eP2 D.int D.int)))) (ι := Fw.ret) (fun _ _ h => h) (xm_pure (e := (va (eO (eTL (eP2 D.int D.int))))) ex_c))) (sx_app (e := (eP2 D.int D.int)) (l := s_27) rfl (j := 0) rfl (xm_pure (e := (va (eP2 D.int D.int))) (ex_tup (exa_cons (ex_var (d := D.int axis_33) rfl) (exa_cons (ex_var (d := D.int flip_30) rfl) exa_nil)) rfl (Nat.le_of_ble_eq_true rfl))) fun made_41 => (sx_endF (x := made_41) () rfl (fun _ h => h))))))⟩) fun w_29 s_26 => (sx_ret0 (e := (eO (eTL (eP2 D.int D.int)))) (xm_pure (e := (va (eO (eTL (eP2 D.int D.int))))) (ex_tupOf (e := (eP2 D.int D.int)) (ex_var (d := .ref n_24) rfl) (ls_ref (e := (eP2 D.int D.int)) (l := s_26) (j := 0) rfl)))))))
noncomputable def F_p_corner_of (text : Str) (dims : Int) : Option (Option (List Int)) := ((((lenS text).bind fun t_43 => (some (!decide (t_43 = dims)))).bind fun b => if b = true then some true else ((okStrip text ("01" : Str)).bind fun t_45 => (some (!decide (t_45 = ("" : Str)))))).bind fun b => if b = true then (some none) else (((some (signsT text)).bind fun xs => (fits xs).bind (mapO fun (x_47 : Str) => ((intT x_47).bind fun t_48 => (some t_48)))).bind fun t_50 => (some (some t_50))))
theorem R_p_corner_of (S : Sto) (text : Str) (dims : Int) (r : (Option (List Int))) (h : F_p_corner_of text dims = some r) : m_p_corner_of [D.str text, D.int dims] S = .ok (.va ((eO (eTL D.int)) r)) S := by
  refine def_v (e := (eO (eTL D.int))) (b := b_p_corner_of) (n := 3) (ar := 2) (X := F_p_corner_of text dims) ?_ h
  delta F_p_corner_of
  exact (sx_ifL (bm_or (bm_sub (e := (va D.int)) (xm_lenS (ex_var (d := D.str text) rfl)) fun t_43 h_44 => (bm_of (ex_neI h_44 (ex_var (d := D.int dims) rfl)))) (bm_sub (e := (va D.str)) (xm_strip (ex_var (d := D.str text) rfl) ex_c) fun t_45 h_46 => (bm_of (ex_neT h_46 ex_c)))) (sx_assoc (sx_ret0 (e := (eO (eTL D.int))) (xm_pure (e := (va (eO (eTL D.int)))) ex_c))) (sx_ret0 (e := (eO (eTL D.int))) (xm_sub (e := (fl D.int)) (xm_lc (e := D.str) (g := D.int) (ix_str (ex_var (d := D.str text) rfl)) fun x_47 => ⟨_, tg_1, (xm_sub (e := (va D.int)) (xm_intT (ex_var (d := D.str x_47) rfl)) fun t_48 h_49 => (xm_pure (e := (va D.int)) (ex_fzv h_49)))⟩) fun t_50 h_51 => (xm_pure (e := (va (eO (eTL D.int)))) (ex_tupOf (e := D.int) h_51 (ls_fr (e := D.int) (l := t_50)))))))
structure C_Part where
  f_corner : (List Int)
  f_turn : (List (Int × Int))
  f_back : Bool
  deriving DecidableEq
def e_Part : C_Part → D := fun p => .obj 0 [(eTL D.int) p.f_corner, (eTL (eP2 D.int D.int)) p.f_turn, D.bl p.f_back]
theorem cl_Part (p : C_Part) (n : Nat) : D.unds n [(eTL D.int) p.f_corner, (eTL (eP2 D.int D.int)) p.f_turn, D.bl p.f_back] = true := by simp only [D.unds, Cl.und, Bool.and_self]
instance : Cl e_Part := ⟨fun p n => cl_Part p n⟩
instance : NonE C_Part e_Part := ⟨fun _ h => by cases h⟩
def mk_Part (corner : (List Int)) (turn : (List (Int × Int))) (back : Bool) : C_Part := ⟨corner, turn, back⟩
theorem I_Part (corner : (List Int)) (turn : (List (Int × Int))) (back : Bool) : IniOk m_p_Part_init 0 [(eTL D.int) corner, (eTL (eP2 D.int D.int)) turn, D.bl back] [(eTL D.int) (mk_Part corner turn back).f_corner, (eTL (eP2 D.int D.int)) (mk_Part corner turn back).f_turn, D.bl (mk_Part corner turn back).f_back] := ini_of (b := b_p_Part_init) (n := 4) (ar := 4) (as := [(eTL D.int) corner, (eTL (eP2 D.int D.int)) turn, D.bl back]) (by
  exact (ini_fld (fun _ => (ex_var (d := (eTL D.int) corner) rfl)) rfl rfl (Nat.le_of_ble_eq_true rfl) (ini_fld (fun _ => (ex_var (d := (eTL (eP2 D.int D.int)) turn) rfl)) rfl rfl (Nat.le_of_ble_eq_true rfl) (ini_fld (fun _ => (ex_var (d := D.bl back) rfl)) rfl rfl (Nat.le_of_ble_eq_true rfl) ini_end))))
structure C_Curve where
  f_name : Str
  f_dims : Int
  f_joined : Bool
  f_parts : (List C_Part)
  deriving DecidableEq
def e_Curve : C_Curve → D := fun p => .obj 1 [D.str p.f_name, D.int p.f_dims, D.bl p.f_joined, (eFL e_Part) p.f_parts]
theorem cl_Curve (p : C_Curve) (n : Nat) : D.unds n [D.str p.f_name, D.int p.f_dims, D.bl p.f_joined, (eFL e_Part) p.f_parts] = true := by simp only [D.unds, Cl.und, Bool.and_self]
instance : Cl e_Curve := ⟨fun p n => cl_Curve p n⟩
instance : NonE C_Curve e_Curve := ⟨fun _ h => by cases h⟩
def mk_Curve (name : Str) (dims : Int) (joined : Bool) (parts : (List C_Part)) : C_Curve := ⟨name, dims, joined, parts⟩
noncomputable def F_p_is_of (text : Str) (signs : Str) (most : Int) : Option Bool := (((lenS text).bind fun t_52 => (some (decide (1 ≤ t_52) && decide (t_52 ≤ most)))).bind fun b => if b = true then ((okStrip text signs).bind fun t_54 => (some (decide (t_54 = ("" : Str))))) else some false)
theorem R_p_is_of (S : Sto) (text : Str) (signs : Str) (most : Int) (r : Bool) (h : F_p_is_of text signs most = some r) : m_p_is_of [D.str text, D.str signs, D.int most] S = .ok (.va (D.bl r)) S := by
  refine def_v (e := D.bl) (b := b_p_is_of) (n := 3) (ar := 3) (X := F_p_is_of text signs most) ?_ h
  delta F_p_is_of
  exact (sx_ret0 (e := D.bl) (xm_and (xm_sub (e := (va D.int)) (xm_lenS (ex_var (d := D.str text) rfl)) fun t_52 h_53 => (xm_pure (e := (va D.bl)) (ex_chain cl_le cl_le ex_c h_53 (ex_var (d := D.int most) rfl)))) (xm_sub (e := (va D.str)) (xm_strip (ex_var (d := D.str text) rfl) (ex_var (d := D.str signs) rfl)) fun t_54 h_55 => (xm_pure (e := (va D.bl)) (ex_eqT h_55 ex_c)))))
noncomputable def F_p_axis_between (one : (List Int)) (other : (List Int)) : Option (Option Int) := ((((rngC 0 (one.length : Int)).bind fun xs => (fits xs).bind (fmapO (fun (x_59 : Int) => ((idx one x_59).bind fun t_60 => ((idx other x_59).bind fun t_62 => (some (!decide (t_60 = t_62)))))) (fun (x_59 : Int) => (some x_59)))).bind fun t_64 => (some t_64)).bind fun axes_58 => ((some (!decide ((axes_58.length : Int) = 1))).bind fun b => if b = true then (some none) else ((idx axes_58 0).bind fun t_66 => (some (some t_66)))))
theorem R_p_axis_between (S : Sto) (one : (List Int)) (other : (List Int)) (r : (Option Int)) (h : F_p_axis_between one other = some r) : m_p_axis_between [(eTL D.int) one, (eTL D.int) other] S = .ok (.va ((eO D.int) r)) S := by
  refine def_v (e := (eO D.int)) (b := b_p_axis_between) (n := 4) (ar := 2) (X := F_p_axis_between one other) ?_ h
  delta F_p_axis_between
  exact (sx_asg (e := (eFL D.int)) (xm_sub (e := (fl D.int)) (xm_lcC (e := D.int) (g := D.int) (ix_r1 (ex_len (e := D.int) (ex_var (d := (eTL D.int) one) rfl) (qs_tl (e := D.int) (l := one)))) fun x_59 => ⟨_, tg_1, (bm_sub (e := (va D.int)) (xm_ix (e := D.int) (ex_var (d := (eTL D.int) one) rfl) (qs_tl (e := D.int) (l := one)) (ex_var (d := D.int x_59) rfl)) fun t_60 h_61 => (bm_sub (e := (va D.int)) (xm_ix (e := D.int) (ex_var (d := (eTL D.int) other) rfl) (qs_tl (e := D.int) (l := other)) (ex_var (d := D.int x_59) rfl)) fun t_62 h_63 => (bm_of (ex_neI h_61 h_63)))), (xm_pure (e := (va D.int)) (ex_var (d := D.int x_59) rfl))⟩) fun t_64 h_65 => (xm_pure (e := (va (eFL D.int))) (ex_fzl h_65))) fun axes_58 => (sx_ifL (bm_of (ex_neI (ex_len (e := D.int) (ex_var (d := (eFL D.int) axes_58) rfl) (qs_l (ls_frl (e := D.int) (l := axes_58)))) ex_c)) (sx_assoc (sx_ret0 (e := (eO D.int)) (xm_pure (e := (va (eO D.int))) ex_c))) (sx_ret0 (e := (eO D.int)) (xm_sub (e := (va D.int)) (xm_ix (e := D.int) (ex_var (d := (eFL D.int) axes_58) rfl) (qs_l (ls_frl (e := D.int) (l := axes_58))) ex_c) fun t_66 h_67 => (xm_pure (e := (va (eO D.int))) h_67)))))
noncomputable def G_p_touches_0 (axis : (Option Int)) (one : (List Int)) (upward : Int) (other : (List Int)) (s_70 : Unit) (x_68 : Int) : Option (Fw Unit Bool) := ((some (decide ((some x_68) = axis))).bind fun b => if b = true then ((((idx one x_68).bind fun t_73 => (some (!decide (t_73 = upward)))).bind fun b => if b = true then some true else ((idx other x_68).bind fun t_75 => (some (decide (t_75 = upward))))).bind fun b => if b = true then (some (.ret false)) else (some (.nx ()))) else (((idx one x_68).bind fun t_77 => ((idx other x_68).bind fun t_79 => (some (!decide (t_77 = t_79))))).bind fun b => if b = true then (some (.ret false)) else (some (.nx ()))))
noncomputable def F_p_touches (one : (List Int)) (other : (List Int)) (axis : (Option Int)) (upward : Int) : Option Bool := ((rngC 0 (one.length : Int)).bind fun xs => (loopO (ρ := Bool) (G_p_touches_0 axis one upward other) () xs).bind fun w => w.on (fun s_69 => (some true)) fun r => r)
theorem R_p_touches (S : Sto) (one : (List Int)) (other : (List Int)) (axis : (Option Int)) (upward : Int) (r : Bool) (h : F_p_touches one other axis upward = some r) : m_p_touches [(eTL D.int) one, (eTL D.int) other, (eO D.int) axis, D.int upward] S = .ok (.va (D.bl r)) S := by
  refine def_v (e := D.bl) (b := b_p_touches) (n := 5) (ar := 4) (X := F_p_touches one other axis upward) ?_ h
  delta F_p_touches
  exact (sx_forF (e := D.int) (E := (fun (w : Unit) (s : Unit) => [some ((eTL D.int) one), some ((eTL D.int) other), some ((eO D.int) axis), some (D.int upward), none])) (B := (fun (w : Unit) (s : Unit) => [])) (Ai := []) (s0 := ()) (Pr := (PV (bs S) D.bl)) lv_v (ι := fun r => r) (fun _ _ h => h) (ix_r1 (ex_len (e := D.int) (ex_var (d := (eTL D.int) one) rfl) (qs_tl (e := D.int) (l := one)))) () rfl (fun _ h => h) (fun _ _ _ h => h.nil) (fun w_71 s_70 x_68 => ⟨_, tg_1, (sx_if (bm_of (ex_eq (e := (eO D.int)) (by decide) (ex_var (d := D.int x_68) rfl) (ex_var (d := (eO D.int) axis) rfl))) (sx_assoc (sx_ifL (bm_or (bm_sub (e := (va D.int)) (xm_ix (e := D.int) (ex_var (d := (eTL D.int) one) rfl) (qs_tl (e := D.int) (l := one)) (ex_var (d := D.int x_68) rfl)) fun t_73 h_74 => (bm_of (ex_neI h_74 (ex_var (d := D.int upward) rfl)))) (bm_sub (e := (va D.int)) (xm_ix (e := D.int) (ex_var (d := (eTL D.int) other) rfl) (qs_tl (e := D.int) (l := other)) (ex_var (d := D.int x_68) rfl)) fun t_75 h_76 => (bm_of (ex_eqI h_76 (ex_var (d := D.int upward) rfl))))) (sx_assoc (sx_ret (e := D.bl) (ι := Fw.ret) (fun _ _ h => h) (xm_pure (e := (va D.bl)) ex_c))) (sx_nil (sx_endF (x := ()) () rfl (fun _ h => h))))) (sx_assoc (sx_ifL (bm_sub (e := (va D.int)) (xm_ix (e := D.int) (ex_var (d := (eTL D.int) one) rfl) (qs_tl (e := D.int) (l := one)) (ex_var (d := D.int x_68) rfl)) fun t_77 h_78 => (bm_sub (e := (va D.int)) (xm_ix (e := D.int) (ex_var (d := (eTL D.int) other) rfl) (qs_tl (e := D.int) (l := other)) (ex_var (d := D.int x_68) rfl)) fun t_79 h_80 => (bm_of (ex_neI h_78 h_80)))) (sx_assoc (sx_ret (e := D.bl) (ι := Fw.ret) (fun _ _ h => h) (xm_pure (e := (va D.bl)) ex_c))) (sx_nil (sx_endF (x := ()) () rfl (fun _ h => h))))))⟩) fun w_72 s_69 => (sx_ret0 (e := D.bl) (xm_pure (e := (va D.bl)) ex_c)))
noncomputable def F_L_mix (cell : Int) (factor : Int) : Option Int := (((mulC cell factor).bind fun t_82 => (some ((t_82 + 12345) % 2147483647))).bind fun mixed_81 => ((mulC mixed_81 mixed_81).bind fun t_84 => (some ((t_84 % 2147483629) / 3))))
theorem R_L_mix (S : Sto) (cell : Int) (factor : Int) (r : Int) (h : F_L_mix cell factor = some r) : m_L_mix [D.int cell, D.int factor] S = .ok (.va (D.int r)) S := by
  refine def_v (e := D.int) (b := b_L_mix) (n := 3) (ar := 2) (X := F_L_mix cell factor) ?_ h
  delta F_L_mix
  exact (sx_asg (e := D.int) (xm_sub (e := (va D.int)) (xm_mul (ex_var (d := D.int cell) rfl) (ex_var (d := D.int factor) rfl)) fun t_82 h_83 => (xm_pure (e := (va D.int)) (ex_fzv (ex_modK (by decide) (ex_add h_83 ex_c) ex_c)))) fun mixed_81 => (sx_ret0 (e := D.int) (xm_sub (e := (va D.int)) (xm_mul (ex_var (d := D.int mixed_81) rfl) (ex_var (d := D.int mixed_81) rfl)) fun t_84 h_85 => (xm_pure (e := (va D.int)) (ex_divK (by decide +kernel) (ex_modK (by decide) h_85 ex_c) ex_c)))))
noncomputable def F_L_turned (turn_here : (List (Int × Int))) (corner : (List Int)) : Option (List Int) := (((some turn_here).bind fun xs => (fits xs).bind (mapO fun (x_86 : (Int × Int)) => ((idx corner x_86.1).bind fun t_87 => (some (bXorI t_87 x_86.2))))).bind fun t_89 => (some t_89))
theorem R_L_turned (S : Sto) (turn_here : (List (Int × Int))) (corner : (List Int)) (r : (List Int)) (h : F_L_turned turn_here corner = some r) : m_L_turned [(eTL (eP2 D.int D.int)) turn_here, (eTL D.int) corner] S = .ok (.va ((eTL D.int) r)) S := by
  refine def_v (e := (eTL D.int)) (b := b_L_turned) (n := 4) (ar := 2) (X := F_L_turned turn_here corner) ?_ h
  delta F_L_turned
  exact (sx_ret0 (e := (eTL D.int)) (xm_sub (e := (fl D.int)) (xm_lc (e := (eP2 D.int D.int)) (g := D.int) (ix_tl (e := (eP2 D.int D.int)) (ex_var (d := (eTL (eP2 D.int D.int)) turn_here) rfl)) fun x_86 => ⟨_, tg_2, (xm_sub (e := (va D.int)) (xm_ix (e := D.int) (ex_var (d := (eTL D.int) corner) rfl) (qs_tl (e := D.int) (l := corner)) (ex_var (d := D.int x_86.1) rfl)) fun t_87 h_88 => (xm_pure (e := (va D.int)) (ex_fzv (ex_bxor h_88 (ex_var (d := D.int x_86.2) rfl)))))⟩) fun t_89 h_90 => (xm_pure (e := (va (eTL D.int))) (ex_tupOf (e := D.int) h_90 (ls_fr (e := D.int) (l := t_89))))))
noncomputable def F_L_after (one : (List (Int × Int))) (other : (List (Option (Int × Int)))) : Option (List (Int × Int)) := (((some one).bind fun xs => (fits xs).bind (mapO fun (x_91 : (Int × Int)) => ((idx other x_91.1).bind fun t_92 => (t_92.bind fun t_94 => ((idx other x_91.1).bind fun t_96 => (t_96.bind fun t_98 => (some (t_94.1, (bXorI t_98.2 x_91.2))))))))).bind fun t_100 => (some t_100))
theorem R_L_after (S : Sto) (one : (List (Int × Int))) (other : (List (Option (Int × Int)))) (r : (List (Int × Int))) (h : F_L_after one other = some r) : m_L_after [(eTL (eP2 D.int D.int)) one, (eTL (eO (eP2 D.int D.int))) other] S = .ok (.va ((eTL (eP2 D.int D.int)) r)) S := by
  refine def_v (e := (eTL (eP2 D.int D.int))) (b := b_L_after) (n := 4) (ar := 2) (X := F_L_after one other) ?_ h
  delta F_L_after
  exact (sx_ret0 (e := (eTL (eP2 D.int D.int))) (xm_sub (e := (fl (eP2 D.int D.int))) (xm_lc (e := (eP2 D.int D.int)) (g := (eP2 D.int D.int)) (ix_tl (e := (eP2 D.int D.int)) (ex_var (d := (eTL (eP2 D.int D.int)) one) rfl)) fun x_91 => ⟨_, tg_2, (xm_sub (e := (va (eO (eP2 D.int D.int)))) (xm_ix (e := (eO (eP2 D.int D.int))) (ex_var (d := (eTL (eO (eP2 D.int D.int))) other) rfl) (qs_tl (e := (eO (eP2 D.int D.int))) (l := other)) (ex_var (d := D.int x_91.1) rfl)) fun t_92 h_93 => (xm_sub (e := (va (eP2 D.int D.int))) (xm_some h_93) fun t_94 h_95 => (xm_sub (e := (va (eO (eP2 D.int D.int)))) (xm_ix (e := (eO (eP2 D.int D.int))) (ex_var (d := (eTL (eO (eP2 D.int D.int))) other) rfl) (qs_tl (e := (eO (eP2 D.int D.int))) (l := other)) (ex_var (d := D.int x_91.1) rfl)) fun t_96 h_97 => (xm_sub (e := (va (eP2 D.int D.int))) (xm_some h_97) fun t_98 h_99 => (xm_pure (e := (va (eP2 D.int D.int))) (ex_tup (exa_cons (ex_ixP h_95 ex_c rfl) (exa_cons (ex_fzv (ex_bxor (ex_ixP h_99 ex_c rfl) (ex_var (d := D.int x_91.2) rfl))) exa_nil)) rfl (Nat.le_of_ble_eq_true rfl)))))))⟩) fun t_100 h_101 => (xm_pure (e := (va (eTL (eP2 D.int D.int)))) (ex_tupOf (e := (eP2 D.int D.int)) h_101 (ls_fr (e := (eP2 D.int D.int)) (l := t_100))))))
noncomputable def G_L_undone_0 (turn_here : (List (Int × Int))) (s_108 : (List (Option (Int × Int)))) (x_106 : Int) : Option (List (Option (Int × Int))) := ((idx turn_here x_106).bind fun t_111 => ((idx turn_here x_106).bind fun t_113 => ((some (some (x_106, t_113.2))).bind fun w_116 => (putAt s_108 t_111.1 w_116).bind fun back_115 => (some back_115))))
noncomputable def F_L_undone (turn_here : (List (Int × Int))) : Option (List (Option (Int × Int))) := (((repL [()] (turn_here.length : Int)).bind fun t_103 => (some (List.map (fun (x : Unit) => none) t_103))).bind fun back_102 => ((rngC 0 (turn_here.length : Int)).bind fun xs => (foldO (G_L_undone_0 turn_here) back_102 xs).bind fun s_107 => (some s_107)))
theorem R_L_undone (S : Sto) (turn_here : (List (Int × Int))) (r : (List (Option (Int × Int)))) (h : F_L_undone turn_here = some r) : m_L_undone [(eTL (eP2 D.int D.int)) turn_here] S = .ok (.va ((eTL (eO (eP2 D.int D.int))) r)) S := by
  refine def_v (e := (eTL (eO (eP2 D.int D.int)))) (b := b_L_undone) (n := 3) (ar := 1) (X := F_L_undone turn_here) ?_ h
  delta F_L_undone
  exact (sx_new (e := (eO (eP2 D.int D.int))) (xm_sub (e := (fl eU)) (xm_repL (ex_lst (exa_cons ex_c exa_nil) rfl (Nat.le_of_ble_eq_true rfl)) (ex_len (e := (eP2 D.int D.int)) (ex_var (d := (eTL (eP2 D.int D.int)) turn_here) rfl) (qs_tl (e := (eP2 D.int D.int)) (l := turn_here)))) fun t_103 h_104 => (xm_pure (e := (fl (eO (eP2 D.int D.int)))) (ex_convF (by first | rfl | (simp [eTL, eFL, eO, eP2, eP3, List.map_map, Function.comp_def] <;> first | rfl | (intros; rfl) | (intro o _; cases o <;> rfl))) h_104))) fun back_102 n_105 => (sx_forN (e := D.int) (E := (fun (w : Unit) (s : (List (Option (Int × Int)))) => [some ((eTL (eP2 D.int D.int)) turn_here), some (.ref n_105), none])) (B := (fun (w : Unit) (s : (List (Option (Int × Int)))) => [pt n_105 (.lst (s.map (eO (eP2 D.int D.int))))])) (Ai := []) (s0 := back_102) (ix_r1 (ex_len (e := (eP2 D.int D.int)) (ex_var (d := (eTL (eP2 D.int D.int)) turn_here) rfl) (qs_tl (e := (eP2 D.int D.int)) (l := turn_here)))) () rfl (fun _ h => h) (fun _ _ _ h => h.nil) (fun w_109 s_108 x_106 => ⟨_, tg_1, (sx_sub (c := (va (eP2 D.int D.int))) (xm_ix (e := (eP2 D.int D.int)) (ex_var (d := (eTL (eP2 D.int D.int)) turn_here) rfl) (qs_tl (e := (eP2 D.int D.int)) (l := turn_here)) (ex_var (d := D.int x_106) rfl)) fun t_111 h_112 => (sx_sub (c := (va (eP2 D.int D.int))) (xm_ix (e := (eP2 D.int D.int)) (ex_var (d := (eTL (eP2 D.int D.int)) turn_here) rfl) (qs_tl (e := (eP2 D.int D.int)) (l := turn_here)) (ex_var (d := D.int x_106) rfl)) fun t_113 h_114 => (sx_sub1 (e := (eO (eP2 D.int D.int))) (l := s_108) (ex_var (d := .ref n_105) rfl) (j := 0) rfl (ex_ixP h_112 ex_c rfl) (xm_pure (e := (va (eO (eP2 D.int D.int)))) (ex_tup (exa_cons (ex_var (d := D.int x_106) rfl) (exa_cons (ex_ixP h_114 ex_c rfl) exa_nil)) rfl (Nat.le_of_ble_eq_true rfl))) fun back_115 => (sx_end (x := back_115) () rfl (fun _ h => h)))))⟩) fun w_110 s_107 => (sx_ret0 (e := (eTL (eO (eP2 D.int D.int)))) (xm_pure (e := (va (eTL (eO (eP2 D.int D.int))))) (ex_tupOf (e := (eO (eP2 D.int D.int))) (ex_var (d := .ref n_105) rfl) (ls_ref (e := (eO (eP2 D.int D.int))) (l := s_107) (j := 0) rfl))))))
noncomputable def F_L_turn (number : Int) (dims : Int) : Option (List (Int × Int)) := ((some [0, 1]).bind fun axes_117 => ((((some (decide (dims = 3))).bind fun b => if b = true then ((idx [[0, 1, 2], [0, 2, 1], [1, 0, 2], [1, 2, 0], [2, 0, 1], [2, 1, 0]] ((number / 8) % 6)).bind fun axes_118 => (some axes_118)) else ((((some (decide (((number / 8) % 2) = 1))).bind fun b => if b = true then ((some [1, 0]).bind fun axes_121 => (some axes_121)) else (some axes_117)) : Option (List Int)).bind fun s_122 => (some s_122))) : Option (List Int)).bind fun s_124 => (((rngC 0 dims).bind fun xs => (fits xs).bind (mapO fun (x_126 : Int) => ((idx s_124 x_126).bind fun t_127 => ((idx [1, 2, 4] x_126).bind fun t_129 => ((divC number t_129).bind fun t_131 => (some (t_127, (t_131 % 2)))))))).bind fun t_133 => (some t_133))))
theorem R_L_turn (S : Sto) (number : Int) (dims : Int) (r : (List (Int × Int))) (h : F_L_turn number dims = some r) : m_L_turn [D.int number, D.int dims] S = .ok (.va ((eTL (eP2 D.int D.int)) r)) S := by
  refine def_v (e := (eTL (eP2 D.int D.int))) (b := b_L_turn) (n := 4) (ar := 2) (X := F_L_turn number dims) ?_ h
  delta F_L_turn
  exact (sx_asg (e := (eFL D.int)) (xm_pure (e := (va (eFL D.int))) (ex_fzl (ex_lst (exa_cons ex_c (exa_cons ex_c exa_nil)) rfl (Nat.le_of_ble_eq_true rfl)))) fun axes_117 => (sx_join (σ := (List Int)) (E := (fun (w : Unit) (s : (List Int)) => [some (D.int number), some (D.int dims), some ((eFL D.int) s), none])) (B := (fun (w : Unit) (s : (List Int)) => [])) (sx_if0 (bm_of (ex_eqI (ex_var (d := D.int dims) rfl) ex_c)) (sx_asg (e := (eFL D.int)) (xm_ix (e := (eFL D.int)) (ex_lst (exa_cons (ex_fzl (ex_lst (exa_cons ex_c (exa_cons ex_c (exa_cons ex_c exa_nil))) rfl (Nat.le_of_ble_eq_true rfl))) (exa_cons (ex_fzl (ex_lst (exa_cons ex_c (exa_cons ex_c (exa_cons ex_c exa_nil))) rfl (Nat.le_of_ble_eq_true rfl))) (exa_cons (ex_fzl (ex_lst (exa_cons ex_c (exa_cons ex_c (exa_cons ex_c exa_nil))) rfl (Nat.le_of_ble_eq_true rfl))) (exa_cons (ex_fzl (ex_lst (exa_cons ex_c (exa_cons ex_c (exa_cons ex_c exa_nil))) rfl (Nat.le_of_ble_eq_true rfl))) (exa_cons (ex_fzl (ex_lst (exa_cons ex_c (exa_cons ex_c (exa_cons ex_c exa_nil))) rfl (Nat.le_of_ble_eq_true rfl))) (exa_cons (ex_fzl (ex_lst (exa_cons ex_c (exa_cons ex_c (exa_cons ex_c exa_nil))) rfl (Nat.le_of_ble_eq_true rfl))) exa_nil)))))) rfl (Nat.le_of_ble_eq_true rfl)) (qs_l (ls_fr (e := (eFL D.int)) (l := [[0, 1, 2], [0, 2, 1], [1, 0, 2], [1, 2, 0], [2, 0, 1], [2, 1, 0]]))) (ex_modK (by decide) (ex_divK (by decide +kernel) (ex_var (d := D.int number) rfl) ex_c) ex_c)) fun axes_118 => (sx_endJ (x := axes_118) () rfl (fun _ h => h))) (sx_join (σ := (List Int)) (E := (fun (w : Unit) (s : (List Int)) => [some (D.int number), some (D.int dims), some ((eFL D.int) s), none])) (B := (fun (w : Unit) (s : (List Int)) => [])) (sx_if0 (bm_of (ex_eqI (ex_modK (by decide) (ex_divK (by decide +kernel) (ex_var (d := D.int number) rfl) ex_c) ex_c) ex_c)) (sx_asg (e := (eFL D.int)) (xm_pure (e := (va (eFL D.int))) (ex_fzl (ex_lst (exa_cons ex_c (exa_cons ex_c exa_nil)) rfl (Nat.le_of_ble_eq_true rfl)))) fun axes_121 => (sx_endJ (x := axes_121) () rfl (fun _ h => h))) (sx_endJ (x := axes_117) () rfl (fun _ h => h))) fun w_123 s_122 => (sx_endJ (x := s_122) () rfl (fun _ h => h)))) fun w_125 s_124 => (sx_ret0 (e := (eTL (eP2 D.int D.int))) (xm_sub (e := (fl (eP2 D.int D.int))) (xm_lc (e := D.int) (g := (eP2 D.int D.int)) (ix_r1 (ex_var (d := D.int dims) rfl)) fun x_126 => ⟨_, tg_1, (xm_sub (e := (va D.int)) (xm_ix (e := D.int) (ex_var (d := (eFL D.int) s_124) rfl) (qs_l (ls_frl (e := D.int) (l := s_124))) (ex_var (d := D.int x_126) rfl)) fun t_127 h_128 => (xm_sub (e := (va D.int)) (xm_ix (e := D.int) (ex_lst (exa_cons ex_c (exa_cons ex_c (exa_cons ex_c exa_nil))) rfl (Nat.le_of_ble_eq_true rfl)) (qs_l (ls_fr (e := D.int) (l := [1, 2, 4]))) (ex_var (d := D.int x_126) rfl)) fun t_129 h_130 => (xm_sub (e := (va D.int)) (xm_div (ex_var (d := D.int number) rfl) h_130) fun t_131 h_132 => (xm_pure (e := (va (eP2 D.int D.int))) (ex_tup (exa_cons h_128 (exa_cons (ex_fzv (ex_modK (by decide) h_132 ex_c)) exa_nil)) rfl (Nat.le_of_ble_eq_true rfl))))))⟩) fun t_133 h_134 => (xm_pure (e := (va (eTL (eP2 D.int D.int)))) (ex_tupOf (e := (eP2 D.int D.int)) h_134 (ls_fr (e := (eP2 D.int D.int)) (l := t_133))))))))
noncomputable def F_L_base (dims : Int) : Option (List ((List Int) × (List (Int × Int)))) := ((some (decide (dims = 2))).bind fun b => if b = true then ((some [((0, 0), (1, 0)).1, ((0, 0), (1, 0)).2]).bind fun plain_135 => ((some [([(0, 0).1, (0, 0).2], [((1, 0), (0, 0)).1, ((1, 0), (0, 0)).2]), ([(0, 1).1, (0, 1).2], plain_135), ([(1, 1).1, (1, 1).2], plain_135), ([(1, 0).1, (1, 0).2], [((1, 1), (0, 1)).1, ((1, 1), (0, 1)).2])]).bind fun parts_136 => (some parts_136))) else ((some [((0, 0), (1, 0), (2, 0)).1, ((0, 0), (1, 0), (2, 0)).2.1, ((0, 0), (1, 0), (2, 0)).2.2]).bind fun plain_138 => ((some [([(0, 0, 0).1, (0, 0, 0).2.1, (0, 0, 0).2.2], [((1, 0), (0, 0), (2, 0)).1, ((1, 0), (0, 0), (2, 0)).2.1, ((1, 0), (0, 0), (2, 0)).2.2]), ([(0, 1, 0).1, (0, 1, 0).2.1, (0, 1, 0).2.2], [((1, 0), (2, 0), (0, 0)).1, ((1, 0), (2, 0), (0, 0)).2.1, ((1, 0), (2, 0), (0, 0)).2.2]), ([(0, 1, 1).1, (0, 1, 1).2.1, (0, 1, 1).2.2], plain_138)]).bind fun parts_139 => ((catC parts_139 (List.map (fun (x : ((Int × Int × Int) × ((Int × Int) × (Int × Int) × (Int × Int)))) => ([x.1.1, x.1.2.1, x.1.2.2], [x.2.1, x.2.2.1, x.2.2.2])) [((0, 0, 1), ((1, 1), (2, 1), (0, 0))), ((1, 0, 1), ((1, 0), (2, 1), (0, 1)))])).bind fun parts_141 => ((catC parts_141 (List.map (fun (x : ((Int × Int × Int) × (List (Int × Int)))) => ([x.1.1, x.1.2.1, x.1.2.2], x.2)) [((1, 1, 1), plain_138), ((1, 1, 0), [((1, 1), (2, 0), (0, 1)).1, ((1, 1), (2, 0), (0, 1)).2.1, ((1, 1), (2, 0), (0, 1)).2.2])])).bind fun parts_145 => (catC parts_145 (List.map (fun (x : ((Int × Int × Int) × ((Int × Int) × (Int × Int) × (Int × Int)))) => ([x.1.1, x.1.2.1, x.1.2.2], [x.2.1, x.2.2.1, x.2.2.2])) [((1, 0, 0), ((1, 1), (0, 1), (2, 0)))])))))))
theorem R_L_base (S : Sto) (dims : Int) (r : (List ((List Int) × (List (Int × Int))))) (h : F_L_base dims = some r) : m_L_base [D.int dims] S = .ok (.fr (.lst (r.map (eP2 (eTL D.int) (eTL (eP2 D.int D.int)))))) S := by
  refine def_l (e := (eP2 (eTL D.int) (eTL (eP2 D.int D.int)))) (b := b_L_base) (n := 3) (ar := 1) (X := F_L_base dims) ?_ h
  delta F_L_base
  exact (sx_ifL (bm_of (ex_eqI (ex_var (d := D.int dims) rfl) ex_c)) (sx_assoc (sx_asg (e := (eTL (eP2 D.int D.int))) (xm_pure (e := (va (eTL (eP2 D.int D.int)))) (ex_tup (exa_cons (ex_tup (exa_cons ex_c (exa_cons ex_c exa_nil)) rfl (Nat.le_of_ble_eq_true rfl)) (exa_cons (ex_tup (exa_cons ex_c (exa_cons ex_c exa_nil)) rfl (Nat.le_of_ble_eq_true rfl)) exa_nil)) rfl (Nat.le_of_ble_eq_true rfl))) fun plain_135 => (sx_assoc (sx_new (e := (eP2 (eTL D.int) (eTL (eP2 D.int D.int)))) (xm_pure (e := (fl (eP2 (eTL D.int) (eTL (eP2 D.int D.int))))) (ex_lst (exa_cons (ex_tup (exa_cons (ex_tup (exa_cons ex_c (exa_cons ex_c exa_nil)) rfl (Nat.le_of_ble_eq_true rfl)) (exa_cons (ex_tup (exa_cons (ex_tup (exa_cons ex_c (exa_cons ex_c exa_nil)) rfl (Nat.le_of_ble_eq_true rfl)) (exa_cons (ex_tup (exa_cons ex_c (exa_cons ex_c exa_nil)) rfl (Nat.le_of_ble_eq_true rfl)) exa_nil)) rfl (Nat.le_of_ble_eq_true rfl)) exa_nil)) rfl (Nat.le_of_ble_eq_true rfl)) (exa_cons (ex_tup (exa_cons (ex_tup (exa_cons ex_c (exa_cons ex_c exa_nil)) rfl (Nat.le_of_ble_eq_true rfl)) (exa_cons (ex_var (d := (eTL (eP2 D.int D.int)) plain_135) rfl) exa_nil)) rfl (Nat.le_of_ble_eq_true rfl)) (exa_cons (ex_tup (exa_cons (ex_tup (exa_cons ex_c (exa_cons ex_c exa_nil)) rfl (Nat.le_of_ble_eq_true rfl)) (exa_cons (ex_var (d := (eTL (eP2 D.int D.int)) plain_135) rfl) exa_nil)) rfl (Nat.le_of_ble_eq_true rfl)) (exa_cons (ex_tup (exa_cons (ex_tup (exa_cons ex_c (exa_cons ex_c exa_nil)) rfl (Nat.le_of_ble_eq_true rfl)) (exa_cons (ex_tup (exa_cons (ex_tup (exa_cons ex_c (exa_cons ex_c exa_nil)) rfl (Nat.le_of_ble_eq_true rfl)) (exa_cons (ex_tup (exa_cons ex_c (exa_cons ex_c exa_nil)) rfl (Nat.le_of_ble_eq_true rfl)) exa_nil)) rfl (Nat.le_of_ble_eq_true rfl)) exa_nil)) rfl (Nat.le_of_ble_eq_true rfl)) exa_nil)))) rfl (Nat.le_of_ble_eq_true rfl))) fun parts_136 n_137 => (sx_assoc (sx_retO (e := (eP2 (eTL D.int) (eTL (eP2 D.int D.int)))) (l := parts_136) (ι := fun r => r) (fun _ _ h => h) rfl (j := 0) rfl)))))) (sx_asg (e := (eTL (eP2 D.int D.int))) (xm_pure (e := (va (eTL (eP2 D.int D.int)))) (ex_tup (exa_cons (ex_tup (exa_cons ex_c (exa_cons ex_c exa_nil)) rfl (Nat.le_of_ble_eq_true rfl)) (exa_cons (ex_tup (exa_cons ex_c (exa_cons ex_c exa_nil)) rfl (Nat.le_of_ble_eq_true rfl)) (exa_cons (ex_tup (exa_cons ex_c (exa_cons ex_c exa_nil)) rfl (Nat.le_of_ble_eq_true rfl)) exa_nil))) rfl (Nat.le_of_ble_eq_true rfl))) fun plain_138 => (sx_new (e := (eP2 (eTL D.int) (eTL (eP2 D.int D.int)))) (xm_pure (e := (fl (eP2 (eTL D.int) (eTL (eP2 D.int D.int))))) (ex_lst (exa_cons (ex_tup (exa_cons (ex_tup (exa_cons ex_c (exa_cons ex_c (exa_cons ex_c exa_nil))) rfl (Nat.le_of_ble_eq_true rfl)) (exa_cons (ex_tup (exa_cons (ex_tup (exa_cons ex_c (exa_cons ex_c exa_nil)) rfl (Nat.le_of_ble_eq_true rfl)) (exa_cons (ex_tup (exa_cons ex_c (exa_cons ex_c exa_nil)) rfl (Nat.le_of_ble_eq_true rfl)) (exa_cons (ex_tup (exa_cons ex_c (exa_cons ex_c exa_nil)) rfl (Nat.le_of_ble_eq_true rfl)) exa_nil))) rfl (Nat.le_of_ble_eq_true rfl)) exa_nil)) rfl (Nat.le_of_ble_eq_true rfl)) (exa_cons (ex_tup (exa_cons (ex_tup (exa_cons ex_c (exa_cons ex_c (exa_cons ex_c exa_nil))) rfl (Nat.le_of_ble_eq_true rfl)) (exa_cons (ex_tup (exa_cons (ex_tup (exa_cons ex_c (exa_cons ex_c exa_nil)) rfl (Nat.le_of_ble_eq_true rfl)) (exa_cons (ex_tup (exa_cons ex_c (exa_cons ex_c exa_nil)) rfl (Nat.le_of_ble_eq_true rfl)) (exa_cons (ex_tup (exa_cons ex_c (exa_cons ex_c exa_nil)) rfl (Nat.le_of_ble_eq_true rfl)) exa_nil))) rfl (Nat.le_of_ble_eq_true rfl)) exa_nil)) rfl (Nat.le_of_ble_eq_true rfl)) (exa_cons (ex_tup (exa_cons (ex_tup (exa_cons ex_c (exa_cons ex_c (exa_cons ex_c exa_nil))) rfl (Nat.le_of_ble_eq_true rfl)) (exa_cons (ex_var (d := (eTL (eP2 D.int D.int)) plain_138) rfl) exa_nil)) rfl (Nat.le_of_ble_eq_true rfl)) exa_nil))) rfl (Nat.le_of_ble_eq_true rfl))) fun parts_139 n_140 => (sx_new (e := (eP2 (eTL D.int) (eTL (eP2 D.int D.int)))) (xm_catL (ex_var (d := .ref n_140) rfl) (ls_ref (e := (eP2 (eTL D.int) (eTL (eP2 D.int D.int)))) (l := parts_139) (j := 0) rfl) (ex_convF (by first | rfl | (simp [eTL, eFL, eO, eP2, eP3, List.map_map, Function.comp_def] <;> first | rfl | (intros; rfl) | (intro o _; cases o <;> rfl))) (ex_lst (exa_cons (ex_tup (exa_cons (ex_tup (exa_cons ex_c (exa_cons ex_c (exa_cons ex_c exa_nil))) rfl (Nat.le_of_ble_eq_true rfl)) (exa_cons (ex_tup (exa_cons (ex_tup (exa_cons ex_c (exa_cons ex_c exa_nil)) rfl (Nat.le_of_ble_eq_true rfl)) (exa_cons (ex_tup (exa_cons ex_c (exa_cons ex_c exa_nil)) rfl (Nat.le_of_ble_eq_true rfl)) (exa_cons (ex_tup (exa_cons ex_c (exa_cons ex_c exa_nil)) rfl (Nat.le_of_ble_eq_true rfl)) exa_nil))) rfl (Nat.le_of_ble_eq_true rfl)) exa_nil)) rfl (Nat.le_of_ble_eq_true rfl)) (exa_cons (ex_tup (exa_cons (ex_tup (exa_cons ex_c (exa_cons ex_c (exa_cons ex_c exa_nil))) rfl (Nat.le_of_ble_eq_true rfl)) (exa_cons (ex_tup (exa_cons (ex_tup (exa_cons ex_c (exa_cons ex_c exa_nil)) rfl (Nat.le_of_ble_eq_true rfl)) (exa_cons (ex_tup (exa_cons ex_c (exa_cons ex_c exa_nil)) rfl (Nat.le_of_ble_eq_true rfl)) (exa_cons (ex_tup (exa_cons ex_c (exa_cons ex_c exa_nil)) rfl (Nat.le_of_ble_eq_true rfl)) exa_nil))) rfl (Nat.le_of_ble_eq_true rfl)) exa_nil)) rfl (Nat.le_of_ble_eq_true rfl)) exa_nil)) rfl (Nat.le_of_ble_eq_true rfl))) (ls_fr (e := (eP2 (eTL D.int) (eTL (eP2 D.int D.int)))) (l := (List.map (fun (x : ((Int × Int × Int) × ((Int × Int) × (Int × Int) × (Int × Int)))) => ([x.1.1, x.1.2.1, x.1.2.2], [x.2.1, x.2.2.1, x.2.2.2])) [((0, 0, 1), ((1, 1), (2, 1), (0, 0))), ((1, 0, 1), ((1, 0), (2, 1), (0, 1)))])))) fun parts_141 n_144 => (sx_new (e := (eP2 (eTL D.int) (eTL (eP2 D.int D.int)))) (xm_catL (ex_var (d := .ref n_144) rfl) (ls_ref (e := (eP2 (eTL D.int) (eTL (eP2 D.int D.int)))) (l := parts_141) (j := 0) rfl) (ex_convF (by first | rfl | (simp [eTL, eFL, eO, eP2, eP3, List.map_map, Function.comp_def] <;> first | rfl | (intros; rfl) | (intro o _; cases o <;> rfl))) (ex_lst (exa_cons (ex_tup (exa_cons (ex_tup (exa_cons ex_c (exa_cons ex_c (exa_cons ex_c exa_nil))) rfl (Nat.le_of_ble_eq_true rfl)) (exa_cons (ex_var (d := (eTL (eP2 D.int D.int)) plain_138) rfl) exa_nil)) rfl (Nat.le_of_ble_eq_true rfl)) (exa_cons (ex_tup (exa_cons (ex_tup (exa_cons ex_c (exa_cons ex_c (exa_cons ex_c exa_nil))) rfl (Nat.le_of_ble_eq_true rfl)) (exa_cons (ex_tup (exa_cons (ex_tup (exa_cons ex_c (exa_cons ex_c exa_nil)) rfl (Nat.le_of_ble_eq_true rfl)) (exa_cons (ex_tup (exa_cons ex_c (exa_cons ex_c exa_nil)) rfl (Nat.le_of_ble_eq_true rfl)) (exa_cons (ex_tup (exa_cons ex_c (exa_cons ex_c exa_nil)) rfl (Nat.le_of_ble_eq_true rfl)) exa_nil))) rfl (Nat.le_of_ble_eq_true rfl)) exa_nil)) rfl (Nat.le_of_ble_eq_true rfl)) exa_nil)) rfl (Nat.le_of_ble_eq_true rfl))) (ls_fr (e := (eP2 (eTL D.int) (eTL (eP2 D.int D.int)))) (l := (List.map (fun (x : ((Int × Int × Int) × (List (Int × Int)))) => ([x.1.1, x.1.2.1, x.1.2.2], x.2)) [((1, 1, 1), plain_138), ((1, 1, 0), [((1, 1), (2, 0), (0, 1)).1, ((1, 1), (2, 0), (0, 1)).2.1, ((1, 1), (2, 0), (0, 1)).2.2])])))) fun parts_145 n_148 => (sx_retF0 (e := (eP2 (eTL D.int) (eTL (eP2 D.int D.int)))) (xm_catL (ex_var (d := .ref n_148) rfl) (ls_ref (e := (eP2 (eTL D.int) (eTL (eP2 D.int D.int)))) (l := parts_145) (j := 0) rfl) (ex_convF (by first | rfl | (simp [eTL, eFL, eO, eP2, eP3, List.map_map, Function.comp_def] <;> first | rfl | (intros; rfl) | (intro o _; cases o <;> rfl))) (ex_lst (exa_cons (ex_tup (exa_cons (ex_tup (exa_cons ex_c (exa_cons ex_c (exa_cons ex_c exa_nil))) rfl (Nat.le_of_ble_eq_true rfl)) (exa_cons (ex_tup (exa_cons (ex_tup (exa_cons ex_c (exa_cons ex_c exa_nil)) rfl (Nat.le_of_ble_eq_true rfl)) (exa_cons (ex_tup (exa_cons ex_c (exa_cons ex_c exa_nil)) rfl (Nat.le_of_ble_eq_true rfl)) (exa_cons (ex_tup (exa_cons ex_c (exa_cons ex_c exa_nil)) rfl (Nat.le_of_ble_eq_true rfl)) exa_nil))) rfl (Nat.le_of_ble_eq_true rfl)) exa_nil)) rfl (Nat.le_of_ble_eq_true rfl)) exa_nil) rfl (Nat.le_of_ble_eq_true rfl))) (ls_fr (e := (eP2 (eTL D.int) (eTL (eP2 D.int D.int)))) (l := (List.map (fun (x : ((Int × Int × Int) × ((Int × Int) × (Int × Int) × (Int × Int)))) => ([x.1.1, x.1.2.1, x.1.2.2], [x.2.1, x.2.2.1, x.2.2.2])) [((1, 0, 0), ((1, 1), (0, 1), (2, 0)))]))))))))))
noncomputable def F_L_corners (dims : Int) : Option (List (List Int)) := ((some [[(0, 0).1, (0, 0).2], [(1, 0).1, (1, 0).2], [(0, 1).1, (0, 1).2], [(1, 1).1, (1, 1).2]]).bind fun corners_here_151 => ((((some (decide (dims = 3))).bind fun b => if b = true then (((((some corners_here_151).bind (mapO tl2)).bind fun xs => (fits xs).bind fun xs => some (xs.map fun (x_154 : (Int × Int)) => (x_154.1, x_154.2, 0))).bind fun t_155 => ((((some corners_here_151).bind (mapO tl2)).bind fun xs => (fits xs).bind fun xs => some (xs.map fun (x_157 : (Int × Int)) => (x_157.1, x_157.2, 1))).bind fun t_158 => ((catC t_155 t_158).bind fun t_160 => (some (List.map (fun (x : (Int × Int × Int)) => [x.1, x.2.1, x.2.2]) t_160))))).bind fun corners_here_153 => (some corners_here_153)) else (some corners_here_151)) : Option (List (List Int))).bind fun s_163 => (some s_163)))
theorem R_L_corners (S : Sto) (dims : Int) (r : (List (List Int))) (h : F_L_corners dims = some r) : m_L_corners [D.int dims] S = .ok (.fr (.lst (r.map (eTL D.int)))) S := by
  refine def_l (e := (eTL D.int)) (b := b_L_corners) (n := 4) (ar := 1) (X := F_L_corners dims) ?_ h
  delta F_L_corners
  exact (sx_new (e := (eTL D.int)) (xm_pure (e := (fl (eTL D.int))) (ex_lst (exa_cons (ex_tup (exa_cons ex_c (exa_cons ex_c exa_nil)) rfl (Nat.le_of_ble_eq_true rfl)) (exa_cons (ex_tup (exa_cons ex_c (exa_cons ex_c exa_nil)) rfl (Nat.le_of_ble_eq_true rfl)) (exa_cons (ex_tup (exa_cons ex_c (exa_cons ex_c exa_nil)) rfl (Nat.le_of_ble_eq_true rfl)) (exa_cons (ex_tup (exa_cons ex_c (exa_cons ex_c exa_nil)) rfl (Nat.le_of_ble_eq_true rfl)) exa_nil)))) rfl (Nat.le_of_ble_eq_true rfl))) fun corners_here_151 n_152 => (sx_join (σ := (List (List Int))) (E := (fun (w : Nat) (s : (List (List Int))) => [some (D.int dims), some (.ref w), none, none])) (B := (fun (w : Nat) (s : (List (List Int))) => [pt w (.lst (s.map (eTL D.int)))])) (sx_if0 (bm_of (ex_eqI (ex_var (d := D.int dims) rfl) ex_c)) (sx_new (e := (eTL D.int)) (xm_sub (e := (fl (eP3 D.int D.int D.int))) (xm_lcP (e := (eP2 D.int D.int)) (g := (eP3 D.int D.int D.int)) (f := fun (x_154 : (Int × Int)) => (x_154.1, x_154.2, 0)) (ixm_tl2 (e := D.int) (ix_ref (e := (eTL D.int)) (ex_var (d := .ref n_152) rfl) (j := 0) rfl (k := 0) rfl)) fun x_154 => ⟨_, tg_2, (ex_tup (exa_cons (ex_var (d := D.int x_154.1) rfl) (exa_cons (ex_var (d := D.int x_154.2) rfl) (exa_cons ex_c exa_nil))) rfl (Nat.le_of_ble_eq_true rfl))⟩) fun t_155 h_156 => (xm_sub (e := (fl (eP3 D.int D.int D.int))) (xm_lcP (e := (eP2 D.int D.int)) (g := (eP3 D.int D.int D.int)) (f := fun (x_157 : (Int × Int)) => (x_157.1, x_157.2, 1)) (ixm_tl2 (e := D.int) (ix_ref (e := (eTL D.int)) (ex_var (d := .ref n_152) rfl) (j := 0) rfl (k := 0) rfl)) fun x_157 => ⟨_, tg_2, (ex_tup (exa_cons (ex_var (d := D.int x_157.1) rfl) (exa_cons (ex_var (d := D.int x_157.2) rfl) (exa_cons ex_c exa_nil))) rfl (Nat.le_of_ble_eq_true rfl))⟩) fun t_158 h_159 => (xm_sub (e := (fl (eP3 D.int D.int D.int))) (xm_catL h_156 (ls_fr (e := (eP3 D.int D.int D.int)) (l := t_155)) h_159 (ls_fr (e := (eP3 D.int D.int D.int)) (l := t_158))) fun t_160 h_161 => (xm_pure (e := (fl (eTL D.int))) (ex_convF (by first | rfl | (simp [eTL, eFL, eO, eP2, eP3, List.map_map, Function.comp_def] <;> first | rfl | (intros; rfl) | (intro o _; cases o <;> rfl))) h_161))))) fun corners_here_153 n_162 => (sx_endJ (x := corners_here_153) n_162 rfl (fun _ h => h.pick [0] (by decide) (.cons (j := 0) rfl .nil)))) (sx_endJ (x := corners_here_151) n_152 rfl (fun _ h => h))) fun w_164 s_163 => (sx_retO (e := (eTL D.int)) (l := s_163) (ι := fun r => r) (fun _ _ h => h) rfl (j := 0) rfl)))
noncomputable def G_L_rows_0  (s_179 : (List Str)) (x_177 : ((List Int) × (List (Int × Int)) × Bool)) : Option (List Str) := ((((some x_177.2.1).bind fun xs => (fits xs).bind (mapO fun (x_183 : (Int × Int)) => ((chr ("+-" : Str) x_183.2).bind fun t_184 => ((chr ("xyz" : Str) x_183.1).bind fun t_186 => ((catS t_184 t_186).bind fun t_188 => (some t_188)))))).bind fun t_190 => ((joinC ("" : Str) t_190).bind fun t_192 => (some t_192))).bind fun signs_182 => ((((some x_177.1).bind fun xs => (fits xs).bind (mapO fun (x_195 : Int) => ((strI x_195).bind fun t_196 => (some t_196)))).bind fun t_198 => ((joinC ("" : Str) t_198).bind fun t_200 => ((catS ("part " : Str) t_200).bind fun t_202 => ((catS t_202 (" " : Str)).bind fun t_204 => ((catS t_204 signs_182).bind fun t_206 => (some t_206)))))).bind fun row_194 => ((((some x_177.2.2).bind fun b => if b = true then (((catS row_194 (" back" : Str)).bind fun t_209 => (some t_209)).bind fun row_208 => (some row_208)) else (some row_194)) : Option Str).bind fun s_211 => ((some s_211).bind fun w_214 => (snoc s_179 w_214).bind fun rows_here_213 => (some rows_here_213)))))
noncomputable def F_L_rows (dims : Int) (joined_here : Bool) (parts : (List ((List Int) × (List (Int × Int)) × Bool))) : Option (List Str) := (((idx [("loose" : Str), ("joined" : Str)] (b2i joined_here)).bind fun t_166 => ((catS ("curve fold " : Str) t_166).bind fun t_168 => ((catS t_168 (" " : Str)).bind fun t_170 => ((strI dims).bind fun t_172 => ((catS t_170 t_172).bind fun t_174 => (some [t_174])))))).bind fun rows_here_165 => ((some parts).bind fun xs => (foldO (G_L_rows_0) rows_here_165 xs).bind fun s_178 => (some s_178)))
theorem R_L_rows (S : Sto) (dims : Int) (joined_here : Bool) (parts : (List ((List Int) × (List (Int × Int)) × Bool))) (r : (List Str)) (h : F_L_rows dims joined_here parts = some r) : m_L_rows [D.int dims, D.bl joined_here, (eFL (eP3 (eTL D.int) (eTL (eP2 D.int D.int)) D.bl)) parts] S = .ok (.fr (.lst (r.map D.str))) S := by
  refine def_l (e := D.str) (b := b_L_rows) (n := 12) (ar := 3) (X := F_L_rows dims joined_here parts) ?_ h
  delta F_L_rows
  exact (sx_new (e := D.str) (xm_sub (e := (va D.str)) (xm_ix (e := D.str) (ex_lst (exa_cons ex_c (exa_cons ex_c exa_nil)) rfl (Nat.le_of_ble_eq_true rfl)) (qs_l (ls_fr (e := D.str) (l := [("loose" : Str), ("joined" : Str)]))) (ex_intB (ex_var (d := D.bl joined_here) rfl))) fun t_166 h_167 => (xm_sub (e := (va D.str)) (xm_catS ex_c h_167) fun t_168 h_169 => (xm_sub (e := (va D.str)) (xm_catS h_169 ex_c) fun t_170 h_171 => (xm_sub (e := (va D.str)) (xm_strI (ex_var (d := D.int dims) rfl)) fun t_172 h_173 => (xm_sub (e := (va D.str)) (xm_catS h_171 h_173) fun t_174 h_175 => (xm_pure (e := (fl D.str)) (ex_lst (exa_cons (ex_fzv h_175) exa_nil) rfl (Nat.le_of_ble_eq_true rfl)))))))) fun rows_here_165 n_176 => (sx_forN (e := (eP3 (eTL D.int) (eTL (eP2 D.int D.int)) D.bl)) (E := (fun (w : Unit) (s : (List Str)) => [some (D.int dims), some (D.bl joined_here), some ((eFL (eP3 (eTL D.int) (eTL (eP2 D.int D.int)) D.bl)) parts), some (.ref n_176), none, none, none, none, none, none, none, none])) (B := (fun (w : Unit) (s : (List Str)) => [pt n_176 (.lst (s.map D.str))])) (Ai := []) (s0 := rows_here_165) (ix_frl (e := (eP3 (eTL D.int) (eTL (eP2 D.int D.int)) D.bl)) (ex_var (d := (eFL (eP3 (eTL D.int) (eTL (eP2 D.int D.int)) D.bl)) parts) rfl)) () rfl (fun _ h => h) (fun _ _ _ h => h.nil) (fun w_180 s_179 x_177 => ⟨_, tg_3, (sx_asg (e := D.str) (xm_sub (e := (fl D.str)) (xm_lc (e := (eP2 D.int D.int)) (g := D.str) (ix_tl (e := (eP2 D.int D.int)) (ex_var (d := (eTL (eP2 D.int D.int)) x_177.2.1) rfl)) fun x_183 => ⟨_, tg_2, (xm_sub (e := (va D.str)) (xm_ixS ex_c (ex_var (d := D.int x_183.2) rfl)) fun t_184 h_185 => (xm_sub (e := (va D.str)) (xm_ixS ex_c (ex_var (d := D.int x_183.1) rfl)) fun t_186 h_187 => (xm_sub (e := (va D.str)) (xm_catS h_185 h_187) fun t_188 h_189 => (xm_pure (e := (va D.str)) (ex_fzv h_189)))))⟩) fun t_190 h_191 => (xm_sub (e := (va D.str)) (xm_join ex_c h_191 (qs_l (ls_fr (e := D.str) (l := t_190)))) fun t_192 h_193 => (xm_pure (e := (va D.str)) (ex_fzv h_193)))) fun signs_182 => (sx_asg (e := D.str) (xm_sub (e := (fl D.str)) (xm_lc (e := D.int) (g := D.str) (ix_tl (e := D.int) (ex_var (d := (eTL D.int) x_177.1) rfl)) fun x_195 => ⟨_, tg_1, (xm_sub (e := (va D.str)) (xm_strI (ex_var (d := D.int x_195) rfl)) fun t_196 h_197 => (xm_pure (e := (va D.str)) (ex_fzv h_197)))⟩) fun t_198 h_199 => (xm_sub (e := (va D.str)) (xm_join ex_c h_199 (qs_l (ls_fr (e := D.str) (l := t_198)))) fun t_200 h_201 => (xm_sub (e := (va D.str)) (xm_catS ex_c h_201) fun t_202 h_203 => (xm_sub (e := (va D.str)) (xm_catS h_203 ex_c) fun t_204 h_205 => (xm_sub (e := (va D.str)) (xm_catS h_205 (ex_var (d := D.str signs_182) rfl)) fun t_206 h_207 => (xm_pure (e := (va D.str)) (ex_fzv h_207))))))) fun row_194 => (sx_join (σ := Str) (E := (fun (w : Unit) (s : Str) => [some (D.int dims), some (D.bl joined_here), some ((eFL (eP3 (eTL D.int) (eTL (eP2 D.int D.int)) D.bl)) parts), some (.ref n_176), some ((eTL D.int) x_177.1), some ((eTL (eP2 D.int D.int)) x_177.2.1), some (D.bl x_177.2.2), some (D.str signs_182), some (D.str s), none, none, none])) (B := (fun (w : Unit) (s : Str) => [pt n_176 (.lst (s_179.map D.str))])) (sx_if0 (bm_of (ex_var (d := D.bl x_177.2.2) rfl)) (sx_asg (e := D.str) (xm_sub (e := (va D.str)) (xm_catS (ex_var (d := D.str row_194) rfl) ex_c) fun t_209 h_210 => (xm_pure (e := (va D.str)) (ex_fzv h_210))) fun row_208 => (sx_endJ (x := row_208) () rfl (fun _ h => h))) (sx_endJ (x := row_194) () rfl (fun _ h => h))) fun w_212 s_211 => (sx_app (e := D.str) (l := s_179) rfl (j := 0) rfl (xm_pure (e := (va D.str)) (ex_var (d := D.str s_211) rfl)) fun rows_here_213 => (sx_end (x := rows_here_213) () rfl (fun _ h => h))))))⟩) fun w_181 s_178 => (sx_retO (e := D.str) (l := s_178) (ι := fun r => r) (fun _ _ h => h) rfl (j := 0) rfl)))
noncomputable def F_L_bad_head (row : Str) (draw : Int) : Option Str := (((okSplit row (" " : Str)).bind fun t_216 => (some t_216)).bind fun words_215 => (((catC [("curves" : Str)] (cutT words_215 (some 1) none)).bind fun t_219 => ((joinC (" " : Str) t_219).bind fun t_221 => ((joinC (" " : Str) (cutT words_215 none (some 3))).bind fun t_223 => ((catS row (" " : Str)).bind fun t_225 => ((catS (" " : Str) row).bind fun t_227 => ((gRepl1 " " "  " row).bind fun t_229 => (some [t_221, t_223, t_225, t_227, t_229]))))))).bind fun some_218 => (((gRepl1 " " "\t" row).bind fun t_232 => ((catS row ("\t" : Str)).bind fun t_234 => ((catC some_218 [t_232, t_234]).bind fun t_236 => (some t_236)))).bind fun some_231 => (((catC some_231 [("curve fold joine 2" : Str), ("curve fold loose 1" : Str), ("curve fold loose 4" : Str), ("curve fold loose 02" : Str), ("" : Str)]).bind fun t_239 => (some t_239)).bind fun some_238 => (((catC some_238 [("curve Fold loose 2" : Str), ("curve abcdefghijklm loose 3" : Str), ("curve  loose 2" : Str), ("curve f1 joined 3" : Str)]).bind fun t_242 => (some t_242)).bind fun some_241 => (((catS row (" back" : Str)).bind fun t_245 => ((catC some_241 [("curve fold Joined 2" : Str), t_245, ("curve fold loose +2" : Str), ("curve fold joined two" : Str)]).bind fun t_247 => (some t_247))).bind fun some_244 => ((modC draw (some_244.length : Int)).bind fun t_249 => idx some_244 t_249)))))))
theorem R_L_bad_head (S : Sto) (row : Str) (draw : Int) (r : Str) (h : F_L_bad_head row draw = some r) : m_L_bad_head [D.str row, D.int draw] S = .ok (.va (D.str r)) S := by
  refine def_v (e := D.str) (b := b_L_bad_head) (n := 4) (ar := 2) (X := F_L_bad_head row draw) ?_ h
  delta F_L_bad_head
  exact (sx_asg (e := (eFL D.str)) (xm_sub (e := (fl D.str)) (xm_split (ex_var (d := D.str row) rfl) ex_c) fun t_216 h_217 => (xm_pure (e := (va (eFL D.str))) (ex_fzl h_217))) fun words_215 => (sx_asg (e := (eFL D.str)) (xm_sub (e := (fl D.str)) (xm_catL (ex_lst (exa_cons ex_c exa_nil) rfl (Nat.le_of_ble_eq_true rfl)) (ls_fr (e := D.str) (l := [("curves" : Str)])) (ex_slL (ex_var (d := (eFL D.str) words_215) rfl) (ls_frl (e := D.str) (l := words_215)) (exo_some ex_c) exo_none) (ls_fr (e := D.str) (l := (cutT words_215 (some 1) none)))) fun t_219 h_220 => (xm_sub (e := (va D.str)) (xm_join ex_c h_220 (qs_l (ls_fr (e := D.str) (l := t_219)))) fun t_221 h_222 => (xm_sub (e := (va D.str)) (xm_join ex_c (ex_slL (ex_var (d := (eFL D.str) words_215) rfl) (ls_frl (e := D.str) (l := words_215)) exo_none (exo_some ex_c)) (qs_l (ls_fr (e := D.str) (l := (cutT words_215 none (some 3)))))) fun t_223 h_224 => (xm_sub (e := (va D.str)) (xm_catS (ex_var (d := D.str row) rfl) ex_c) fun t_225 h_226 => (xm_sub (e := (va D.str)) (xm_catS ex_c (ex_var (d := D.str row) rfl)) fun t_227 h_228 => (xm_sub (e := (va D.str)) (xm_one (ex_var (d := D.str row) rfl)) fun t_229 h_230 => (xm_pure (e := (va (eFL D.str))) (ex_fzl (ex_lst (exa_cons (ex_fzv h_222) (exa_cons (ex_fzv h_224) (exa_cons (ex_fzv h_226) (exa_cons (ex_fzv h_228) (exa_cons (ex_fzv h_230) exa_nil))))) rfl (Nat.le_of_ble_eq_true rfl)))))))))) fun some_218 => (sx_asg (e := (eFL D.str)) (xm_sub (e := (va D.str)) (xm_one (ex_var (d := D.str row) rfl)) fun t_232 h_233 => (xm_sub (e := (va D.str)) (xm_catS (ex_var (d := D.str row) rfl) ex_c) fun t_234 h_235 => (xm_sub (e := (fl D.str)) (xm_catL (ex_var (d := (eFL D.str) some_218) rfl) (ls_frl (e := D.str) (l := some_218)) (ex_lst (exa_cons (ex_fzv h_233) (exa_cons (ex_fzv h_235) exa_nil)) rfl (Nat.le_of_ble_eq_true rfl)) (ls_fr (e := D.str) (l := [t_232, t_234]))) fun t_236 h_237 => (xm_pure (e := (va (eFL D.str))) (ex_fzl h_237))))) fun some_231 => (sx_asg (e := (eFL D.str)) (xm_sub (e := (fl D.str)) (xm_catL (ex_var (d := (eFL D.str) some_231) rfl) (ls_frl (e := D.str) (l := some_231)) (ex_lst (exa_cons ex_c (exa_cons ex_c (exa_cons ex_c (exa_cons ex_c (exa_cons ex_c exa_nil))))) rfl (Nat.le_of_ble_eq_true rfl)) (ls_fr (e := D.str) (l := [("curve fold joine 2" : Str), ("curve fold loose 1" : Str), ("curve fold loose 4" : Str), ("curve fold loose 02" : Str), ("" : Str)]))) fun t_239 h_240 => (xm_pure (e := (va (eFL D.str))) (ex_fzl h_240))) fun some_238 => (sx_asg (e := (eFL D.str)) (xm_sub (e := (fl D.str)) (xm_catL (ex_var (d := (eFL D.str) some_238) rfl) (ls_frl (e := D.str) (l := some_238)) (ex_lst (exa_cons ex_c (exa_cons ex_c (exa_cons ex_c (exa_cons ex_c exa_nil)))) rfl (Nat.le_of_ble_eq_true rfl)) (ls_fr (e := D.str) (l := [("curve Fold loose 2" : Str), ("curve abcdefghijklm loose 3" : Str), ("curve  loose 2" : Str), ("curve f1 joined 3" : Str)]))) fun t_242 h_243 => (xm_pure (e := (va (eFL D.str))) (ex_fzl h_243))) fun some_241 => (sx_asg (e := (eFL D.str)) (xm_sub (e := (va D.str)) (xm_catS (ex_var (d := D.str row) rfl) ex_c) fun t_245 h_246 => (xm_sub (e := (fl D.str)) (xm_catL (ex_var (d := (eFL D.str) some_241) rfl) (ls_frl (e := D.str) (l := some_241)) (ex_lst (exa_cons ex_c (exa_cons (ex_fzv h_246) (exa_cons ex_c (exa_cons ex_c exa_nil)))) rfl (Nat.le_of_ble_eq_true rfl)) (ls_fr (e := D.str) (l := [("curve fold Joined 2" : Str), t_245, ("curve fold loose +2" : Str), ("curve fold joined two" : Str)]))) fun t_247 h_248 => (xm_pure (e := (va (eFL D.str))) (ex_fzl h_248)))) fun some_244 => (sx_ret0 (e := D.str) (xm_sub (e := (va D.int)) (xm_mod (ex_var (d := D.int draw) rfl) (ex_len (e := D.str) (ex_var (d := (eFL D.str) some_244) rfl) (qs_l (ls_frl (e := D.str) (l := some_244))))) fun t_249 h_250 => (xm_ix (e := D.str) (ex_var (d := (eFL D.str) some_244) rfl) (qs_l (ls_frl (e := D.str) (l := some_244))) h_250)))))))))
noncomputable def F_L_bad_part (row : Str) (draw : Int) : Option Str := (((okSplit row (" " : Str)).bind fun t_254 => (some t_254)).bind fun words_253 => ((idx words_253 1).bind fun corner_256 => ((idx words_253 2).bind fun turn_here_259 => (((slS turn_here_259 (some 2) none).bind fun t_263 => ((catS t_263 ("+w" : Str)).bind fun t_265 => ((lenS corner_256).bind fun t_267 => ((mulT ("+x" : Str) t_267).bind fun t_269 => ((slS turn_here_259 (some 2) none).bind fun t_271 => ((catS turn_here_259 ("+x" : Str)).bind fun t_273 => (some [t_265, t_269, t_271, t_273]))))))).bind fun turns_262 => (((slS turn_here_259 (some 1) none).bind fun t_276 => ((catS t_276 ("+" : Str)).bind fun t_278 => ((gUpper turn_here_259).bind fun t_280 => ((slS turn_here_259 (some 1) none).bind fun t_282 => ((catS ("x" : Str) t_282).bind fun t_284 => ((catC turns_262 [t_278, t_280, t_284]).bind fun t_286 => (some t_286))))))).bind fun turns_275 => (((slS corner_256 (some 1) none).bind fun t_289 => ((catS ("2" : Str) t_289).bind fun t_291 => ((slS corner_256 (some 1) none).bind fun t_293 => ((catS corner_256 ("0" : Str)).bind fun t_295 => ((catS corner_256 ("1" : Str)).bind fun t_297 => (some [t_291, t_293, t_295, t_297])))))).bind fun corners_here_288 => (((slS corner_256 (some 1) none).bind fun t_300 => ((catS ("-" : Str) t_300).bind fun t_302 => ((lenS corner_256).bind fun t_304 => ((mulT ("0" : Str) (t_304 - 1)).bind fun t_306 => ((catS t_306 ("O" : Str)).bind fun t_308 => ((catC corners_here_288 [t_302, t_308]).bind fun t_310 => (some t_310))))))).bind fun corners_here_299 => ((((some turns_275).bind fun xs => (fits xs).bind (mapO fun (x_313 : Str) => ((catS ("part " : Str) corner_256).bind fun t_314 => ((catS t_314 (" " : Str)).bind fun t_316 => ((catS t_316 x_313).bind fun t_318 => (some t_318)))))).bind fun t_320 => (((some corners_here_299).bind fun xs => (fits xs).bind (mapO fun (x_322 : Str) => ((catS ("part " : Str) x_322).bind fun t_323 => ((catS t_323 (" " : Str)).bind fun t_325 => ((catS t_325 turn_here_259).bind fun t_327 => (some t_327)))))).bind fun t_329 => ((catC t_320 t_329).bind fun t_331 => (some t_331)))).bind fun some_312 => (((catS ("parts " : Str) corner_256).bind fun t_334 => ((catS t_334 (" " : Str)).bind fun t_336 => ((catS t_336 turn_here_259).bind fun t_338 => ((catS ("part " : Str) corner_256).bind fun t_340 => ((catS ("part " : Str) corner_256).bind fun t_342 => ((catS t_342 (" " : Str)).bind fun t_344 => ((catS t_344 turn_here_259).bind fun t_346 => ((catS t_346 (" Back" : Str)).bind fun t_348 => ((catC some_312 [t_338, t_340, t_348, ("" : Str)]).bind fun t_350 => (some t_350)))))))))).bind fun some_333 => (((catS ("part " : Str) corner_256).bind fun t_353 => ((catS t_353 (" " : Str)).bind fun t_355 => ((catS t_355 turn_here_259).bind fun t_357 => ((catS t_357 (" back back" : Str)).bind fun t_359 => ((catS row (" " : Str)).bind fun t_361 => ((catS (" " : Str) row).bind fun t_363 => ((catS ("part  " : Str) corner_256).bind fun t_365 => ((catS t_365 (" " : Str)).bind fun t_367 => ((catS t_367 turn_here_259).bind fun t_369 => ((catC some_333 [t_359, t_361, t_363, t_369]).bind fun t_371 => (some t_371))))))))))).bind fun some_352 => (((gRepl1 " " "\t" row).bind fun t_374 => ((catS row ("\t" : Str)).bind fun t_376 => ((catC some_352 [t_374, t_376]).bind fun t_378 => (some t_378)))).bind fun some_373 => ((modC draw (some_373.length : Int)).bind fun t_380 => idx some_373 t_380))))))))))))
theorem R_L_bad_part (S : Sto) (row : Str) (draw : Int) (r : Str) (h : F_L_bad_part row draw = some r) : m_L_bad_part [D.str row, D.int draw] S = .ok (.va (D.str r)) S := by
  refine def_v (e := D.str) (b := b_L_bad_part) (n := 9) (ar := 2) (X := F_L_bad_part row draw) ?_ h
  delta F_L_bad_part
  exact (sx_asg (e := (eFL D.str)) (xm_sub (e := (fl D.str)) (xm_split (ex_var (d := D.str row) rfl) ex_c) fun t_254 h_255 => (xm_pure (e := (va (eFL D.str))) (ex_fzl h_255))) fun words_253 => (sx_asg (e := D.str) (xm_ix (e := D.str) (ex_var (d := (eFL D.str) words_253) rfl) (qs_l (ls_frl (e := D.str) (l := words_253))) ex_c) fun corner_256 => (sx_asg (e := D.str) (xm_ix (e := D.str) (ex_var (d := (eFL D.str) words_253) rfl) (qs_l (ls_frl (e := D.str) (l := words_253))) ex_c) fun turn_here_259 => (sx_asg (e := (eFL D.str)) (xm_sub (e := (va D.str)) (xm_slS (ex_var (d := D.str turn_here_259) rfl) (exo_some ex_c) exo_none) fun t_263 h_264 => (xm_sub (e := (va D.str)) (xm_catS h_264 ex_c) fun t_265 h_266 => (xm_sub (e := (va D.int)) (xm_lenS (ex_var (d := D.str corner_256) rfl)) fun t_267 h_268 => (xm_sub (e := (va D.str)) (xm_mulT ex_c h_268) fun t_269 h_270 => (xm_sub (e := (va D.str)) (xm_slS (ex_var (d := D.str turn_here_259) rfl) (exo_some ex_c) exo_none) fun t_271 h_272 => (xm_sub (e := (va D.str)) (xm_catS (ex_var (d := D.str turn_here_259) rfl) ex_c) fun t_273 h_274 => (xm_pure (e := (va (eFL D.str))) (ex_fzl (ex_lst (exa_cons (ex_fzv h_266) (exa_cons (ex_fzv h_270) (exa_cons (ex_fzv h_272) (exa_cons (ex_fzv h_274) exa_nil)))) rfl (Nat.le_of_ble_eq_true rfl)))))))))) fun turns_262 => (sx_asg (e := (eFL D.str)) (xm_sub (e := (va D.str)) (xm_slS (ex_var (d := D.str turn_here_259) rfl) (exo_some ex_c) exo_none) fun t_276 h_277 => (xm_sub (e := (va D.str)) (xm_catS h_277 ex_c) fun t_278 h_279 => (xm_sub (e := (va D.str)) (xm_one (ex_var (d := D.str turn_here_259) rfl)) fun t_280 h_281 => (xm_sub (e := (va D.str)) (xm_slS (ex_var (d := D.str turn_here_259) rfl) (exo_some ex_c) exo_none) fun t_282 h_283 => (xm_sub (e := (va D.str)) (xm_catS ex_c h_283) fun t_284 h_285 => (xm_sub (e := (fl D.str)) (xm_catL (ex_var (d := (eFL D.str) turns_262) rfl) (ls_frl (e := D.str) (l := turns_262)) (ex_lst (exa_cons (ex_fzv h_279) (exa_cons (ex_fzv h_281) (exa_cons (ex_fzv h_285) exa_nil))) rfl (Nat.le_of_ble_eq_true rfl)) (ls_fr (e := D.str) (l := [t_278, t_280, t_284]))) fun t_286 h_287 => (xm_pure (e := (va (eFL D.str))) (ex_fzl h_287)))))))) fun turns_275 => (sx_asg (e := (eFL D.str)) (xm_sub (e := (va D.str)) (xm_slS (ex_var (d := D.str corner_256) rfl) (exo_some ex_c) exo_none) fun t_289 h_290 => (xm_sub (e := (va D.str)) (xm_catS ex_c h_290) fun t_291 h_292 => (xm_sub (e := (va D.str)) (xm_slS (ex_var (d := D.str corner_256) rfl) (exo_some ex_c) exo_none) fun t_293 h_294 => (xm_sub (e := (va D.str)) (xm_catS (ex_var (d := D.str corner_256) rfl) ex_c) fun t_295 h_296 => (xm_sub (e := (va D.str)) (xm_catS (ex_var (d := D.str corner_256) rfl) ex_c) fun t_297 h_298 => (xm_pure (e := (va (eFL D.str))) (ex_fzl (ex_lst (exa_cons (ex_fzv h_292) (exa_cons (ex_fzv h_294) (exa_cons (ex_fzv h_296) (exa_cons (ex_fzv h_298) exa_nil)))) rfl (Nat.le_of_ble_eq_true rfl))))))))) fun corners_here_288 => (sx_asg (e := (eFL D.str)) (xm_sub (e := (va D.str)) (xm_slS (ex_var (d := D.str corner_256) rfl) (exo_some ex_c) exo_none) fun t_300 h_301 => (xm_sub (e := (va D.str)) (xm_catS ex_c h_301) fun t_302 h_303 => (xm_sub (e := (va D.int)) (xm_lenS (ex_var (d := D.str corner_256) rfl)) fun t_304 h_305 => (xm_sub (e := (va D.str)) (xm_mulT ex_c (ex_sub h_305 ex_c)) fun t_306 h_307 => (xm_sub (e := (va D.str)) (xm_catS h_307 ex_c) fun t_308 h_309 => (xm_sub (e := (fl D.str)) (xm_catL (ex_var (d := (eFL D.str) corners_here_288) rfl) (ls_frl (e := D.str) (l := corners_here_288)) (ex_lst (exa_cons (ex_fzv h_303) (exa_cons (ex_fzv h_309) exa_nil)) rfl (Nat.le_of_ble_eq_true rfl)) (ls_fr (e := D.str) (l := [t_302, t_308]))) fun t_310 h_311 => (xm_pure (e := (va (eFL D.str))) (ex_fzl h_311)))))))) fun corners_here_299 => (sx_asg (e := (eFL D.str)) (xm_sub (e := (fl D.str)) (xm_lc (e := D.str) (g := D.str) (ix_frl (e := D.str) (ex_var (d := (eFL D.str) turns_275) rfl)) fun x_313 => ⟨_, tg_1, (xm_sub (e := (va D.str)) (xm_catS ex_c (ex_var (d := D.str corner_256) rfl)) fun t_314 h_315 => (xm_sub (e := (va D.str)) (xm_catS h_315 ex_c) fun t_316 h_317 => (xm_sub (e := (va D.str)) (xm_catS h_317 (ex_var (d := D.str x_313) rfl)) fun t_318 h_319 => (xm_pure (e := (va D.str)) (ex_fzv h_319)))))⟩) fun t_320 h_321 => (xm_sub (e := (fl D.str)) (xm_lc (e := D.str) (g := D.str) (ix_frl (e := D.str) (ex_var (d := (eFL D.str) corners_here_299) rfl)) fun x_322 => ⟨_, tg_1, (xm_sub (e := (va D.str)) (xm_catS ex_c (ex_var (d := D.str x_322) rfl)) fun t_323 h_324 => (xm_sub (e := (va D.str)) (xm_catS h_324 ex_c) fun t_325 h_326 => (xm_sub (e := (va D.str)) (xm_catS h_326 (ex_var (d := D.str turn_here_259) rfl)) fun t_327 h_328 => (xm_pure (e := (va D.str)) (ex_fzv h_328)))))⟩) fun t_329 h_330 => (xm_sub (e := (fl D.str)) (xm_catL h_321 (ls_fr (e := D.str) (l := t_320)) h_330 (ls_fr (e := D.str) (l := t_329))) fun t_331 h_332 => (xm_pure (e := (va (eFL D.str))) (ex_fzl h_332))))) fun some_312 => (sx_asg (e := (eFL D.str)) (xm_sub (e := (va D.str)) (xm_catS ex_c (ex_var (d := D.str corner_256) rfl)) fun t_334 h_335 => (xm_sub (e := (va D.str)) (xm_catS h_335 ex_c) fun t_336 h_337 => (xm_sub (e := (va D.str)) (xm_catS h_337 (ex_var (d := D.str turn_here_259) rfl)) fun t_338 h_339 => (xm_sub (e := (va D.str)) (xm_catS ex_c (ex_var (d := D.str corner_256) rfl)) fun t_340 h_341 => (xm_sub (e := (va D.str)) (xm_catS ex_c (ex_var (d := D.str corner_256) rfl)) fun t_342 h_343 => (xm_sub (e := (va D.str)) (xm_catS h_343 ex_c) fun t_344 h_345 => (xm_sub (e := (va D.str)) (xm_catS h_345 (ex_var (d := D.str turn_here_259) rfl)) fun t_346 h_347 => (xm_sub (e := (va D.str)) (xm_catS h_347 ex_c) fun t_348 h_349 => (xm_sub (e := (fl D.str)) (xm_catL (ex_var (d := (eFL D.str) some_312) rfl) (ls_frl (e := D.str) (l := some_312)) (ex_lst (exa_cons (ex_fzv h_339) (exa_cons (ex_fzv h_341) (exa_cons (ex_fzv h_349) (exa_cons ex_c exa_nil)))) rfl (Nat.le_of_ble_eq_true rfl)) (ls_fr (e := D.str) (l := [t_338, t_340, t_348, ("" : Str)]))) fun t_350 h_351 => (xm_pure (e := (va (eFL D.str))) (ex_fzl h_351))))))))))) fun some_333 => (sx_asg (e := (eFL D.str)) (xm_sub (e := (va D.str)) (xm_catS ex_c (ex_var (d := D.str corner_256) rfl)) fun t_353 h_354 => (xm_sub (e := (va D.str)) (xm_catS h_354 ex_c) fun t_355 h_356 => (xm_sub (e := (va D.str)) (xm_catS h_356 (ex_var (d := D.str turn_here_259) rfl)) fun t_357 h_358 => (xm_sub (e := (va D.str)) (xm_catS h_358 ex_c) fun t_359 h_360 => (xm_sub (e := (va D.str)) (xm_catS (ex_var (d := D.str row) rfl) ex_c) fun t_361 h_362 => (xm_sub (e := (va D.str)) (xm_catS ex_c (ex_var (d := D.str row) rfl)) fun t_363 h_364 => (xm_sub (e := (va D.str)) (xm_catS ex_c (ex_var (d := D.str corner_256) rfl)) fun t_365 h_366 => (xm_sub (e := (va D.str)) (xm_catS h_366 ex_c) fun t_367 h_368 => (xm_sub (e := (va D.str)) (xm_catS h_368 (ex_var (d := D.str turn_here_259) rfl)) fun t_369 h_370 => (xm_sub (e := (fl D.str)) (xm_catL (ex_var (d := (eFL D.str) some_333) rfl) (ls_frl (e := D.str) (l := some_333)) (ex_lst (exa_cons (ex_fzv h_360) (exa_cons (ex_fzv h_362) (exa_cons (ex_fzv h_364) (exa_cons (ex_fzv h_370) exa_nil)))) rfl (Nat.le_of_ble_eq_true rfl)) (ls_fr (e := D.str) (l := [t_359, t_361, t_363, t_369]))) fun t_371 h_372 => (xm_pure (e := (va (eFL D.str))) (ex_fzl h_372)))))))))))) fun some_352 => (sx_asg (e := (eFL D.str)) (xm_sub (e := (va D.str)) (xm_one (ex_var (d := D.str row) rfl)) fun t_374 h_375 => (xm_sub (e := (va D.str)) (xm_catS (ex_var (d := D.str row) rfl) ex_c) fun t_376 h_377 => (xm_sub (e := (fl D.str)) (xm_catL (ex_var (d := (eFL D.str) some_352) rfl) (ls_frl (e := D.str) (l := some_352)) (ex_lst (exa_cons (ex_fzv h_375) (exa_cons (ex_fzv h_377) exa_nil)) rfl (Nat.le_of_ble_eq_true rfl)) (ls_fr (e := D.str) (l := [t_374, t_376]))) fun t_378 h_379 => (xm_pure (e := (va (eFL D.str))) (ex_fzl h_379))))) fun some_373 => (sx_ret0 (e := D.str) (xm_sub (e := (va D.int)) (xm_mod (ex_var (d := D.int draw) rfl) (ex_len (e := D.str) (ex_var (d := (eFL D.str) some_373) rfl) (qs_l (ls_frl (e := D.str) (l := some_373))))) fun t_380 h_381 => (xm_ix (e := D.str) (ex_var (d := (eFL D.str) some_373) rfl) (qs_l (ls_frl (e := D.str) (l := some_373))) h_381))))))))))))))
noncomputable def F_L_second (rows_here : (List Str)) (first : Int) (draw : Int) : Option (List Str) := ((some ((decide ((draw % 2) = 0)) || (decide ((rows_here.length : Int) ≤ first)))).bind fun b => if b = true then (some rows_here) else (((modC (draw / 2) ((rows_here.length : Int) - first)).bind fun t_385 => (some (first + t_385))).bind fun at__384 => ((catC (cutT rows_here none (some at__384)) [("part 0 back" : Str)]).bind fun t_391 => ((catC t_391 (cutT rows_here (some (at__384 + 1)) none)).bind fun t_393 => (some t_393)))))
theorem R_L_second (S : Sto) (rows_here : (List Str)) (first : Int) (draw : Int) (r : (List Str)) (h : F_L_second rows_here first draw = some r) : m_L_second [(eFL D.str) rows_here, D.int first, D.int draw] S = .ok (.va ((eFL D.str) r)) S := by
  refine def_v (e := (eFL D.str)) (b := b_L_second) (n := 4) (ar := 3) (X := F_L_second rows_here first draw) ?_ h
  delta F_L_second
  exact (sx_ifL (bm_orP (bm_of (ex_eqI (ex_modK (by decide) (ex_var (d := D.int draw) rfl) ex_c) ex_c)) (bm_of (ex_ge (ex_var (d := D.int first) rfl) (ex_len (e := D.str) (ex_var (d := (eFL D.str) rows_here) rfl) (qs_l (ls_frl (e := D.str) (l := rows_here))))))) (sx_assoc (sx_ret0 (e := (eFL D.str)) (xm_pure (e := (va (eFL D.str))) (ex_var (d := (eFL D.str) rows_here) rfl)))) (sx_asg (e := D.int) (xm_sub (e := (va D.int)) (xm_mod (ex_divK (by decide +kernel) (ex_var (d := D.int draw) rfl) ex_c) (ex_sub (ex_len (e := D.str) (ex_var (d := (eFL D.str) rows_here) rfl) (qs_l (ls_frl (e := D.str) (l := rows_here)))) (ex_var (d := D.int first) rfl))) fun t_385 h_386 => (xm_pure (e := (va D.int)) (ex_fzv (ex_add (ex_var (d := D.int first) rfl) h_386)))) fun at__384 => (sx_ret0 (e := (eFL D.str)) (xm_sub (e := (fl D.str)) (xm_catL (ex_slL (ex_var (d := (eFL D.str) rows_here) rfl) (ls_frl (e := D.str) (l := rows_here)) exo_none (exo_some (ex_var (d := D.int at__384) rfl))) (ls_fr (e := D.str) (l := (cutT rows_here none (some at__384)))) (ex_lst (exa_cons ex_c exa_nil) rfl (Nat.le_of_ble_eq_true rfl)) (ls_fr (e := D.str) (l := [("part 0 back" : Str)]))) fun t_391 h_392 => (xm_sub (e := (fl D.str)) (xm_catL h_392 (ls_fr (e := D.str) (l := t_391)) (ex_slL (ex_var (d := (eFL D.str) rows_here) rfl) (ls_frl (e := D.str) (l := rows_here)) (exo_some (ex_add (ex_var (d := D.int at__384) rfl) ex_c)) exo_none) (ls_fr (e := D.str) (l := (cutT rows_here (some (at__384 + 1)) none)))) fun t_393 h_394 => (xm_pure (e := (va (eFL D.str))) (ex_fzl h_394)))))))
noncomputable def F_L_refused (caught_here : (Option Exn)) (row : Int) (kind : Str) : Option Bool := ((((isE (some false) [(6, true), (7, true), (4, false)] caught_here).bind fun t_395 => (some (!t_395))).bind fun b => if b = true then some true else ((isE (some false) [(6, true), (7, true), (4, true)] caught_here).bind fun t_397 => (some (!t_397)))).bind fun b => if b = true then (some false) else ((((isE (some false) [(6, false), (7, false), (4, true)] caught_here).bind fun t_399 => (some t_399)).bind fun b => if b = true then some true else ((isE (some false) [(6, true), (7, false), (4, false)] caught_here).bind fun t_401 => (some (!decide (t_401 = (decide (kind = ("row" : Str)))))))).bind fun b => if b = true then (some false) else (((isE (some false) [(6, false), (7, true), (4, false)] caught_here).bind fun t_403 => (some (!decide (t_403 = (decide (kind = ("corner" : Str))))))).bind fun b => if b = true then (some false) else ((caught_here.bind fun t_405 => ((fldE [(6, 0), (7, 0)] t_405).bind fun t_407 => (some true))).bind fun b => if b = true then ((caught_here.bind fun t_409 => ((fldE [(6, 0), (7, 0)] t_409).bind fun t_411 => (some (!false)))).bind fun b => if b = true then (caught_here.bind fun t_413 => ((fldE [(6, 0), (7, 0)] t_413).bind fun t_415 => (some (decide (t_415 = row))))) else some false) else some false))))
theorem R_L_refused (S : Sto) (caught_here : (Option Exn)) (row : Int) (kind : Str) (r : Bool) (h : F_L_refused caught_here row kind = some r) : m_L_refused [(eO e_E) caught_here, D.int row, D.str kind] S = .ok (.va (D.bl r)) S := by
  refine def_v (e := D.bl) (b := b_L_refused) (n := 3) (ar := 3) (X := F_L_refused caught_here row kind) ?_ h
  delta F_L_refused
  exact (sx_ifL (bm_or (bm_sub (e := (va D.bl)) (xm_isO (ex_var (d := (eO e_E) caught_here) rfl)) fun t_395 h_396 => (bm_not (bm_of h_396))) (bm_sub (e := (va D.bl)) (xm_isO (ex_var (d := (eO e_E) caught_here) rfl)) fun t_397 h_398 => (bm_not (bm_of h_398)))) (sx_assoc (sx_ret0 (e := D.bl) (xm_pure (e := (va D.bl)) ex_c))) (sx_ifL (bm_or (bm_sub (e := (va D.bl)) (xm_isO (ex_var (d := (eO e_E) caught_here) rfl)) fun t_399 h_400 => (bm_of h_400)) (bm_sub (e := (va D.bl)) (xm_isO (ex_var (d := (eO e_E) caught_here) rfl)) fun t_401 h_402 => (bm_of (ex_neB h_402 (ex_eqT (ex_var (d := D.str kind) rfl) ex_c))))) (sx_assoc (sx_ret0 (e := D.bl) (xm_pure (e := (va D.bl)) ex_c))) (sx_ifL (bm_sub (e := (va D.bl)) (xm_isO (ex_var (d := (eO e_E) caught_here) rfl)) fun t_403 h_404 => (bm_of (ex_neB h_404 (ex_eqT (ex_var (d := D.str kind) rfl) ex_c)))) (sx_assoc (sx_ret0 (e := D.bl) (xm_pure (e := (va D.bl)) ex_c))) (sx_ret0 (e := D.bl) (xm_and (xm_sub (e := (va e_E)) (xm_some (ex_var (d := (eO e_E) caught_here) rfl)) fun t_405 h_406 => (xm_sub (e := (va D.int)) (xm_fldX (tb := [(6, 0), (7, 0)]) h_406) fun t_407 h_408 => (xm_pure (e := (va D.bl)) (ex_isi (T := "int") h_408 (fun _ _ => rfl) (by decide +kernel))))) (xm_and (xm_sub (e := (va e_E)) (xm_some (ex_var (d := (eO e_E) caught_here) rfl)) fun t_409 h_410 => (xm_sub (e := (va D.int)) (xm_fldX (tb := [(6, 0), (7, 0)]) h_410) fun t_411 h_412 => (xm_pure (e := (va D.bl)) (ex_not (ex_isi (T := "int") h_412 (fun _ _ => rfl) (by decide +kernel)))))) (xm_sub (e := (va e_E)) (xm_some (ex_var (d := (eO e_E) caught_here) rfl)) fun t_413 h_414 => (xm_sub (e := (va D.int)) (xm_fldX (tb := [(6, 0), (7, 0)]) h_414) fun t_415 h_416 => (xm_pure (e := (va D.bl)) (ex_eqI h_416 (ex_var (d := D.int row) rfl)))))))))))
noncomputable def F_p_first_state (dims : Int) : Option ((List (Int × Int)) × Bool) := ((F_p_still dims).bind fun t_419 => (some (t_419, false)))
theorem R_p_first_state (S : Sto) (dims : Int) (r : ((List (Int × Int)) × Bool)) (h : F_p_first_state dims = some r) : m_p_first_state [D.int dims] S = .ok (.va ((eP2 (eTL (eP2 D.int D.int)) D.bl) r)) S := by
  refine def_v (e := (eP2 (eTL (eP2 D.int D.int)) D.bl)) (b := b_p_first_state) (n := 1) (ar := 1) (X := F_p_first_state dims) ?_ h
  delta F_p_first_state
  exact (sx_ret0 (e := (eP2 (eTL (eP2 D.int D.int)) D.bl)) (xm_sub (e := (va (eTL (eP2 D.int D.int)))) (xm_call (e := (va (eTL (eP2 D.int D.int)))) (exa_cons (ex_var (d := D.int dims) rfl) exa_nil) rfl fun S a h => R_p_still S dims  a h) fun t_419 h_420 => (xm_pure (e := (va (eP2 (eTL (eP2 D.int D.int)) D.bl))) (ex_tup (exa_cons (ex_fzv h_420) (exa_cons ex_c exa_nil)) rfl (Nat.le_of_ble_eq_true rfl)))))
noncomputable def F_p_part_at (curve : C_Curve) (state : ((List (Int × Int)) × Bool)) (digit : Int) : Option ((List Int) × ((List (Int × Int)) × Bool)) := ((some state).bind fun p_421 => ((((some p_421.2).bind fun b => if b = true then ((some (((curve.f_parts.length : Int) - 1) - digit)).bind fun digit_422 => (some digit_422)) else (some digit)) : Option Int).bind fun s_423 => ((idx curve.f_parts s_423).bind fun part_425 => ((F_p_turned p_421.1 part_425.f_corner).bind fun t_428 => ((F_p_after p_421.1 part_425.f_turn).bind fun t_430 => (some (t_428, (t_430, (!decide (p_421.2 = part_425.f_back))))))))))
theorem R_p_part_at (S : Sto) (curve : C_Curve) (state : ((List (Int × Int)) × Bool)) (digit : Int) (r : ((List Int) × ((List (Int × Int)) × Bool))) (h : F_p_part_at curve state digit = some r) : m_p_part_at [e_Curve curve, (eP2 (eTL (eP2 D.int D.int)) D.bl) state, D.int digit] S = .ok (.va ((eP2 (eTL D.int) (eP2 (eTL (eP2 D.int D.int)) D.bl)) r)) S := by
  refine def_v (e := (eP2 (eTL D.int) (eP2 (eTL (eP2 D.int D.int)) D.bl))) (b := b_p_part_at) (n := 6) (ar := 3) (X := F_p_part_at curve state digit) ?_ h
  delta F_p_part_at
  exact (sx_asgs (e := (eP2 (eTL (eP2 D.int D.int)) D.bl)) (xm_pure (e := (va (eP2 (eTL (eP2 D.int D.int)) D.bl))) (ex_var (d := (eP2 (eTL (eP2 D.int D.int)) D.bl) state) rfl)) (fun _ => tg_2) fun p_421 => (sx_join (σ := Int) (E := (fun (w : Unit) (s : Int) => [some (e_Curve curve), some ((eP2 (eTL (eP2 D.int D.int)) D.bl) state), some (D.int s), none, some ((eTL (eP2 D.int D.int)) p_421.1), some (D.bl p_421.2)])) (B := (fun (w : Unit) (s : Int) => [])) (sx_if0 (bm_of (ex_var (d := D.bl p_421.2) rfl)) (sx_asg (e := D.int) (xm_pure (e := (va D.int)) (ex_fzv (ex_sub (ex_sub (ex_len (e := e_Part) (ex_fld (ex_var (d := e_Curve curve) rfl) rfl) (qs_l (ls_frl (e := e_Part) (l := curve.f_parts)))) ex_c) (ex_var (d := D.int digit) rfl)))) fun digit_422 => (sx_endJ (x := digit_422) () rfl (fun _ h => h))) (sx_endJ (x := digit) () rfl (fun _ h => h))) fun w_424 s_423 => (sx_asg (e := e_Part) (xm_ix (e := e_Part) (ex_fld (ex_var (d := e_Curve curve) rfl) rfl) (qs_l (ls_frl (e := e_Part) (l := curve.f_parts))) (ex_var (d := D.int s_423) rfl)) fun part_425 => (sx_ret0 (e := (eP2 (eTL D.int) (eP2 (eTL (eP2 D.int D.int)) D.bl))) (xm_sub (e := (va (eTL D.int))) (xm_call (e := (va (eTL D.int))) (exa_cons (ex_var (d := (eTL (eP2 D.int D.int)) p_421.1) rfl) (exa_cons (ex_fld (ex_var (d := e_Part part_425) rfl) rfl) exa_nil)) rfl fun S a h => R_p_turned S p_421.1 part_425.f_corner  a h) fun t_428 h_429 => (xm_sub (e := (va (eTL (eP2 D.int D.int)))) (xm_call (e := (va (eTL (eP2 D.int D.int)))) (exa_cons (ex_var (d := (eTL (eP2 D.int D.int)) p_421.1) rfl) (exa_cons (ex_fld (ex_var (d := e_Part part_425) rfl) rfl) exa_nil)) rfl fun S a h => R_p_after S p_421.1 part_425.f_turn  a h) fun t_430 h_431 => (xm_pure (e := (va (eP2 (eTL D.int) (eP2 (eTL (eP2 D.int D.int)) D.bl)))) (ex_tup (exa_cons (ex_fzv h_429) (exa_cons (ex_tup (exa_cons (ex_fzv h_431) (exa_cons (ex_neB (ex_var (d := D.bl p_421.2) rfl) (ex_fld (ex_var (d := e_Part part_425) rfl) rfl)) exa_nil)) rfl (Nat.le_of_ble_eq_true rfl)) exa_nil)) rfl (Nat.le_of_ble_eq_true rfl)))))))))
noncomputable def F_p_is_word (text : Str) : Option Bool := (F_p_is_of text ("abcdefghijklmnopqrstuvwxyz" : Str) 12)
theorem R_p_is_word (S : Sto) (text : Str) (r : Bool) (h : F_p_is_word text = some r) : m_p_is_word [D.str text] S = .ok (.va (D.bl r)) S := by
  refine def_v (e := D.bl) (b := b_p_is_word) (n := 1) (ar := 1) (X := F_p_is_word text) ?_ h
  delta F_p_is_word
  exact (sx_ret0 (e := D.bl) (xm_call (e := (va D.bl)) (exa_cons (ex_var (d := D.str text) rfl) (exa_cons ex_c (exa_cons ex_c exa_nil))) rfl fun S a h => R_p_is_of S text ("abcdefghijklmnopqrstuvwxyz" : Str) 12  a h))
noncomputable def G_L_joined_0 (turn_here_437 : (List (Int × Int))) (mirror_447 : (List (Int × Int))) (s_459 : Int × (List ((List Int) × (List (Int × Int)) × Bool))) (x_457 : ((List Int) × (List (Int × Int)))) : Option (Int × (List ((List Int) × (List (Int × Int)) × Bool))) := (((F_L_undone turn_here_437).bind fun t_463 => ((F_L_after x_457.2 t_463).bind fun t_465 => ((F_L_after turn_here_437 (List.map (fun (x : (Int × Int)) => (some x)) t_465)).bind fun t_467 => (some t_467)))).bind fun lies_462 => ((((some (decide ((s_459.1 % 2) = 1))).bind fun b => if b = true then (((F_L_after lies_462 (List.map (fun (x : (Int × Int)) => (some x)) mirror_447)).bind fun t_470 => (some t_470)).bind fun lies_469 => (some lies_469)) else (some lies_462)) : Option (List (Int × Int))).bind fun s_472 => (((F_L_turned turn_here_437 x_457.1).bind fun t_474 => (some (t_474, s_472, (decide ((s_459.1 % 2) = 1))))).bind fun w_478 => (snoc s_459.2 w_478).bind fun parts_476 => ((some (s_459.1 / 2)).bind fun bits_477 => (some (bits_477, parts_476))))))
noncomputable def F_L_joined (dims : Int) (number : Int) : Option (List ((List Int) × (List (Int × Int)) × Bool)) := (((F_L_base dims).bind fun t_435 => (some t_435)).bind fun base_here_434 => (((F_L_turn number dims).bind fun t_438 => (some t_438)).bind fun turn_here_437 => ((((some (decide (((number / 48) % 2) = 1))).bind fun b => if b = true then ((some base_here_434.reverse).bind fun base_here_440 => (some base_here_440)) else (some base_here_434)) : Option (List ((List Int) × (List (Int × Int))))).bind fun s_441 => ((((rngC 0 dims).bind fun xs => (fits xs).bind fun xs => some (xs.map fun (x_444 : Int) => (x_444, (b2i (decide (x_444 = 0)))))).bind fun t_445 => (some t_445)).bind fun mirror_443 => (((F_L_undone turn_here_437).bind fun t_448 => ((F_L_after mirror_443 t_448).bind fun t_450 => ((F_L_after turn_here_437 (List.map (fun (x : (Int × Int)) => (some x)) t_450)).bind fun t_452 => (some t_452)))).bind fun mirror_447 => ((some []).bind fun parts_454 => ((some (number / 96)).bind fun bits_456 => ((some s_441).bind fun xs => (foldO (G_L_joined_0 turn_here_437 mirror_447) (bits_456, parts_454) xs).bind fun s_458 => (some s_458.2)))))))))
theorem R_L_joined (S : Sto) (dims : Int) (number : Int) (r : (List ((List Int) × (List (Int × Int)) × Bool))) (h : F_L_joined dims number = some r) : m_L_joined [D.int dims, D.int number] S = .ok (.fr (.lst (r.map (eP3 (eTL D.int) (eTL (eP2 D.int D.int)) D.bl)))) S := by
  refine def_l (e := (eP3 (eTL D.int) (eTL (eP2 D.int D.int)) D.bl)) (b := b_L_joined) (n := 11) (ar := 2) (X := F_L_joined dims number) ?_ h
  delta F_L_joined
  exact (sx_asg (e := (eFL (eP2 (eTL D.int) (eTL (eP2 D.int D.int))))) (xm_sub (e := (fl (eP2 (eTL D.int) (eTL (eP2 D.int D.int))))) (xm_call (e := (fl (eP2 (eTL D.int) (eTL (eP2 D.int D.int))))) (exa_cons (ex_var (d := D.int dims) rfl) exa_nil) rfl fun S a h => R_L_base S dims  a h) fun t_435 h_436 => (xm_pure (e := (va (eFL (eP2 (eTL D.int) (eTL (eP2 D.int D.int)))))) (ex_fzl h_436))) fun base_here_434 => (sx_asg (e := (eTL (eP2 D.int D.int))) (xm_sub (e := (va (eTL (eP2 D.int D.int)))) (xm_call (e := (va (eTL (eP2 D.int D.int)))) (exa_cons (ex_var (d := D.int number) rfl) (exa_cons (ex_var (d := D.int dims) rfl) exa_nil)) rfl fun S a h => R_L_turn S number dims  a h) fun t_438 h_439 => (xm_pure (e := (va (eTL (eP2 D.int D.int)))) (ex_fzv h_439))) fun turn_here_437 => (sx_join (σ := (List ((List Int) × (List (Int × Int))))) (E := (fun (w : Unit) (s : (List ((List Int) × (List (Int × Int))))) => [some (D.int dims), some (D.int number), some ((eFL (eP2 (eTL D.int) (eTL (eP2 D.int D.int)))) s), some ((eTL (eP2 D.int D.int)) turn_here_437), none, none, none, none, none, none, none])) (B := (fun (w : Unit) (s : (List ((List Int) × (List (Int × Int))))) => [])) (sx_if0 (bm_of (ex_eqI (ex_modK (by decide) (ex_divK (by decide +kernel) (ex_var (d := D.int number) rfl) ex_c) ex_c) ex_c)) (sx_asg (e := (eFL (eP2 (eTL D.int) (eTL (eP2 D.int D.int))))) (xm_pure (e := (va (eFL (eP2 (eTL D.int) (eTL (eP2 D.int D.int)))))) (ex_fzl (ex_lrev (e := (eP2 (eTL D.int) (eTL (eP2 D.int D.int)))) (ex_var (d := (eFL (eP2 (eTL D.int) (eTL (eP2 D.int D.int)))) base_here_434) rfl) (ls_frl (e := (eP2 (eTL D.int) (eTL (eP2 D.int D.int)))) (l := base_here_434))))) fun base_here_440 => (sx_endJ (x := base_here_440) () rfl (fun _ h => h))) (sx_endJ (x := base_here_434) () rfl (fun _ h => h))) fun w_442 s_441 => (sx_asg (e := (eTL (eP2 D.int D.int))) (xm_sub (e := (fl (eP2 D.int D.int))) (xm_lcP (e := D.int) (g := (eP2 D.int D.int)) (f := fun (x_444 : Int) => (x_444, (b2i (decide (x_444 = 0))))) (ix_r1 (ex_var (d := D.int dims) rfl)) fun x_444 => ⟨_, tg_1, (ex_tup (exa_cons (ex_var (d := D.int x_444) rfl) (exa_cons (ex_fzv (ex_intB (ex_eqI (ex_var (d := D.int x_444) rfl) ex_c))) exa_nil)) rfl (Nat.le_of_ble_eq_true rfl))⟩) fun t_445 h_446 => (xm_pure (e := (va (eTL (eP2 D.int D.int)))) (ex_fzv (ex_tupOf (e := (eP2 D.int D.int)) h_446 (ls_fr (e := (eP2 D.int D.int)) (l := t_445)))))) fun mirror_443 => (sx_asg (e := (eTL (eP2 D.int D.int))) (xm_sub (e := (va (eTL (eO (eP2 D.int D.int))))) (xm_call (e := (va (eTL (eO (eP2 D.int D.int))))) (exa_cons (ex_var (d := (eTL (eP2 D.int D.int)) turn_here_437) rfl) exa_nil) rfl fun S a h => R_L_undone S turn_here_437  a h) fun t_448 h_449 => (xm_sub (e := (va (eTL (eP2 D.int D.int)))) (xm_call (e := (va (eTL (eP2 D.int D.int)))) (exa_cons (ex_var (d := (eTL (eP2 D.int D.int)) mirror_443) rfl) (exa_cons (ex_fzv h_449) exa_nil)) rfl fun S a h => R_L_after S mirror_443 t_448  a h) fun t_450 h_451 => (xm_sub (e := (va (eTL (eP2 D.int D.int)))) (xm_call (e := (va (eTL (eP2 D.int D.int)))) (exa_cons (ex_var (d := (eTL (eP2 D.int D.int)) turn_here_437) rfl) (exa_cons (ex_conv (by first | rfl | (simp [eTL, eFL, eO, eP2, eP3, List.map_map, Function.comp_def] <;> first | rfl | (intros; rfl) | (intro o _; cases o <;> rfl))) (ex_fzv h_451)) exa_nil)) rfl fun S a h => R_L_after S turn_here_437 (List.map (fun (x : (Int × Int)) => (some x)) t_450)  a h) fun t_452 h_453 => (xm_pure (e := (va (eTL (eP2 D.int D.int)))) (ex_fzv h_453))))) fun mirror_447 => (sx_new (e := (eP3 (eTL D.int) (eTL (eP2 D.int D.int)) D.bl)) (xm_pure (e := (fl (eP3 (eTL D.int) (eTL (eP2 D.int D.int)) D.bl))) (ex_lst exa_nil rfl (Nat.le_of_ble_eq_true rfl))) fun parts_454 n_455 => (sx_asg (e := D.int) (xm_pure (e := (va D.int)) (ex_fzv (ex_divK (by decide +kernel) (ex_var (d := D.int number) rfl) ex_c))) fun bits_456 => (sx_forN (e := (eP2 (eTL D.int) (eTL (eP2 D.int D.int)))) (E := (fun (w : Unit) (s : Int × (List ((List Int) × (List (Int × Int)) × Bool))) => [some (D.int dims), some (D.int number), some ((eFL (eP2 (eTL D.int) (eTL (eP2 D.int D.int)))) s_441), some ((eTL (eP2 D.int D.int)) turn_here_437), some ((eTL (eP2 D.int D.int)) mirror_447), some (.ref n_455), some (D.int s.1), none, none, none, none])) (B := (fun (w : Unit) (s : Int × (List ((List Int) × (List (Int × Int)) × Bool))) => [pt n_455 (.lst (s.2.map (eP3 (eTL D.int) (eTL (eP2 D.int D.int)) D.bl)))])) (Ai := []) (s0 := (bits_456, parts_454)) (ix_frl (e := (eP2 (eTL D.int) (eTL (eP2 D.int D.int)))) (ex_var (d := (eFL (eP2 (eTL D.int) (eTL (eP2 D.int D.int)))) s_441) rfl)) () rfl (fun _ h => h) (fun _ _ _ h => h.nil) (fun w_460 s_459 x_457 => ⟨_, tg_2, (sx_asg (e := (eTL (eP2 D.int D.int))) (xm_sub (e := (va (eTL (eO (eP2 D.int D.int))))) (xm_call (e := (va (eTL (eO (eP2 D.int D.int))))) (exa_cons (ex_var (d := (eTL (eP2 D.int D.int)) turn_here_437) rfl) exa_nil) rfl fun S a h => R_L_undone S turn_here_437  a h) fun t_463 h_464 => (xm_sub (e := (va (eTL (eP2 D.int D.int)))) (xm_call (e := (va (eTL (eP2 D.int D.int)))) (exa_cons (ex_var (d := (eTL (eP2 D.int D.int)) x_457.2) rfl) (exa_cons (ex_fzv h_464) exa_nil)) rfl fun S a h => R_L_after S x_457.2 t_463  a h) fun t_465 h_466 => (xm_sub (e := (va (eTL (eP2 D.int D.int)))) (xm_call (e := (va (eTL (eP2 D.int D.int)))) (exa_cons (ex_var (d := (eTL (eP2 D.int D.int)) turn_here_437) rfl) (exa_cons (ex_conv (by first | rfl | (simp [eTL, eFL, eO, eP2, eP3, List.map_map, Function.comp_def] <;> first | rfl | (intros; rfl) | (intro o _; cases o <;> rfl))) (ex_fzv h_466)) exa_nil)) rfl fun S a h => R_L_after S turn_here_437 (List.map (fun (x : (Int × Int)) => (some x)) t_465)  a h) fun t_467 h_468 => (xm_pure (e := (va (eTL (eP2 D.int D.int)))) (ex_fzv h_468))))) fun lies_462 => (sx_join (σ := (List (Int × Int))) (E := (fun (w : Unit) (s : (List (Int × Int))) => [some (D.int dims), some (D.int number), some ((eFL (eP2 (eTL D.int) (eTL (eP2 D.int D.int)))) s_441), some ((eTL (eP2 D.int D.int)) turn_here_437), some ((eTL (eP2 D.int D.int)) mirror_447), some (.ref n_455), some (D.int s_459.1), some ((eTL D.int) x_457.1), some ((eTL (eP2 D.int D.int)) x_457.2), some ((eTL (eP2 D.int D.int)) s), none])) (B := (fun (w : Unit) (s : (List (Int × Int))) => [pt n_455 (.lst (s_459.2.map (eP3 (eTL D.int) (eTL (eP2 D.int D.int)) D.bl)))])) (sx_if0 (bm_of (ex_eqI (ex_modK (by decide) (ex_var (d := D.int s_459.1) rfl) ex_c) ex_c)) (sx_asg (e := (eTL (eP2 D.int D.int))) (xm_sub (e := (va (eTL (eP2 D.int D.int)))) (xm_call (e := (va (eTL (eP2 D.int D.int)))) (exa_cons (ex_var (d := (eTL (eP2 D.int D.int)) lies_462) rfl) (exa_cons (ex_conv (by first | rfl | (simp [eTL, eFL, eO, eP2, eP3, List.map_map, Function.comp_def] <;> first | rfl | (intros; rfl) | (intro o _; cases o <;> rfl))) (ex_var (d := (eTL (eP2 D.int D.int)) mirror_447) rfl)) exa_nil)) rfl fun S a h => R_L_after S lies_462 (List.map (fun (x : (Int × Int)) => (some x)) mirror_447)  a h) fun t_470 h_471 => (xm_pure (e := (va (eTL (eP2 D.int D.int)))) (ex_fzv h_471))) fun lies_469 => (sx_endJ (x := lies_469) () rfl (fun _ h => h))) (sx_endJ (x := lies_462) () rfl (fun _ h => h))) fun w_473 s_472 => (sx_app (e := (eP3 (eTL D.int) (eTL (eP2 D.int D.int)) D.bl)) (l := s_459.2) rfl (j := 0) rfl (xm_sub (e := (va (eTL D.int))) (xm_call (e := (va (eTL D.int))) (exa_cons (ex_var (d := (eTL (eP2 D.int D.int)) turn_here_437) rfl) (exa_cons (ex_var (d := (eTL D.int) x_457.1) rfl) exa_nil)) rfl fun S a h => R_L_turned S turn_here_437 x_457.1  a h) fun t_474 h_475 => (xm_pure (e := (va (eP3 (eTL D.int) (eTL (eP2 D.int D.int)) D.bl))) (ex_tup (exa_cons (ex_fzv h_475) (exa_cons (ex_var (d := (eTL (eP2 D.int D.int)) s_472) rfl) (exa_cons (ex_eqI (ex_modK (by decide) (ex_var (d := D.int s_459.1) rfl) ex_c) ex_c) exa_nil))) rfl (Nat.le_of_ble_eq_true rfl)))) fun parts_476 => (sx_asg (e := D.int) (xm_pure (e := (va D.int)) (ex_fzv (ex_divK (by decide +kernel) (ex_var (d := D.int s_459.1) rfl) ex_c))) fun bits_477 => (sx_end (x := (bits_477, parts_476)) () rfl (fun _ h => h))))))⟩) fun w_461 s_458 => (sx_retO (e := (eP3 (eTL D.int) (eTL (eP2 D.int D.int)) D.bl)) (l := s_458.2) (ι := fun r => r) (fun _ _ h => h) rfl (j := 0) rfl)))))))))
noncomputable def H_L_loose_0  (s_486 : (List (List Int)) × (List ((List Int) × (List (Int × Int)) × Bool))) : Option Bool := (some (!decide (s_486.1 = [])))
noncomputable def G_L_loose_1 (cell : Int) (dims : Int) (s_486 : (List (List Int)) × (List ((List Int) × (List (Int × Int)) × Bool))) : Option (Fw ((List (List Int)) × (List ((List Int) × (List (Int × Int)) × Bool))) (List ((List Int) × (List (Int × Int)) × Bool))) := (((F_L_mix cell (48271 + (997 * (s_486.1.length : Int)))).bind fun t_490 => (some t_490)).bind fun number_489 => ((modC number_489 (s_486.1.length : Int)).bind fun t_493 => ((popAt s_486.1 t_493).bind fun q_500 => (((F_L_turn (number_489 / 8) dims).bind fun t_496 => (some (q_500.1, t_496, (decide (((number_489 / 800) % 2) = 1))))).bind fun w_499 => (snoc s_486.2 w_499).bind fun parts_498 => (some (.nx (q_500.2, parts_498)))))))
noncomputable def F_L_loose (k : Nat) (dims : Int) (cell : Int) : Option (List ((List Int) × (List (Int × Int)) × Bool)) := ((F_L_corners dims).bind fun left_479 => ((some []).bind fun parts_483 => ((whileO (ρ := (List ((List Int) × (List (Int × Int)) × Bool))) (H_L_loose_0) (G_L_loose_1 cell dims) k (left_479, parts_483)).bind fun w => w.on (fun s_485 => (some s_485.2)) fun r => r)))
theorem R_L_loose (k : Nat) (S : Sto) (dims : Int) (cell : Int) (r : (List ((List Int) × (List (Int × Int)) × Bool))) (h : F_L_loose k dims cell = some r) : m_L_loose [D.int dims, D.int cell] S = .ok (.fr (.lst (r.map (eP3 (eTL D.int) (eTL (eP2 D.int D.int)) D.bl)))) S := by
  refine def_l (e := (eP3 (eTL D.int) (eTL (eP2 D.int D.int)) D.bl)) (b := b_L_loose) (n := 6) (ar := 2) (X := F_L_loose k dims cell) ?_ h
  delta F_L_loose
  exact (sx_new (e := (eTL D.int)) (xm_call (e := (fl (eTL D.int))) (exa_cons (ex_var (d := D.int dims) rfl) exa_nil) rfl fun S a h => R_L_corners S dims  a h) fun left_479 n_482 => (sx_new (e := (eP3 (eTL D.int) (eTL (eP2 D.int D.int)) D.bl)) (xm_pure (e := (fl (eP3 (eTL D.int) (eTL (eP2 D.int D.int)) D.bl))) (ex_lst exa_nil rfl (Nat.le_of_ble_eq_true rfl))) fun parts_483 n_484 => (sx_while (E := (fun (w : Unit) (s : (List (List Int)) × (List ((List Int) × (List (Int × Int)) × Bool))) => [some (D.int dims), some (D.int cell), some (.ref n_482), some (.ref n_484), none, none])) (B := (fun (w : Unit) (s : (List (List Int)) × (List ((List Int) × (List (Int × Int)) × Bool))) => [pt n_484 (.lst (s.2.map (eP3 (eTL D.int) (eTL (eP2 D.int D.int)) D.bl))), pt n_482 (.lst (s.1.map (eTL D.int)))])) (s0 := (left_479, parts_483)) (n := k) (Pr := (PVL (bs S) (eP3 (eTL D.int) (eTL (eP2 D.int D.int)) D.bl))) lv_l (ι := fun r => r) (fun _ _ h => h) () rfl (fun _ h => h) (fun w_487 s_486 => (bm_of (ex_neL (e := (eTL D.int)) (by decide) (ex_var (d := .ref n_482) rfl) (ls_ref (e := (eTL D.int)) (l := s_486.1) (j := 1) rfl) (ex_lst exa_nil rfl (Nat.le_of_ble_eq_true rfl)) (ls_fr (e := (eTL D.int)) (l := []))))) (fun w_487 s_486 => (sx_asg (e := D.int) (xm_sub (e := (va D.int)) (xm_call (e := (va D.int)) (exa_cons (ex_var (d := D.int cell) rfl) (exa_cons (ex_fzv (ex_add ex_c (ex_mulK (mulB_lit (by decide)) ex_c (ex_len (e := (eTL D.int)) (ex_var (d := .ref n_482) rfl) (qs_l (ls_ref (e := (eTL D.int)) (l := s_486.1) (j := 1) rfl)))))) exa_nil)) rfl fun S a h => R_L_mix S cell (48271 + (997 * (s_486.1.length : Int)))  a h) fun t_490 h_491 => (xm_pure (e := (va D.int)) (ex_fzv h_491))) fun number_489 => (sx_sub (c := (va D.int)) (xm_mod (ex_var (d := D.int number_489) rfl) (ex_len (e := (eTL D.int)) (ex_var (d := .ref n_482) rfl) (qs_l (ls_ref (e := (eTL D.int)) (l := s_486.1) (j := 1) rfl)))) fun t_493 h_494 => (sx_pop (e := (eTL D.int)) (l := s_486.1) rfl (j := 1) rfl h_494 fun q_500 => (sx_app (e := (eP3 (eTL D.int) (eTL (eP2 D.int D.int)) D.bl)) (l := s_486.2) rfl (j := 0) rfl (xm_sub (e := (va (eTL (eP2 D.int D.int)))) (xm_call (e := (va (eTL (eP2 D.int D.int)))) (exa_cons (ex_fzv (ex_divK (by decide +kernel) (ex_var (d := D.int number_489) rfl) ex_c)) (exa_cons (ex_var (d := D.int dims) rfl) exa_nil)) rfl fun S a h => R_L_turn S (number_489 / 8) dims  a h) fun t_496 h_497 => (xm_pure (e := (va (eP3 (eTL D.int) (eTL (eP2 D.int D.int)) D.bl))) (ex_tup (exa_cons (ex_var (d := (eTL D.int) q_500.1) rfl) (exa_cons (ex_fzv h_497) (exa_cons (ex_eqI (ex_modK (by decide) (ex_divK (by decide +kernel) (ex_var (d := D.int number_489) rfl) ex_c) ex_c) ex_c) exa_nil))) rfl (Nat.le_of_ble_eq_true rfl)))) fun parts_498 => (sx_endF (x := (q_500.2, parts_498)) () rfl (fun _ h => h))))))) fun w_488 s_485 => (sx_retO (e := (eP3 (eTL D.int) (eTL (eP2 D.int D.int)) D.bl)) (l := s_485.2) (ι := fun r => r) (fun _ _ h => h) rfl (j := 0) rfl))))
noncomputable def F_L_faulty (rows_here : (List Str)) (draw : Int) : Option ((List Str) × Int × Str) := ((some (draw % 6)).bind fun kind_501 => (((modC (draw / 6) ((rows_here.length : Int) - 1)).bind fun t_503 => (some (1 + t_503))).bind fun at__502 => ((some (draw / 60)).bind fun more_505 => ((some (decide (kind_501 = 0))).bind fun b => if b = true then ((idx rows_here 0).bind fun t_506 => ((F_L_bad_head t_506 more_505).bind fun t_508 => ((catC [t_508] (cutT rows_here (some 1) none)).bind fun t_510 => (some (t_510, 1, ("row" : Str)))))) else ((some (decide (kind_501 < 3))).bind fun b => if b = true then ((idx rows_here at__502).bind fun t_512 => ((F_L_bad_part t_512 more_505).bind fun t_514 => ((catC (cutT rows_here none (some at__502)) [t_514]).bind fun t_516 => ((catC t_516 (cutT rows_here (some (at__502 + 1)) none)).bind fun t_518 => (some (t_518, (at__502 + 1), ("row" : Str))))))) else ((some ((decide (kind_501 = 3)) && (decide (1 < at__502)))).bind fun b => if b = true then (((idx rows_here at__502).bind fun t_521 => okSplit t_521 (" " : Str)).bind fun words_520 => ((modC more_505 (at__502 - 1)).bind fun t_526 => ((idx rows_here (1 + t_526)).bind fun t_528 => ((okSplit t_528 (" " : Str)).bind fun t_530 => ((idx t_530 1).bind fun t_532 => ((some t_532).bind fun w_541 => (putAt words_520 1 w_541).bind fun words_534 => ((joinC (" " : Str) words_534).bind fun t_535 => ((catC (cutT rows_here none (some at__502)) [t_535]).bind fun t_537 => ((catC t_537 (cutT rows_here (some (at__502 + 1)) none)).bind fun t_539 => (some (t_539, (at__502 + 1), ("corner" : Str)))))))))))) else ((some (decide (kind_501 < 5))).bind fun b => if b = true then (some ((cutT rows_here none (some at__502)), (at__502 + 1), ("row" : Str))) else ((idx [("" : Str), ("part 00 +x+y" : Str), ("floor 3 4" : Str)] (more_505 % 3)).bind fun t_542 => ((catC rows_here [t_542]).bind fun t_544 => (some (t_544, ((rows_here.length : Int) + 1), ("row" : Str))))))))))))
theorem R_L_faulty (S : Sto) (rows_here : (List Str)) (draw : Int) (r : ((List Str) × Int × Str)) (h : F_L_faulty rows_here draw = some r) : m_L_faulty [(eFL D.str) rows_here, D.int draw] S = .ok (.va ((eP3 (eFL D.str) D.int D.str) r)) S := by
  refine def_v (e := (eP3 (eFL D.str) D.int D.str)) (b := b_L_faulty) (n := 6) (ar := 2) (X := F_L_faulty rows_here draw) ?_ h
  delta F_L_faulty
  exact (sx_asg (e := D.int) (xm_pure (e := (va D.int)) (ex_fzv (ex_modK (by decide) (ex_var (d := D.int draw) rfl) ex_c))) fun kind_501 => (sx_asg (e := D.int) (xm_sub (e := (va D.int)) (xm_mod (ex_divK (by decide +kernel) (ex_var (d := D.int draw) rfl) ex_c) (ex_sub (ex_len (e := D.str) (ex_var (d := (eFL D.str) rows_here) rfl) (qs_l (ls_frl (e := D.str) (l := rows_here)))) ex_c)) fun t_503 h_504 => (xm_pure (e := (va D.int)) (ex_fzv (ex_add ex_c h_504)))) fun at__502 => (sx_asg (e := D.int) (xm_pure (e := (va D.int)) (ex_fzv (ex_divK (by decide +kernel) (ex_var (d := D.int draw) rfl) ex_c))) fun more_505 => (sx_ifL (bm_of (ex_eqI (ex_var (d := D.int kind_501) rfl) ex_c)) (sx_assoc (sx_ret0 (e := (eP3 (eFL D.str) D.int D.str)) (xm_sub (e := (va D.str)) (xm_ix (e := D.str) (ex_var (d := (eFL D.str) rows_here) rfl) (qs_l (ls_frl (e := D.str) (l := rows_here))) ex_c) fun t_506 h_507 => (xm_sub (e := (va D.str)) (xm_call (e := (va D.str)) (exa_cons h_507 (exa_cons (ex_var (d := D.int more_505) rfl) exa_nil)) rfl fun S a h => R_L_bad_head S t_506 more_505  a h) fun t_508 h_509 => (xm_sub (e := (fl D.str)) (xm_catL (ex_lst (exa_cons (ex_fzv h_509) exa_nil) rfl (Nat.le_of_ble_eq_true rfl)) (ls_fr (e := D.str) (l := [t_508])) (ex_slL (ex_var (d := (eFL D.str) rows_here) rfl) (ls_frl (e := D.str) (l := rows_here)) (exo_some ex_c) exo_none) (ls_fr (e := D.str) (l := (cutT rows_here (some 1) none)))) fun t_510 h_511 => (xm_pure (e := (va (eP3 (eFL D.str) D.int D.str))) (ex_tup (exa_cons (ex_fzl h_511) (exa_cons ex_c (exa_cons ex_c exa_nil))) rfl (Nat.le_of_ble_eq_true rfl)))))))) (sx_ifL (bm_of (ex_lt (ex_var (d := D.int kind_501) rfl) ex_c)) (sx_assoc (sx_ret0 (e := (eP3 (eFL D.str) D.int D.str)) (xm_sub (e := (va D.str)) (xm_ix (e := D.str) (ex_var (d := (eFL D.str) rows_here) rfl) (qs_l (ls_frl (e := D.str) (l := rows_here))) (ex_var (d := D.int at__502) rfl)) fun t_512 h_513 => (xm_sub (e := (va D.str)) (xm_call (e := (va D.str)) (exa_cons h_513 (exa_cons (ex_var (d := D.int more_505) rfl) exa_nil)) rfl fun S a h => R_L_bad_part S t_512 more_505  a h) fun t_514 h_515 => (xm_sub (e := (fl D.str)) (xm_catL (ex_slL (ex_var (d := (eFL D.str) rows_here) rfl) (ls_frl (e := D.str) (l := rows_here)) exo_none (exo_some (ex_var (d := D.int at__502) rfl))) (ls_fr (e := D.str) (l := (cutT rows_here none (some at__502)))) (ex_lst (exa_cons (ex_fzv h_515) exa_nil) rfl (Nat.le_of_ble_eq_true rfl)) (ls_fr (e := D.str) (l := [t_514]))) fun t_516 h_517 => (xm_sub (e := (fl D.str)) (xm_catL h_517 (ls_fr (e := D.str) (l := t_516)) (ex_slL (ex_var (d := (eFL D.str) rows_here) rfl) (ls_frl (e := D.str) (l := rows_here)) (exo_some (ex_add (ex_var (d := D.int at__502) rfl) ex_c)) exo_none) (ls_fr (e := D.str) (l := (cutT rows_here (some (at__502 + 1)) none)))) fun t_518 h_519 => (xm_pure (e := (va (eP3 (eFL D.str) D.int D.str))) (ex_tup (exa_cons (ex_fzl h_519) (exa_cons (ex_fzv (ex_add (ex_var (d := D.int at__502) rfl) ex_c)) (exa_cons ex_c exa_nil))) rfl (Nat.le_of_ble_eq_true rfl))))))))) (sx_ifL (bm_andP (bm_of (ex_eqI (ex_var (d := D.int kind_501) rfl) ex_c)) (bm_of (ex_gt (ex_var (d := D.int at__502) rfl) ex_c))) (sx_assoc (sx_new (e := D.str) (xm_sub (e := (va D.str)) (xm_ix (e := D.str) (ex_var (d := (eFL D.str) rows_here) rfl) (qs_l (ls_frl (e := D.str) (l := rows_here))) (ex_var (d := D.int at__502) rfl)) fun t_521 h_522 => (xm_split h_522 ex_c)) fun words_520 n_525 => (sx_assoc (sx_sub (c := (va D.int)) (xm_mod (ex_var (d := D.int more_505) rfl) (ex_sub (ex_var (d := D.int at__502) rfl) ex_c)) fun t_526 h_527 => (sx_sub (c := (va D.str)) (xm_ix (e := D.str) (ex_var (d := (eFL D.str) rows_here) rfl) (qs_l (ls_frl (e := D.str) (l := rows_here))) (ex_add ex_c h_527)) fun t_528 h_529 => (sx_sub (c := (fl D.str)) (xm_split h_529 ex_c) fun t_530 h_531 => (sx_sub (c := (va D.str)) (xm_ix (e := D.str) h_531 (qs_l (ls_fr (e := D.str) (l := t_530))) ex_c) fun t_532 h_533 => (sx_sub1 (e := D.str) (l := words_520) (ex_var (d := .ref n_525) rfl) (j := 0) rfl ex_c (xm_pure (e := (va D.str)) h_533) fun words_534 => (sx_assoc (sx_ret0 (e := (eP3 (eFL D.str) D.int D.str)) (xm_sub (e := (va D.str)) (xm_join ex_c (ex_var (d := .ref n_525) rfl) (qs_l (ls_ref (e := D.str) (l := words_534) (j := 0) rfl))) fun t_535 h_536 => (xm_sub (e := (fl D.str)) (xm_catL (ex_slL (ex_var (d := (eFL D.str) rows_here) rfl) (ls_frl (e := D.str) (l := rows_here)) exo_none (exo_some (ex_var (d := D.int at__502) rfl))) (ls_fr (e := D.str) (l := (cutT rows_here none (some at__502)))) (ex_lst (exa_cons (ex_fzv h_536) exa_nil) rfl (Nat.le_of_ble_eq_true rfl)) (ls_fr (e := D.str) (l := [t_535]))) fun t_537 h_538 => (xm_sub (e := (fl D.str)) (xm_catL h_538 (ls_fr (e := D.str) (l := t_537)) (ex_slL (ex_var (d := (eFL D.str) rows_here) rfl) (ls_frl (e := D.str) (l := rows_here)) (exo_some (ex_add (ex_var (d := D.int at__502) rfl) ex_c)) exo_none) (ls_fr (e := D.str) (l := (cutT rows_here (some (at__502 + 1)) none)))) fun t_539 h_540 => (xm_pure (e := (va (eP3 (eFL D.str) D.int D.str))) (ex_tup (exa_cons (ex_fzl h_540) (exa_cons (ex_fzv (ex_add (ex_var (d := D.int at__502) rfl) ex_c)) (exa_cons ex_c exa_nil))) rfl (Nat.le_of_ble_eq_true rfl)))))))))))))))) (sx_ifL (bm_of (ex_lt (ex_var (d := D.int kind_501) rfl) ex_c)) (sx_assoc (sx_ret0 (e := (eP3 (eFL D.str) D.int D.str)) (xm_pure (e := (va (eP3 (eFL D.str) D.int D.str))) (ex_tup (exa_cons (ex_fzl (ex_slL (ex_var (d := (eFL D.str) rows_here) rfl) (ls_frl (e := D.str) (l := rows_here)) exo_none (exo_some (ex_var (d := D.int at__502) rfl)))) (exa_cons (ex_fzv (ex_add (ex_var (d := D.int at__502) rfl) ex_c)) (exa_cons ex_c exa_nil))) rfl (Nat.le_of_ble_eq_true rfl))))) (sx_ret0 (e := (eP3 (eFL D.str) D.int D.str)) (xm_sub (e := (va D.str)) (xm_ix (e := D.str) (ex_lst (exa_cons ex_c (exa_cons ex_c (exa_cons ex_c exa_nil))) rfl (Nat.le_of_ble_eq_true rfl)) (qs_l (ls_fr (e := D.str) (l := [("" : Str), ("part 00 +x+y" : Str), ("floor 3 4" : Str)]))) (ex_modK (by decide) (ex_var (d := D.int more_505) rfl) ex_c)) fun t_542 h_543 => (xm_sub (e := (fl D.str)) (xm_catL (ex_var (d := (eFL D.str) rows_here) rfl) (ls_frl (e := D.str) (l := rows_here)) (ex_lst (exa_cons h_543 exa_nil) rfl (Nat.le_of_ble_eq_true rfl)) (ls_fr (e := D.str) (l := [t_542]))) fun t_544 h_545 => (xm_pure (e := (va (eP3 (eFL D.str) D.int D.str))) (ex_tup (exa_cons (ex_fzl h_545) (exa_cons (ex_fzv (ex_add (ex_len (e := D.str) (ex_var (d := (eFL D.str) rows_here) rfl) (qs_l (ls_frl (e := D.str) (l := rows_here)))) ex_c)) (exa_cons ex_c exa_nil))) rfl (Nat.le_of_ble_eq_true rfl)))))))))))))
noncomputable def H_p_unmet_at_0  (s_569 : ((List (Int × Int)) × Bool) × ((List (Int × Int)) × Bool) × Int × (List ((((List (Int × Int)) × Bool) × ((List (Int × Int)) × Bool)) × Bool))) : Option Bool := (some (!(dget s_569.2.2.2 (s_569.2.1, s_569.1)).isSome))
noncomputable def G_p_unmet_at_1 (curve : C_Curve) (last_546 : Int) (axis_558 : (Option Int)) (upward_561 : Int) (s_569 : ((List (Int × Int)) × Bool) × ((List (Int × Int)) × Bool) × Int × (List ((((List (Int × Int)) × Bool) × ((List (Int × Int)) × Bool)) × Bool))) : Option (Fw (((List (Int × Int)) × Bool) × ((List (Int × Int)) × Bool) × Int × (List ((((List (Int × Int)) × Bool) × ((List (Int × Int)) × Bool)) × Bool))) (Option Int)) := ((some true).bind fun w_582 => (dputC s_569.2.2.2 (s_569.2.1, s_569.1) w_582).bind fun seen_572 => ((some (s_569.2.2.1 + 1)).bind fun level_573 => (((F_p_part_at curve s_569.2.1 last_546).bind fun t_574 => (some t_574)).bind fun p_576 => (((F_p_part_at curve s_569.1 0).bind fun t_577 => (some t_577)).bind fun p_579 => (((F_p_touches p_576.1 p_579.1 axis_558 upward_561).bind fun t_580 => (some (!t_580))).bind fun b => if b = true then (some (.ret (some level_573))) else (some (.nx (p_579.2, p_576.2, level_573, seen_572))))))))
noncomputable def F_p_unmet_at (k : Nat) (curve : C_Curve) (first : Int) : Option (Option Int) := ((some ((curve.f_parts.length : Int) - 1)).bind fun last_546 => (((F_p_first_state curve.f_dims).bind fun t_547 => ((F_p_part_at curve t_547 first).bind fun t_549 => (some t_549))).bind fun p_551 => (((F_p_first_state curve.f_dims).bind fun t_552 => ((F_p_part_at curve t_552 (first + 1)).bind fun t_554 => (some t_554))).bind fun p_556 => ((some 1).bind fun level_557 => (((F_p_axis_between p_551.1 p_556.1).bind fun t_559 => (some t_559)).bind fun axis_558 => ((some axis_558.isNone).bind fun b => if b = true then (some (some level_557)) else ((axis_558.bind fun t_562 => idx p_556.1 t_562).bind fun upward_561 => ((whileO (ρ := (Option Int)) (H_p_unmet_at_0) (G_p_unmet_at_1 curve last_546 axis_558 upward_561) k (p_556.2, p_551.2, level_557, [])).bind fun w => w.on (fun s_568 => (some none)) fun r => r))))))))
theorem R_p_unmet_at (k : Nat) (S : Sto) (curve : C_Curve) (first : Int) (r : (Option Int)) (h : F_p_unmet_at k curve first = some r) : m_p_unmet_at [e_Curve curve, D.int first] S = .ok (.va ((eO D.int) r)) S := by
  refine def_v (e := (eO D.int)) (b := b_p_unmet_at) (n := 11) (ar := 2) (X := F_p_unmet_at k curve first) ?_ h
  delta F_p_unmet_at
  exact (sx_asg (e := D.int) (xm_pure (e := (va D.int)) (ex_fzv (ex_sub (ex_len (e := e_Part) (ex_fld (ex_var (d := e_Curve curve) rfl) rfl) (qs_l (ls_frl (e := e_Part) (l := curve.f_parts)))) ex_c))) fun last_546 => (sx_asgs (e := (eP2 (eTL D.int) (eP2 (eTL (eP2 D.int D.int)) D.bl))) (xm_sub (e := (va (eP2 (eTL (eP2 D.int D.int)) D.bl))) (xm_call (e := (va (eP2 (eTL (eP2 D.int D.int)) D.bl))) (exa_cons (ex_fld (ex_var (d := e_Curve curve) rfl) rfl) exa_nil) rfl fun S a h => R_p_first_state S curve.f_dims  a h) fun t_547 h_548 => (xm_sub (e := (va (eP2 (eTL D.int) (eP2 (eTL (eP2 D.int D.int)) D.bl)))) (xm_call (e := (va (eP2 (eTL D.int) (eP2 (eTL (eP2 D.int D.int)) D.bl)))) (exa_cons (ex_var (d := e_Curve curve) rfl) (exa_cons (ex_fzv h_548) (exa_cons (ex_var (d := D.int first) rfl) exa_nil))) rfl fun S a h => R_p_part_at S curve t_547 first  a h) fun t_549 h_550 => (xm_pure (e := (va (eP2 (eTL D.int) (eP2 (eTL (eP2 D.int D.int)) D.bl)))) (ex_fzv h_550)))) (fun _ => tg_2) fun p_551 => (sx_asgs (e := (eP2 (eTL D.int) (eP2 (eTL (eP2 D.int D.int)) D.bl))) (xm_sub (e := (va (eP2 (eTL (eP2 D.int D.int)) D.bl))) (xm_call (e := (va (eP2 (eTL (eP2 D.int D.int)) D.bl))) (exa_cons (ex_fld (ex_var (d := e_Curve curve) rfl) rfl) exa_nil) rfl fun S a h => R_p_first_state S curve.f_dims  a h) fun t_552 h_553 => (xm_sub (e := (va (eP2 (eTL D.int) (eP2 (eTL (eP2 D.int D.int)) D.bl)))) (xm_call (e := (va (eP2 (eTL D.int) (eP2 (eTL (eP2 D.int D.int)) D.bl)))) (exa_cons (ex_var (d := e_Curve curve) rfl) (exa_cons (ex_fzv h_553) (exa_cons (ex_fzv (ex_add (ex_var (d := D.int first) rfl) ex_c)) exa_nil))) rfl fun S a h => R_p_part_at S curve t_552 (first + 1)  a h) fun t_554 h_555 => (xm_pure (e := (va (eP2 (eTL D.int) (eP2 (eTL (eP2 D.int D.int)) D.bl)))) (ex_fzv h_555)))) (fun _ => tg_2) fun p_556 => (sx_asg (e := D.int) (xm_pure (e := (va D.int)) ex_c) fun level_557 => (sx_asg (e := (eO D.int)) (xm_sub (e := (va (eO D.int))) (xm_call (e := (va (eO D.int))) (exa_cons (ex_var (d := (eTL D.int) p_551.1) rfl) (exa_cons (ex_var (d := (eTL D.int) p_556.1) rfl) exa_nil)) rfl fun S a h => R_p_axis_between S p_551.1 p_556.1  a h) fun t_559 h_560 => (xm_pure (e := (va (eO D.int))) (ex_fzv h_560))) fun axis_558 => (sx_ifL (bm_of (ex_isN (e := D.int) (ex_var (d := (eO D.int) axis_558) rfl) ex_c)) (sx_assoc (sx_ret0 (e := (eO D.int)) (xm_pure (e := (va (eO D.int))) (ex_var (d := D.int level_557) rfl)))) (sx_asg (e := D.int) (xm_sub (e := (va D.int)) (xm_some (ex_var (d := (eO D.int) axis_558) rfl)) fun t_562 h_563 => (xm_ix (e := D.int) (ex_var (d := (eTL D.int) p_556.1) rfl) (qs_tl (e := D.int) (l := p_556.1)) h_563)) fun upward_561 => (sx_dnew0 (κ := (((List (Int × Int)) × Bool) × ((List (Int × Int)) × Bool))) (β := Bool) (ek := (eP2 (eP2 (eTL (eP2 D.int D.int)) D.bl) (eP2 (eTL (eP2 D.int D.int)) D.bl))) (f := D.bl) fun n_567 => (sx_while (E := (fun (w : Unit) (s : ((List (Int × Int)) × Bool) × ((List (Int × Int)) × Bool) × Int × (List ((((List (Int × Int)) × Bool) × ((List (Int × Int)) × Bool)) × Bool))) => [some (e_Curve curve), some (D.int first), some (D.int last_546), some (D.int s.2.2.1), some ((eO D.int) axis_558), some (D.int upward_561), some (.ref n_567), none, some ((eP2 (eTL (eP2 D.int D.int)) D.bl) s.2.1), none, some ((eP2 (eTL (eP2 D.int D.int)) D.bl) s.1)])) (B := (fun (w : Unit) (s : ((List (Int × Int)) × Bool) × ((List (Int × Int)) × Bool) × Int × (List ((((List (Int × Int)) × Bool) × ((List (Int × Int)) × Bool)) × Bool))) => [pt n_567 (.dct (eKV (eP2 (eP2 (eTL (eP2 D.int D.int)) D.bl) (eP2 (eTL (eP2 D.int D.int)) D.bl)) D.bl s.2.2.2))])) (s0 := (p_556.2, p_551.2, level_557, [])) (n := k) (Pr := (PV (bs S) (eO D.int))) lv_v (ι := fun r => r) (fun _ _ h => h) () rfl (fun _ h => h) (fun w_570 s_569 => (bm_of (ex_din (ek := (eP2 (eP2 (eTL (eP2 D.int D.int)) D.bl) (eP2 (eTL (eP2 D.int D.int)) D.bl))) (f := D.bl) (neg := true) (ex_tup (exa_cons (ex_var (d := (eP2 (eTL (eP2 D.int D.int)) D.bl) s_569.2.1) rfl) (exa_cons (ex_var (d := (eP2 (eTL (eP2 D.int D.int)) D.bl) s_569.1) rfl) exa_nil)) rfl (Nat.le_of_ble_eq_true rfl)) (ex_var (d := .ref n_567) rfl) (j := 0) rfl))) (fun w_570 s_569 => (sx_dput (ek := (eP2 (eP2 (eTL (eP2 D.int D.int)) D.bl) (eP2 (eTL (eP2 D.int D.int)) D.bl))) (f := D.bl) (l := s_569.2.2.2) (ex_var (d := .ref n_567) rfl) (j := 0) rfl (ex_tup (exa_cons (ex_var (d := (eP2 (eTL (eP2 D.int D.int)) D.bl) s_569.2.1) rfl) (exa_cons (ex_var (d := (eP2 (eTL (eP2 D.int D.int)) D.bl) s_569.1) rfl) exa_nil)) rfl (Nat.le_of_ble_eq_true rfl)) (xm_pure (e := (va D.bl)) ex_c) fun seen_572 => (sx_augI (i := s_569.2.2.1) rfl ex_c fun level_573 => (sx_asgs (e := (eP2 (eTL D.int) (eP2 (eTL (eP2 D.int D.int)) D.bl))) (xm_sub (e := (va (eP2 (eTL D.int) (eP2 (eTL (eP2 D.int D.int)) D.bl)))) (xm_call (e := (va (eP2 (eTL D.int) (eP2 (eTL (eP2 D.int D.int)) D.bl)))) (exa_cons (ex_var (d := e_Curve curve) rfl) (exa_cons (ex_var (d := (eP2 (eTL (eP2 D.int D.int)) D.bl) s_569.2.1) rfl) (exa_cons (ex_var (d := D.int last_546) rfl) exa_nil))) rfl fun S a h => R_p_part_at S curve s_569.2.1 last_546  a h) fun t_574 h_575 => (xm_pure (e := (va (eP2 (eTL D.int) (eP2 (eTL (eP2 D.int D.int)) D.bl)))) (ex_fzv h_575))) (fun _ => tg_2) fun p_576 => (sx_asgs (e := (eP2 (eTL D.int) (eP2 (eTL (eP2 D.int D.int)) D.bl))) (xm_sub (e := (va (eP2 (eTL D.int) (eP2 (eTL (eP2 D.int D.int)) D.bl)))) (xm_call (e := (va (eP2 (eTL D.int) (eP2 (eTL (eP2 D.int D.int)) D.bl)))) (exa_cons (ex_var (d := e_Curve curve) rfl) (exa_cons (ex_var (d := (eP2 (eTL (eP2 D.int D.int)) D.bl) s_569.1) rfl) (exa_cons ex_c exa_nil))) rfl fun S a h => R_p_part_at S curve s_569.1 0  a h) fun t_577 h_578 => (xm_pure (e := (va (eP2 (eTL D.int) (eP2 (eTL (eP2 D.int D.int)) D.bl)))) (ex_fzv h_578))) (fun _ => tg_2) fun p_579 => (sx_ifL (bm_sub (e := (va D.bl)) (xm_call (e := (va D.bl)) (exa_cons (ex_var (d := (eTL D.int) p_576.1) rfl) (exa_cons (ex_var (d := (eTL D.int) p_579.1) rfl) (exa_cons (ex_var (d := (eO D.int) axis_558) rfl) (exa_cons (ex_var (d := D.int upward_561) rfl) exa_nil)))) rfl fun S a h => R_p_touches S p_576.1 p_579.1 axis_558 upward_561  a h) fun t_580 h_581 => (bm_not (bm_of h_581))) (sx_assoc (sx_ret (e := (eO D.int)) (ι := Fw.ret) (fun _ _ h => h) (xm_pure (e := (va (eO D.int))) (ex_var (d := D.int level_573) rfl)))) (sx_endF (x := (p_579.2, p_576.2, level_573, seen_572)) () rfl (fun _ h => h)))))))) fun w_571 s_568 => (sx_ret0 (e := (eO D.int)) (xm_pure (e := (va (eO D.int))) ex_c)))))))))))
noncomputable def F_p_head_of (row : Str) : Option (Rq (Str × Int × Bool)) := (((okSplit row (" " : Str)).bind fun t_584 => (some t_584)).bind fun words_583 => (((some (!decide ((words_583.length : Int) = 4))).bind fun b => if b = true then some true else (((idx words_583 0).bind fun t_586 => (some (!decide (t_586 = ("curve" : Str))))).bind fun b => if b = true then some true else ((idx words_583 1).bind fun t_588 => ((F_p_is_word t_588).bind fun t_590 => (some (!t_590)))))).bind fun b => if b = true then (some (Rq.er ⟨6, [1]⟩)) else ((((idx words_583 2).bind fun t_592 => (((memC D.str t_592 [(("joined" : Str), ("loose" : Str)).1, (("joined" : Str), ("loose" : Str)).2]).map (!·)).bind fun t_594 => (some t_594))).bind fun b => if b = true then some true else ((idx words_583 3).bind fun t_596 => (((memC D.str t_596 [(("2" : Str), ("3" : Str)).1, (("2" : Str), ("3" : Str)).2]).map (!·)).bind fun t_598 => (some t_598)))).bind fun b => if b = true then (some (Rq.er ⟨6, [1]⟩)) else (((idx words_583 1).bind fun t_600 => ((idx words_583 3).bind fun t_602 => ((intT t_602).bind fun t_604 => ((idx words_583 2).bind fun t_606 => (some (t_600, t_604, (decide (t_606 = ("joined" : Str))))))))).map Rq.ok))))
theorem R_p_head_of (S : Sto) (row : Str) (r : (Rq (Str × Int × Bool))) (h : F_p_head_of row = some r) : m_p_head_of [D.str row] S = rqR (va (eP3 D.str D.int D.bl)) r S := by
  refine def_x (e := (eP3 D.str D.int D.bl)) (b := b_p_head_of) (n := 2) (ar := 1) (X := F_p_head_of row) ?_ h
  delta F_p_head_of
  exact (sx_asg (e := (eFL D.str)) (xm_sub (e := (fl D.str)) (xm_split (ex_var (d := D.str row) rfl) ex_c) fun t_584 h_585 => (xm_pure (e := (va (eFL D.str))) (ex_fzl h_585))) fun words_583 => (sx_ifL (bm_or (bm_of (ex_neI (ex_len (e := D.str) (ex_var (d := (eFL D.str) words_583) rfl) (qs_l (ls_frl (e := D.str) (l := words_583)))) ex_c)) (bm_or (bm_sub (e := (va D.str)) (xm_ix (e := D.str) (ex_var (d := (eFL D.str) words_583) rfl) (qs_l (ls_frl (e := D.str) (l := words_583))) ex_c) fun t_586 h_587 => (bm_of (ex_neT h_587 ex_c))) (bm_sub (e := (va D.str)) (xm_ix (e := D.str) (ex_var (d := (eFL D.str) words_583) rfl) (qs_l (ls_frl (e := D.str) (l := words_583))) ex_c) fun t_588 h_589 => (bm_sub (e := (va D.bl)) (xm_call (e := (va D.bl)) (exa_cons h_589 exa_nil) rfl fun S a h => R_p_is_word S t_588  a h) fun t_590 h_591 => (bm_not (bm_of h_591)))))) (sx_assoc (sx_raiseF (ε := fun x => (Rq.er x)) (is := [1]) er_x (exa_cons ex_c exa_nil))) (sx_ifL (bm_or (bm_sub (e := (va D.str)) (xm_ix (e := D.str) (ex_var (d := (eFL D.str) words_583) rfl) (qs_l (ls_frl (e := D.str) (l := words_583))) ex_c) fun t_592 h_593 => (bm_sub (e := (va D.bl)) (xm_notInT (e := D.str) (by decide) h_593 (ex_tup (exa_cons ex_c (exa_cons ex_c exa_nil)) rfl (Nat.le_of_ble_eq_true rfl))) fun t_594 h_595 => (bm_of h_595))) (bm_sub (e := (va D.str)) (xm_ix (e := D.str) (ex_var (d := (eFL D.str) words_583) rfl) (qs_l (ls_frl (e := D.str) (l := words_583))) ex_c) fun t_596 h_597 => (bm_sub (e := (va D.bl)) (xm_notInT (e := D.str) (by decide) h_597 (ex_tup (exa_cons ex_c (exa_cons ex_c exa_nil)) rfl (Nat.le_of_ble_eq_true rfl))) fun t_598 h_599 => (bm_of h_599)))) (sx_assoc (sx_raiseF (ε := fun x => (Rq.er x)) (is := [1]) er_x (exa_cons ex_c exa_nil))) (sx_ret (e := (eP3 D.str D.int D.bl)) (ι := Rq.ok) (fun _ _ h => h) (xm_sub (e := (va D.str)) (xm_ix (e := D.str) (ex_var (d := (eFL D.str) words_583) rfl) (qs_l (ls_frl (e := D.str) (l := words_583))) ex_c) fun t_600 h_601 => (xm_sub (e := (va D.str)) (xm_ix (e := D.str) (ex_var (d := (eFL D.str) words_583) rfl) (qs_l (ls_frl (e := D.str) (l := words_583))) ex_c) fun t_602 h_603 => (xm_sub (e := (va D.int)) (xm_intT h_603) fun t_604 h_605 => (xm_sub (e := (va D.str)) (xm_ix (e := D.str) (ex_var (d := (eFL D.str) words_583) rfl) (qs_l (ls_frl (e := D.str) (l := words_583))) ex_c) fun t_606 h_607 => (xm_pure (e := (va (eP3 D.str D.int D.bl))) (ex_tup (exa_cons h_601 (exa_cons (ex_fzv h_605) (exa_cons (ex_eqT h_607 ex_c) exa_nil))) rfl (Nat.le_of_ble_eq_true rfl)))))))))))
noncomputable def F_p_part_of (row : Str) (number : Int) (dims : Int) : Option (Rq C_Part) := (((okSplit row (" " : Str)).bind fun t_609 => (some t_609)).bind fun words_608 => (((some (!memB (words_608.length : Int) [(3, 4).1, (3, 4).2])).bind fun b => if b = true then some true else ((idx words_608 0).bind fun t_611 => (some (!decide (t_611 = ("part" : Str)))))).bind fun b => if b = true then (some (Rq.er ⟨6, [number]⟩)) else (((idx words_608 1).bind fun t_614 => ((F_p_corner_of t_614 dims).bind fun t_616 => (some t_616))).bind fun corner_613 => (((idx words_608 2).bind fun t_619 => ((F_p_turn_of t_619 dims).bind fun t_621 => (some t_621))).bind fun turn_618 => (((some corner_613.isNone).bind fun b => if b = true then some true else ((some turn_618.isNone).bind fun b => if b = true then some true else (((memC (eFL D.str) (cutT words_608 (some 3) none) [[], (([] : List Unit), [("back" : Str)]).2]).map (!·)).bind fun t_623 => (some t_623)))).bind fun b => if b = true then (some (Rq.er ⟨6, [number]⟩)) else ((corner_613.bind fun t_625 => (turn_618.bind fun t_627 => ((eqLC D.str (cutT words_608 (some 3) none) [("back" : Str)]).bind fun t_629 => (some (mk_Part t_625 t_627 t_629))))).map Rq.ok))))))
theorem R_p_part_of (S : Sto) (row : Str) (number : Int) (dims : Int) (r : (Rq C_Part)) (h : F_p_part_of row number dims = some r) : m_p_part_of [D.str row, D.int number, D.int dims] S = rqR (va e_Part) r S := by
  refine def_x (e := e_Part) (b := b_p_part_of) (n := 6) (ar := 3) (X := F_p_part_of row number dims) ?_ h
  delta F_p_part_of
  exact (sx_asg (e := (eFL D.str)) (xm_sub (e := (fl D.str)) (xm_split (ex_var (d := D.str row) rfl) ex_c) fun t_609 h_610 => (xm_pure (e := (va (eFL D.str))) (ex_fzl h_610))) fun words_608 => (sx_ifL (bm_or (bm_of (ex_notInT (e := D.int) (by decide) (ex_len (e := D.str) (ex_var (d := (eFL D.str) words_608) rfl) (qs_l (ls_frl (e := D.str) (l := words_608)))) (ex_tup (exa_cons ex_c (exa_cons ex_c exa_nil)) rfl (Nat.le_of_ble_eq_true rfl)))) (bm_sub (e := (va D.str)) (xm_ix (e := D.str) (ex_var (d := (eFL D.str) words_608) rfl) (qs_l (ls_frl (e := D.str) (l := words_608))) ex_c) fun t_611 h_612 => (bm_of (ex_neT h_612 ex_c)))) (sx_assoc (sx_raiseF (ε := fun x => (Rq.er x)) (is := [number]) er_x (exa_cons (ex_var (d := D.int number) rfl) exa_nil))) (sx_asg (e := (eO (eTL D.int))) (xm_sub (e := (va D.str)) (xm_ix (e := D.str) (ex_var (d := (eFL D.str) words_608) rfl) (qs_l (ls_frl (e := D.str) (l := words_608))) ex_c) fun t_614 h_615 => (xm_sub (e := (va (eO (eTL D.int)))) (xm_call (e := (va (eO (eTL D.int)))) (exa_cons h_615 (exa_cons (ex_var (d := D.int dims) rfl) exa_nil)) rfl fun S a h => R_p_corner_of S t_614 dims  a h) fun t_616 h_617 => (xm_pure (e := (va (eO (eTL D.int)))) (ex_fzv h_617)))) fun corner_613 => (sx_asg (e := (eO (eTL (eP2 D.int D.int)))) (xm_sub (e := (va D.str)) (xm_ix (e := D.str) (ex_var (d := (eFL D.str) words_608) rfl) (qs_l (ls_frl (e := D.str) (l := words_608))) ex_c) fun t_619 h_620 => (xm_sub (e := (va (eO (eTL (eP2 D.int D.int))))) (xm_call (e := (va (eO (eTL (eP2 D.int D.int))))) (exa_cons h_620 (exa_cons (ex_var (d := D.int dims) rfl) exa_nil)) rfl fun S a h => R_p_turn_of S t_619 dims  a h) fun t_621 h_622 => (xm_pure (e := (va (eO (eTL (eP2 D.int D.int))))) (ex_fzv h_622)))) fun turn_618 => (sx_ifL (bm_or (bm_of (ex_isN (e := (eTL D.int)) (ex_var (d := (eO (eTL D.int)) corner_613) rfl) ex_c)) (bm_or (bm_of (ex_isN (e := (eTL (eP2 D.int D.int))) (ex_var (d := (eO (eTL (eP2 D.int D.int))) turn_618) rfl) ex_c)) (bm_sub (e := (va D.bl)) (xm_notInTf (e := D.str) (by decide) (ex_slL (ex_var (d := (eFL D.str) words_608) rfl) (ls_frl (e := D.str) (l := words_608)) (exo_some ex_c) exo_none) (ls_fr (e := D.str) (l := (cutT words_608 (some 3) none))) (ex_tup (exa_cons (ex_fzl (ex_lst exa_nil rfl (Nat.le_of_ble_eq_true rfl))) (exa_cons (ex_fzl (ex_lst (exa_cons ex_c exa_nil) rfl (Nat.le_of_ble_eq_true rfl))) exa_nil)) rfl (Nat.le_of_ble_eq_true rfl))) fun t_623 h_624 => (bm_of h_624)))) (sx_assoc (sx_raiseF (ε := fun x => (Rq.er x)) (is := [number]) er_x (exa_cons (ex_var (d := D.int number) rfl) exa_nil))) (sx_ret (e := e_Part) (ι := Rq.ok) (fun _ _ h => h) (xm_sub (e := (va (eTL D.int))) (xm_some (ex_var (d := (eO (eTL D.int)) corner_613) rfl)) fun t_625 h_626 => (xm_sub (e := (va (eTL (eP2 D.int D.int)))) (xm_some (ex_var (d := (eO (eTL (eP2 D.int D.int))) turn_618) rfl)) fun t_627 h_628 => (xm_sub (e := (va D.bl)) (xm_eqL (e := D.str) (by decide) (ex_slL (ex_var (d := (eFL D.str) words_608) rfl) (ls_frl (e := D.str) (l := words_608)) (exo_some ex_c) exo_none) (ls_fr (e := D.str) (l := (cutT words_608 (some 3) none))) (ex_lst (exa_cons ex_c exa_nil) rfl (Nat.le_of_ble_eq_true rfl)) (ls_fr (e := D.str) (l := [("back" : Str)]))) fun t_629 h_630 => (xm_pure (e := (va e_Part)) (ex_new (exa_cons h_626 (exa_cons h_628 (exa_cons h_630 exa_nil))) rfl (I_Part t_625 t_627 t_629) (fun _ => cl_Part _ _))))))))))))
noncomputable def G_p_meeting_of_0 (k : Nat) (curve : C_Curve) (s_634 : (Option (Int × Int))) (x_632 : Int) : Option (Option (Int × Int)) := (((F_p_unmet_at k curve x_632).bind fun t_638 => (some t_638)).bind fun level_637 => (((((some (!level_637.isNone)).bind fun b => if b = true then ((some s_634.isNone).bind fun b => if b = true then some true else (level_637.bind fun t_642 => (s_634.bind fun t_640 => (some (decide (t_642 < t_640.2)))))) else some false).bind fun b => if b = true then ((level_637.bind fun t_645 => (some (some (x_632, t_645)))).bind fun found_644 => (some found_644)) else (some s_634)) : Option (Option (Int × Int))).bind fun s_647 => (some s_647)))
noncomputable def F_p_meeting_of (k : Nat) (curve : C_Curve) : Option (Option (Int × Int)) := ((some none).bind fun found_631 => ((rngC 0 ((curve.f_parts.length : Int) - 1)).bind fun xs => (foldO (G_p_meeting_of_0 k curve) found_631 xs).bind fun s_633 => (some s_633)))
theorem R_p_meeting_of (k : Nat) (S : Sto) (curve : C_Curve) (r : (Option (Int × Int))) (h : F_p_meeting_of k curve = some r) : m_p_meeting_of [e_Curve curve] S = .ok (.va ((eO (eP2 D.int D.int)) r)) S := by
  refine def_v (e := (eO (eP2 D.int D.int))) (b := b_p_meeting_of) (n := 4) (ar := 1) (X := F_p_meeting_of k curve) ?_ h
  delta F_p_meeting_of
  exact (sx_asg (e := (eO (eP2 D.int D.int))) (xm_pure (e := (va (eO (eP2 D.int D.int)))) ex_c) fun found_631 => (sx_forN (e := D.int) (E := (fun (w : Unit) (s : (Option (Int × Int))) => [some (e_Curve curve), some ((eO (eP2 D.int D.int)) s), none, none])) (B := (fun (w : Unit) (s : (Option (Int × Int))) => [])) (Ai := []) (s0 := found_631) (ix_r1 (ex_sub (ex_len (e := e_Part) (ex_fld (ex_var (d := e_Curve curve) rfl) rfl) (qs_l (ls_frl (e := e_Part) (l := curve.f_parts)))) ex_c)) () rfl (fun _ h => h) (fun _ _ _ h => h.nil) (fun w_635 s_634 x_632 => ⟨_, tg_1, (sx_asg (e := (eO D.int)) (xm_sub (e := (va (eO D.int))) (xm_call (e := (va (eO D.int))) (exa_cons (ex_var (d := e_Curve curve) rfl) (exa_cons (ex_var (d := D.int x_632) rfl) exa_nil)) rfl fun S a h => R_p_unmet_at k S curve x_632  a h) fun t_638 h_639 => (xm_pure (e := (va (eO D.int))) (ex_fzv h_639))) fun level_637 => (sx_join (σ := (Option (Int × Int))) (E := (fun (w : Unit) (s : (Option (Int × Int))) => [some (e_Curve curve), some ((eO (eP2 D.int D.int)) s), some (D.int x_632), some ((eO D.int) level_637)])) (B := (fun (w : Unit) (s : (Option (Int × Int))) => [])) (sx_if0 (bm_and (bm_of (ex_notN (e := D.int) (ex_var (d := (eO D.int) level_637) rfl) ex_c)) (bm_or (bm_of (ex_isN (e := (eP2 D.int D.int)) (ex_var (d := (eO (eP2 D.int D.int)) s_634) rfl) ex_c)) (bm_sub (e := (va D.int)) (xm_some (ex_var (d := (eO D.int) level_637) rfl)) fun t_642 h_643 => (bm_sub (e := (va (eP2 D.int D.int))) (xm_some (ex_var (d := (eO (eP2 D.int D.int)) s_634) rfl)) fun t_640 h_641 => (bm_of (ex_lt h_643 (ex_ixP h_641 ex_c rfl))))))) (sx_asg (e := (eO (eP2 D.int D.int))) (xm_sub (e := (va D.int)) (xm_some (ex_var (d := (eO D.int) level_637) rfl)) fun t_645 h_646 => (xm_pure (e := (va (eO (eP2 D.int D.int)))) (ex_tup (exa_cons (ex_var (d := D.int x_632) rfl) (exa_cons h_646 exa_nil)) rfl (Nat.le_of_ble_eq_true rfl)))) fun found_644 => (sx_endJ (x := found_644) () rfl (fun _ h => h))) (sx_endJ (x := s_634) () rfl (fun _ h => h))) fun w_648 s_647 => (sx_end (x := s_647) () rfl (fun _ h => h))))⟩) fun w_636 s_633 => (sx_ret0 (e := (eO (eP2 D.int D.int))) (xm_pure (e := (va (eO (eP2 D.int D.int)))) (ex_var (d := (eO (eP2 D.int D.int)) s_633) rfl)))))
theorem I_Curve_vvvr (S : Sto) (name : Str) (dims : Int) (joined : Bool) (parts : (List C_Part)) (n_parts : Nat) (h_parts : S[n_parts]? = some (.lst (parts.map e_Part))) : IniOkS S m_p_Curve_init 1 [D.str name, D.int dims, D.bl joined, .ref n_parts] [D.str (mk_Curve name dims joined parts).f_name, D.int (mk_Curve name dims joined parts).f_dims, D.bl (mk_Curve name dims joined parts).f_joined, (eFL e_Part) (mk_Curve name dims joined parts).f_parts] := inis_of (b := b_p_Curve_init) (n := 5) (ar := 5) (as := [D.str name, D.int dims, D.bl joined, .ref n_parts]) (by
  exact (inis_fld (fun _ => (ex_var (d := D.str name) rfl)) rfl rfl (Nat.le_of_ble_eq_true rfl) (inis_fld (fun _ => (ex_var (d := D.int dims) rfl)) rfl rfl (Nat.le_of_ble_eq_true rfl) (inis_fld (fun _ => (ex_var (d := D.bl joined) rfl)) rfl rfl (Nat.le_of_ble_eq_true rfl) (inis_fld (fun _ => (ex_fzl (ex_lstOf (e := e_Part) (ex_var (d := .ref n_parts) rfl) (qs_l (ls_pre (e := e_Part) (l := parts) h_parts))))) rfl rfl (Nat.le_of_ble_eq_true rfl) inis_end)))))
noncomputable def G_p_curve_from_0 (rows : (List Str)) (p_651 : (Str × Int × Bool)) (s_660 : (List C_Part) × (List ((List Int) × Bool))) (x_658 : Int) : Option (Fw ((List C_Part) × (List ((List Int) × Bool))) (Rq C_Curve)) := ((some (decide ((rows.length : Int) < x_658))).bind fun b => if b = true then (some (Fw.ret (Rq.er ⟨6, [x_658]⟩))) else ((idx rows (x_658 - 1)).bind fun t_663 => ((F_p_part_of t_663 x_658 p_651.2.1).bind fun z => z.on (fun x => some (Fw.ret (Rq.er x))) fun part_665 => ((some ((dget s_660.2 part_665.f_corner).isSome)).bind fun b => if b = true then (some (Fw.ret (Rq.er ⟨7, [x_658]⟩))) else ((some true).bind fun w_669 => (dputC s_660.2 part_665.f_corner w_669).bind fun seen_666 => ((some part_665).bind fun w_668 => (snoc s_660.1 w_668).bind fun parts_667 => (some (.nx (parts_667, seen_666)))))))))
noncomputable def F_p_curve_from (rows : (List Str)) : Option (Rq C_Curve) := ((idx rows 0).bind fun t_649 => ((F_p_head_of t_649).bind fun z => z.on (fun x => some (Rq.er x)) fun p_651 => ((some []).bind fun parts_652 => (((shlC 1 p_651.2.1).bind fun t_656 => (rngC 2 (2 + t_656))).bind fun xs => (loopO (ρ := (Rq C_Curve)) (G_p_curve_from_0 rows p_651) (parts_652, []) xs).bind fun w => w.on (fun s_659 => (some (Rq.ok (mk_Curve p_651.1 p_651.2.1 p_651.2.2 s_659.1)))) fun r => r))))
theorem R_p_curve_from (S : Sto) (rows : (List Str)) (r : (Rq C_Curve)) (h : F_p_curve_from rows = some r) : m_p_curve_from [(eFL D.str) rows] S = rqR (va e_Curve) r S := by
  refine def_x (e := e_Curve) (b := b_p_curve_from) (n := 8) (ar := 1) (X := F_p_curve_from rows) ?_ h
  delta F_p_curve_from
  exact (sx_sub (c := (va D.str)) (xm_ix (e := D.str) (ex_var (d := (eFL D.str) rows) rfl) (qs_l (ls_frl (e := D.str) (l := rows))) ex_c) fun t_649 h_650 => (sx_asgsX (e := (eP3 D.str D.int D.bl)) (ε := fun x => (Rq.er x)) er_x (xr_fzv (xr_call (e := (va (eP3 D.str D.int D.bl))) (exa_cons h_650 exa_nil) rfl fun S a h => R_p_head_of S t_649 a h)) (fun _ => tg_3) fun p_651 => (sx_new (e := e_Part) (xm_pure (e := (fl e_Part)) (ex_lst exa_nil rfl (Nat.le_of_ble_eq_true rfl))) fun parts_652 n_653 => (sx_dnew0 (κ := (List Int)) (β := Bool) (ek := (eTL D.int)) (f := D.bl) fun n_655 => (sx_forF (e := D.int) (E := (fun (w : Unit) (s : (List C_Part) × (List ((List Int) × Bool))) => [some ((eFL D.str) rows), some (.ref n_653), some (.ref n_655), none, some (D.str p_651.1), some (D.int p_651.2.1), some (D.bl p_651.2.2), none])) (B := (fun (w : Unit) (s : (List C_Part) × (List ((List Int) × Bool))) => [pt n_655 (.dct (eKV (eTL D.int) D.bl s.2)), pt n_653 (.lst (s.1.map e_Part))])) (Ai := []) (s0 := (parts_652, [])) (Pr := (PX (bs S) (PV (bs S) e_Curve))) (lv_x lv_v) (ι := fun r => r) (fun _ _ h => h) (ix_sub (c := (va D.int)) (xm_shl ex_c (ex_var (d := D.int p_651.2.1) rfl)) fun t_656 h_657 => (ix_r2 ex_c (ex_add ex_c h_657))) () rfl (fun _ h => h) (fun _ _ _ h => h.nil) (fun w_661 s_660 x_658 => ⟨_, tg_1, (sx_ifL (bm_of (ex_gt (ex_var (d := D.int x_658) rfl) (ex_len (e := D.str) (ex_var (d := (eFL D.str) rows) rfl) (qs_l (ls_frl (e := D.str) (l := rows)))))) (sx_assoc (sx_raiseF (ε := fun x => (Fw.ret (Rq.er x))) (is := [x_658]) er_f (exa_cons (ex_var (d := D.int x_658) rfl) exa_nil))) (sx_sub (c := (va D.str)) (xm_ix (e := D.str) (ex_var (d := (eFL D.str) rows) rfl) (qs_l (ls_frl (e := D.str) (l := rows))) (ex_sub (ex_var (d := D.int x_658) rfl) ex_c)) fun t_663 h_664 => (sx_asgX (e := e_Part) (ε := fun x => (Fw.ret (Rq.er x))) er_f (xr_fzv (xr_call (e := (va e_Part)) (exa_cons h_664 (exa_cons (ex_var (d := D.int x_658) rfl) (exa_cons (ex_var (d := D.int p_651.2.1) rfl) exa_nil))) rfl fun S a h => R_p_part_of S t_663 x_658 p_651.2.1 a h)) fun part_665 => (sx_ifL (bm_of (ex_din (ek := (eTL D.int)) (f := D.bl) (neg := false) (ex_fld (ex_var (d := e_Part part_665) rfl) rfl) (ex_var (d := .ref n_655) rfl) (j := 0) rfl)) (sx_assoc (sx_raiseF (ε := fun x => (Fw.ret (Rq.er x))) (is := [x_658]) er_f (exa_cons (ex_var (d := D.int x_658) rfl) exa_nil))) (sx_dput (ek := (eTL D.int)) (f := D.bl) (l := s_660.2) (ex_var (d := .ref n_655) rfl) (j := 0) rfl (ex_fld (ex_var (d := e_Part part_665) rfl) rfl) (xm_pure (e := (va D.bl)) ex_c) fun seen_666 => (sx_app (e := e_Part) (l := s_660.1) rfl (j := 1) rfl (xm_pure (e := (va e_Part)) (ex_var (d := e_Part part_665) rfl)) fun parts_667 => (sx_endF (x := (parts_667, seen_666)) () rfl (fun _ h => h))))))))⟩) fun w_662 s_659 => (sx_ret (e := e_Curve) (ι := Rq.ok) (fun _ _ h => h) (xm_pure (e := (va e_Curve)) (ex_newS (exa_cons (ex_var (d := D.str p_651.1) rfl) (exa_cons (ex_var (d := D.int p_651.2.1) rfl) (exa_cons (ex_var (d := D.bl p_651.2.2) rfl) (exa_cons (ex_var (d := .ref n_653) rfl) exa_nil)))) rfl (fun S hs => I_Curve_vvvr S p_651.1 p_651.2.1 p_651.2.2 s_659.1 n_653 (hs.get (j := 1) rfl).1) (fun _ => cl_Curve _ _)))))))))
noncomputable def F_p_fitted (k : Nat) (curve : C_Curve) : Option (Rq C_Curve) := ((some curve.f_joined).bind fun b => if b = true then (((F_p_meeting_of k curve).bind fun t_671 => (some t_671)).bind fun found_670 => ((some (!found_670.isNone)).bind fun b => if b = true then (found_670.bind fun t_673 => (found_670.bind fun t_675 => (found_670.bind fun t_677 => (some (Rq.er ⟨4, [t_677.2, (t_675.1 + 1), t_673.1]⟩))))) else (some (Rq.ok curve)))) else (some (Rq.ok curve)))
theorem R_p_fitted (k : Nat) (S : Sto) (curve : C_Curve) (r : (Rq C_Curve)) (h : F_p_fitted k curve = some r) : m_p_fitted [e_Curve curve] S = rqR (va e_Curve) r S := by
  refine def_x (e := e_Curve) (b := b_p_fitted) (n := 2) (ar := 1) (X := F_p_fitted k curve) ?_ h
  delta F_p_fitted
  exact (sx_if (bm_of (ex_fld (ex_var (d := e_Curve curve) rfl) rfl)) (sx_assoc (sx_asg (e := (eO (eP2 D.int D.int))) (xm_sub (e := (va (eO (eP2 D.int D.int)))) (xm_call (e := (va (eO (eP2 D.int D.int)))) (exa_cons (ex_var (d := e_Curve curve) rfl) exa_nil) rfl fun S a h => R_p_meeting_of k S curve  a h) fun t_671 h_672 => (xm_pure (e := (va (eO (eP2 D.int D.int)))) (ex_fzv h_672))) fun found_670 => (sx_assoc (sx_ifL (bm_of (ex_notN (e := (eP2 D.int D.int)) (ex_var (d := (eO (eP2 D.int D.int)) found_670) rfl) ex_c)) (sx_assoc (sx_sub (c := (va (eP2 D.int D.int))) (xm_some (ex_var (d := (eO (eP2 D.int D.int)) found_670) rfl)) fun t_673 h_674 => (sx_sub (c := (va (eP2 D.int D.int))) (xm_some (ex_var (d := (eO (eP2 D.int D.int)) found_670) rfl)) fun t_675 h_676 => (sx_sub (c := (va (eP2 D.int D.int))) (xm_some (ex_var (d := (eO (eP2 D.int D.int)) found_670) rfl)) fun t_677 h_678 => (sx_raiseF (ε := fun x => (Rq.er x)) (is := [t_673.1, (t_675.1 + 1), t_677.2]) er_x (exa_cons (ex_ixP h_674 ex_c rfl) (exa_cons (ex_fzv (ex_add (ex_ixP h_676 ex_c rfl) ex_c)) (exa_cons (ex_ixP h_678 ex_c rfl) exa_nil)))))))) (sx_nil (sx_ret (e := e_Curve) (ι := Rq.ok) (fun _ _ h => h) (xm_pure (e := (va e_Curve)) (ex_var (d := e_Curve curve) rfl)))))))) (sx_nil (sx_ret (e := e_Curve) (ι := Rq.ok) (fun _ _ h => h) (xm_pure (e := (va e_Curve)) (ex_var (d := e_Curve curve) rfl)))))
noncomputable def F_p_curve_of (k : Nat) (text : Str) : Option (Rq C_Curve) := (((okSplit text ("\n" : Str)).bind fun t_680 => (some t_680)).bind fun rows_679 => ((F_p_curve_from rows_679).bind fun z => z.on (fun x => some (Rq.er x)) fun curve_682 => ((some (decide ((1 + (curve_682.f_parts.length : Int)) < (rows_679.length : Int)))).bind fun b => if b = true then (some (Rq.er ⟨6, [(2 + (curve_682.f_parts.length : Int))]⟩)) else ((F_p_fitted k curve_682).bind fun z => z.on (fun x => some (Rq.er x)) fun r => some (Rq.ok r)))))
theorem R_p_curve_of (k : Nat) (S : Sto) (text : Str) (r : (Rq C_Curve)) (h : F_p_curve_of k text = some r) : m_p_curve_of [D.str text] S = rqR (va e_Curve) r S := by
  refine def_x (e := e_Curve) (b := b_p_curve_of) (n := 3) (ar := 1) (X := F_p_curve_of k text) ?_ h
  delta F_p_curve_of
  exact (sx_asg (e := (eFL D.str)) (xm_sub (e := (fl D.str)) (xm_split (ex_var (d := D.str text) rfl) ex_c) fun t_680 h_681 => (xm_pure (e := (va (eFL D.str))) (ex_fzl h_681))) fun rows_679 => (sx_asgX (e := e_Curve) (ε := fun x => (Rq.er x)) er_x (xr_fzv (xr_call (e := (va e_Curve)) (exa_cons (ex_var (d := (eFL D.str) rows_679) rfl) exa_nil) rfl fun S a h => R_p_curve_from S rows_679 a h)) fun curve_682 => (sx_ifL (bm_of (ex_gt (ex_len (e := D.str) (ex_var (d := (eFL D.str) rows_679) rfl) (qs_l (ls_frl (e := D.str) (l := rows_679)))) (ex_add ex_c (ex_len (e := e_Part) (ex_fld (ex_var (d := e_Curve curve_682) rfl) rfl) (qs_l (ls_frl (e := e_Part) (l := curve_682.f_parts))))))) (sx_assoc (sx_raiseF (ε := fun x => (Rq.er x)) (is := [(2 + (curve_682.f_parts.length : Int))]) er_x (exa_cons (ex_fzv (ex_add ex_c (ex_len (e := e_Part) (ex_fld (ex_var (d := e_Curve curve_682) rfl) rfl) (qs_l (ls_frl (e := e_Part) (l := curve_682.f_parts)))))) exa_nil))) (sx_retX (e := e_Curve) (ι := Rq.ok) (ε := fun x => (Rq.er x)) er_x (fun _ _ h => h) (xr_call (e := (va e_Curve)) (exa_cons (ex_var (d := e_Curve curve_682) rfl) exa_nil) rfl fun S a h => R_p_fitted k S curve_682 a h)))))
noncomputable def F_L_caught (k : Nat) (rows_here : (List Str)) (whole : Bool) : Option (Option Exn) := ((some none).bind fun caught_here_684 => (((((some whole).bind fun b => if b = true then ((joinC ("\n" : Str) rows_here).bind fun t_685 => ((F_p_curve_of k t_685).bind fun z => z.on (fun x => some (Rq.er x)) fun u_687 => (some (.ok caught_here_684)))) else ((F_p_curve_from rows_here).bind fun z => z.on (fun x => some (Rq.er x)) fun u_688 => (some (.ok caught_here_684)))) : Option (Rq (Option Exn))).bind fun z => z.on (fun x_689 => (([(6, true), (7, true), (4, true)] : List (Nat × Bool)).lookup x_689.c).bind fun b => if b = true then ((some (some x_689)).bind fun caught_here_690 => (some caught_here_690)) else none) some).bind fun s_691 => (some s_691)))
theorem R_L_caught (k : Nat) (S : Sto) (rows_here : (List Str)) (whole : Bool) (r : (Option Exn)) (h : F_L_caught k rows_here whole = some r) : m_L_caught [(eFL D.str) rows_here, D.bl whole] S = .ok (.va ((eO e_E) r)) S := by
  refine def_v (e := (eO e_E)) (b := b_L_caught) (n := 4) (ar := 2) (X := F_L_caught k rows_here whole) ?_ h
  delta F_L_caught
  exact (sx_asg (e := (eO e_E)) (xm_pure (e := (va (eO e_E))) ex_c) fun caught_here_684 => (sx_join (σ := (Option Exn)) (E := (fun (w : Unit) (s : (Option Exn)) => [some ((eFL D.str) rows_here), some (D.bl whole), some ((eO e_E) s), none])) (B := (fun (w : Unit) (s : (Option Exn)) => [])) (sx_try0 (i := 3) (tb := [(6, true), (7, true), (4, true)]) (by decide) (sx_if (bm_of (ex_var (d := D.bl whole) rfl)) (sx_assoc (sx_sub (c := (va D.str)) (xm_join ex_c (ex_var (d := (eFL D.str) rows_here) rfl) (qs_l (ls_frl (e := D.str) (l := rows_here)))) fun t_685 h_686 => (sx_exX (ε := fun x => (Rq.er x)) er_t (xr_call (e := (va e_Curve)) (exa_cons (ex_fzv h_686) exa_nil) rfl fun S a h => R_p_curve_of k S t_685 a h) fun u_687 => (sx_nil (sx_endT (x := caught_here_684) () rfl (fun _ h => h)))))) (sx_assoc (sx_exX (ε := fun x => (Rq.er x)) er_t (xr_call (e := (va e_Curve)) (exa_cons (ex_var (d := (eFL D.str) rows_here) rfl) exa_nil) rfl fun S a h => R_p_curve_from S rows_here a h) fun u_688 => (sx_nil (sx_endT (x := caught_here_684) () rfl (fun _ h => h)))))) fun x_689 => (sx_asg (e := (eO e_E)) (xm_pure (e := (va (eO e_E))) (ex_var (d := e_E x_689) rfl)) fun caught_here_690 => (sx_endJ (x := caught_here_690) () rfl (fun _ h => h)))) fun w_692 s_691 => (sx_ret0 (e := (eO e_E)) (xm_pure (e := (va (eO e_E))) (ex_var (d := (eO e_E) s_691) rfl)))))
noncomputable def G_L_law_0 (k : Nat)  (s_697 : Unit) (x_695 : Int) : Option (Fw Unit Bool) := (((F_L_mix x_695 69621).bind fun t_701 => (some t_701)).bind fun number_700 => ((some (2 + (number_700 % 2))).bind fun dims_703 => (((F_L_loose k dims_703 x_695).bind fun t_705 => (some t_705)).bind fun parts_704 => ((((some (decide (((number_700 / 2) % 2) = 1))).bind fun b => if b = true then (((F_L_joined dims_703 (number_700 / 8)).bind fun t_708 => (some t_708)).bind fun parts_707 => (some parts_707)) else (some parts_704)) : Option (List ((List Int) × (List (Int × Int)) × Bool))).bind fun s_710 => (((F_L_rows dims_703 false s_710).bind fun t_713 => (some t_713)).bind fun good_712 => (((F_L_rows dims_703 (decide (((number_700 / 4) % 2) = 1)) s_710).bind fun t_715 => ((F_L_mix x_695 39373).bind fun t_717 => ((F_L_faulty t_715 t_717).bind fun t_719 => (some t_719)))).bind fun p_721 => (((F_L_mix x_695 16807).bind fun t_723 => ((F_L_second p_721.1 p_721.2.1 t_723).bind fun t_725 => (some t_725))).bind fun rows_here_722 => (((F_L_caught k rows_here_722 true).bind fun t_727 => ((F_L_refused t_727 p_721.2.1 p_721.2.2).bind fun t_729 => (some (!t_729)))).bind fun b => if b = true then (some (.ret false)) else (((F_L_caught k rows_here_722 false).bind fun t_732 => (some t_732)).bind fun caught_here_731 => ((some (decide ((good_712.length : Int) < p_721.2.1))).bind fun b => if b = true then ((some (!caught_here_731.isNone)).bind fun b => if b = true then (some (.ret false)) else (((joinC ("\n" : Str) good_712).bind fun t_736 => (((F_p_curve_of k t_736).bind Rq.get?).bind fun t_738 => (some (!decide (t_738.f_dims = dims_703))))).bind fun b => if b = true then (some (.ret false)) else (some (.nx ())))) else (((F_L_refused caught_here_731 p_721.2.1 p_721.2.2).bind fun t_740 => (some (!t_740))).bind fun b => if b = true then (some (.ret false)) else (((joinC ("\n" : Str) good_712).bind fun t_744 => (((F_p_curve_of k t_744).bind Rq.get?).bind fun t_746 => (some (!decide (t_746.f_dims = dims_703))))).bind fun b => if b = true then (some (.ret false)) else (some (.nx ()))))))))))))))
noncomputable def F_L_law (k : Nat) (script : (List Int)) : Option Bool := (((catC (cutT script none (some 20)) [13]).bind fun t_693 => (some t_693)).bind fun xs => (loopO (ρ := Bool) (G_L_law_0 k) () xs).bind fun w => w.on (fun s_696 => (some true)) fun r => r)
theorem R_L_law (k : Nat) (S : Sto) (script : (List Int)) (r : Bool) (h : F_L_law k script = some r) : m_L_law [(eFL D.int) script] S = .ok (.va (D.bl r)) S := by
  refine def_v (e := D.bl) (b := b_L_law) (n := 10) (ar := 1) (X := F_L_law k script) ?_ h
  delta F_L_law
  exact (sx_forF (e := D.int) (E := (fun (w : Unit) (s : Unit) => [some ((eFL D.int) script), none, none, none, none, none, none, none, none, none])) (B := (fun (w : Unit) (s : Unit) => [])) (Ai := []) (s0 := ()) (Pr := (PV (bs S) D.bl)) lv_v (ι := fun r => r) (fun _ _ h => h) (ix_sub (c := (fl D.int)) (xm_catL (ex_slL (ex_var (d := (eFL D.int) script) rfl) (ls_frl (e := D.int) (l := script)) exo_none (exo_some ex_c)) (ls_fr (e := D.int) (l := (cutT script none (some 20)))) (ex_lst (exa_cons ex_c exa_nil) rfl (Nat.le_of_ble_eq_true rfl)) (ls_fr (e := D.int) (l := [13]))) fun t_693 h_694 => (ix_fr (e := D.int) h_694)) () rfl (fun _ h => h) (fun _ _ _ h => h.nil) (fun w_698 s_697 x_695 => ⟨_, tg_1, (sx_asg (e := D.int) (xm_sub (e := (va D.int)) (xm_call (e := (va D.int)) (exa_cons (ex_var (d := D.int x_695) rfl) (exa_cons ex_c exa_nil)) rfl fun S a h => R_L_mix S x_695 69621  a h) fun t_701 h_702 => (xm_pure (e := (va D.int)) (ex_fzv h_702))) fun number_700 => (sx_asg (e := D.int) (xm_pure (e := (va D.int)) (ex_fzv (ex_add ex_c (ex_modK (by decide) (ex_var (d := D.int number_700) rfl) ex_c)))) fun dims_703 => (sx_asg (e := (eFL (eP3 (eTL D.int) (eTL (eP2 D.int D.int)) D.bl))) (xm_sub (e := (fl (eP3 (eTL D.int) (eTL (eP2 D.int D.int)) D.bl))) (xm_call (e := (fl (eP3 (eTL D.int) (eTL (eP2 D.int D.int)) D.bl))) (exa_cons (ex_var (d := D.int dims_703) rfl) (exa_cons (ex_var (d := D.int x_695) rfl) exa_nil)) rfl fun S a h => R_L_loose k S dims_703 x_695  a h) fun t_705 h_706 => (xm_pure (e := (va (eFL (eP3 (eTL D.int) (eTL (eP2 D.int D.int)) D.bl)))) (ex_fzl h_706))) fun parts_704 => (sx_join (σ := (List ((List Int) × (List (Int × Int)) × Bool))) (E := (fun (w : Unit) (s : (List ((List Int) × (List (Int × Int)) × Bool))) => [some ((eFL D.int) script), some (D.int x_695), some (D.int number_700), some (D.int dims_703), some ((eFL (eP3 (eTL D.int) (eTL (eP2 D.int D.int)) D.bl)) s), none, none, none, none, none])) (B := (fun (w : Unit) (s : (List ((List Int) × (List (Int × Int)) × Bool))) => [])) (sx_if0 (bm_of (ex_eqI (ex_modK (by decide) (ex_divK (by decide +kernel) (ex_var (d := D.int number_700) rfl) ex_c) ex_c) ex_c)) (sx_asg (e := (eFL (eP3 (eTL D.int) (eTL (eP2 D.int D.int)) D.bl))) (xm_sub (e := (fl (eP3 (eTL D.int) (eTL (eP2 D.int D.int)) D.bl))) (xm_call (e := (fl (eP3 (eTL D.int) (eTL (eP2 D.int D.int)) D.bl))) (exa_cons (ex_var (d := D.int dims_703) rfl) (exa_cons (ex_fzv (ex_divK (by decide +kernel) (ex_var (d := D.int number_700) rfl) ex_c)) exa_nil)) rfl fun S a h => R_L_joined S dims_703 (number_700 / 8)  a h) fun t_708 h_709 => (xm_pure (e := (va (eFL (eP3 (eTL D.int) (eTL (eP2 D.int D.int)) D.bl)))) (ex_fzl h_709))) fun parts_707 => (sx_endJ (x := parts_707) () rfl (fun _ h => h))) (sx_endJ (x := parts_704) () rfl (fun _ h => h))) fun w_711 s_710 => (sx_asg (e := (eFL D.str)) (xm_sub (e := (fl D.str)) (xm_call (e := (fl D.str)) (exa_cons (ex_var (d := D.int dims_703) rfl) (exa_cons ex_c (exa_cons (ex_var (d := (eFL (eP3 (eTL D.int) (eTL (eP2 D.int D.int)) D.bl)) s_710) rfl) exa_nil))) rfl fun S a h => R_L_rows S dims_703 false s_710  a h) fun t_713 h_714 => (xm_pure (e := (va (eFL D.str))) (ex_fzl h_714))) fun good_712 => (sx_asgs (e := (eP3 (eFL D.str) D.int D.str)) (xm_sub (e := (fl D.str)) (xm_call (e := (fl D.str)) (exa_cons (ex_var (d := D.int dims_703) rfl) (exa_cons (ex_eqI (ex_modK (by decide) (ex_divK (by decide +kernel) (ex_var (d := D.int number_700) rfl) ex_c) ex_c) ex_c) (exa_cons (ex_var (d := (eFL (eP3 (eTL D.int) (eTL (eP2 D.int D.int)) D.bl)) s_710) rfl) exa_nil))) rfl fun S a h => R_L_rows S dims_703 (decide (((number_700 / 4) % 2) = 1)) s_710  a h) fun t_715 h_716 => (xm_sub (e := (va D.int)) (xm_call (e := (va D.int)) (exa_cons (ex_var (d := D.int x_695) rfl) (exa_cons ex_c exa_nil)) rfl fun S a h => R_L_mix S x_695 39373  a h) fun t_717 h_718 => (xm_sub (e := (va (eP3 (eFL D.str) D.int D.str))) (xm_call (e := (va (eP3 (eFL D.str) D.int D.str))) (exa_cons (ex_fzl h_716) (exa_cons (ex_fzv h_718) exa_nil)) rfl fun S a h => R_L_faulty S t_715 t_717  a h) fun t_719 h_720 => (xm_pure (e := (va (eP3 (eFL D.str) D.int D.str))) (ex_fzv h_720))))) (fun _ => tg_3) fun p_721 => (sx_asg (e := (eFL D.str)) (xm_sub (e := (va D.int)) (xm_call (e := (va D.int)) (exa_cons (ex_var (d := D.int x_695) rfl) (exa_cons ex_c exa_nil)) rfl fun S a h => R_L_mix S x_695 16807  a h) fun t_723 h_724 => (xm_sub (e := (va (eFL D.str))) (xm_call (e := (va (eFL D.str))) (exa_cons (ex_var (d := (eFL D.str) p_721.1) rfl) (exa_cons (ex_var (d := D.int p_721.2.1) rfl) (exa_cons (ex_fzv h_724) exa_nil))) rfl fun S a h => R_L_second S p_721.1 p_721.2.1 t_723  a h) fun t_725 h_726 => (xm_pure (e := (va (eFL D.str))) (ex_fzv h_726)))) fun rows_here_722 => (sx_ifL (bm_sub (e := (va (eO e_E))) (xm_call (e := (va (eO e_E))) (exa_cons (ex_var (d := (eFL D.str) rows_here_722) rfl) (exa_cons ex_c exa_nil)) rfl fun S a h => R_L_caught k S rows_here_722 true  a h) fun t_727 h_728 => (bm_sub (e := (va D.bl)) (xm_call (e := (va D.bl)) (exa_cons (ex_fzv h_728) (exa_cons (ex_var (d := D.int p_721.2.1) rfl) (exa_cons (ex_var (d := D.str p_721.2.2) rfl) exa_nil))) rfl fun S a h => R_L_refused S t_727 p_721.2.1 p_721.2.2  a h) fun t_729 h_730 => (bm_not (bm_of h_730)))) (sx_assoc (sx_ret (e := D.bl) (ι := Fw.ret) (fun _ _ h => h) (xm_pure (e := (va D.bl)) ex_c))) (sx_asg (e := (eO e_E)) (xm_sub (e := (va (eO e_E))) (xm_call (e := (va (eO e_E))) (exa_cons (ex_var (d := (eFL D.str) rows_here_722) rfl) (exa_cons ex_c exa_nil)) rfl fun S a h => R_L_caught k S rows_here_722 false  a h) fun t_732 h_733 => (xm_pure (e := (va (eO e_E))) (ex_fzv h_733))) fun caught_here_731 => (sx_if (bm_of (ex_gt (ex_var (d := D.int p_721.2.1) rfl) (ex_len (e := D.str) (ex_var (d := (eFL D.str) good_712) rfl) (qs_l (ls_frl (e := D.str) (l := good_712)))))) (sx_assoc (sx_ifL (bm_of (ex_notN (e := e_E) (ex_var (d := (eO e_E) caught_here_731) rfl) ex_c)) (sx_assoc (sx_ret (e := D.bl) (ι := Fw.ret) (fun _ _ h => h) (xm_pure (e := (va D.bl)) ex_c))) (sx_nil (sx_ifL (bm_sub (e := (va D.str)) (xm_join ex_c (ex_var (d := (eFL D.str) good_712) rfl) (qs_l (ls_frl (e := D.str) (l := good_712)))) fun t_736 h_737 => (bm_sub (e := (va e_Curve)) (xm_get (xr_call (e := (va e_Curve)) (exa_cons (ex_fzv h_737) exa_nil) rfl fun S a h => R_p_curve_of k S t_736 a h)) fun t_738 h_739 => (bm_of (ex_neI (ex_fld h_739 rfl) (ex_var (d := D.int dims_703) rfl))))) (sx_assoc (sx_ret (e := D.bl) (ι := Fw.ret) (fun _ _ h => h) (xm_pure (e := (va D.bl)) ex_c))) (sx_endF (x := ()) () rfl (fun _ h => h)))))) (sx_assoc (sx_ifL (bm_sub (e := (va D.bl)) (xm_call (e := (va D.bl)) (exa_cons (ex_var (d := (eO e_E) caught_here_731) rfl) (exa_cons (ex_var (d := D.int p_721.2.1) rfl) (exa_cons (ex_var (d := D.str p_721.2.2) rfl) exa_nil))) rfl fun S a h => R_L_refused S caught_here_731 p_721.2.1 p_721.2.2  a h) fun t_740 h_741 => (bm_not (bm_of h_741))) (sx_assoc (sx_ret (e := D.bl) (ι := Fw.ret) (fun _ _ h => h) (xm_pure (e := (va D.bl)) ex_c))) (sx_nil (sx_ifL (bm_sub (e := (va D.str)) (xm_join ex_c (ex_var (d := (eFL D.str) good_712) rfl) (qs_l (ls_frl (e := D.str) (l := good_712)))) fun t_744 h_745 => (bm_sub (e := (va e_Curve)) (xm_get (xr_call (e := (va e_Curve)) (exa_cons (ex_fzv h_745) exa_nil) rfl fun S a h => R_p_curve_of k S t_744 a h)) fun t_746 h_747 => (bm_of (ex_neI (ex_fld h_747 rfl) (ex_var (d := D.int dims_703) rfl))))) (sx_assoc (sx_ret (e := D.bl) (ι := Fw.ret) (fun _ _ h => h) (xm_pure (e := (va D.bl)) ex_c))) (sx_endF (x := ()) () rfl (fun _ h => h))))))))))))))))⟩) fun w_699 s_696 => (sx_ret0 (e := D.bl) (xm_pure (e := (va D.bl)) ex_c)))
end Pf
set_option Elab.async false
set_option linter.all false
set_option maxRecDepth 100000
set_option maxHeartbeats 4000000
set_option autoImplicit false
namespace Pf
open PySem L2 Cy
section
variable {d : Nat} (hd : Dm d) {t u : Turn} {c : Cor}
include hd
theorem T_small (h : t ∈ Ts d) : t.length ≤ 3 := by have := (T_ok hd h).1; rcases hd with rfl | rfl <;> omega
end
/-- a curve of these parts -/
def crv (nm : Str) (d : Nat) (j : Bool) (ps : List Prt) : C_Curve := mk_Curve nm d j (ps.map fun p => mk_Part p.1 p.2.1 p.2.2)
section
variable {d : Nat} (hd : Dm d) {t u : Turn} {c : Cor}
include hd
theorem l_turned (h : t ∈ Ts d) (hc : c ∈ Cs d) : F_L_turned t c = some (tw t c) := by
  obtain ⟨l1, t1⟩ := T_ok hd h
  have lc := (C_ok hd hc).1
  have := T_small hd h
  unfold F_L_turned
  rw [sbind, fits_ok (by omega), sbind, mapO_pure (f := fun p => x2 (c.getD p.1.toNat 0) p.2) fun p hp => by
    obtain ⟨a, b, _⟩ := t1 p hp
    rw [idx_getD 0 a (by omega)]; rfl]
  rfl
theorem l_corners : F_L_corners d = some (Cs d) := by rcases hd with rfl | rfl <;> decide +kernel
end
theorem div_ok {n j : Int} (h : j = 1 ∨ j = 2 ∨ j = 4) : divC n j = some (n / j) := by
  rcases h with rfl | rfl | rfl <;> exact divC_ok (by decide) (by decide +kernel)
def ax2 (n : Int) : List Int := if n / 8 % 2 = 1 then [1, 0] else [0, 1]
theorem turn2 (n : Int) : F_L_turn n 2 = some ((ax2 n).zip [n / 1 % 2, n / 2 % 2]) := by
  unfold F_L_turn ax2
  rw [sbind, sbind, if_neg (by decide), sbind]
  by_cases h : n / 8 % 2 = 1
  · rw [decide_eq_true h, if_pos rfl, sbind, sbind, sbind, if_pos h, show rngC 0 2 = some [0, 1] from rfl]
    show (((some [(0 : Int), 1]).bind _).bind _) = _
    rw [sbind, show fits [(0 : Int), 1] = some [0, 1] from rfl, sbind]
    simp only [mapO]
    rw [show idx [(1 : Int), 0] 0 = some 1 from rfl, show idx [(1 : Int), 0] 1 = some 0 from rfl, show idx [(1 : Int), 2, 4] 0 = some 1 from rfl, show idx [(1 : Int), 2, 4] 1 = some 2 from rfl]
    simp only [sbind, div_ok (n := n) (.inl rfl), div_ok (n := n) (.inr (.inl rfl))]
    rfl
  · rw [decide_eq_false h, if_neg (by decide), sbind, sbind, if_neg h, show rngC 0 2 = some [0, 1] from rfl]
    show (((some [(0 : Int), 1]).bind _).bind _) = _
    rw [sbind, show fits [(0 : Int), 1] = some [0, 1] from rfl, sbind]
    simp only [mapO]
    rw [show idx [(0 : Int), 1] 0 = some 0 from rfl, show idx [(0 : Int), 1] 1 = some 1 from rfl, show idx [(1 : Int), 2, 4] 0 = some 1 from rfl, show idx [(1 : Int), 2, 4] 1 = some 2 from rfl]
    simp only [sbind, div_ok (n := n) (.inl rfl), div_ok (n := n) (.inr (.inl rfl))]
    rfl
theorem turn3 (n : Int) : ∃ a ∈ perms 3, F_L_turn n 3 = some (a.zip [n / 1 % 2, n / 2 % 2, n / 4 % 2]) := by
  unfold F_L_turn
  obtain ⟨a, ha, ma⟩ := idx_mem (l := [[(0 : Int), 1, 2], [0, 2, 1], [1, 0, 2], [1, 2, 0], [2, 0, 1], [2, 1, 0]]) (i := n / 8 % 6) (by omega) (by simp; omega)
  refine ⟨a, ma, ?_⟩
  rw [sbind, sbind, if_pos (by decide), ha, sbind, sbind, show rngC 0 3 = some [0, 1, 2] from rfl]
  show (((some [(0 : Int), 1, 2]).bind _).bind _) = _
  rw [sbind, show fits [(0 : Int), 1, 2] = some [0, 1, 2] from rfl, sbind]
  have hl : a.length = 3 := by
    simp only [List.mem_cons, List.not_mem_nil, or_false] at ma
    rcases ma with rfl | rfl | rfl | rfl | rfl | rfl <;> rfl
  match a, hl with
  | [x, y, z], _ =>
    simp only [mapO]
    rw [show idx [x, y, z] 0 = some x from rfl, show idx [x, y, z] 1 = some y from rfl, show idx [x, y, z] 2 = some z from rfl, show idx [(1 : Int), 2, 4] 0 = some 1 from rfl, show idx [(1 : Int), 2, 4] 1 = some 2 from rfl, show idx [(1 : Int), 2, 4] 2 = some 4 from rfl]
    simp only [sbind, div_ok (n := n) (.inl rfl), div_ok (n := n) (.inr (.inl rfl)), div_ok (n := n) (.inr (.inr rfl))]
    rfl
theorem zip_T2 : ((perms 2).all fun p => (flips 2).all fun f => (Ts 2).contains (p.zip f)) = true := by decide +kernel
theorem zip_T3 : ((perms 3).all fun p => (flips 3).all fun f => (Ts 3).contains (p.zip f)) = true := by decide +kernel
theorem l_turn {d : Nat} (hd : Dm d) (n : Int) : ∃ t, F_L_turn n d = some t ∧ t ∈ Ts d := by
  have e : ∀ x : Int, x % 2 = 0 ∨ x % 2 = 1 := fun x => by omega
  rcases hd with rfl | rfl
  · refine ⟨_, turn2 n, ?_⟩
    have h1 : ax2 n ∈ perms 2 := by unfold ax2; split <;> decide
    have h2 : [n / 1 % 2, n / 2 % 2] ∈ flips 2 := by rcases e (n / 1) with a | a <;> rcases e (n / 2) with b | b <;> rw [a, b] <;> decide
    exact List.contains_iff_mem.mp (List.all_eq_true.mp (List.all_eq_true.mp zip_T2 _ h1) _ h2)
  · obtain ⟨a, ha, he⟩ := turn3 n
    refine ⟨_, he, ?_⟩
    have h2 : [n / 1 % 2, n / 2 % 2, n / 4 % 2] ∈ flips 3 := by rcases e (n / 1) with a | a <;> rcases e (n / 2) with b | b <;> rcases e (n / 4) with c | c <;> rw [a, b, c] <;> decide
    exact List.contains_iff_mem.mp (List.all_eq_true.mp (List.all_eq_true.mp zip_T3 _ ha) _ h2)
theorem lund2 : ((Ts 2).all fun t => decide (F_L_undone t = some ((un 2 t).map some))) = true := by decide +kernel
theorem lund3 : ((Ts 3).all fun t => decide (F_L_undone t = some ((un 3 t).map some))) = true := by decide +kernel
theorem l_undone {d : Nat} (hd : Dm d) {t : Turn} (h : t ∈ Ts d) : F_L_undone t = some ((un d t).map some) := by
  rcases hd with rfl | rfl
  · exact of_decide_eq_true (List.all_eq_true.mp lund2 t h)
  · exact of_decide_eq_true (List.all_eq_true.mp lund3 t h)
theorem l_afterO {d : Nat} (hd : Dm d) {t u : Turn} (h : t ∈ Ts d) (k : u ∈ Ts d) : F_L_after t (u.map some) = some (af t u) := by
  obtain ⟨l1, t1⟩ := T_ok hd h
  have lu := (T_ok hd k).1
  have := T_small hd h
  unfold F_L_after
  rw [sbind, fits_ok (by omega), sbind, mapO_pure (f := fun p => ((u.getD p.1.toNat (0, 0)).1, x2 (u.getD p.1.toNat (0, 0)).2 p.2)) fun p hp => by
    obtain ⟨a, b, _⟩ := t1 p hp
    have hn : p.1.toNat < u.length := by omega
    have e : idx (u.map some) p.1 = some (some (u.getD p.1.toNat (0, 0))) := by
      rw [idx_ge a, List.getElem?_map, List.getElem?_eq_getElem hn, List.getD_eq_getElem?_getD, List.getElem?_eq_getElem hn]; rfl
    rw [e]; rfl]
  rfl
theorem mix_ok (c f : Int) (hf : f.natAbs < 1000000) : ∃ v, F_L_mix c f = some v ∧ 0 ≤ v := by
  unfold F_L_mix
  rw [mulC_r (by omega), sbind, sbind]
  have b := mod_bd (c * f + 12345) (j := 2147483647) (by omega)
  generalize (c * f + 12345) % 2147483647 = d at *
  rw [mulC_r (by omega), sbind]
  exact ⟨_, rfl, by omega⟩
/-- what is left and what is made -/
structure Inv (d : Nat) (s : List Cor × List Prt) : Prop where
  prm : (s.2.map (·.1) ++ s.1).Perm (Cs d)
  trn : ∀ p ∈ s.2, p.2.1 ∈ Ts d
theorem l_loose {d : Nat} (hd : Dm d) (c : Int) (k : Nat) (hk : 8 < k) : ∃ ps, F_L_loose k d c = some ps ∧ PartsOk d ps := by
  unfold F_L_loose
  rw [l_corners hd, sbind, sbind]
  have hlen : ∀ s, Inv d s → s.2.length + s.1.length = 2 ^ d := fun s h => by
    have := h.prm.length_eq
    rwa [List.length_append, List.length_map, Cs_len hd] at this
  have h8 : 2 ^ d ≤ 8 := by rcases hd with rfl | rfl <;> decide
  obtain ⟨s, h1, h2, h3⟩ := while_inv (C := H_L_loose_0) (F := G_L_loose_1 c d) (Inv d) (fun s => s.1.length) (fun s hI => by
    refine ⟨_, rfl, fun hb => ?_⟩
    have hne : s.1 ≠ [] := fun e => by simp [e] at hb
    have hp : 0 < s.1.length := List.length_pos_iff.mpr hne
    have hl := hlen s hI
    obtain ⟨v, hv, v0⟩ := mix_ok c (48271 + 997 * (s.1.length : Int)) (by omega)
    have hm := mod_bd v (j := (s.1.length : Int)) (by omega)
    obtain ⟨a, r, e1, e2⟩ := pop_ok (l := s.1) hm.1 hm.2 (by omega)
    obtain ⟨t, ht, mt⟩ := l_turn hd (v / 8)
    refine ⟨(r, s.2 ++ [(a, t, decide (v / 800 % 2 = 1))]), ?_, ⟨?_, ?_⟩, ?_⟩
    · unfold G_L_loose_1
      rw [hv, sbind, sbind, modC_pos (by omega), sbind, e1, sbind, ht, sbind, sbind, snoc_ok (by omega)]; rfl
    · refine List.Perm.trans ?_ hI.prm
      rw [List.map_append, List.append_assoc]
      exact List.Perm.append_left _ e2
    · intro p hp
      rcases List.mem_append.mp hp with hp | hp
      · exact hI.trn p hp
      · rw [List.mem_singleton.mp hp]; exact mt
    · have := e2.length_eq
      rw [List.length_cons] at this
      show r.length < s.1.length
      omega) k (Cs d, []) ⟨List.Perm.refl _, fun p hp => by simp at hp⟩ (by show (Cs d).length < k; rw [Cs_len hd]; omega)
  rw [h1, sbind]
  refine ⟨s.2, rfl, ?_⟩
  have hs : s.1 = [] := by
    have : (!decide (s.1 = [])) = false := Option.some.inj h3
    simpa using this
  have hp := h2.prm
  rw [hs, List.append_nil] at hp
  refine ⟨by have := hlen s h2; rw [hs] at this; simpa using this, fun p hp2 => ?_, h2.trn, hp.nodup_iff.mpr (Cs_nd hd)⟩
  exact hp.mem_iff.mp (List.mem_map_of_mem hp2)
theorem l_base {d : Nat} (hd : Dm d) : F_L_base d = some (base d) := by rcases hd with rfl | rfl <;> decide +kernel
theorem l_mir {d : Nat} (hd : Dm d) : ((rngC 0 (d : Int)).bind fun xs => (fits xs).bind fun xs => some (xs.map fun (x : Int) => (x, (b2i (decide (x = 0)))))) = some (mir d) := by rcases hd with rfl | rfl <;> decide +kernel
theorem l_joined {d : Nat} (hd : Dm d) (n : Int) : ∃ t, t ∈ Ts d ∧ F_L_turn n d = some t ∧ F_L_joined d n = some (jnd d t (decide (n / 48 % 2 = 1)) (n / 96)) := by
  obtain ⟨t, ht, mt⟩ := l_turn hd n
  refine ⟨t, mt, ht, ?_⟩
  obtain ⟨u1, _, _⟩ := un_ok hd mt
  have mm := mir_mem hd
  have h8 : (base d).length ≤ 8 := by rcases hd with rfl | rfl <;> decide
  unfold F_L_joined
  rw [l_base hd, sbind, sbind, ht, sbind, sbind]
  have er : (((some (decide (n / 48 % 2 = 1))).bind fun b => if b = true then ((some (base d).reverse).bind fun base_here => some base_here) else some (base d)) : Option (List (Cor × Turn))) = some (bsr d (decide (n / 48 % 2 = 1))) := by
    unfold bsr
    rw [sbind]
    split <;> rfl
  rw [er, sbind, l_mir hd, sbind, sbind, l_undone hd mt, sbind, l_afterO hd mm u1, sbind]
  show (((F_L_after t ((af (mir d) (un d t)).map some)).bind _).bind _) = _
  rw [l_afterO hd mt (af_mem hd mm u1), sbind, sbind, sbind, sbind, sbind, show af t (af (mir d) (un d t)) = cj d t (mir d) from rfl]
  have hb8 : (bsr d (decide (n / 48 % 2 = 1))).length ≤ 8 := by unfold bsr; split <;> simpa using h8
  have hbs := bsr_ok hd (decide (n / 48 % 2 = 1))
  obtain ⟨s, h1, h2⟩ := fold_inv (F := G_L_joined_0 t (cj d t (mir d))) (fun i s => s = (n / 96 / 2 ^ i, ((bsr d (decide (n / 48 % 2 = 1))).take i).zipIdx.map fun p => jpart d t (n / 96) p.2 p.1)) (bsr d (decide (n / 48 % 2 = 1))) (n / 96, []) (by simp) (fun i a s ha hs => by
    subst hs
    have hi : i < (bsr d (decide (n / 48 % 2 = 1))).length := (List.getElem?_eq_some_iff.mp ha).1
    have hm := hbs a (List.mem_of_getElem? ha)
    refine ⟨_, ?_, rfl⟩
    unfold G_L_joined_0
    dsimp only
    rw [l_undone hd mt, sbind, l_afterO hd hm.2 u1, sbind]
    have e1 : F_L_after t (List.map (fun x => some x) (af a.2 (un d t))) = some (cj d t a.2) := l_afterO hd mt (af_mem hd hm.2 u1)
    rw [e1, sbind, sbind]
    have e2 : F_L_after (cj d t a.2) (List.map (fun x => some x) (cj d t (mir d))) = some (af (cj d t a.2) (cj d t (mir d))) := l_afterO hd (cj_mem hd mt hm.2) (cj_mem hd mt mm)
    rw [e2, l_turned hd mt hm.1, sbind]
    have e3 : ((if decide (n / 96 / 2 ^ i % 2 = 1) = true then (some (af (cj d t a.2) (cj d t (mir d)))).bind fun lies => some lies else some (cj d t a.2)) : Option Turn) = some (if n / 96 / 2 ^ i % 2 = 1 then af (cj d t a.2) (cj d t (mir d)) else cj d t a.2) := by
      by_cases q : n / 96 / 2 ^ i % 2 = 1
      · rw [decide_eq_true q, if_pos rfl, if_pos q]; rfl
      · rw [decide_eq_false q, if_neg (by decide), if_neg q]
    rw [sbind, e3, sbind, sbind, sbind, snoc_ok (by rw [List.length_map, List.length_zipIdx, List.length_take]; omega), sbind, sbind]
    have e4 : n / 96 / 2 ^ i / 2 = n / 96 / 2 ^ (i + 1) := by
      rw [Int.pow_succ, Int.ediv_ediv_of_nonneg (Int.le_of_lt (two_pos i))]
    have e5 : (bsr d (decide (n / 48 % 2 = 1))).take (i + 1) = (bsr d (decide (n / 48 % 2 = 1))).take i ++ [a] := by
      rw [List.take_add_one, ha]; rfl
    rw [e4, e5, List.zipIdx_append, List.map_append]
    have e6 : ((bsr d (decide (n / 48 % 2 = 1))).take i).length = i := by rw [List.length_take]; omega
    rw [e6]
    simp [jpart])
  rw [h1, sbind, h2, List.take_length]
  rfl
theorem dims_of (n : Int) : ∃ d : Nat, Dm d ∧ 2 + n % 2 = (d : Int) := by
  rcases (show n % 2 = 0 ∨ n % 2 = 1 by omega) with h | h
  · exact ⟨2, .inl rfl, by omega⟩
  · exact ⟨3, .inr rfl, by omega⟩
def WordOk (W : Str) : Prop := 1 ≤ W.length ∧ W.length ≤ 12 ∧ ∀ c ∈ TL.tl W, 97 ≤ c ∧ c ≤ 122
theorem letters_mem : ((List.range 26).all fun i => ("abcdefghijklmnopqrstuvwxyz" : Str).cps.toList.contains (97 + i)) = true := by decide +kernel
theorem p_is_word {W : Str} (h : WordOk W) : F_p_is_word W = some true := by
  have hz := line_big
  unfold F_p_is_word F_p_is_of lenS okStrip
  rw [if_pos (by have := h.2.1; omega), sbind, sbind, decide_eq_true (by have := h.1; omega), decide_eq_true (by have := h.2.1; omega), if_pos (by rfl), if_pos (by have := h.2.1; omega), sbind, strip_none]
  congr 1
  refine List.all_eq_true.mpr fun c hc => decide_eq_true ?_
  have hb := h.2.2 c hc
  have := List.all_eq_true.mp letters_mem (c - 97) (List.mem_range.mpr (by omega))
  rw [show 97 + (c - 97) = c by omega] at this
  exact List.contains_iff_mem.mp this
/-- a curve's first row -/
def prmS (j : Bool) : Str := if j = true then "joined" else "loose"
def dimS (d : Nat) : Str := if d = 2 then "2" else "3"
def hdW (W : Str) (d : Nat) (j : Bool) : Str := Txt.join (" " : Str) ["curve", W, prmS j, dimS d]
theorem tl_hdW (W : Str) (d : Nat) (j : Bool) : TL.tl (hdW W d j) = [99, 117, 114, 118, 101, 32] ++ TL.tl W ++ [32] ++ TL.tl (prmS j) ++ [32] ++ TL.tl (dimS d) := by
  unfold hdW
  rw [TL.join_eq, TL.tl_join]
  show TL.tl ("curve" : Str) ++ (TL.tl (" " : Str) ++ (TL.tl W ++ (TL.tl (" " : Str) ++ (TL.tl (prmS j) ++ (TL.tl (" " : Str) ++ TL.tl (dimS d)))))) = _
  rw [show TL.tl ("curve" : Str) = [99, 117, 114, 118, 101] from by decide +kernel, show TL.tl (" " : Str) = [32] from by decide +kernel]
  simp only [List.append_assoc, List.cons_append, List.nil_append]
theorem prm_len (j : Bool) : (prmS j).length ≤ 6 := by cases j <;> decide
theorem dim_len (d : Nat) : (dimS d).length = 1 := by unfold dimS; split <;> decide
theorem hdW_len {W : Str} (h : WordOk W) (d : Nat) (j : Bool) : (hdW W d j).length ≤ 40 := by
  rw [TL.len_tl, tl_hdW]
  have h1 := h.2.1
  have h2 := prm_len j
  have h3 := dim_len d
  rw [TL.len_tl] at h1 h2 h3
  simp only [List.length_append, List.length_cons, List.length_nil]
  omega
theorem hdW_free {W : Str} (h : WordOk W) {d : Nat} (j : Bool) : 10 ∉ TL.tl (hdW W d j) := by
  rw [tl_hdW]
  intro hm
  have h1 : (10 : Nat) ∉ TL.tl W := fun z => by have := h.2.2 10 z; omega
  have h2 : (10 : Nat) ∉ TL.tl (prmS j) := by cases j <;> decide +kernel
  have h3 : (10 : Nat) ∉ TL.tl (dimS d) := by unfold dimS; split <;> decide +kernel
  simp only [List.mem_append, List.mem_cons, List.not_mem_nil, or_false] at hm
  rcases hm with ((((hm | hm) | hm) | hm) | hm) | hm
  · omega
  · exact h1 hm
  · omega
  · exact h2 hm
  · omega
  · exact h3 hm
theorem cat_ok {x y : Str} (h : x.length + y.length ≤ 16777216) : catS x y = some (x ++ y) := if_pos (Nat.le_trans h line_big)
theorem len_cat (x y : Str) : (x ++ y).length = x.length + y.length := by rw [TL.len_tl, TL.tl_append, List.length_append, ← TL.len_tl, ← TL.len_tl]
theorem p_head {W : Str} (h : WordOk W) {d : Nat} (hd : Dm d) (j : Bool) : F_p_head_of (hdW W d j) = some (Rq.ok (W, (d : Int), j)) := by
  have hz := line_big
  have hsp : Txt.split (hdW W d j) (" " : Str) = [("curve" : Str), W, prmS j, dimS d] := TL.split_join (s := 32) (S := []) (by decide +kernel) (by decide +kernel) (by simp) fun p hp => by
    simp only [List.mem_cons, List.not_mem_nil, or_false] at hp
    rcases hp with rfl | rfl | rfl | rfl
    · decide +kernel
    · exact fun z => by have := h.2.2 32 z; omega
    · cases j <;> decide +kernel
    · unfold dimS; split <;> decide +kernel
  have hl := hdW_len h d j
  unfold F_p_head_of okSplit
  rw [hsp, if_pos ⟨by decide, by omega, by simp; omega⟩, sbind, sbind, show idx [("curve" : Str), W, prmS j, dimS d] 0 = some ("curve" : Str) from rfl, show idx [("curve" : Str), W, prmS j, dimS d] 1 = some W from rfl, show idx [("curve" : Str), W, prmS j, dimS d] 2 = some (prmS j) from rfl, show idx [("curve" : Str), W, prmS j, dimS d] 3 = some (dimS d) from rfl]
  have f1 : memC D.str (prmS j) [(("joined" : Str), ("loose" : Str)).1, (("joined" : Str), ("loose" : Str)).2] = some true := by cases j <;> decide +kernel
  have f2 : memC D.str (dimS d) [(("2" : Str), ("3" : Str)).1, (("2" : Str), ("3" : Str)).2] = some true := by rcases hd with rfl | rfl <;> decide +kernel
  have f3 : intT (dimS d) = some (d : Int) := by rcases hd with rfl | rfl <;> decide +kernel
  have f4 : decide (prmS j = ("joined" : Str)) = j := by cases j <;> decide +kernel
  rw [show decide ((([("curve" : Str), W, prmS j, dimS d].length : Nat) : Int) = 4) = true from rfl, sbind, if_neg (by decide), sbind, sbind, decide_eq_true rfl, if_neg (by decide), sbind, p_is_word h, sbind, sbind, if_neg (by decide), sbind, f1]
  rw [show Option.map (fun x => !x) (some true) = some false from rfl, sbind, sbind, if_neg (by decide), sbind, f2]
  rw [show Option.map (fun x => !x) (some true) = some false from rfl, sbind, sbind, if_neg (by decide), sbind, sbind, f3, sbind, sbind, f4]
  all_goals rfl
def cS (c : Cor) : Str := ⟨(c.map fun b => if b = 0 then 48 else 49).toArray⟩
def tS (t : Turn) : Str := ⟨(t.flatMap fun p => [if p.2 = 0 then 43 else 45, 120 + p.1.toNat]).toArray⟩
def wS (p : Prt) : List Str := if p.2.2 = true then ["part", cS p.1, tS p.2.1, "back"] else ["part", cS p.1, tS p.2.1]
def rowS (p : Prt) : Str := Txt.join (" " : Str) (wS p)
def okW (x : Str) (n : Nat) : Bool := decide (x.length ≤ n) && ((TL.tl x).all fun c => decide (33 ≤ c) && decide (c < 128))
theorem cs_all : ([2, 3].all fun d => (Cs d).all fun c => okW (cS c) 3) = true := by decide +kernel
theorem ts_all : ([2, 3].all fun d => (Ts d).all fun t => okW (tS t) 6) = true := by decide +kernel
theorem cs_of : ([2, 3].all fun d => (Cs d).all fun c => decide (F_p_corner_of (cS c) (d : Nat) = some (some c))) = true := by decide +kernel
theorem ts_of2 : ((Ts 2).all fun t => decide (F_p_turn_of (tS t) 2 = some (some t))) = true := by decide +kernel
theorem ts_of3 : ((Ts 3).all fun t => decide (F_p_turn_of (tS t) 3 = some (some t))) = true := by decide +kernel
noncomputable def ctL (c : Cor) : Option Str := ((some c).bind fun xs => (fits xs).bind (mapO fun (x : Int) => ((strI x).bind fun t => (some t)))).bind fun t => joinC ("" : Str) t
noncomputable def ttL (t : Turn) : Option Str := ((some t).bind fun xs => (fits xs).bind (mapO fun (x : (Int × Int)) => ((chr ("+-" : Str) x.2).bind fun a => ((chr ("xyz" : Str) x.1).bind fun b => ((catS a b).bind fun c => (some c)))))).bind fun t => joinC ("" : Str) t
theorem cl_to : ([2, 3].all fun d => (Cs d).all fun c => decide (ctL c = some (cS c))) = true := by decide +kernel
theorem tl_to2 : ((Ts 2).all fun t => decide (ttL t = some (tS t))) = true := by decide +kernel
theorem tl_to3 : ((Ts 3).all fun t => decide (ttL t = some (tS t))) = true := by decide +kernel
theorem mem23 {d : Nat} (hd : Dm d) : d ∈ [2, 3] := by rcases hd with rfl | rfl <;> simp
theorem okW_ok {x : Str} {n : Nat} (h : okW x n = true) : x.length ≤ n ∧ ∀ c ∈ TL.tl x, 33 ≤ c ∧ c < 128 := by
  obtain ⟨h1, h2⟩ := Bool.and_eq_true_iff.mp h
  refine ⟨of_decide_eq_true h1, fun c hc => ?_⟩
  obtain ⟨a, b⟩ := Bool.and_eq_true_iff.mp (List.all_eq_true.mp h2 c hc)
  exact ⟨of_decide_eq_true a, of_decide_eq_true b⟩
section
variable {d : Nat} (hd : Dm d)
include hd
theorem cS_ok {c : Cor} (h : c ∈ Cs d) : (cS c).length ≤ 3 ∧ ∀ x ∈ TL.tl (cS c), 33 ≤ x ∧ x < 128 := okW_ok (List.all_eq_true.mp (List.all_eq_true.mp cs_all d (mem23 hd)) c h)
theorem tS_ok {t : Turn} (h : t ∈ Ts d) : (tS t).length ≤ 6 ∧ ∀ x ∈ TL.tl (tS t), 33 ≤ x ∧ x < 128 := okW_ok (List.all_eq_true.mp (List.all_eq_true.mp ts_all d (mem23 hd)) t h)
theorem cl_ok {c : Cor} (h : c ∈ Cs d) : ctL c = some (cS c) := of_decide_eq_true (List.all_eq_true.mp (List.all_eq_true.mp cl_to d (mem23 hd)) c h)
theorem tl_ok {t : Turn} (h : t ∈ Ts d) : ttL t = some (tS t) := by
  rcases hd with rfl | rfl
  · exact of_decide_eq_true (List.all_eq_true.mp tl_to2 t h)
  · exact of_decide_eq_true (List.all_eq_true.mp tl_to3 t h)
theorem p_corner_of {c : Cor} (h : c ∈ Cs d) : F_p_corner_of (cS c) d = some (some c) := of_decide_eq_true (List.all_eq_true.mp (List.all_eq_true.mp cs_of d (mem23 hd)) c h)
theorem p_turn_of {t : Turn} (h : t ∈ Ts d) : F_p_turn_of (tS t) d = some (some t) := by
  rcases hd with rfl | rfl
  · exact of_decide_eq_true (List.all_eq_true.mp ts_of2 t h)
  · exact of_decide_eq_true (List.all_eq_true.mp ts_of3 t h)
variable {p : Prt} (hc : p.1 ∈ Cs d) (ht : p.2.1 ∈ Ts d)
include hc ht
theorem wS_ok : ∀ x ∈ wS p, x.length ≤ 6 ∧ ∀ c ∈ TL.tl x, 33 ≤ c ∧ c < 128 := fun x hx => by
  have h1 := cS_ok hd hc
  have h2 := tS_ok hd ht
  have h3 : ("part" : Str).length ≤ 6 ∧ ∀ c ∈ TL.tl ("part" : Str), 33 ≤ c ∧ c < 128 := okW_ok (by decide +kernel)
  have h4 : ("back" : Str).length ≤ 6 ∧ ∀ c ∈ TL.tl ("back" : Str), 33 ≤ c ∧ c < 128 := okW_ok (by decide +kernel)
  unfold wS at hx
  split at hx <;> simp only [List.mem_cons, List.not_mem_nil, or_false] at hx
  · rcases hx with rfl | rfl | rfl | rfl
    · exact h3
    · exact ⟨by omega, h1.2⟩
    · exact h2
    · exact h4
  · rcases hx with rfl | rfl | rfl
    · exact h3
    · exact ⟨by omega, h1.2⟩
    · exact h2
theorem tl_joinL_mem : ∀ (l : List (List Nat)) (x : Nat), x ∈ TL.joinL [32] l → x = 32 ∨ ∃ y ∈ l, x ∈ y := by
  clear hd hc ht
  intro l
  induction l with
  | nil => intro x h; cases h
  | cons a r ih =>
    intro x h
    cases r with
    | nil => exact .inr ⟨a, List.mem_cons_self, h⟩
    | cons b r =>
      rcases List.mem_append.mp h with h | h
      · exact .inr ⟨a, List.mem_cons_self, h⟩
      · rcases List.mem_append.mp h with h | h
        · exact .inl (List.mem_singleton.mp h)
        · rcases ih x h with h | ⟨y, hy, h⟩
          · exact .inl h
          · exact .inr ⟨y, List.mem_cons_of_mem _ hy, h⟩
theorem row_chars : ∀ x ∈ TL.tl (rowS p), 32 ≤ x ∧ x < 128 := fun x hx => by
  unfold rowS at hx
  rw [TL.join_eq, TL.tl_join, show TL.tl (" " : Str) = [32] from by decide +kernel] at hx
  rcases tl_joinL_mem hd hc ht _ x hx with rfl | ⟨y, hy, hx⟩
  · omega
  · obtain ⟨w, hw, rfl⟩ := List.mem_map.mp hy
    have := (wS_ok hd hc ht w hw).2 x hx
    omega
theorem row_len : (rowS p).length ≤ 40 := by
  have := StrLaws.join_length_le (" " : Str) (wS p)
  unfold rowS
  rw [TL.join_eq]
  have hb : ∀ l : List Str, (∀ x ∈ l, x.length ≤ 6) → (l.map (·.length)).sum ≤ 6 * l.length := by
    intro l
    induction l with
    | nil => intro _; exact Nat.le_refl _
    | cons a l ih =>
      intro hl
      have := ih fun x hx => hl x (List.mem_cons_of_mem _ hx)
      have := hl a List.mem_cons_self
      rw [List.map_cons, List.sum_cons, List.length_cons]; omega
  have h2 := hb (wS p) fun x hx => (wS_ok hd hc ht x hx).1
  have h3 : (wS p).length ≤ 4 := by unfold wS; split <;> simp
  rw [show (" " : Str).length = 1 from by decide] at this
  omega
theorem row_free : 10 ∉ TL.tl (rowS p) := fun h => by have := row_chars hd hc ht 10 h; omega
theorem row_split : Txt.split (rowS p) (" " : Str) = wS p := TL.split_join (s := 32) (S := []) (by decide +kernel) (by decide +kernel) (by unfold wS; split <;> simp) fun x hx h => by
  have := (wS_ok hd hc ht x hx).2 32 h
  omega
theorem p_part_of (n : Int) : F_p_part_of (rowS p) n d = some (Rq.ok (mk_Part p.1 p.2.1 p.2.2)) := by
  have hz := line_big
  have hl := row_len hd hc ht
  have h4 : (wS p).length ≤ 4 := by unfold wS; split <;> simp
  unfold F_p_part_of okSplit
  rw [row_split hd hc ht, if_pos ⟨by decide, by omega, by omega⟩, sbind, sbind]
  obtain ⟨c, t, b⟩ := p
  have f1 : idx (wS (c, t, b)) 0 = some ("part" : Str) := by unfold wS; cases b <;> rfl
  have f2 : idx (wS (c, t, b)) 1 = some (cS c) := by unfold wS; cases b <;> rfl
  have f3 : idx (wS (c, t, b)) 2 = some (tS t) := by unfold wS; cases b <;> rfl
  have f4 : (!memB (((wS (c, t, b)).length : Nat) : Int) [((3 : Int), (4 : Int)).1, ((3 : Int), (4 : Int)).2]) = false := by unfold wS; cases b <;> rfl
  have f5 : cutT (wS (c, t, b)) (some 3) none = if b = true then [("back" : Str)] else [] := by unfold wS; cases b <;> rfl
  have f6 : (memC (eFL D.str) (cutT (wS (c, t, b)) (some 3) none) [[], (([] : List Unit), [("back" : Str)]).2]) = some true := by
    rw [f5]; cases b <;> decide +kernel
  have f7 : (eqLC D.str (cutT (wS (c, t, b)) (some 3) none) [("back" : Str)]) = some b := by
    rw [f5]; cases b <;> decide +kernel
  rw [f4, sbind, if_neg (by decide), f1, sbind, decide_eq_true rfl, sbind, if_neg (by decide), f2, sbind, p_corner_of hd hc, sbind, sbind, f3, sbind, p_turn_of hd ht, sbind, sbind, sbind]
  rw [show (some c : Option Cor).isNone = false from rfl, if_neg (by decide), sbind, show (some t : Option Turn).isNone = false from rfl, if_neg (by decide), f6]
  rw [show Option.map (fun x => !x) (some true) = some false from rfl, sbind, sbind, if_neg (by decide), sbind, sbind, f7, sbind]
  all_goals rfl
/-- the row put together piece by piece -/
theorem row_cat0 (hb : p.2.2 = false) : ("part " : Str) ++ cS p.1 ++ (" " : Str) ++ tS p.2.1 = rowS p := by
  apply TL.ext_tl
  unfold rowS wS
  rw [if_neg (by rw [hb]; decide), TL.join_eq, TL.tl_join]
  simp only [TL.tl_append]
  show _ = TL.tl ("part" : Str) ++ (TL.tl (" " : Str) ++ (TL.tl (cS p.1) ++ (TL.tl (" " : Str) ++ TL.tl (tS p.2.1))))
  rw [show TL.tl ("part " : Str) = TL.tl ("part" : Str) ++ TL.tl (" " : Str) from by decide +kernel]
  simp only [List.append_assoc]
theorem row_cat1 (hb : p.2.2 = true) : ("part " : Str) ++ cS p.1 ++ (" " : Str) ++ tS p.2.1 ++ (" back" : Str) = rowS p := by
  apply TL.ext_tl
  unfold rowS wS
  rw [if_pos hb, TL.join_eq, TL.tl_join]
  simp only [TL.tl_append]
  show _ = TL.tl ("part" : Str) ++ (TL.tl (" " : Str) ++ (TL.tl (cS p.1) ++ (TL.tl (" " : Str) ++ (TL.tl (tS p.2.1) ++ (TL.tl (" " : Str) ++ TL.tl ("back" : Str))))))
  rw [show TL.tl ("part " : Str) = TL.tl ("part" : Str) ++ TL.tl (" " : Str) from by decide +kernel, show TL.tl (" back" : Str) = TL.tl (" " : Str) ++ TL.tl ("back" : Str) from by decide +kernel]
  simp only [List.append_assoc]
theorem rows_step (s : List Str) (hs : s.length < 1000000) : G_L_rows_0 s p = some (s ++ [rowS p]) := by
  have l1 := (cS_ok hd hc).1
  have l2 := (tS_ok hd ht).1
  have c0 : ("part " : Str).length = 5 := by decide
  have s1 : (" " : Str).length = 1 := by decide
  have s2 : (" back" : Str).length = 5 := by decide
  unfold G_L_rows_0
  have e1 := tl_ok hd ht
  have e2 := cl_ok hd hc
  unfold ttL at e1
  unfold ctL at e2
  have key : ∀ {α : Type} (X : Option α) (f : α → Option Str) (g : Str → Option (List Str)), ((X.bind fun t => (f t).bind fun u => some u).bind g) = (X.bind f).bind g := by
    intro α X f g
    cases X with
    | none => rfl
    | some a => rw [sbind, sbind]; cases f a <;> rfl
  rw [key, e1, sbind]
  have key2 : ∀ {α β : Type} (X : Option α) (f : α → Option Str) (g : Str → Option β), (X.bind fun t => (f t).bind g) = (X.bind f).bind g := by
    intro α β X f g
    cases X <;> rfl
  first | rw [key2 _ (joinC ("" : Str)), e2, sbind] | rw [key2, e2, sbind]
  rw [cat_ok (by omega), sbind, cat_ok (by rw [len_cat]; omega), sbind, cat_ok (by simp only [len_cat]; omega), sbind, sbind, sbind]
  cases hb : p.2.2 with
  | false => rw [if_neg (by decide), sbind, sbind, snoc_ok (by omega), sbind, row_cat0 hd hc ht hb]
  | true => rw [if_pos rfl, cat_ok (by simp only [len_cat]; omega), sbind, sbind, sbind, sbind, snoc_ok (by omega), sbind, row_cat1 hd hc ht hb]
end
theorem crv_len {nm : Str} {d : Nat} {j : Bool} {ps : List Prt} (hd : Dm d) (h : PartsOk d ps) : ((crv nm d j ps).f_parts.length : Int) = ((2 ^ d : Nat) : Int) := by
  show (((ps.map fun p => mk_Part p.1 p.2.1 p.2.2).length : Nat) : Int) = _
  rw [List.length_map, h.len]
section
variable {d : Nat} (hd : Dm d)
include hd
variable {W : Str} (hW : WordOk W)
include hW
theorem all_rows_len (j : Bool) {ps : List Prt} (h : PartsOk d ps) : ((hdW W d j :: ps.map rowS).map (·.length)).sum ≤ 40 * (hdW W d j :: ps.map rowS).length := by
  have hb : ∀ l : List Str, (∀ x ∈ l, x.length ≤ 40) → (l.map (·.length)).sum ≤ 40 * l.length := by
    intro l
    induction l with
    | nil => intro _; exact Nat.le_refl _
    | cons a l ih =>
      intro hl
      have := ih fun x hx => hl x (List.mem_cons_of_mem _ hx)
      have := hl a List.mem_cons_self
      rw [List.map_cons, List.sum_cons, List.length_cons]; omega
  exact hb _ (fun x hx => by
    rcases List.mem_cons.mp hx with rfl | hx
    · exact hdW_len hW d j
    · obtain ⟨p, hp, rfl⟩ := List.mem_map.mp hx
      exact row_len hd (h.cor p hp) (h.trn p hp))
theorem l_rows9 (hW0 : W = ("fold" : Str)) (j : Bool) {ps : List Prt} (h : PartsOk d ps) : F_L_rows d j ps = some (hdW W d j :: ps.map rowS) := by
  subst hW0
  have h8 : 2 ^ d ≤ 8 := by rcases hd with rfl | rfl <;> decide
  have hh : ((idx [("loose" : Str), ("joined" : Str)] (b2i j)).bind fun t_181 => ((catS ("curve fold " : Str) t_181).bind fun t_183 => ((catS t_183 (" " : Str)).bind fun t_185 => ((strI (d : Int)).bind fun t_187 => ((catS t_185 t_187).bind fun t_189 => (some [t_189])))))) = some [hdW ("fold" : Str) d j] := by
    rcases hd with rfl | rfl <;> cases j <;> decide +kernel
  unfold F_L_rows
  rw [hh, sbind, sbind, fold_snoc (f := rowS) ps [hdW ("fold" : Str) d j] (by rw [h.len]; simp; omega) fun s hs p hp => rows_step hd (h.cor p hp) (h.trn p hp) s hs, sbind]; rfl
theorem join_rows (j : Bool) {ps : List Prt} (h : PartsOk d ps) : joinC ("\n" : Str) (hdW W d j :: ps.map rowS) = some (Txt.join ("\n" : Str) (hdW W d j :: ps.map rowS)) := by
  have h8 : 2 ^ d ≤ 8 := by rcases hd with rfl | rfl <;> decide
  have := all_rows_len hd hW j h
  have hl : (hdW W d j :: ps.map rowS).length ≤ 9 := by rw [List.length_cons, List.length_map, h.len]; omega
  unfold joinC
  rw [if_pos (by
    have e : ("\n" : Str).length = 1 := by decide
    rw [e]; omega)]
theorem rows_text (j : Bool) {ps : List Prt} (h : PartsOk d ps) : Txt.split (Txt.join ("\n" : Str) (hdW W d j :: ps.map rowS)) ("\n" : Str) = hdW W d j :: ps.map rowS ∧ (Txt.join ("\n" : Str) (hdW W d j :: ps.map rowS)).length ≤ 1000 := by
  have h8 : 2 ^ d ≤ 8 := by rcases hd with rfl | rfl <;> decide
  have hl : (hdW W d j :: ps.map rowS).length = 1 + 2 ^ d := by rw [List.length_cons, List.length_map, h.len]; omega
  have hbb := all_rows_len hd hW j h
  have e1 : ("\n" : Str).length = 1 := by decide
  refine ⟨TL.split_join (s := 10) (S := []) (by decide +kernel) (by decide +kernel) (by simp) fun p hp => ?_, ?_⟩
  · rcases List.mem_cons.mp hp with rfl | hp
    · exact hdW_free hW j
    · obtain ⟨x, hx, rfl⟩ := List.mem_map.mp hp
      exact row_free hd (h.cor x hx) (h.trn x hx)
  · have := StrLaws.join_length_le ("\n" : Str) (hdW W d j :: ps.map rowS)
    rw [TL.join_eq]
    rw [e1] at this
    omega
theorem p_curve_from (j : Bool) {ps : List Prt} (h : PartsOk d ps) (more : List Str) (hm : more.length ≤ 1000) : F_p_curve_from (hdW W d j :: ps.map rowS ++ more) = some (Rq.ok (crv W d j ps)) := by
  have h8 : 2 ^ d ≤ 8 := by rcases hd with rfl | rfl <;> decide
  have hz : 0 < 2 ^ d := Nat.pos_of_ne_zero (by simp)
  have h3 : d ≤ 3 := by rcases hd with rfl | rfl <;> omega
  have h0 : idx (hdW W d j :: ps.map rowS ++ more) 0 = some (hdW W d j) := idx_nat (n := 0) rfl
  have hlen : (hdW W d j :: ps.map rowS ++ more).length = 1 + 2 ^ d + more.length := by
    rw [List.length_append, List.length_cons, List.length_map, h.len]; omega
  have hs : shlC 1 (d : Int) = some ((2 ^ d : Nat) : Int) := by rcases hd with rfl | rfl <;> decide +kernel
  unfold F_p_curve_from
  rw [h0, sbind, p_head hW hd j, sbind, Rq.on_ok, sbind]
  dsimp only
  rw [hs, sbind, rngC_ok (by decide) (by omega), sbind]
  obtain ⟨s, h1, h2⟩ := loop_inv (ρ := (Rq C_Curve)) (F := G_p_curve_from_0 (hdW W d j :: ps.map rowS ++ more) (W, (d : Int), j)) (fun i s => s = ((ps.take i).map fun p => mk_Part p.1 p.2.1 p.2.2, (ps.take i).map fun p => (p.1, true))) (rangeI 2 (2 + ((2 ^ d : Nat) : Int))) ([], []) (by simp) (fun i a s ha hI => by
    subst hI
    have hi := (List.getElem?_eq_some_iff.mp ha).1
    rw [range_len'] at hi
    rw [range_get' hi] at ha
    have ea : a = ((i + 2 : Nat) : Int) := by have := Option.some.inj ha; omega
    subst ea
    have hip : i < ps.length := by rw [h.len]; omega
    have r2 := p_part_of hd (h.cor _ (List.getElem_mem hip)) (h.trn _ (List.getElem_mem hip)) ((i + 2 : Nat) : Int)
    have e1 : idx (hdW W d j :: ps.map rowS ++ more) (((i + 2 : Nat) : Int) - 1) = some (rowS ps[i]) := by
      rw [idx_nat (n := i + 1) (by omega), List.cons_append, List.getElem?_cons_succ, List.getElem?_append_left (by rw [List.length_map]; exact hip), List.getElem?_map, List.getElem?_eq_getElem hip]; rfl
    have hnew : ∀ q ∈ (ps.take i).map fun p => (p.1, true), q.1 ≠ ps[i].1 := fun q hq e => by
      obtain ⟨p, hp, rfl⟩ := List.mem_map.mp hq
      obtain ⟨k, hk, ek⟩ := List.mem_iff_getElem.mp hp
      rw [List.length_take] at hk
      rw [List.getElem_take] at ek
      have hkp : k < ps.length := by omega
      have := h.uniq hkp hip (by rw [ek]; exact e)
      omega
    have e5 : ps.take (i + 1) = ps.take i ++ [ps[i]] := by rw [List.take_add_one, List.getElem?_eq_getElem hip]; rfl
    refine ⟨_, ?_, rfl⟩
    unfold G_p_curve_from_0
    dsimp only
    rw [sbind, decide_eq_false (by rw [hlen]; omega), if_neg (by decide), e1, sbind, r2, sbind, Rq.on_ok, sbind]
    show (if (dget ((ps.take i).map fun p => (p.1, true)) ps[i].1).isSome = true then _ else _) = _
    rw [dget_none hnew, if_neg (by decide), sbind]
    show ((dputC ((ps.take i).map fun p => (p.1, true)) ps[i].1 true).bind _) = _
    rw [dput_new hnew (by rw [List.length_map, List.length_take]; omega), sbind, sbind, snoc_ok (by rw [List.length_map, List.length_take]; omega), sbind, e5, List.map_append, List.map_append]
    rfl)
  rw [h1, sbind, Lo.on_nx, h2, range_len', show (2 + ((2 ^ d : Nat) : Int) - 2).toNat = ps.length from by rw [h.len]; omega, List.take_length]
  rfl
theorem p_curve_of (j : Bool) {ps : List Prt} (h : PartsOk d ps) (k : Nat) : F_p_curve_of k (Txt.join ("\n" : Str) (hdW W d j :: ps.map rowS)) = F_p_fitted k (crv W d j ps) := by
  have h8 : 2 ^ d ≤ 8 := by rcases hd with rfl | rfl <;> decide
  have hl : (hdW W d j :: ps.map rowS).length = 1 + 2 ^ d := by rw [List.length_cons, List.length_map, h.len]; omega
  obtain ⟨hsp, hjl⟩ := rows_text hd hW j h
  have hsz := line_big
  unfold F_p_curve_of okSplit
  rw [hsp, if_pos ⟨by decide, by omega, by omega⟩, sbind, sbind]
  have := p_curve_from hd hW j h [] (by decide)
  rw [List.append_nil] at this
  rw [this, sbind, Rq.on_ok, sbind, hl, crv_len hd h, decide_eq_false (by omega), if_neg (by decide)]
  cases F_p_fitted k (crv W d j ps) with
  | none => rfl
  | some z => cases z <;> rfl
end
theorem word_fold : WordOk ("fold" : Str) := ⟨by decide, by decide, by decide +kernel⟩
def RowFr (r : Str) : Prop := r.length ≤ 60 ∧ 10 ∉ TL.tl r
def frB (r : Str) : Bool := decide (r.length ≤ 60) && !(TL.tl r).contains 10
theorem frB_ok {r : Str} (h : frB r = true) : RowFr r := by
  obtain ⟨a, b⟩ := Bool.and_eq_true_iff.mp h
  refine ⟨of_decide_eq_true a, fun z => ?_⟩
  have := List.contains_iff_mem.mpr z
  rw [this] at b
  cases b
theorem rows_split {rows : List Str} (h0 : rows ≠ []) (hn : rows.length ≤ 20) (hf : ∀ r ∈ rows, RowFr r) : ∃ t, joinC ("\n" : Str) rows = some t ∧ okSplit t ("\n" : Str) = some rows := by
  have hb : ∀ l : List Str, (∀ x ∈ l, x.length ≤ 60) → (l.map (·.length)).sum ≤ 60 * l.length := by
    intro l
    induction l with
    | nil => intro _; exact Nat.le_refl _
    | cons a l ih =>
      intro hl
      have := ih fun x hx => hl x (List.mem_cons_of_mem _ hx)
      have := hl a List.mem_cons_self
      rw [List.map_cons, List.sum_cons, List.length_cons]; omega
  have h1 := hb rows fun r hr => (hf r hr).1
  have e1 : ("\n" : Str).length = 1 := by decide
  have hz := line_big
  have hs : Txt.split (Txt.join ("\n" : Str) rows) ("\n" : Str) = rows := TL.split_join (s := 10) (S := []) (by decide +kernel) (by decide +kernel) h0 fun p hp => (hf p hp).2
  have hl : (Txt.join ("\n" : Str) rows).length ≤ 2000 := by
    have := StrLaws.join_length_le ("\n" : Str) rows
    rw [TL.join_eq]
    rw [e1] at this
    omega
  refine ⟨Txt.join ("\n" : Str) rows, ?_, ?_⟩
  · unfold joinC
    rw [if_pos (by rw [e1]; omega)]
  · unfold okSplit
    rw [hs, if_pos ⟨by decide, by omega, by omega⟩]
theorem loop_upto {σ ρ α : Type} {F : σ → α → Option (Fw σ ρ)} (I : Nat → σ → Prop) (l : List α) (s : σ) (h0 : I 0 s) (m : Nat) (hm : m < l.length) (h : ∀ i a s, i < m → l[i]? = some a → I i s → ∃ s', F s a = some (.nx s') ∧ I (i + 1) s') (r : ρ) (hr : ∀ a s, l[m]? = some a → I m s → F s a = some (.ret r)) : loopO F s l = some (.ret r) := by
  suffices H : ∀ (r' pre : List α) (s : σ), pre ++ r' = l → pre.length ≤ m → I pre.length s → loopO F s r' = some (.ret r) from H l [] s rfl (Nat.zero_le _) h0
  intro r'
  induction r' with
  | nil => intro pre s e hp hI; rw [List.append_nil] at e; subst e; omega
  | cons a r' ih =>
    intro pre s e hp hI
    have ha : l[pre.length]? = some a := by rw [← e]; simp
    by_cases q : pre.length = m
    · unfold loopO
      rw [hr a s (by rw [← q]; exact ha) (by rw [← q]; exact hI)]
      rfl
    · obtain ⟨s1, h1, h2⟩ := h pre.length a s (by omega) ha hI
      unfold loopO
      rw [h1]
      exact ih (pre ++ [a]) s1 (by rw [← e]; simp) (by rw [List.length_append]; simp; omega) (by rw [List.length_append]; exact h2)
section
variable {d : Nat} (hd : Dm d)
include hd
/-- the parts read, the corners seen, as `m` rows of parts have been read -/
def stM (ps : List Prt) (m : Nat) : List C_Part × List (List Int × Bool) := ((ps.take m).map fun p => mk_Part p.1 p.2.1 p.2.2, (ps.take m).map fun p => (p.1, true))
theorem from_bad (j : Bool) {ps : List Prt} (h : PartsOk d ps) {rows : List Str} {m : Nat} (hm : m < 2 ^ d) (hlen : m + 1 ≤ rows.length) (hmax : rows.length ≤ 20) (hpre : ∀ i, i < m + 1 → rows[i]? = (hdW "fold" d j :: ps.map rowS)[i]?) {e : Exn}
    (hG : G_p_curve_from_0 rows ("fold", (d : Int), j) (stM ps m) ((m + 2 : Nat) : Int) = some (.ret (.er e))) : F_p_curve_from rows = some (.er e) := by
  have h8 : 2 ^ d ≤ 8 := by rcases hd with rfl | rfl <;> decide
  have h0 : idx rows 0 = some (hdW "fold" d j) := (idx_nat (n := 0) rfl).trans (by rw [hpre 0 (by omega)]; rfl)
  have hs : shlC 1 (d : Int) = some ((2 ^ d : Nat) : Int) := by rcases hd with rfl | rfl <;> decide +kernel
  unfold F_p_curve_from
  rw [h0, sbind, p_head word_fold hd j, sbind, Rq.on_ok, sbind]
  dsimp only
  rw [hs, sbind, rngC_ok (by decide) (by omega), sbind]
  have hL : loopO (ρ := Rq C_Curve) (G_p_curve_from_0 rows ("fold", (d : Int), j)) ([], []) (rangeI 2 (2 + ((2 ^ d : Nat) : Int))) = some (.ret (.er e)) := by
    refine loop_upto (fun i s => s = stM ps i) (rangeI 2 (2 + ((2 ^ d : Nat) : Int))) ([], []) (by unfold stM; simp) m (by rw [range_len']; omega) (fun i a s hi ha hI => ?_) (Rq.er e : Rq C_Curve) (fun a s ha hI => ?_)
    · subst hI
      rw [range_get' (by omega)] at ha
      have ea : a = ((i + 2 : Nat) : Int) := by have := Option.some.inj ha; omega
      subst ea
      have hip : i < ps.length := by rw [h.len]; omega
      have r2 := p_part_of hd (h.cor _ (List.getElem_mem hip)) (h.trn _ (List.getElem_mem hip)) ((i + 2 : Nat) : Int)
      have e1 : idx rows (((i + 2 : Nat) : Int) - 1) = some (rowS ps[i]) := by
        rw [idx_nat (n := i + 1) (by omega), hpre (i + 1) (by omega), List.getElem?_cons_succ, List.getElem?_map, List.getElem?_eq_getElem hip]; rfl
      have hnew : ∀ q ∈ (ps.take i).map fun p => (p.1, true), q.1 ≠ ps[i].1 := fun q hq e => by
        obtain ⟨p, hp, rfl⟩ := List.mem_map.mp hq
        obtain ⟨k, hk, ek⟩ := List.mem_iff_getElem.mp hp
        rw [List.length_take] at hk
        rw [List.getElem_take] at ek
        have hkp : k < ps.length := by omega
        have := h.uniq hkp hip (by rw [ek]; exact e)
        omega
      have e5 : ps.take (i + 1) = ps.take i ++ [ps[i]] := by rw [List.take_add_one, List.getElem?_eq_getElem hip]; rfl
      refine ⟨_, ?_, rfl⟩
      unfold G_p_curve_from_0 stM
      dsimp only
      rw [sbind, decide_eq_false (by omega), if_neg (by decide), e1, sbind, r2, sbind, Rq.on_ok, sbind]
      show (if (dget ((ps.take i).map fun p => (p.1, true)) ps[i].1).isSome = true then _ else _) = _
      rw [dget_none hnew, if_neg (by decide), sbind]
      show ((dputC ((ps.take i).map fun p => (p.1, true)) ps[i].1 true).bind _) = _
      rw [dput_new hnew (by rw [List.length_map, List.length_take]; omega), sbind, sbind, snoc_ok (by rw [List.length_map, List.length_take]; omega), sbind, e5, List.map_append, List.map_append]
      rfl
    · subst hI
      rw [range_get' (by omega)] at ha
      have ea : a = ((m + 2 : Nat) : Int) := by have := Option.some.inj ha; omega
      subst ea
      exact hG
  rw [hL, sbind]
  rfl
theorem g_short (j : Bool) {ps : List Prt} {rows : List Str} {m : Nat} (hl : rows.length = m + 1) : G_p_curve_from_0 rows ("fold", (d : Int), j) (stM ps m) ((m + 2 : Nat) : Int) = some (.ret (.er ⟨6, [((m + 2 : Nat) : Int)]⟩)) := by
  unfold G_p_curve_from_0
  rw [sbind, decide_eq_true (by omega), if_pos rfl]
theorem g_bad (j : Bool) {ps : List Prt} {rows : List Str} {m : Nat} (hl : m + 2 ≤ rows.length) {t : Str} (ht : rows[m + 1]? = some t) (hb : ∀ n : Int, F_p_part_of t n d = some (.er ⟨6, [n]⟩)) : G_p_curve_from_0 rows ("fold", (d : Int), j) (stM ps m) ((m + 2 : Nat) : Int) = some (.ret (.er ⟨6, [((m + 2 : Nat) : Int)]⟩)) := by
  unfold G_p_curve_from_0
  dsimp only
  rw [sbind, decide_eq_false (by omega), if_neg (by decide), idx_nat (n := m + 1) (by omega), ht, sbind, hb, sbind, Rq.on_er]
theorem g_twice (j : Bool) {ps : List Prt} {rows : List Str} {m : Nat} (hl : m + 2 ≤ rows.length) {q : Prt} (hc : q.1 ∈ Cs d) (ht : q.2.1 ∈ Ts d) (hr : rows[m + 1]? = some (rowS q)) (ho : ∃ p ∈ ps.take m, p.1 = q.1) : G_p_curve_from_0 rows ("fold", (d : Int), j) (stM ps m) ((m + 2 : Nat) : Int) = some (.ret (.er ⟨7, [((m + 2 : Nat) : Int)]⟩)) := by
  unfold G_p_curve_from_0
  dsimp only
  rw [sbind, decide_eq_false (by omega), if_neg (by decide), idx_nat (n := m + 1) (by omega), hr, sbind, p_part_of hd hc ht, sbind, Rq.on_ok, sbind]
  have hs : (dget ((ps.take m).map fun p => (p.1, true)) q.1).isSome = true := by
    obtain ⟨p, hp, e⟩ := ho
    unfold dget
    rw [Option.isSome_map, List.find?_isSome]
    exact ⟨_, List.mem_map.mpr ⟨p, hp, rfl⟩, decide_eq_true e⟩
  show (if (dget ((ps.take m).map fun p => (p.1, true)) q.1).isSome = true then _ else _) = _
  rw [if_pos hs]
end
def isEr {α : Type} (o : Option (Rq α)) (c : Nat) (fs : List Int) : Bool :=
  match o with
  | some (.er x) => decide (x.c = c) && decide (x.fs = fs)
  | _ => false
theorem isEr_ok {α : Type} {o : Option (Rq α)} {c : Nat} {fs : List Int} (h : isEr o c fs = true) : o = some (.er ⟨c, fs⟩) := by
  cases o with
  | none => cases h
  | some z =>
    cases z with
    | ok _ => cases h
    | er x =>
      obtain ⟨a, b⟩ := Bool.and_eq_true_iff.mp h
      obtain ⟨c', fs'⟩ := x
      have a : c' = c := of_decide_eq_true a
      have b : fs' = fs := of_decide_eq_true b
      rw [a, b]
noncomputable def hdL (row : Str) : Option (List Str) := (((okSplit row (" " : Str)).bind fun t_216 => (some t_216)).bind fun words_215 => (((catC [("curves" : Str)] (cutT words_215 (some 1) none)).bind fun t_219 => ((joinC (" " : Str) t_219).bind fun t_221 => ((joinC (" " : Str) (cutT words_215 none (some 3))).bind fun t_223 => ((catS row (" " : Str)).bind fun t_225 => ((catS (" " : Str) row).bind fun t_227 => ((gRepl1 " " "  " row).bind fun t_229 => (some [t_221, t_223, t_225, t_227, t_229]))))))).bind fun some_218 => (((gRepl1 " " "\t" row).bind fun t_232 => ((catS row ("\t" : Str)).bind fun t_234 => ((catC some_218 [t_232, t_234]).bind fun t_236 => (some t_236)))).bind fun some_231 => (((catC some_231 [("curve fold joine 2" : Str), ("curve fold loose 1" : Str), ("curve fold loose 4" : Str), ("curve fold loose 02" : Str), ("" : Str)]).bind fun t_239 => (some t_239)).bind fun some_238 => (((catC some_238 [("curve Fold loose 2" : Str), ("curve abcdefghijklm loose 3" : Str), ("curve  loose 2" : Str), ("curve f1 joined 3" : Str)]).bind fun t_242 => (some t_242)).bind fun some_241 => (((catS row (" back" : Str)).bind fun t_245 => ((catC some_241 [("curve fold Joined 2" : Str), t_245, ("curve fold loose +2" : Str), ("curve fold joined two" : Str)]).bind fun t_247 => (some t_247))).bind fun some_244 => (some some_244)))))))
noncomputable def ptL (row : Str) : Option (List Str) := (((okSplit row (" " : Str)).bind fun t_254 => (some t_254)).bind fun words_253 => ((idx words_253 1).bind fun corner_256 => ((idx words_253 2).bind fun turn_here_259 => (((slS turn_here_259 (some 2) none).bind fun t_263 => ((catS t_263 ("+w" : Str)).bind fun t_265 => ((lenS corner_256).bind fun t_267 => ((mulT ("+x" : Str) t_267).bind fun t_269 => ((slS turn_here_259 (some 2) none).bind fun t_271 => ((catS turn_here_259 ("+x" : Str)).bind fun t_273 => (some [t_265, t_269, t_271, t_273]))))))).bind fun turns_262 => (((slS turn_here_259 (some 1) none).bind fun t_276 => ((catS t_276 ("+" : Str)).bind fun t_278 => ((gUpper turn_here_259).bind fun t_280 => ((slS turn_here_259 (some 1) none).bind fun t_282 => ((catS ("x" : Str) t_282).bind fun t_284 => ((catC turns_262 [t_278, t_280, t_284]).bind fun t_286 => (some t_286))))))).bind fun turns_275 => (((slS corner_256 (some 1) none).bind fun t_289 => ((catS ("2" : Str) t_289).bind fun t_291 => ((slS corner_256 (some 1) none).bind fun t_293 => ((catS corner_256 ("0" : Str)).bind fun t_295 => ((catS corner_256 ("1" : Str)).bind fun t_297 => (some [t_291, t_293, t_295, t_297])))))).bind fun corners_here_288 => (((slS corner_256 (some 1) none).bind fun t_300 => ((catS ("-" : Str) t_300).bind fun t_302 => ((lenS corner_256).bind fun t_304 => ((mulT ("0" : Str) (t_304 - 1)).bind fun t_306 => ((catS t_306 ("O" : Str)).bind fun t_308 => ((catC corners_here_288 [t_302, t_308]).bind fun t_310 => (some t_310))))))).bind fun corners_here_299 => ((((some turns_275).bind fun xs => (fits xs).bind (mapO fun (x_313 : Str) => ((catS ("part " : Str) corner_256).bind fun t_314 => ((catS t_314 (" " : Str)).bind fun t_316 => ((catS t_316 x_313).bind fun t_318 => (some t_318)))))).bind fun t_320 => (((some corners_here_299).bind fun xs => (fits xs).bind (mapO fun (x_322 : Str) => ((catS ("part " : Str) x_322).bind fun t_323 => ((catS t_323 (" " : Str)).bind fun t_325 => ((catS t_325 turn_here_259).bind fun t_327 => (some t_327)))))).bind fun t_329 => ((catC t_320 t_329).bind fun t_331 => (some t_331)))).bind fun some_312 => (((catS ("parts " : Str) corner_256).bind fun t_334 => ((catS t_334 (" " : Str)).bind fun t_336 => ((catS t_336 turn_here_259).bind fun t_338 => ((catS ("part " : Str) corner_256).bind fun t_340 => ((catS ("part " : Str) corner_256).bind fun t_342 => ((catS t_342 (" " : Str)).bind fun t_344 => ((catS t_344 turn_here_259).bind fun t_346 => ((catS t_346 (" Back" : Str)).bind fun t_348 => ((catC some_312 [t_338, t_340, t_348, ("" : Str)]).bind fun t_350 => (some t_350)))))))))).bind fun some_333 => (((catS ("part " : Str) corner_256).bind fun t_353 => ((catS t_353 (" " : Str)).bind fun t_355 => ((catS t_355 turn_here_259).bind fun t_357 => ((catS t_357 (" back back" : Str)).bind fun t_359 => ((catS row (" " : Str)).bind fun t_361 => ((catS (" " : Str) row).bind fun t_363 => ((catS ("part  " : Str) corner_256).bind fun t_365 => ((catS t_365 (" " : Str)).bind fun t_367 => ((catS t_367 turn_here_259).bind fun t_369 => ((catC some_333 [t_359, t_361, t_363, t_369]).bind fun t_371 => (some t_371))))))))))).bind fun some_352 => (((gRepl1 " " "\t" row).bind fun t_374 => ((catS row ("\t" : Str)).bind fun t_376 => ((catC some_352 [t_374, t_376]).bind fun t_378 => (some t_378)))).bind fun some_373 => (some some_373))))))))))))
theorem hdL_is (row : Str) (draw : Int) : F_L_bad_head row draw = (hdL row).bind fun l => (modC draw (l.length : Int)).bind fun t => idx l t := by
  unfold F_L_bad_head hdL
  simp only [Option.bind_assoc, Option.bind_some]
theorem ptL_is (row : Str) (draw : Int) : F_L_bad_part row draw = (ptL row).bind fun l => (modC draw (l.length : Int)).bind fun t => idx l t := by
  unfold F_L_bad_part ptL
  simp only [Option.bind_assoc, Option.bind_some]
def badAll (o : Option (List Str)) (n : Nat) (f : Str → Bool) : Bool :=
  match o with
  | some l => decide (l.length = n) && l.all fun t => frB t && f t
  | none => false
theorem badAll_ok {o : Option (List Str)} {n : Nat} {f : Str → Bool} (hn : 0 < n) (h : badAll o n f = true) (draw : Int) : ∃ t, (o.bind fun l => (modC draw (l.length : Int)).bind fun t => idx l t) = some t ∧ RowFr t ∧ f t = true := by
  cases o with
  | none => cases h
  | some l =>
    obtain ⟨a, b⟩ := Bool.and_eq_true_iff.mp h
    have a : l.length = n := of_decide_eq_true a
    rw [sbind, modC_pos (by omega), sbind]
    obtain ⟨t, h1, h2⟩ := idx_mem (l := l) (i := draw % (l.length : Int)) (by have := Int.emod_nonneg draw (b := (l.length : Int)) (by omega); omega) (Int.emod_lt_of_pos _ (by omega))
    obtain ⟨q1, q2⟩ := Bool.and_eq_true_iff.mp (List.all_eq_true.mp b t h2)
    exact ⟨t, h1, frB_ok q1, q2⟩
noncomputable def headBad (t : Str) : Bool := isEr (F_p_head_of t) 6 [1]
theorem heads_bad : ([2, 3].all fun d => [true, false].all fun j => badAll (hdL (hdW "fold" d j)) 20 headBad) = true := by decide +kernel
theorem bad_head {d : Nat} (hd : Dm d) (j : Bool) (draw : Int) : ∃ t, F_L_bad_head (hdW "fold" d j) draw = some t ∧ RowFr t ∧ F_p_head_of t = some (.er ⟨6, [1]⟩) := by
  rw [hdL_is]
  have h := List.all_eq_true.mp (List.all_eq_true.mp heads_bad d (mem23 hd)) j (by cases j <;> simp)
  obtain ⟨t, h1, h2, h3⟩ := badAll_ok (by decide) h draw
  exact ⟨t, h1, h2, isEr_ok h3⟩
def NW (w : Str) : Prop := 32 ∉ TL.tl w ∧ 10 ∉ TL.tl w ∧ w.length ≤ 10
def nwB (w : Str) : Bool := !(TL.tl w).contains 32 && !(TL.tl w).contains 10 && decide (w.length ≤ 10)
theorem nwB_ok {w : Str} (h : nwB w = true) : NW w := by
  obtain ⟨ab, c⟩ := Bool.and_eq_true_iff.mp h
  obtain ⟨a, b⟩ := Bool.and_eq_true_iff.mp ab
  refine ⟨fun z => ?_, fun z => ?_, of_decide_eq_true c⟩
  · rw [List.contains_iff_mem.mpr z] at a; cases a
  · rw [List.contains_iff_mem.mpr z] at b; cases b
theorem jn1 (a : Str) : Txt.join (" " : Str) [a] = a := by
  rw [TL.join_eq]; rfl
theorem jnC (a b : Str) (l : List Str) : Txt.join (" " : Str) (a :: b :: l) = a ++ ((" " : Str) ++ Txt.join (" " : Str) (b :: l)) := by
  apply TL.ext_tl
  rw [TL.join_eq, TL.tl_join, TL.tl_append, TL.tl_append, TL.join_eq, TL.tl_join]
  rfl
theorem sas (a b c : Str) : a ++ b ++ c = a ++ (b ++ c) := TL.ext_tl (by simp only [TL.tl_append, List.append_assoc])
theorem sne (a : Str) : a ++ ("" : Str) = a := TL.ext_tl (by rw [TL.tl_append, show TL.tl ("" : Str) = [] from by decide +kernel, List.append_nil])
theorem sen (a : Str) : ("" : Str) ++ a = a := TL.ext_tl (by rw [TL.tl_append, show TL.tl ("" : Str) = [] from by decide +kernel, List.nil_append])
def BadW (d : Nat) (ws : List Str) : Prop := (ws.length ≠ 3 ∧ ws.length ≠ 4) ∨ (∃ w r, ws = w :: r ∧ w ≠ ("part" : Str))
  ∨ ∃ c t r cc tt, ws = ("part" : Str) :: c :: t :: r ∧ F_p_corner_of c d = some cc ∧ F_p_turn_of t d = some tt ∧ (cc = none ∨ tt = none ∨ memC (eFL D.str) r [[], [("back" : Str)]] = some false)
section
variable {d : Nat} (hd : Dm d) {p0 : Prt} (hc0 : p0.1 ∈ Cs d) (ht0 : p0.2.1 ∈ Ts d)
include hd hc0 ht0
theorem words_row {ws : List Str} (h0 : ws ≠ []) (h5 : ws.length ≤ 5) (hf : ∀ w ∈ ws, NW w) : okSplit (Txt.join (" " : Str) ws) (" " : Str) = some ws ∧ RowFr (Txt.join (" " : Str) ws) := by
  have hz := line_big
  have e1 : (" " : Str).length = 1 := by decide
  have hb : ∀ l : List Str, (∀ x ∈ l, x.length ≤ 10) → (l.map (·.length)).sum ≤ 10 * l.length := by
    intro l
    induction l with
    | nil => intro _; exact Nat.le_refl _
    | cons a l ih =>
      intro hl
      have := ih fun x hx => hl x (List.mem_cons_of_mem _ hx)
      have := hl a List.mem_cons_self
      rw [List.map_cons, List.sum_cons, List.length_cons]; omega
  have h1 := hb ws fun w hw => (hf w hw).2.2
  have h2 := StrLaws.join_length_le (" " : Str) ws
  rw [e1, ← TL.join_eq] at h2
  have hs : Txt.split (Txt.join (" " : Str) ws) (" " : Str) = ws := TL.split_join (s := 32) (S := []) (by decide +kernel) (by decide +kernel) h0 fun w hw => (hf w hw).1
  refine ⟨?_, by omega, fun z => ?_⟩
  · unfold okSplit
    rw [hs, if_pos ⟨by decide, by omega, by omega⟩]
  · have z : 10 ∈ TL.tl (Txt.join (" " : Str) ws) := by
      have : ∀ {x : Nat} {l : List Nat}, x ∈ l.tail → x ∈ l := fun h => List.mem_of_mem_tail h
      exact z
    rw [TL.join_eq, TL.tl_join, show TL.tl (" " : Str) = [32] from by decide +kernel] at z
    rcases tl_joinL_mem hd hc0 ht0 _ 10 z with e | ⟨y, hy, hx⟩
    · omega
    · obtain ⟨w, hw, rfl⟩ := List.mem_map.mp hy
      exact (hf w hw).2.1 hx
theorem refuse {ws : List Str} (h0 : ws ≠ []) (h5 : ws.length ≤ 5) (hf : ∀ w ∈ ws, NW w) (hb : BadW d ws) {v : Str} (hv : v = Txt.join (" " : Str) ws) : RowFr v ∧ ∀ n : Int, F_p_part_of v n d = some (.er ⟨6, [n]⟩) := by
  obtain ⟨hs, hr⟩ := words_row hd hc0 ht0 h0 h5 hf
  subst hv
  refine ⟨hr, fun n => ?_⟩
  have hlen : ∀ ws : List Str, ws.length ≤ 5 → (ws.length ≠ 3 ∧ ws.length ≠ 4) → (!memB (((ws.length : Nat)) : Int) [((3 : Int), (4 : Int)).1, ((3 : Int), (4 : Int)).2]) = true := fun ws h5 h => by
    rcases (show ws.length = 0 ∨ ws.length = 1 ∨ ws.length = 2 ∨ ws.length = 5 by omega) with e | e | e | e <;> rw [e] <;> rfl
  have hlen2 : ∀ ws : List Str, ¬ (ws.length ≠ 3 ∧ ws.length ≠ 4) → (!memB (((ws.length : Nat)) : Int) [((3 : Int), (4 : Int)).1, ((3 : Int), (4 : Int)).2]) = false := fun ws h => by
    rcases (show ws.length = 3 ∨ ws.length = 4 by omega) with e | e <;> rw [e] <;> rfl
  by_cases hl : ws.length ≠ 3 ∧ ws.length ≠ 4
  · unfold F_p_part_of
    rw [hs, sbind, sbind, hlen ws h5 hl, sbind, if_pos rfl, sbind, if_pos rfl]
  · rcases hb with hb | ⟨w, r, rfl, hw⟩ | ⟨c, t, r, cc, tt, rfl, h1, h2, h3⟩
    · exact absurd hb hl
    · unfold F_p_part_of
      rw [hs, sbind, sbind, hlen2 _ hl, sbind, if_neg (by decide), show idx (w :: r) 0 = some w from (idx_nat (n := 0) rfl).trans rfl, sbind, decide_eq_false hw, sbind, if_pos (show (!false) = true from rfl)]
    · unfold F_p_part_of
      rw [hs, sbind, sbind, hlen2 _ hl, sbind, if_neg (by decide), show idx (("part" : Str) :: c :: t :: r) 0 = some ("part" : Str) from (idx_nat (n := 0) rfl).trans rfl, sbind, decide_eq_true rfl, sbind, if_neg (by decide),
        show idx (("part" : Str) :: c :: t :: r) 1 = some c from (idx_nat (n := 1) rfl).trans rfl, sbind, h1, sbind, sbind, show idx (("part" : Str) :: c :: t :: r) 2 = some t from (idx_nat (n := 2) rfl).trans rfl, sbind, h2, sbind, sbind, sbind]
      cases cc with
      | none => rw [show (none : Option (List Int)).isNone = true from rfl, if_pos rfl, sbind, if_pos rfl]
      | some cc =>
        rw [show (some cc : Option (List Int)).isNone = false from rfl, if_neg (by decide), sbind]
        cases tt with
        | none => rw [show (none : Option (List (Int × Int))).isNone = true from rfl, if_pos rfl, sbind, if_pos rfl]
        | some tt =>
          have h3 : memC (eFL D.str) r [[], [("back" : Str)]] = some false := by rcases h3 with h | h | h; cases h; cases h; exact h
          have hcut : cutT (("part" : Str) :: c :: t :: r) (some 3) none = r := cut_from _ 3 3 rfl
          have h3 : memC (eFL D.str) (cutT (("part" : Str) :: c :: t :: r) (some 3) none) [[], (([] : List Unit), [("back" : Str)]).2] = some false := by rw [hcut]; exact h3
          rw [show (some tt : Option (List (Int × Int))).isNone = false from rfl, if_neg (by decide), h3, show Option.map (fun x => !x) (some false) = some true from rfl, sbind, sbind, if_pos rfl]
end
noncomputable def tvL (T : Str) (n : Int) : Option (List Str) := (slS T (some 2) none).bind fun a => (catS a ("+w" : Str)).bind fun b => (mulT ("+x" : Str) n).bind fun e => (catS T ("+x" : Str)).bind fun g => (slS T (some 1) none).bind fun h => (catS h ("+" : Str)).bind fun i => (gUpper T).bind fun j => (catS ("x" : Str) h).bind fun k => some [b, e, a, g, i, j, k]
noncomputable def cvL (C : Str) (n : Int) : Option (List Str) := (slS C (some 1) none).bind fun a => (catS ("2" : Str) a).bind fun b => (catS C ("0" : Str)).bind fun e => (catS C ("1" : Str)).bind fun g => (catS ("-" : Str) a).bind fun h => (mulT ("0" : Str) (n - 1)).bind fun i => (catS i ("O" : Str)).bind fun j => some [b, a, e, g, h, j]
noncomputable def isNn {α : Type} (o : Option (Option α)) : Bool := match o with | some none => true | _ => false
theorem isNn_ok {α : Type} {o : Option (Option α)} (h : isNn o = true) : o = some none := by
  unfold isNn at h
  split at h
  · rfl
  · cases h
noncomputable def tvB (d : Nat) (t : Turn) : Bool := match tvL (tS t) d with | some l => l.all fun x => nwB x && isNn (F_p_turn_of x d) | none => false
noncomputable def cvB (d : Nat) (c : Cor) : Bool := match cvL (cS c) d with | some l => l.all fun x => nwB x && isNn (F_p_corner_of x d) | none => false
theorem tv_2 : ((Ts 2).all (tvB 2)) = true := by decide +kernel
theorem tv_3 : ((Ts 3).all (tvB 3)) = true := by decide +kernel
theorem cv_23 : ([2, 3].all fun d => (Cs d).all (cvB d)) = true := by decide +kernel
noncomputable def tbB (d : Nat) (t : Turn) : Bool := isNn (F_p_turn_of (tS t ++ ("\t" : Str)) d) && nwB (tS t ++ ("\t" : Str))
theorem tb_2 : ((Ts 2).all (tbB 2)) = true := by decide +kernel
theorem tb_3 : ((Ts 3).all (tbB 3)) = true := by decide +kernel
noncomputable def cwB (d : Nat) (c : Cor) : Bool := isNn (F_p_turn_of (cS c) d) && nwB (("part\t" : Str) ++ cS c) && decide (("part\t" : Str) ++ cS c ≠ ("part" : Str))
theorem cw_23 : ([2, 3].all fun d => (Cs d).all (cwB d)) = true := by decide +kernel
/-- the first blank as a tab -/
def rpB (p : Prt) : Bool := decide (Txt.repl1 (rowS p) (" " : Str) ("\t" : Str) = Txt.join (" " : Str) ((("part\t" : Str) ++ cS p.1) :: tS p.2.1 :: (wS p).drop 3))
theorem rp_2 : ((Cs 2).all fun c => (Ts 2).all fun t => [true, false].all fun b => rpB (c, t, b)) = true := by decide +kernel
theorem rp_30 : ((Ts 3).all fun t => [true, false].all fun b => rpB ((Cs 3).getD 0 [], t, b)) = true := by decide +kernel
theorem rp_31 : ((Ts 3).all fun t => [true, false].all fun b => rpB ((Cs 3).getD 1 [], t, b)) = true := by decide +kernel
theorem rp_32 : ((Ts 3).all fun t => [true, false].all fun b => rpB ((Cs 3).getD 2 [], t, b)) = true := by decide +kernel
theorem rp_33 : ((Ts 3).all fun t => [true, false].all fun b => rpB ((Cs 3).getD 3 [], t, b)) = true := by decide +kernel
theorem rp_34 : ((Ts 3).all fun t => [true, false].all fun b => rpB ((Cs 3).getD 4 [], t, b)) = true := by decide +kernel
theorem rp_35 : ((Ts 3).all fun t => [true, false].all fun b => rpB ((Cs 3).getD 5 [], t, b)) = true := by decide +kernel
theorem rp_36 : ((Ts 3).all fun t => [true, false].all fun b => rpB ((Cs 3).getD 6 [], t, b)) = true := by decide +kernel
theorem rp_37 : ((Ts 3).all fun t => [true, false].all fun b => rpB ((Cs 3).getD 7 [], t, b)) = true := by decide +kernel
theorem rp_ok {d : Nat} (hd : Dm d) {p : Prt} (hc : p.1 ∈ Cs d) (ht : p.2.1 ∈ Ts d) : Txt.repl1 (rowS p) (" " : Str) ("\t" : Str) = Txt.join (" " : Str) ((("part\t" : Str) ++ cS p.1) :: tS p.2.1 :: (wS p).drop 3) := by
  have key : ∀ c : Cor, ((Ts d).all fun t => [true, false].all fun b => rpB (c, t, b)) = true → c = p.1 → rpB p = true := fun c h e => by
    have := List.all_eq_true.mp (List.all_eq_true.mp h p.2.1 ht) p.2.2 (by cases p.2.2 <;> simp)
    rw [e] at this
    exact this
  have : rpB p = true := by
    rcases hd with rfl | rfl
    · exact key p.1 (List.all_eq_true.mp rp_2 p.1 hc) rfl
    · obtain ⟨i, hi, ei⟩ := List.mem_iff_getElem.mp hc
      have hg : (Cs 3).getD i [] = p.1 := by rw [List.getD_eq_getElem?_getD, List.getElem?_eq_getElem hi, ei]; rfl
      have hi8 : i < 8 := by rw [show (Cs 3).length = 8 from Cs_len (.inr rfl)] at hi; exact hi
      rcases (show i = 0 ∨ i = 1 ∨ i = 2 ∨ i = 3 ∨ i = 4 ∨ i = 5 ∨ i = 6 ∨ i = 7 by omega) with rfl | rfl | rfl | rfl | rfl | rfl | rfl | rfl
      · exact key _ rp_30 hg
      · exact key _ rp_31 hg
      · exact key _ rp_32 hg
      · exact key _ rp_33 hg
      · exact key _ rp_34 hg
      · exact key _ rp_35 hg
      · exact key _ rp_36 hg
      · exact key _ rp_37 hg
  exact of_decide_eq_true this
def pj (a b : Str) : Str := ("part " : Str) ++ a ++ (" " : Str) ++ b
theorem pj_is (a b : Str) : pj a b = Txt.join (" " : Str) [("part" : Str), a, b] := by
  unfold pj
  rw [show ("part " : Str) = ("part" : Str) ++ (" " : Str) from by decide +kernel]
  simp only [jnC, jn1, sas]
section
variable {d : Nat} (hd : Dm d) {p : Prt} (hc : p.1 ∈ Cs d) (ht : p.2.1 ∈ Ts d)
include hd hc ht
theorem tv_ok : ∃ ts, tvL (tS p.2.1) d = some ts ∧ ∀ x ∈ ts, NW x ∧ F_p_turn_of x d = some none := by
  have h : tvB d p.2.1 = true := by
    rcases hd with rfl | rfl
    · exact List.all_eq_true.mp tv_2 _ ht
    · exact List.all_eq_true.mp tv_3 _ ht
  unfold tvB at h
  cases e : tvL (tS p.2.1) d with
  | none => rw [e] at h; cases h
  | some l =>
    rw [e] at h
    refine ⟨l, rfl, fun x hx => ?_⟩
    obtain ⟨a, b⟩ := Bool.and_eq_true_iff.mp (List.all_eq_true.mp h x hx)
    exact ⟨nwB_ok a, isNn_ok b⟩
theorem cv_ok : ∃ cs, cvL (cS p.1) d = some cs ∧ ∀ x ∈ cs, NW x ∧ F_p_corner_of x d = some none := by
  have h : cvB d p.1 = true := List.all_eq_true.mp (List.all_eq_true.mp cv_23 d (mem23 hd)) _ hc
  unfold cvB at h
  cases e : cvL (cS p.1) d with
  | none => rw [e] at h; cases h
  | some l =>
    rw [e] at h
    refine ⟨l, rfl, fun x hx => ?_⟩
    obtain ⟨a, b⟩ := Bool.and_eq_true_iff.mp (List.all_eq_true.mp h x hx)
    exact ⟨nwB_ok a, isNn_ok b⟩
theorem tb_ok : NW (tS p.2.1 ++ ("\t" : Str)) ∧ F_p_turn_of (tS p.2.1 ++ ("\t" : Str)) d = some none := by
  have h : tbB d p.2.1 = true := by
    rcases hd with rfl | rfl
    · exact List.all_eq_true.mp tb_2 _ ht
    · exact List.all_eq_true.mp tb_3 _ ht
  obtain ⟨a, b⟩ := Bool.and_eq_true_iff.mp h
  exact ⟨nwB_ok b, isNn_ok a⟩
theorem cw_ok : F_p_turn_of (cS p.1) d = some none ∧ NW (("part\t" : Str) ++ cS p.1) ∧ ("part\t" : Str) ++ cS p.1 ≠ ("part" : Str) := by
  have h : cwB d p.1 = true := List.all_eq_true.mp (List.all_eq_true.mp cw_23 d (mem23 hd)) _ hc
  obtain ⟨ab, c⟩ := Bool.and_eq_true_iff.mp h
  obtain ⟨a, b⟩ := Bool.and_eq_true_iff.mp ab
  exact ⟨isNn_ok a, nwB_ok b, of_decide_eq_true c⟩
theorem nwC : NW (cS p.1) := ⟨fun z => by have := (cS_ok hd hc).2 _ z; omega, fun z => by have := (cS_ok hd hc).2 _ z; omega, by have := (cS_ok hd hc).1; omega⟩
theorem nwT : NW (tS p.2.1) := ⟨fun z => by have := (tS_ok hd ht).2 _ z; omega, fun z => by have := (tS_ok hd ht).2 _ z; omega, by have := (tS_ok hd ht).1; omega⟩
def tailL (p : Prt) : List Str := [("parts " : Str) ++ cS p.1 ++ (" " : Str) ++ tS p.2.1, ("part " : Str) ++ cS p.1, ("part " : Str) ++ cS p.1 ++ (" " : Str) ++ tS p.2.1 ++ (" Back" : Str), ("" : Str)]
  ++ [("part " : Str) ++ cS p.1 ++ (" " : Str) ++ tS p.2.1 ++ (" back back" : Str), rowS p ++ (" " : Str), (" " : Str) ++ rowS p, ("part  " : Str) ++ cS p.1 ++ (" " : Str) ++ tS p.2.1]
  ++ [Txt.repl1 (rowS p) (" " : Str) ("\t" : Str), rowS p ++ ("\t" : Str)]
theorem row_parts9 : okSplit (rowS p) (" " : Str) = some (wS p) := by
  have hz := line_big
  have hl := row_len hd hc ht
  have h4 : (wS p).length ≤ 4 := by unfold wS; split <;> simp
  unfold okSplit
  rw [row_split hd hc ht, if_pos ⟨by decide, by omega, by omega⟩]
theorem pt_is {ts cs : List Str} (hts : tvL (tS p.2.1) d = some ts) (hcs : cvL (cS p.1) d = some cs) (nt : ∀ x ∈ ts, NW x) (nc : ∀ x ∈ cs, NW x) : ptL (rowS p) = some (ts.map (pj (cS p.1)) ++ cs.map (fun x => pj x (tS p.2.1)) ++ tailL p) := by
  have l1 := (cS_ok hd hc).1
  have l2 := (tS_ok hd ht).1
  have lr := row_len hd hc ht
  have hz := line_big
  have c0 : ("part " : Str).length = 5 := by decide
  have c1 : ("parts " : Str).length = 6 := by decide
  have c2 : ("part  " : Str).length = 6 := by decide
  have s1 : (" " : Str).length = 1 := by decide
  have s2 : (" back back" : Str).length = 10 := by decide
  have s3 : (" Back" : Str).length = 5 := by decide
  have s4 : ("\t" : Str).length = 1 := by decide
  have i1 : idx (wS p) 1 = some (cS p.1) := by unfold wS; split <;> rfl
  have i2 : idx (wS p) 2 = some (tS p.2.1) := by unfold wS; split <;> rfl
  have hlc : lenS (cS p.1) = some (d : Int) := by
    have : (cS p.1).length = d := by
      have h1 := (C_ok hd hc).1
      show ((p.1.map fun b => if b = 0 then 48 else 49).toArray).size = d
      rw [List.size_toArray, List.length_map, h1]
    unfold lenS
    rw [if_pos (by omega), this]
  unfold tvL at hts
  obtain ⟨a, ha, hts⟩ := Option.bind_eq_some_iff.mp hts
  obtain ⟨b, hb, hts⟩ := Option.bind_eq_some_iff.mp hts
  obtain ⟨e, he, hts⟩ := Option.bind_eq_some_iff.mp hts
  obtain ⟨g, hg, hts⟩ := Option.bind_eq_some_iff.mp hts
  obtain ⟨h, hh, hts⟩ := Option.bind_eq_some_iff.mp hts
  obtain ⟨i, hi, hts⟩ := Option.bind_eq_some_iff.mp hts
  obtain ⟨j, hj, hts⟩ := Option.bind_eq_some_iff.mp hts
  obtain ⟨k, hk, hts⟩ := Option.bind_eq_some_iff.mp hts
  have hts := (Option.some.inj hts).symm
  unfold cvL at hcs
  obtain ⟨a', ha', hcs⟩ := Option.bind_eq_some_iff.mp hcs
  obtain ⟨b', hb', hcs⟩ := Option.bind_eq_some_iff.mp hcs
  obtain ⟨e', he', hcs⟩ := Option.bind_eq_some_iff.mp hcs
  obtain ⟨g', hg', hcs⟩ := Option.bind_eq_some_iff.mp hcs
  obtain ⟨h', hh', hcs⟩ := Option.bind_eq_some_iff.mp hcs
  obtain ⟨i', hi', hcs⟩ := Option.bind_eq_some_iff.mp hcs
  obtain ⟨j', hj', hcs⟩ := Option.bind_eq_some_iff.mp hcs
  have hcs := (Option.some.inj hcs).symm
  have k1 : catC [b, e, a, g] [i, j, k] = some ts := by rw [hts]; exact catC_ok (by simp)
  have k2 : catC [b', a', e', g'] [h', j'] = some cs := by rw [hcs]; exact catC_ok (by simp)
  have t7 : ts.length = 7 := by rw [hts]; rfl
  have c6 : cs.length = 6 := by rw [hcs]; rfl
  have p1 : catS ("part " : Str) (cS p.1) = some (("part " : Str) ++ cS p.1) := cat_ok (by omega)
  have p2 : catS (("part " : Str) ++ cS p.1) (" " : Str) = some (("part " : Str) ++ cS p.1 ++ (" " : Str)) := cat_ok (by simp only [len_cat]; omega)
  have p3 : catS (("part " : Str) ++ cS p.1 ++ (" " : Str)) (tS p.2.1) = some (("part " : Str) ++ cS p.1 ++ (" " : Str) ++ tS p.2.1) := cat_ok (by simp only [len_cat]; omega)
  unfold ptL
  rw [row_parts9 hd hc ht, sbind, sbind, i1, sbind, i2, sbind]
  rw [ha, sbind, hb, sbind, hlc, sbind, he, sbind, sbind, hg, sbind, sbind]
  rw [hh, sbind, hi, sbind, hj, sbind, sbind, hk, sbind, k1, sbind, sbind]
  rw [ha', sbind, hb', sbind, sbind, he', sbind, hg', sbind, sbind]
  rw [sbind, hh', sbind, sbind, hi', sbind, hj', sbind, k2, sbind, sbind]
  rw [sbind, fits_ok (by omega), sbind, mapO_pure (f := pj (cS p.1)) (fun x hx => by
    have := (nt x hx).2.2
    rw [p1, sbind, p2, sbind, cat_ok (by simp only [len_cat]; omega), sbind]; rfl), sbind]
  rw [sbind, fits_ok (by omega), sbind, mapO_pure (f := fun x => pj x (tS p.2.1)) (fun x hx => by
    have := (nc x hx).2.2
    rw [cat_ok (by omega), sbind, cat_ok (by simp only [len_cat]; omega), sbind, cat_ok (by simp only [len_cat]; omega), sbind]; rfl), sbind]
  rw [catC_ok (by rw [List.length_map, List.length_map]; omega), sbind, sbind]
  rw [cat_ok (by omega), sbind, cat_ok (by simp only [len_cat]; omega), sbind, cat_ok (by simp only [len_cat]; omega), sbind, p1, sbind, sbind, p2, sbind, p3, sbind, cat_ok (by simp only [len_cat]; omega), sbind]
  rw [catC_ok (by simp [List.length_append, List.length_map]; omega), sbind, sbind]
  rw [sbind, p2, sbind, p3, sbind, cat_ok (by simp only [len_cat]; omega), sbind, cat_ok (by omega), sbind, cat_ok (by omega), sbind, cat_ok (by omega), sbind, cat_ok (by simp only [len_cat]; omega), sbind, cat_ok (by simp only [len_cat]; omega), sbind]
  rw [catC_ok (by simp [List.length_append, List.length_map]; omega), sbind, sbind]
  rw [show gRepl1 (" " : Str) ("\t" : Str) (rowS p) = some (Txt.repl1 (rowS p) (" " : Str) ("\t" : Str)) from if_pos (by omega), sbind, cat_ok (by omega), sbind, catC_ok (by simp [List.length_append, List.length_map]; omega), sbind, sbind]
  unfold tailL
  simp only [List.append_assoc]
theorem tail_bad : ∀ v ∈ tailL p, RowFr v ∧ ∀ n : Int, F_p_part_of v n d = some (.er ⟨6, [n]⟩) := by
  have nC := nwC hd hc ht
  have nT := nwT hd hc ht
  have hP : NW ("part" : Str) := nwB_ok (by decide +kernel)
  have hPs : NW ("parts" : Str) := nwB_ok (by decide +kernel)
  have hB : NW ("back" : Str) := nwB_ok (by decide +kernel)
  have hB2 : NW ("Back" : Str) := nwB_ok (by decide +kernel)
  have hB3 : NW ("back\t" : Str) := nwB_ok (by decide +kernel)
  have hE : NW ("" : Str) := nwB_ok (by decide +kernel)
  obtain ⟨w1, w2, w3⟩ := cw_ok hd hc ht
  obtain ⟨b1, b2⟩ := tb_ok hd hc ht
  have pc := p_corner_of hd hc
  have pt := p_turn_of hd ht
  have hr : rowS p = Txt.join (" " : Str) (wS p) := rfl
  have all2 : ∀ {l : List Str}, (∀ w ∈ l, NW w) → ∀ {x : Str}, NW x → ∀ w ∈ x :: l, NW w := fun h x hx w hw => by
    rcases List.mem_cons.mp hw with rfl | hw
    · exact hx
    · exact h w hw
  have a0 : ∀ w ∈ ([] : List Str), NW w := fun w hw => by cases hw
  have ep : ("part " : Str) = ("part" : Str) ++ (" " : Str) := by decide +kernel
  have eps : ("parts " : Str) = ("parts" : Str) ++ (" " : Str) := by decide +kernel
  have ep2 : ("part  " : Str) = ("part" : Str) ++ ((" " : Str) ++ (" " : Str)) := by decide +kernel
  have eB : (" Back" : Str) = (" " : Str) ++ ("Back" : Str) := by decide +kernel
  have ebb : (" back back" : Str) = (" " : Str) ++ (("back" : Str) ++ ((" " : Str) ++ ("back" : Str))) := by decide +kernel
  have ebt : ("back\t" : Str) = ("back" : Str) ++ ("\t" : Str) := by decide +kernel
  intro v hv
  unfold tailL at hv
  simp only [List.mem_append, List.mem_cons, List.not_mem_nil, or_false] at hv
  rcases hv with ((rfl | rfl | rfl | rfl) | (rfl | rfl | rfl | rfl)) | (rfl | rfl)
  · exact refuse hd hc ht (ws := [("parts" : Str), cS p.1, tS p.2.1]) (by simp) (by simp) (all2 (all2 (all2 a0 nT) nC) hPs) (.inr (.inl ⟨_, _, rfl, by decide +kernel⟩)) (by rw [eps]; simp only [jnC, jn1, sas])
  · exact refuse hd hc ht (ws := [("part" : Str), cS p.1]) (by simp) (by simp) (all2 (all2 a0 nC) hP) (.inl (by simp)) (by rw [ep]; simp only [jnC, jn1, sas])
  · exact refuse hd hc ht (ws := [("part" : Str), cS p.1, tS p.2.1, ("Back" : Str)]) (by simp) (by simp) (all2 (all2 (all2 (all2 a0 hB2) nT) nC) hP) (.inr (.inr ⟨_, _, _, _, _, rfl, pc, pt, .inr (.inr (by decide +kernel))⟩)) (by rw [ep, eB]; simp only [jnC, jn1, sas])
  · exact refuse hd hc ht (ws := [("" : Str)]) (by simp) (by simp) (all2 a0 hE) (.inl (by simp)) (by simp only [jn1])
  · exact refuse hd hc ht (ws := [("part" : Str), cS p.1, tS p.2.1, ("back" : Str), ("back" : Str)]) (by simp) (by simp) (all2 (all2 (all2 (all2 (all2 a0 hB) hB) nT) nC) hP) (.inl (by simp)) (by rw [ep, ebb]; simp only [jnC, jn1, sas])
  · rw [hr]
    cases hb : p.2.2 with
    | true =>
      have e : wS p = [("part" : Str), cS p.1, tS p.2.1, ("back" : Str)] := by unfold wS; rw [if_pos hb]
      rw [e]
      exact refuse hd hc ht (ws := [("part" : Str), cS p.1, tS p.2.1, ("back" : Str), ("" : Str)]) (by simp) (by simp) (all2 (all2 (all2 (all2 (all2 a0 hE) hB) nT) nC) hP) (.inl (by simp)) (by simp only [jnC, jn1, sas, sne])
    | false =>
      have e : wS p = [("part" : Str), cS p.1, tS p.2.1] := by unfold wS; rw [if_neg (by rw [hb]; decide)]
      rw [e]
      exact refuse hd hc ht (ws := [("part" : Str), cS p.1, tS p.2.1, ("" : Str)]) (by simp) (by simp) (all2 (all2 (all2 (all2 a0 hE) nT) nC) hP) (.inr (.inr ⟨_, _, _, _, _, rfl, pc, pt, .inr (.inr (by decide +kernel))⟩)) (by simp only [jnC, jn1, sas, sne])
  · rw [hr]
    refine refuse hd hc ht (ws := ("" : Str) :: wS p) (by simp) (by unfold wS; split <;> simp) (all2 (by
      unfold wS
      split
      · exact all2 (all2 (all2 (all2 a0 hB) nT) nC) hP
      · exact all2 (all2 (all2 a0 nT) nC) hP) hE) (.inr (.inl ⟨_, _, rfl, by decide +kernel⟩)) ?_
    unfold wS
    split <;> simp only [jnC, jn1, sen]
  · exact refuse hd hc ht (ws := [("part" : Str), ("" : Str), cS p.1, tS p.2.1]) (by simp) (by simp) (all2 (all2 (all2 (all2 a0 nT) nC) hE) hP) (.inr (.inr ⟨_, _, _, none, none, rfl, by rcases hd with rfl | rfl <;> decide +kernel, w1, .inl rfl⟩)) (by rw [ep2]; simp only [jnC, jn1, sas, sen])
  · refine refuse hd hc ht (ws := (("part\t" : Str) ++ cS p.1) :: tS p.2.1 :: (wS p).drop 3) (by simp) (by unfold wS; split <;> simp) (all2 (all2 (by
      unfold wS
      split
      · exact all2 a0 hB
      · exact a0) nT) w2) (.inr (.inl ⟨_, _, rfl, w3⟩)) (rp_ok hd hc ht)
  · rw [hr]
    cases hb : p.2.2 with
    | true =>
      have e : wS p = [("part" : Str), cS p.1, tS p.2.1, ("back" : Str)] := by unfold wS; rw [if_pos hb]
      rw [e]
      exact refuse hd hc ht (ws := [("part" : Str), cS p.1, tS p.2.1, ("back\t" : Str)]) (by simp) (by simp) (all2 (all2 (all2 (all2 a0 hB3) nT) nC) hP) (.inr (.inr ⟨_, _, _, _, _, rfl, pc, pt, .inr (.inr (by decide +kernel))⟩)) (by rw [ebt]; simp only [jnC, jn1, sas])
    | false =>
      have e : wS p = [("part" : Str), cS p.1, tS p.2.1] := by unfold wS; rw [if_neg (by rw [hb]; decide)]
      rw [e]
      exact refuse hd hc ht (ws := [("part" : Str), cS p.1, tS p.2.1 ++ ("\t" : Str)]) (by simp) (by simp) (all2 (all2 (all2 a0 b1) nC) hP) (.inr (.inr ⟨_, _, _, _, _, rfl, pc, b2, .inr (.inl rfl)⟩)) (by simp only [jnC, jn1, sas])
theorem bad_part (draw : Int) : ∃ t, F_L_bad_part (rowS p) draw = some t ∧ RowFr t ∧ ∀ n : Int, F_p_part_of t n d = some (.er ⟨6, [n]⟩) := by
  obtain ⟨ts, hts, nt⟩ := tv_ok hd hc ht
  obtain ⟨cs, hcs, nc⟩ := cv_ok hd hc ht
  have nC := nwC hd hc ht
  have nT := nwT hd hc ht
  have hP : NW ("part" : Str) := nwB_ok (by decide +kernel)
  have all3 : ∀ {x y z : Str}, NW x → NW y → NW z → ∀ w ∈ [x, y, z], NW w := fun hx hy hz w hw => by
    simp only [List.mem_cons, List.not_mem_nil, or_false] at hw
    rcases hw with rfl | rfl | rfl
    · exact hx
    · exact hy
    · exact hz
  rw [ptL_is, pt_is hd hc ht hts hcs (fun x hx => (nt x hx).1) (fun x hx => (nc x hx).1), sbind]
  have hpos : 0 < (ts.map (pj (cS p.1)) ++ cs.map (fun x => pj x (tS p.2.1)) ++ tailL p).length := by
    rw [List.length_append]
    have : 0 < (tailL p).length := by unfold tailL; simp
    omega
  generalize hl : (ts.map (pj (cS p.1)) ++ cs.map (fun x => pj x (tS p.2.1)) ++ tailL p) = l at hpos ⊢
  rw [modC_pos (by omega), sbind]
  obtain ⟨t, h1, h2⟩ := idx_mem (l := l) (i := draw % (l.length : Int)) (by have := Int.emod_nonneg draw (b := (l.length : Int)) (by omega); omega) (Int.emod_lt_of_pos _ (by omega))
  refine ⟨t, h1, ?_⟩
  rw [← hl] at h2
  rcases List.mem_append.mp h2 with h2 | h2
  · rcases List.mem_append.mp h2 with h2 | h2
    · obtain ⟨x, hx, rfl⟩ := List.mem_map.mp h2
      exact refuse hd hc ht (ws := [("part" : Str), cS p.1, x]) (by simp) (by simp) (all3 hP nC (nt x hx).1) (.inr (.inr ⟨_, _, _, _, _, rfl, p_corner_of hd hc, (nt x hx).2, .inr (.inl rfl)⟩)) (pj_is _ _)
    · obtain ⟨x, hx, rfl⟩ := List.mem_map.mp h2
      exact refuse hd hc ht (ws := [("part" : Str), x, tS p.2.1]) (by simp) (by simp) (all3 hP (nc x hx).1 nT) (.inr (.inr ⟨_, _, _, _, _, rfl, (nc x hx).2, p_turn_of hd ht, .inl rfl⟩)) (pj_is _ _)
  · exact tail_bad hd hc ht t h2
end
theorem set_is {l : List Str} {i : Nat} (hi : i < l.length) (t : Str) : l.take i ++ [t] ++ l.drop (i + 1) = l.set i t := by
  rw [List.set_eq_take_append_cons_drop, if_pos hi, List.append_assoc]
  rfl
theorem set_cat {l : List Str} {i : Nat} (hi : i < l.length) (hn : l.length ≤ 20) (t : Str) {a b : Int} (ha : a = i) (hb : b = ((i + 1 : Nat) : Int)) : catC (cutT l none (some a)) [t] = some (l.take i ++ [t]) ∧ catC (l.take i ++ [t]) (cutT l (some b) none) = some (l.set i t) := by
  rw [cut_to l i a ha, cut_from l (i + 1) b hb]
  refine ⟨catC_ok (by simp; omega), ?_⟩
  rw [catC_ok (by simp; omega), set_is hi]
theorem set_fr {l : List Str} {i : Nat} {t : Str} (h : ∀ r ∈ l, RowFr r) (ht : RowFr t) : ∀ r ∈ l.set i t, RowFr r := fun r hr => by
  rcases List.mem_or_eq_of_mem_set hr with hr | rfl
  · exact h r hr
  · exact ht
def Rw (d : Nat) (j : Bool) (ps : List Prt) : List Str := hdW "fold" d j :: ps.map rowS
structure Flt (d : Nat) (j : Bool) (ps : List Prt) (rows : List Str) (n : Int) (kind : Str) : Prop where
  len : rows.length ≤ 20
  ne : rows ≠ []
  fr : ∀ r ∈ rows, RowFr r
  flt : (n = 1 ∧ kind = ("row" : Str) ∧ ∃ t, rows[0]? = some t ∧ F_p_head_of t = some (.er ⟨6, [1]⟩))
    ∨ (∃ q : Nat, n = ((q + 2 : Nat) : Int) ∧ q < 2 ^ d ∧ q + 1 ≤ rows.length ∧ (∀ i, i < q + 1 → rows[i]? = (Rw d j ps)[i]?) ∧
        ((kind = ("row" : Str) ∧ (rows.length = q + 1 ∨ ∃ t, rows[q + 1]? = some t ∧ ∀ n : Int, F_p_part_of t n d = some (.er ⟨6, [n]⟩)))
         ∨ (kind = ("corner" : Str) ∧ ∃ p : Prt, rows[q + 1]? = some (rowS p) ∧ p.1 ∈ Cs d ∧ p.2.1 ∈ Ts d ∧ ∃ p' ∈ ps.take q, p'.1 = p.1)))
    ∨ (n = ((2 ^ d + 2 : Nat) : Int) ∧ kind = ("row" : Str) ∧ ∃ t, rows = Rw d j ps ++ [t])
theorem back_fr : RowFr ("part 0 back" : Str) := frB_ok (by decide +kernel)
section
variable {d : Nat} (hd : Dm d) (j : Bool) {ps : List Prt} (h : PartsOk d ps)
include hd h
theorem Rw_len : (Rw d j ps).length = 2 ^ d + 1 := by unfold Rw; rw [List.length_cons, List.length_map, h.len]
theorem Rw_fr : ∀ r ∈ Rw d j ps, RowFr r := fun r hr => by
  unfold Rw at hr
  rcases List.mem_cons.mp hr with rfl | hr
  · have := hdW_len word_fold d j
    exact ⟨by omega, hdW_free word_fold j⟩
  · obtain ⟨p, hp, rfl⟩ := List.mem_map.mp hr
    have := row_len hd (h.cor p hp) (h.trn p hp)
    exact ⟨by omega, row_free hd (h.cor p hp) (h.trn p hp)⟩
theorem Rw_at {a : Nat} (ha : a < ps.length) : (Rw d j ps)[a + 1]? = some (rowS ps[a]) := by
  unfold Rw
  rw [List.getElem?_cons_succ, List.getElem?_map, List.getElem?_eq_getElem ha]; rfl
theorem row_parts {p : Prt} (hc : p.1 ∈ Cs d) (ht : p.2.1 ∈ Ts d) : okSplit (rowS p) (" " : Str) = some (wS p) := by
  have hz := line_big
  have hl := row_len hd hc ht
  have h4 : (wS p).length ≤ 4 := by unfold wS; split <;> simp
  unfold okSplit
  rw [row_split hd hc ht, if_pos ⟨by decide, by omega, by omega⟩]
theorem row_joined {p : Prt} (hc : p.1 ∈ Cs d) (ht : p.2.1 ∈ Ts d) : joinC (" " : Str) (wS p) = some (rowS p) := by
  have hz := line_big
  have h4 : (wS p).length ≤ 4 := by unfold wS; split <;> simp
  have e1 : (" " : Str).length = 1 := by decide
  have hb : ∀ l : List Str, (∀ x ∈ l, x.length ≤ 6) → (l.map (·.length)).sum ≤ 6 * l.length := by
    intro l
    induction l with
    | nil => intro _; exact Nat.le_refl _
    | cons a l ih =>
      intro hl
      have := ih fun x hx => hl x (List.mem_cons_of_mem _ hx)
      have := hl a List.mem_cons_self
      rw [List.map_cons, List.sum_cons, List.length_cons]; omega
  have h2 := hb (wS p) fun x hx => (wS_ok hd hc ht x hx).1
  unfold joinC
  rw [if_pos (by rw [e1]; omega)]
  rfl
theorem l_second {rows : List Str} {n : Int} {kind : Str} (H : Flt d j ps rows n kind) (draw : Int) : ∃ rows', F_L_second rows n draw = some rows' ∧ Flt d j ps rows' n kind := by
  have hpw : 0 < 2 ^ d := Nat.pow_pos (by decide)
  unfold F_L_second
  rw [sbind]
  cases q : (decide ((draw % 2) = 0)) || (decide ((rows.length : Int) ≤ n)) with
  | true => exact ⟨rows, if_pos rfl, H⟩
  | false =>
    obtain ⟨_, q2⟩ := Bool.or_eq_false_iff.mp q
    have q2 : n < rows.length := Int.not_le.mp (of_decide_eq_false q2)
    have hn0 : 0 < n := by
      rcases H.flt with ⟨e, _⟩ | ⟨q, e, _⟩ | ⟨e, _⟩ <;> omega
    have r0 := Int.emod_nonneg (draw / 2) (b := (rows.length : Int) - n) (by omega)
    have r1 := Int.emod_lt_of_pos (draw / 2) (b := (rows.length : Int) - n) (by omega)
    obtain ⟨i, hi⟩ : ∃ i : Nat, n + draw / 2 % ((rows.length : Int) - n) = i := ⟨(n + draw / 2 % ((rows.length : Int) - n)).toNat, by omega⟩
    have hil : i < rows.length := by omega
    obtain ⟨c1, c2⟩ := set_cat hil H.len ("part 0 back" : Str) (a := (i : Int)) (b := (i : Int) + 1) rfl (by omega)
    rw [if_neg (by decide), modC_pos (by omega), sbind, sbind, hi, c1, sbind, c2, sbind]
    have hat : ∀ k : Nat, (k : Int) < n → (rows.set i ("part 0 back" : Str))[k]? = rows[k]? := fun k hk => List.getElem?_set_ne (by omega)
    refine ⟨_, rfl, ⟨by rw [List.length_set]; exact H.len, fun e => H.ne (by have := congrArg List.length e; rw [List.length_set] at this; exact List.eq_nil_of_length_eq_zero this), set_fr H.fr back_fr, ?_⟩⟩
    rcases H.flt with ⟨e, ek, t, h1, h2⟩ | ⟨q, e, hq, hl, hp, ho⟩ | ⟨e, ek, t, ht⟩
    · exact .inl ⟨e, ek, t, by rw [hat 0 (by omega)]; exact h1, h2⟩
    · refine .inr (.inl ⟨q, e, hq, by rw [List.length_set]; exact hl, fun k hk => by rw [hat k (by omega)]; exact hp k hk, ?_⟩)
      rcases ho with ⟨ek, ho | ⟨t, ht, hb⟩⟩ | ⟨ek, p, hr, h3⟩
      · omega
      · exact .inl ⟨ek, .inr ⟨t, by rw [hat (q + 1) (by omega)]; exact ht, hb⟩⟩
      · exact .inr ⟨ek, p, by rw [hat (q + 1) (by omega)]; exact hr, h3⟩
    · have hR := Rw_len hd j h
      have := congrArg List.length ht
      rw [List.length_append, List.length_singleton] at this
      omega
theorem l_faulty (draw : Int) (h0 : 0 ≤ draw) : ∃ r, F_L_faulty (Rw d j ps) draw = some r ∧ Flt d j ps r.1 r.2.1 r.2.2 := by
  have h8 : 2 ^ d ≤ 8 := by rcases hd with rfl | rfl <;> decide
  have h1 : 0 < 2 ^ d := Nat.pow_pos (by decide)
  have hR := Rw_len hd j h
  have hne : Rw d j ps ≠ [] := by unfold Rw; exact List.cons_ne_nil _ _
  have hfr := Rw_fr hd j h
  have hN : ((Rw d j ps).length : Int) - 1 = ((2 ^ d : Nat) : Int) := by omega
  have r0 := Int.emod_nonneg (draw / 6) (b := ((2 ^ d : Nat) : Int)) (by omega)
  have r1 := Int.emod_lt_of_pos (draw / 6) (b := ((2 ^ d : Nat) : Int)) (by omega)
  obtain ⟨a, ha⟩ : ∃ a : Nat, draw / 6 % ((2 ^ d : Nat) : Int) = a := ⟨(draw / 6 % ((2 ^ d : Nat) : Int)).toNat, by omega⟩
  have ha' : a < ps.length := by rw [h.len]; omega
  have hat : (Rw d j ps)[a + 1]? = some (rowS ps[a]) := Rw_at hd j h ha'
  have hc := h.cor _ (List.getElem_mem ha')
  have ht := h.trn _ (List.getElem_mem ha')
  have e1 : (1 : Int) + (a : Int) = ((a + 1 : Nat) : Int) := by omega
  unfold F_L_faulty
  rw [sbind, hN, modC_pos (by omega), sbind, sbind, sbind, sbind, ha, e1]
  by_cases k0 : draw % 6 = 0
  · obtain ⟨t, t1, t2, t3⟩ := bad_head hd j (draw / 60)
    have ec : cutT (Rw d j ps) (some 1) none = ps.map rowS := cut_from (Rw d j ps) 1 1 rfl
    rw [decide_eq_true k0, if_pos rfl, show idx (Rw d j ps) 0 = some (hdW "fold" d j) from (idx_nat (n := 0) rfl).trans rfl, sbind, t1, sbind, ec, catC_ok (by simp [h.len]; omega), sbind]
    refine ⟨_, rfl, ⟨by simp [h.len]; omega, List.cons_ne_nil _ _, fun r hr => ?_, .inl ⟨rfl, rfl, t, rfl, t3⟩⟩⟩
    rcases List.mem_cons.mp hr with rfl | hr
    · exact t2
    · exact hfr r (List.mem_cons_of_mem _ hr)
  · rw [decide_eq_false k0, if_neg (by decide), sbind]
    have hset : ∀ {t : Str} (k : Nat), k < a + 1 → ((Rw d j ps).set (a + 1) t)[k]? = (Rw d j ps)[k]? := fun k hk => List.getElem?_set_ne (by omega)
    have hget : ∀ t : Str, ((Rw d j ps).set (a + 1) t)[a + 1]? = some t := fun t => List.getElem?_set_self (by omega)
    have hlen : ∀ t : Str, ((Rw d j ps).set (a + 1) t).length = 2 ^ d + 1 := fun t => by rw [List.length_set, hR]
    have hnn : ∀ t : Str, (Rw d j ps).set (a + 1) t ≠ [] := fun t e => by have := hlen t; rw [e] at this; cases this
    have i1 : idx (Rw d j ps) ((a + 1 : Nat) : Int) = some (rowS ps[a]) := by rw [idx_nat rfl, hat]
    have cc : ∀ t : Str, catC (cutT (Rw d j ps) none (some ((a + 1 : Nat) : Int))) [t] = some ((Rw d j ps).take (a + 1) ++ [t]) ∧ catC ((Rw d j ps).take (a + 1) ++ [t]) (cutT (Rw d j ps) (some (((a + 1 : Nat) : Int) + 1)) none) = some ((Rw d j ps).set (a + 1) t) := fun t => set_cat (by omega) (by omega) t rfl (by omega)
    by_cases k3 : draw % 6 < 3
    · obtain ⟨t, t1, t2, t3⟩ := bad_part hd hc ht (draw / 60)
      obtain ⟨c1, c2⟩ := cc t
      rw [decide_eq_true k3, if_pos rfl, i1, sbind, t1, sbind, c1, sbind, c2, sbind]
      exact ⟨_, rfl, ⟨by show ((Rw d j ps).set (a + 1) t).length ≤ 20; rw [hlen]; omega, hnn t, set_fr hfr t2, .inr (.inl ⟨a, by show ((a + 1 : Nat) : Int) + 1 = _; omega, by omega, by show _ ≤ ((Rw d j ps).set (a + 1) t).length; rw [hlen]; omega, hset, .inl ⟨rfl, .inr ⟨t, hget t, t3⟩⟩⟩)⟩⟩
    · rw [decide_eq_false k3, if_neg (by decide), sbind]
      cases k4 : (decide (draw % 6 = 3)) && (decide (1 < ((a + 1 : Nat) : Int))) with
      | true =>
        obtain ⟨_, ka⟩ := Bool.and_eq_true_iff.mp k4
        have ka : 1 < ((a + 1 : Nat) : Int) := of_decide_eq_true ka
        have ea : ((a + 1 : Nat) : Int) - 1 = (a : Int) := by omega
        have s0 := Int.emod_nonneg (draw / 60) (b := (a : Int)) (by omega)
        have s1 := Int.emod_lt_of_pos (draw / 60) (b := (a : Int)) (by omega)
        obtain ⟨b, hb⟩ : ∃ b : Nat, draw / 60 % (a : Int) = b := ⟨(draw / 60 % (a : Int)).toNat, by omega⟩
        have hb' : b < ps.length := by omega
        have hcb := h.cor _ (List.getElem_mem hb')
        have htb := h.trn _ (List.getElem_mem hb')
        have i2 : idx (Rw d j ps) (1 + (b : Int)) = some (rowS ps[b]) := by rw [idx_nat (n := b + 1) (by omega), Rw_at hd j h hb']
        have f2 : idx (wS ps[b]) 1 = some (cS ps[b].1) := by unfold wS; split <;> rfl
        have hput : Cy.putAt (wS ps[a]) 1 (cS ps[b].1) = some (wS (ps[b].1, ps[a].2)) := by
          have : ∀ p : Prt, ∀ c : Cor, Cy.putAt (wS p) 1 (cS c) = some (wS (c, p.2)) := by
            intro p c
            obtain ⟨x, t, b⟩ := p
            unfold wS
            cases b <;> rfl
          exact this _ _
        obtain ⟨c1, c2⟩ := cc (rowS (ps[b].1, ps[a].2))
        rw [if_pos rfl, i1, sbind, row_parts hd h hc ht, sbind, ea, modC_pos (by omega), sbind, hb, i2, sbind, row_parts hd h hcb htb, sbind, f2, sbind, sbind, hput, sbind, row_joined hd h (p := (ps[b].1, ps[a].2)) hcb ht, sbind, c1, sbind, c2, sbind]
        have hf : RowFr (rowS (ps[b].1, ps[a].2)) := by
          have := row_len hd (p := (ps[b].1, ps[a].2)) hcb ht
          exact ⟨by omega, row_free hd (p := (ps[b].1, ps[a].2)) hcb ht⟩
        refine ⟨_, rfl, ⟨by show ((Rw d j ps).set (a + 1) _).length ≤ 20; rw [hlen]; omega, hnn _, set_fr hfr hf, .inr (.inl ⟨a, by show ((a + 1 : Nat) : Int) + 1 = _; omega, by omega, by show _ ≤ ((Rw d j ps).set (a + 1) _).length; rw [hlen]; omega, hset, .inr ⟨rfl, (ps[b].1, ps[a].2), hget _, hcb, ht, ps[b], ?_, rfl⟩⟩)⟩⟩
        exact List.mem_take_iff_getElem.mpr ⟨b, by omega, rfl⟩
      | false =>
        rw [if_neg (by decide), sbind]
        by_cases k5 : draw % 6 < 5
        · rw [decide_eq_true k5, if_pos rfl, cut_to _ (a + 1) _ rfl]
          have hl : ((Rw d j ps).take (a + 1)).length = a + 1 := by rw [List.length_take]; omega
          refine ⟨_, rfl, ⟨by show ((Rw d j ps).take (a + 1)).length ≤ 20; omega, fun e => (by have e : (Rw d j ps).take (a + 1) = [] := e; rw [e] at hl; exact absurd hl (by simp)), fun r hr => hfr r (List.mem_of_mem_take hr), .inr (.inl ⟨a, by show ((a + 1 : Nat) : Int) + 1 = _; omega, by omega, Nat.le_of_eq hl.symm, fun k hk => List.getElem?_take_of_lt hk, .inl ⟨rfl, .inl hl⟩⟩)⟩⟩
        · have hm : ∃ t, idx [("" : Str), ("part 00 +x+y" : Str), ("floor 3 4" : Str)] (draw / 60 % 3) = some t ∧ RowFr t := by
            have := Int.emod_nonneg (draw / 60) (b := 3) (by decide)
            have := Int.emod_lt_of_pos (draw / 60) (b := 3) (by decide)
            rcases (show draw / 60 % 3 = 0 ∨ draw / 60 % 3 = 1 ∨ draw / 60 % 3 = 2 by omega) with e | e | e
            · exact ⟨"", by rw [e]; rfl, frB_ok (by decide +kernel)⟩
            · exact ⟨"part 00 +x+y", by rw [e]; rfl, frB_ok (by decide +kernel)⟩
            · exact ⟨"floor 3 4", by rw [e]; rfl, frB_ok (by decide +kernel)⟩
          obtain ⟨t, t1, t2⟩ := hm
          rw [decide_eq_false k5, if_neg (by decide), t1, sbind, catC_ok (by simp; omega), sbind]
          refine ⟨_, rfl, ⟨by show ((Rw d j ps) ++ [t]).length ≤ 20; simp; omega, by simp, fun r hr => ?_, .inr (.inr ⟨by show ((Rw d j ps).length : Int) + 1 = _; omega, rfl, t, rfl⟩)⟩⟩
          rcases List.mem_append.mp hr with hr | hr
          · exact hfr r hr
          · rw [List.mem_singleton.mp hr]; exact t2
/-- curve_from refuses the first row at fault -/
theorem from_flt {rows : List Str} {n : Int} {kind : Str} (H : Flt d j ps rows n kind) : (n ≤ ((2 ^ d + 1 : Nat) : Int) ∧ ((kind = ("row" : Str) ∧ F_p_curve_from rows = some (.er ⟨6, [n]⟩)) ∨ (kind = ("corner" : Str) ∧ F_p_curve_from rows = some (.er ⟨7, [n]⟩)))) ∨ (n = ((2 ^ d + 2 : Nat) : Int) ∧ kind = ("row" : Str) ∧ ∃ t, rows = Rw d j ps ++ [t]) := by
  have h1 : 0 < 2 ^ d := Nat.pow_pos (by decide)
  rcases H.flt with ⟨e, ek, t, h1, h2⟩ | ⟨q, e, hq, hl, hp, ho⟩ | ⟨e, ek, t, ht⟩
  · refine .inl ⟨by omega, .inl ⟨ek, ?_⟩⟩
    unfold F_p_curve_from
    rw [show idx rows 0 = some t from (idx_nat (n := 0) rfl).trans h1, sbind, h2, sbind, Rq.on_er, e]
  · refine .inl ⟨by omega, ?_⟩
    subst e
    rcases ho with ⟨ek, ho | ⟨t, ht, hb⟩⟩ | ⟨ek, p, hr, hc, ht, ho⟩
    · exact .inl ⟨ek, from_bad hd j h hq hl H.len hp (g_short hd j ho)⟩
    · refine .inl ⟨ek, from_bad hd j h hq hl H.len hp (g_bad hd j ?_ ht hb)⟩
      obtain ⟨hk, _⟩ := List.getElem?_eq_some_iff.mp ht
      exact hk
    · refine .inr ⟨ek, from_bad hd j h hq hl H.len hp (g_twice hd j ?_ hc ht hr ho)⟩
      obtain ⟨hk, _⟩ := List.getElem?_eq_some_iff.mp hr
      exact hk
  · exact .inr ⟨e, ek, t, ht⟩
end
theorem caught_from_er (k : Nat) {rows : List Str} {c : Nat} (hc : c = 6 ∨ c = 7) {n : Int} (hf : F_p_curve_from rows = some (.er ⟨c, [n]⟩)) : F_L_caught k rows false = some (some ⟨c, [n]⟩) := by
  unfold F_L_caught
  rw [sbind, sbind, if_neg (by decide), hf, sbind, Rq.on_er, sbind, Rq.on_er]
  rcases hc with rfl | rfl <;> rfl
theorem caught_from_ok (k : Nat) {rows : List Str} {x : C_Curve} (hf : F_p_curve_from rows = some (.ok x)) : F_L_caught k rows false = some none := by
  unfold F_L_caught
  rw [sbind, sbind, if_neg (by decide), hf, sbind, Rq.on_ok, sbind, Rq.on_ok]
  rfl
theorem caught_of_er (k : Nat) {rows : List Str} {t : Str} (hj : joinC ("\n" : Str) rows = some t) {c : Nat} (hc : c = 6 ∨ c = 7) {n : Int} (hf : F_p_curve_of k t = some (.er ⟨c, [n]⟩)) : F_L_caught k rows true = some (some ⟨c, [n]⟩) := by
  unfold F_L_caught
  rw [sbind, sbind, if_pos rfl, hj, sbind, hf, sbind, Rq.on_er, sbind, Rq.on_er]
  rcases hc with rfl | rfl <;> rfl
theorem refused6 (n : Int) : F_L_refused (some ⟨6, [n]⟩) n ("row" : Str) = some true := by
  have : F_L_refused (some ⟨6, [n]⟩) n ("row" : Str) = some (decide (n = n)) := rfl
  rw [this, decide_eq_true rfl]
theorem refused7 (n : Int) : F_L_refused (some ⟨7, [n]⟩) n ("corner" : Str) = some true := by
  have : F_L_refused (some ⟨7, [n]⟩) n ("corner" : Str) = some (decide (n = n)) := rfl
  rw [this, decide_eq_true rfl]
section
variable {d : Nat} (hd : Dm d) (j : Bool) {ps : List Prt} (h : PartsOk d ps)
include hd h
theorem whole_refused (k : Nat) {rows : List Str} {n : Int} {kind : Str} (H : Flt d j ps rows n kind) : ∃ x, F_L_caught k rows true = some x ∧ F_L_refused x n kind = some true := by
  obtain ⟨t, hj, hs⟩ := rows_split H.ne H.len H.fr
  have hof : ∀ {x : Exn}, F_p_curve_from rows = some (.er x) → F_p_curve_of k t = some (.er x) := by
    intro x hx
    unfold F_p_curve_of
    rw [hs, sbind, sbind, hx, sbind, Rq.on_er]
  rcases from_flt hd j h H with ⟨_, ⟨ek, hf⟩ | ⟨ek, hf⟩⟩ | ⟨e, ek, t', ht⟩
  · exact ⟨_, caught_of_er k hj (.inl rfl) (hof hf), by rw [ek]; exact refused6 n⟩
  · exact ⟨_, caught_of_er k hj (.inr rfl) (hof hf), by rw [ek]; exact refused7 n⟩
  · refine ⟨some ⟨6, [n]⟩, caught_of_er k hj (.inl rfl) ?_, by rw [ek]; exact refused6 n⟩
    have hR := Rw_len hd j h
    have hl : rows.length = 2 ^ d + 2 := by rw [ht, List.length_append, hR]; rfl
    have hfr : F_p_curve_from rows = some (.ok (crv "fold" d j ps)) := by rw [ht]; exact p_curve_from hd word_fold j h [t'] (by simp)
    have hlen : ((crv "fold" d j ps).f_parts.length : Int) = ((2 ^ d : Nat) : Int) := crv_len hd h
    unfold F_p_curve_of
    rw [hs, sbind, sbind, hfr, sbind, Rq.on_ok, sbind, hlen, decide_eq_true (by omega), if_pos rfl, e, show (2 : Int) + ((2 ^ d : Nat) : Int) = ((2 ^ d + 2 : Nat) : Int) by omega]
theorem good_read (k : Nat) : ∃ t, joinC ("\n" : Str) (Rw d false ps) = some t ∧ F_p_curve_of k t = some (.ok (crv "fold" d false ps)) := by
  refine ⟨_, join_rows hd word_fold false h, ?_⟩
  rw [p_curve_of hd word_fold false h k]
  rfl
end
theorem turn_ok (k : Nat) (hk : 8 < k) (c : Int) : G_L_law_0 k () c = some (.nx ()) := by
  obtain ⟨n, hn, hn0⟩ := mix_ok c 69621 (by decide)
  obtain ⟨d, hd, ed⟩ := dims_of n
  obtain ⟨pl, hl1, hl2⟩ := l_loose hd c k hk
  obtain ⟨ps, hps, hP⟩ : ∃ ps, ((((some (decide (((n / 2) % 2) = 1))).bind fun b => if b = true then (((F_L_joined (d : Int) (n / 8)).bind fun t_708 => (some t_708)).bind fun parts_707 => (some parts_707)) else (some pl)) : Option (List ((List Int) × (List (Int × Int)) × Bool)))) = some ps ∧ PartsOk d ps := by
    rw [sbind]
    by_cases q : n / 2 % 2 = 1
    · obtain ⟨t, ht, _, e⟩ := l_joined hd (n / 8)
      rw [decide_eq_true q, if_pos rfl, e, sbind, sbind]
      exact ⟨_, rfl, jnd_ok hd ht _ _⟩
    · rw [decide_eq_false q, if_neg (by decide)]
      exact ⟨_, rfl, hl2⟩
  obtain ⟨m1, hm1, m10⟩ := mix_ok c 39373 (by decide)
  obtain ⟨m2, hm2, m20⟩ := mix_ok c 16807 (by decide)
  have hg : F_L_rows d false ps = some (Rw d false ps) := l_rows9 hd word_fold rfl false hP
  have hr : F_L_rows d (decide (((n / 4) % 2) = 1)) ps = some (Rw d (decide (((n / 4) % 2) = 1)) ps) := l_rows9 hd word_fold rfl _ hP
  obtain ⟨r, hf, H⟩ := l_faulty hd (decide (((n / 4) % 2) = 1)) hP m1 m10
  obtain ⟨rows, hs, H2⟩ := l_second hd (decide (((n / 4) % 2) = 1)) hP H m2
  obtain ⟨x, hx, hxr⟩ := whole_refused hd (decide (((n / 4) % 2) = 1)) hP k H2
  obtain ⟨t, hj, hc⟩ := good_read hd hP k
  have hlen : ((Rw d false ps).length : Int) = ((2 ^ d + 1 : Nat) : Int) := by rw [Rw_len hd false hP]
  have hend : ((((F_p_curve_of k t).bind Rq.get?).bind fun t_738 => (some (!decide (t_738.f_dims = (d : Int)))))) = some false := by
    rw [hc, sbind]
    show some (!decide ((d : Int) = (d : Int))) = some false
    rw [decide_eq_true rfl]; rfl
  unfold G_L_law_0
  rw [hn, sbind, sbind, sbind, ed, hl1, sbind, sbind, hps, sbind, hg, sbind, sbind, hr, sbind, hm1, sbind, hf, sbind, sbind, hm2, sbind, hs, sbind, sbind, hx, sbind, hxr, sbind, sbind, if_neg (by decide)]
  rcases from_flt hd (decide (((n / 4) % 2) = 1)) hP H2 with ⟨le, ⟨ek, hf⟩ | ⟨ek, hf⟩⟩ | ⟨e, ek, t', ht⟩
  · rw [caught_from_er k (.inl rfl) hf, sbind, sbind, sbind, hlen, decide_eq_false (by omega), if_neg (by decide), ek, refused6, sbind, sbind, if_neg (by decide), hj, sbind, hend, sbind, if_neg (by decide)]
  · rw [caught_from_er k (.inr rfl) hf, sbind, sbind, sbind, hlen, decide_eq_false (by omega), if_neg (by decide), ek, refused7, sbind, sbind, if_neg (by decide), hj, sbind, hend, sbind, if_neg (by decide)]
  · have hfr : F_p_curve_from rows = some (.ok (crv "fold" d (decide (((n / 4) % 2) = 1)) ps)) := by rw [ht]; exact p_curve_from hd word_fold _ hP [t'] (by simp)
    rw [caught_from_ok k hfr, sbind, sbind, sbind, hlen, decide_eq_true (by omega), if_pos rfl, sbind, if_neg (by decide), hj, sbind, hend, sbind, if_neg (by decide)]
theorem law_ok (ns : List Int) (hl : ns.length ≤ 63) : F_L_law 10000 ns = some true := by
  unfold F_L_law
  have := cut_len ns none (some 20)
  rw [catC_ok (by simp; omega), sbind, sbind, loop_all fun c _ => turn_ok 10000 (by decide) c]
  rfl
theorem law_true (ns : List Int) (hl : ns.length ≤ 63) : ∃ S', m_L_law [.frl (ns.map .int)] [] = .ok (.va (.bl true)) S' := ⟨[], R_L_law 10000 [] ns true (law_ok ns hl)⟩
end Pf
set_option Elab.async false
set_option linter.all false
set_option maxRecDepth 100000
set_option maxHeartbeats 0
set_option autoImplicit false
namespace Pf
open PySem PySem.Spec PyProof.Rows L2 Cy
abbrev N_p_turned : List Str := ["turn", "corner", "axis", "flip"]
theorem sc_p_turned : FnScope N_p_turned ["turn", "corner"] (defScope s_p_turned) := ⟨rfl, rfl, rfl, by decide +kernel, rfl, by decide +kernel, by decide +kernel⟩
abbrev N_p_still : List Str := ["dims", "axis"]
theorem sc_p_still : FnScope N_p_still ["dims"] (defScope s_p_still) := ⟨rfl, rfl, rfl, by decide +kernel, rfl, by decide +kernel, by decide +kernel⟩
abbrev N_p_after : List Str := ["one", "other", "made", "axis", "flip", "inner", "bit"]
theorem sc_p_after : FnScope N_p_after ["one", "other"] (defScope s_p_after) := ⟨rfl, rfl, rfl, by decide +kernel, rfl, by decide +kernel, by decide +kernel⟩
abbrev N_p_turn_of : List Str := ["text", "dims", "made", "place", "flip", "axis", "pair"]
theorem sc_p_turn_of : FnScope N_p_turn_of ["text", "dims"] (defScope s_p_turn_of) := ⟨rfl, rfl, rfl, by decide +kernel, rfl, by decide +kernel, by decide +kernel⟩
abbrev N_p_corner_of : List Str := ["text", "dims", "sign"]
theorem sc_p_corner_of : FnScope N_p_corner_of ["text", "dims"] (defScope s_p_corner_of) := ⟨rfl, rfl, rfl, by decide +kernel, rfl, by decide +kernel, by decide +kernel⟩
abbrev N_p_Part_init : List Str := ["self", "corner", "turn", "back"]
theorem sc_p_Part_init : FnScope N_p_Part_init ["self", "corner", "turn", "back"] (defScope s_p_Part_init) := ⟨rfl, rfl, rfl, by decide +kernel, rfl, by decide +kernel, by decide +kernel⟩
abbrev N_p_Curve_init : List Str := ["self", "name", "dims", "joined", "parts"]
theorem sc_p_Curve_init : FnScope N_p_Curve_init ["self", "name", "dims", "joined", "parts"] (defScope s_p_Curve_init) := ⟨rfl, rfl, rfl, by decide +kernel, rfl, by decide +kernel, by decide +kernel⟩
abbrev N_p_is_of : List Str := ["text", "signs", "most"]
theorem sc_p_is_of : FnScope N_p_is_of ["text", "signs", "most"] (defScope s_p_is_of) := ⟨rfl, rfl, rfl, by decide +kernel, rfl, by decide +kernel, by decide +kernel⟩
abbrev N_p_axis_between : List Str := ["one", "other", "axes", "axis"]
theorem sc_p_axis_between : FnScope N_p_axis_between ["one", "other"] (defScope s_p_axis_between) := ⟨rfl, rfl, rfl, by decide +kernel, rfl, by decide +kernel, by decide +kernel⟩
abbrev N_p_touches : List Str := ["one", "other", "axis", "upward", "k"]
theorem sc_p_touches : FnScope N_p_touches ["one", "other", "axis", "upward"] (defScope s_p_touches) := ⟨rfl, rfl, rfl, by decide +kernel, rfl, by decide +kernel, by decide +kernel⟩
abbrev N_L_mix : List Str := ["_law_cell", "_law_factor", "_law_mixed"]
theorem sc_L_mix : FnScope N_L_mix ["_law_cell", "_law_factor"] (defScope s_L_mix) := ⟨rfl, rfl, rfl, by decide +kernel, rfl, by decide +kernel, by decide +kernel⟩
abbrev N_L_turned : List Str := ["_law_turn_here", "_law_corner", "_law_axis", "_law_flip"]
theorem sc_L_turned : FnScope N_L_turned ["_law_turn_here", "_law_corner"] (defScope s_L_turned) := ⟨rfl, rfl, rfl, by decide +kernel, rfl, by decide +kernel, by decide +kernel⟩
abbrev N_L_after : List Str := ["_law_one", "_law_other", "_law_axis", "_law_flip"]
theorem sc_L_after : FnScope N_L_after ["_law_one", "_law_other"] (defScope s_L_after) := ⟨rfl, rfl, rfl, by decide +kernel, rfl, by decide +kernel, by decide +kernel⟩
abbrev N_L_undone : List Str := ["_law_turn_here", "_law_back", "_law_k"]
theorem sc_L_undone : FnScope N_L_undone ["_law_turn_here"] (defScope s_L_undone) := ⟨rfl, rfl, rfl, by decide +kernel, rfl, by decide +kernel, by decide +kernel⟩
abbrev N_L_turn : List Str := ["_law_number", "_law_dims", "_law_axes", "_law_k"]
theorem sc_L_turn : FnScope N_L_turn ["_law_number", "_law_dims"] (defScope s_L_turn) := ⟨rfl, rfl, rfl, by decide +kernel, rfl, by decide +kernel, by decide +kernel⟩
abbrev N_L_base : List Str := ["_law_dims", "_law_plain", "_law_parts"]
theorem sc_L_base : FnScope N_L_base ["_law_dims"] (defScope s_L_base) := ⟨rfl, rfl, rfl, by decide +kernel, rfl, by decide +kernel, by decide +kernel⟩
abbrev N_L_corners : List Str := ["_law_dims", "_law_corners_here", "_law_x", "_law_y"]
theorem sc_L_corners : FnScope N_L_corners ["_law_dims"] (defScope s_L_corners) := ⟨rfl, rfl, rfl, by decide +kernel, rfl, by decide +kernel, by decide +kernel⟩
abbrev N_L_rows : List Str := ["_law_dims", "_law_joined_here", "_law_parts", "_law_rows_here", "_law_corner", "_law_turn_here", "_law_back", "_law_signs", "_law_row", "_law_axis", "_law_flip", "_law_bit"]
theorem sc_L_rows : FnScope N_L_rows ["_law_dims", "_law_joined_here", "_law_parts"] (defScope s_L_rows) := ⟨rfl, rfl, rfl, by decide +kernel, rfl, by decide +kernel, by decide +kernel⟩
abbrev N_L_bad_head : List Str := ["_law_row", "_law_draw", "_law_words", "_law_some"]
theorem sc_L_bad_head : FnScope N_L_bad_head ["_law_row", "_law_draw"] (defScope s_L_bad_head) := ⟨rfl, rfl, rfl, by decide +kernel, rfl, by decide +kernel, by decide +kernel⟩
abbrev N_L_bad_part : List Str := ["_law_row", "_law_draw", "_law_words", "_law_corner", "_law_turn_here", "_law_turns", "_law_corners_here", "_law_some", "_law_one"]
theorem sc_L_bad_part : FnScope N_L_bad_part ["_law_row", "_law_draw"] (defScope s_L_bad_part) := ⟨rfl, rfl, rfl, by decide +kernel, rfl, by decide +kernel, by decide +kernel⟩
abbrev N_L_second : List Str := ["_law_rows_here", "_law_first", "_law_draw", "_law_at"]
theorem sc_L_second : FnScope N_L_second ["_law_rows_here", "_law_first", "_law_draw"] (defScope s_L_second) := ⟨rfl, rfl, rfl, by decide +kernel, rfl, by decide +kernel, by decide +kernel⟩
abbrev N_L_refused : List Str := ["_law_caught_here", "_law_row", "_law_kind"]
theorem sc_L_refused : FnScope N_L_refused ["_law_caught_here", "_law_row", "_law_kind"] (defScope s_L_refused) := ⟨rfl, rfl, rfl, by decide +kernel, rfl, by decide +kernel, by decide +kernel⟩
abbrev N_p_first_state : List Str := ["dims"]
theorem sc_p_first_state : FnScope N_p_first_state ["dims"] (defScope s_p_first_state) := ⟨rfl, rfl, rfl, by decide +kernel, rfl, by decide +kernel, by decide +kernel⟩
abbrev N_p_part_at : List Str := ["curve", "state", "digit", "part", "turn", "back"]
theorem sc_p_part_at : FnScope N_p_part_at ["curve", "state", "digit"] (defScope s_p_part_at) := ⟨rfl, rfl, rfl, by decide +kernel, rfl, by decide +kernel, by decide +kernel⟩
abbrev N_p_is_word : List Str := ["text"]
theorem sc_p_is_word : FnScope N_p_is_word ["text"] (defScope s_p_is_word) := ⟨rfl, rfl, rfl, by decide +kernel, rfl, by decide +kernel, by decide +kernel⟩
abbrev N_L_joined : List Str := ["_law_dims", "_law_number", "_law_base_here", "_law_turn_here", "_law_mirror", "_law_parts", "_law_bits", "_law_corner", "_law_inner", "_law_lies", "_law_axis"]
theorem sc_L_joined : FnScope N_L_joined ["_law_dims", "_law_number"] (defScope s_L_joined) := ⟨rfl, rfl, rfl, by decide +kernel, rfl, by decide +kernel, by decide +kernel⟩
abbrev N_L_loose : List Str := ["_law_dims", "_law_cell", "_law_left", "_law_parts", "_law_number", "_law_corner"]
theorem sc_L_loose : FnScope N_L_loose ["_law_dims", "_law_cell"] (defScope s_L_loose) := ⟨rfl, rfl, rfl, by decide +kernel, rfl, by decide +kernel, by decide +kernel⟩
abbrev N_L_faulty : List Str := ["_law_rows_here", "_law_draw", "_law_kind", "_law_at", "_law_more", "_law_words"]
theorem sc_L_faulty : FnScope N_L_faulty ["_law_rows_here", "_law_draw"] (defScope s_L_faulty) := ⟨rfl, rfl, rfl, by decide +kernel, rfl, by decide +kernel, by decide +kernel⟩
abbrev N_p_unmet_at : List Str := ["curve", "first", "last", "level", "axis", "upward", "seen", "here", "end", "there", "begin"]
theorem sc_p_unmet_at : FnScope N_p_unmet_at ["curve", "first"] (defScope s_p_unmet_at) := ⟨rfl, rfl, rfl, by decide +kernel, rfl, by decide +kernel, by decide +kernel⟩
abbrev N_p_head_of : List Str := ["row", "words"]
theorem sc_p_head_of : FnScope N_p_head_of ["row"] (defScope s_p_head_of) := ⟨rfl, rfl, rfl, by decide +kernel, rfl, by decide +kernel, by decide +kernel⟩
abbrev N_p_part_of : List Str := ["row", "number", "dims", "words", "corner", "turn"]
theorem sc_p_part_of : FnScope N_p_part_of ["row", "number", "dims"] (defScope s_p_part_of) := ⟨rfl, rfl, rfl, by decide +kernel, rfl, by decide +kernel, by decide +kernel⟩
abbrev N_p_meeting_of : List Str := ["curve", "found", "first", "level"]
theorem sc_p_meeting_of : FnScope N_p_meeting_of ["curve"] (defScope s_p_meeting_of) := ⟨rfl, rfl, rfl, by decide +kernel, rfl, by decide +kernel, by decide +kernel⟩
abbrev N_p_curve_from : List Str := ["rows", "parts", "seen", "number", "name", "dims", "joined", "part"]
theorem sc_p_curve_from : FnScope N_p_curve_from ["rows"] (defScope s_p_curve_from) := ⟨rfl, rfl, rfl, by decide +kernel, rfl, by decide +kernel, by decide +kernel⟩
abbrev N_p_fitted : List Str := ["curve", "found"]
theorem sc_p_fitted : FnScope N_p_fitted ["curve"] (defScope s_p_fitted) := ⟨rfl, rfl, rfl, by decide +kernel, rfl, by decide +kernel, by decide +kernel⟩
abbrev N_p_curve_of : List Str := ["text", "rows", "curve"]
theorem sc_p_curve_of : FnScope N_p_curve_of ["text"] (defScope s_p_curve_of) := ⟨rfl, rfl, rfl, by decide +kernel, rfl, by decide +kernel, by decide +kernel⟩
abbrev N_L_caught : List Str := ["_law_rows_here", "_law_whole", "_law_caught_here", "e"]
theorem sc_L_caught : FnScope N_L_caught ["_law_rows_here", "_law_whole"] (defScope s_L_caught) := ⟨rfl, rfl, rfl, by decide +kernel, rfl, by decide +kernel, by decide +kernel⟩
abbrev N_L_law : List Str := ["_law_script", "_law_cell", "_law_number", "_law_dims", "_law_parts", "_law_good", "_law_rows_here", "_law_caught_here", "_law_row", "_law_kind"]
theorem sc_L_law : FnScope N_L_law ["_law_script"] (defScope s_L_law) := ⟨rfl, rfl, rfl, by decide +kernel, rfl, by decide +kernel, by decide +kernel⟩
abbrev N_p_TextError_init : List Str := ["self", "row"]
theorem sc_p_TextError_init : FnScope N_p_TextError_init ["self", "row"] (defScope s_p_TextError_init) := ⟨rfl, rfl, rfl, by decide +kernel, rfl, by decide +kernel, by decide +kernel⟩
abbrev N_p_Unmet_init : List Str := ["self", "first", "second", "level"]
theorem sc_p_Unmet_init : FnScope N_p_Unmet_init ["self", "first", "second", "level"] (defScope s_p_Unmet_init) := ⟨rfl, rfl, rfl, by decide +kernel, rfl, by decide +kernel, by decide +kernel⟩
section
variable {P : Program} {w : World} {K : PySem.W.Frag} {mg : Str → Option Value} {base hp : Heap}
theorem fld_back (hc : He.SaysD fa fn K) : FldOk ⟨K, cA K, fN, P, w⟩ "back" [(0, 2)] := .cons (He.cls_ok (hc.fact 61)) (He.noat_ok (hc.fact 62)) rfl (show (fN 0).Nodup by decide +kernel) (FldOk.nil)
theorem fld_turn (hc : He.SaysD fa fn K) : FldOk ⟨K, cA K, fN, P, w⟩ "turn" [(0, 1)] := .cons (He.cls_ok (hc.fact 61)) (He.noat_ok (hc.fact 63)) rfl (show (fN 0).Nodup by decide +kernel) (FldOk.nil)
theorem fld_corner (hc : He.SaysD fa fn K) : FldOk ⟨K, cA K, fN, P, w⟩ "corner" [(0, 0)] := .cons (He.cls_ok (hc.fact 61)) (He.noat_ok (hc.fact 64)) rfl (show (fN 0).Nodup by decide +kernel) (FldOk.nil)
theorem fld_parts (hc : He.SaysD fa fn K) : FldOk ⟨K, cA K, fN, P, w⟩ "parts" [(1, 3)] := .cons (He.cls_ok (hc.fact 65)) (He.noat_ok (hc.fact 66)) rfl (show (fN 1).Nodup by decide +kernel) (FldOk.nil)
theorem fld_joined (hc : He.SaysD fa fn K) : FldOk ⟨K, cA K, fN, P, w⟩ "joined" [(1, 2)] := .cons (He.cls_ok (hc.fact 65)) (He.noat_ok (hc.fact 67)) rfl (show (fN 1).Nodup by decide +kernel) (FldOk.nil)
theorem fld_dims (hc : He.SaysD fa fn K) : FldOk ⟨K, cA K, fN, P, w⟩ "dims" [(1, 1)] := .cons (He.cls_ok (hc.fact 65)) (He.noat_ok (hc.fact 68)) rfl (show (fN 1).Nodup by decide +kernel) (FldOk.nil)
theorem fld_name (hc : He.SaysD fa fn K) : FldOk ⟨K, cA K, fN, P, w⟩ "name" [(1, 0)] := .cons (He.cls_ok (hc.fact 65)) (He.noat_ok (hc.fact 69)) rfl (show (fN 1).Nodup by decide +kernel) (FldOk.nil)
theorem fldx_row (hy : (fx.all fun f => f.ok K) = true) : FldX ⟨K, cA K, fN, P, w⟩ "row" [(6, 0), (7, 0)] := (.cons rfl (Fx.xf_ok (x := "BadRow") (f := "row") (fxOk hy 0)).1 (Fx.xf_ok (x := "BadRow") (f := "row") (fxOk hy 0)).2 rfl (show (fN 6).Nodup by decide +kernel) (.cons rfl (Fx.xf_ok (x := "CornerTwice") (f := "row") (fxOk hy 3)).1 (Fx.xf_ok (x := "CornerTwice") (f := "row") (fxOk hy 3)).2 rfl (show (fN 7).Nodup by decide +kernel) .nil))
theorem ok_p_TextError_init (hX : K.In hp) (hG : hp.Ns mainGlobals mg) (hc : He.SaysD fa fn K) (hy : (fx.all fun f => f.ok K) = true) {fd : FuncData} (F : FunD K "__init__" "TextError.__init__" (defArgs s_p_TextError_init) (defBody s_p_TextError_init) (defScope s_p_TextError_init) [] [] (He.fAd K ("TextError", some "__init__")) fd) : FnOk P w K mg base CX0 1 (He.fAd K ("TextError", some "__init__")) fd ["self", "row"] (spXi K ["row"]) := by
  refine fn_xi F sc_p_TextError_init rfl rfl fun cdv A outer s H E hr => ?_
  exact pss_xi1 (ps_expr (pe_veinitC (mc := .type "type") rfl (He.glo_ok hX hG (hc.fact 16)) (Fx.sup_ok (x := "YardError") (fxOk hy 34)).1 (Fx.sup_ok (x := "YardError") (fxOk hy 34)).2.1 (Fx.sup_ok (x := "YardError") (fxOk hy 34)).2.2 (pa_cons (pe_var (i := 0) rfl (.inl rfl)) (pa_cons pe_str pa_nil)))) (ps_ost (pe_var (i := 0) rfl (.inl rfl)) (pe_var (i := 1) rfl (.inl rfl)))
theorem ok_p_Unmet_init (hX : K.In hp) (hG : hp.Ns mainGlobals mg) (hc : He.SaysD fa fn K) (hy : (fx.all fun f => f.ok K) = true) {fd : FuncData} (F : FunD K "__init__" "Unmet.__init__" (defArgs s_p_Unmet_init) (defBody s_p_Unmet_init) (defScope s_p_Unmet_init) [] [] (He.fAd K ("Unmet", some "__init__")) fd) : FnOk P w K mg base CX0 1 (He.fAd K ("Unmet", some "__init__")) fd ["self", "first", "second", "level"] (spXi K ["first", "second", "level"]) := by
  refine fn_xi F sc_p_Unmet_init rfl rfl fun cdv A outer s H E hr => ?_
  exact pss_xi3 (ps_expr (pe_veinitC (mc := .type "type") rfl (He.glo_ok hX hG (hc.fact 16)) (Fx.sup_ok (x := "YardError") (fxOk hy 34)).1 (Fx.sup_ok (x := "YardError") (fxOk hy 34)).2.1 (Fx.sup_ok (x := "YardError") (fxOk hy 34)).2.2 (pa_cons (pe_var (i := 0) rfl (.inl rfl)) (pa_cons pe_str pa_nil)))) (ps_ost (pe_var (i := 0) rfl (.inl rfl)) (pe_var (i := 1) rfl (.inl rfl))) (ps_ost (pe_var (i := 0) rfl (.inl rfl)) (pe_var (i := 2) rfl (.inl rfl))) (ps_ost (pe_var (i := 0) rfl (.inl rfl)) (pe_var (i := 3) rfl (.inl rfl)))
theorem ok_p_turned (hX : K.In hp) (hG : hp.Ns mainGlobals mg) (hc : He.SaysD fa fn K) (hy : (fx.all fun f => f.ok K) = true) {fd : FuncData} (F : FunD K "turned" "turned" (defArgs s_p_turned) (defBody s_p_turned) (defScope s_p_turned) [] [] (He.fAd K ("turned", none)) fd) : FnOk P w K mg base CX0 1 (He.fAd K ("turned", none)) fd ["turn", "corner"] (spI ⟨K, cA K, fN, P, w⟩ 2 m_p_turned) := by
  refine fn0 F sc_p_turned fun cdv A outer s H E hr => ?_
  exact (ss_cons (s_ret (i_ct call_tuple_of ok_tupOf.ok (He.free_ok hX hG (hc.fact 0)) (by decide +kernel) (ia_cons (i_lc (own := [("axis", 2), ("flip", 3)]) (tg_names [2, 3]) (by decide) rfl sc_p_turned.nd (x_tup (iv 0)) (blkOk_by (N := N_p_turned) (sc := defScope s_p_turned) (by decide +kernel)) (fun _ _ _ _ _ => (pg_tup rfl (pgs_cons (g_name 2 sc_p_turned.nd) (pgs_cons (g_name 3 sc_p_turned.nd) pgs_nil)))) (fun _ _ _ _ _ => cs_nil) (fun _ _ _ _ _ => (i_fz (i_op op_xor ok_xor.ok (i_ix ix_seq ok_ix.ok (iv 1) (iv 2)) (iv 3))))) ia_nil)))
    ss_nil)
theorem ok_p_still (hX : K.In hp) (hG : hp.Ns mainGlobals mg) (hc : He.SaysD fa fn K) (hy : (fx.all fun f => f.ok K) = true) {fd : FuncData} (F : FunD K "still" "still" (defArgs s_p_still) (defBody s_p_still) (defScope s_p_still) [] [] (He.fAd K ("still", none)) fd) : FnOk P w K mg base CX0 1 (He.fAd K ("still", none)) fd ["dims"] (spI ⟨K, cA K, fN, P, w⟩ 1 m_p_still) := by
  refine fn0 F sc_p_still fun cdv A outer s H E hr => ?_
  exact (ss_cons (s_ret (i_ct call_tuple_of ok_tupOf.ok (He.free_ok hX hG (hc.fact 0)) (by decide +kernel) (ia_cons (i_lc (own := [("axis", 1)]) (tg_name 1) (by decide) rfl sc_p_still.nd (x_range1 (He.free_ok hX hG (hc.fact 1)) (iv 0)) (blkOk_by (N := N_p_still) (sc := defScope s_p_still) (by decide +kernel)) (fun _ _ _ _ _ => (g_name 1 sc_p_still.nd)) (fun _ _ _ _ _ => cs_nil) (fun _ _ _ _ _ => (i_tup (ia_cons (iv 1) (ia_cons ic_int ia_nil))))) ia_nil)))
    ss_nil)
theorem ok_p_after (hX : K.In hp) (hG : hp.Ns mainGlobals mg) (hc : He.SaysD fa fn K) (hy : (fx.all fun f => f.ok K) = true) {fd : FuncData} (F : FunD K "after" "after" (defArgs s_p_after) (defBody s_p_after) (defScope s_p_after) [] [] (He.fAd K ("after", none)) fd) : FnOk P w K mg base CX0 1 (He.fAd K ("after", none)) fd ["one", "other"] (spI ⟨K, cA K, fN, P, w⟩ 2 m_p_after) := by
  refine fn0 F sc_p_after fun cdv A outer s H E hr => ?_
  exact (ss_cons (s_set 2 sc_p_after.nd (i_lst ia_nil))
    (ss_cons (s_for [3, 4, 5, 6] PassesOwn.never rfl (tg_names [3, 4]) (x_tup (iv 0)) (pg_tup rfl (pgs_cons (g_name 3 sc_p_after.nd) (pgs_cons (g_name 4 sc_p_after.nd) pgs_nil))) (ss_cons (s_asg (tg_names [5, 6]) (i_ix ix_seq ok_ix.ok (iv 1) (iv 3)) (pg_tup rfl (pgs_cons (g_name 5 sc_p_after.nd) (pgs_cons (g_name 6 sc_p_after.nd) pgs_nil))))
    (ss_cons (s_ex (i_ml PySem.F.slot_list_append PySem.F.type_list_append (mtM mt_append) ok_app (iv 2) (ia_cons (i_tup (ia_cons (iv 5) (ia_cons (i_fz (i_op op_xor ok_xor.ok (iv 6) (iv 4))) ia_nil))) ia_nil)))
    ss_nil)))
    (ss_cons (s_ret (i_ct call_tuple_of ok_tupOf.ok (He.free_ok hX hG (hc.fact 0)) (by decide +kernel) (ia_cons (iv 2) ia_nil)))
    ss_nil)))
theorem ok_p_turn_of (hX : K.In hp) (hG : hp.Ns mainGlobals mg) (hc : He.SaysD fa fn K) (hy : (fx.all fun f => f.ok K) = true) {fd : FuncData} (F : FunD K "turn_of" "turn_of" (defArgs s_p_turn_of) (defBody s_p_turn_of) (defScope s_p_turn_of) [] [] (He.fAd K ("turn_of", none)) fd) : FnOk P w K mg base CX0 1 (He.fAd K ("turn_of", none)) fd ["text", "dims"] (spI ⟨K, cA K, fN, P, w⟩ 2 m_p_turn_of) := by
  refine fn0 F sc_p_turn_of fun cdv A outer s H E hr => ?_
  exact (ss_cons (s_if (t_cmp (op_neA hr.units) ok_ne.ok (i_cb call_len ok_len.ok (He.free_ok hX hG (hc.fact 4)) (by decide +kernel) (ia_cons (iv 0) ia_nil)) (i_op op_mulA ok_mulA.ok ic_int (iv 1)) (nomark _)) (ss_cons (s_ret ic_non)
    ss_nil) ss_nil)
    (ss_cons (s_set 2 sc_p_turn_of.nd (i_lst ia_nil))
    (ss_cons (s_for [3, 4, 5] PassesOwn.never rfl (tg_name 3) (x_range1 (He.free_ok hX hG (hc.fact 1)) (iv 1)) (g_name 3 sc_p_turn_of.nd) (ss_cons (s_set 4 sc_p_turn_of.nd (i_fz (i_ms PySem.F.slot_str_find PySem.F.type_str_find mt_find ok_find.ok (ic_gs rfl (he_str hX hG (hc.fact 3)).choose_spec) (ia_cons (i_ix ix_seq ok_ix.ok (iv 0) (i_op op_mulA ok_mulA.ok ic_int (iv 3))) ia_nil))))
    (ss_cons (s_set 5 sc_p_turn_of.nd (i_fz (i_ms PySem.F.slot_str_find PySem.F.type_str_find mt_find ok_find.ok (i_slice (ic_gs rfl (he_str hX hG (hc.fact 2)).choose_spec) o_none (o_some (iv 1))) (ia_cons (i_ix ix_seq ok_ix.ok (iv 0) (i_op op_addA ok_add.ok (i_op op_mulA ok_mulA.ok ic_int (iv 3)) ic_int)) ia_nil))))
    (ss_cons (s_if (PW.pt (w_or (t_cmp op_ltA ok_ltA.ok (iv 4) ic_int (nomark _)) (w_or (t_cmp op_ltA ok_ltA.ok (iv 5) ic_int (nomark _)) (w_or1 (t_cmp (op_inA (units65 hr)) ok_in.ok (iv 5) (i_lc (own := [("pair", 6)]) (tg_name 6) (by decide) rfl sc_p_turn_of.nd (x_list (iv 2)) (blkOk_by (N := N_p_turn_of) (sc := defScope s_p_turn_of) (by decide +kernel)) (fun _ _ _ _ _ => (g_name 6 sc_p_turn_of.nd)) (fun _ _ _ _ _ => cs_nil) (fun _ _ _ _ _ => (i_ix ix_seq ok_ix.ok (iv 6) ic_int))) (by rfl)))))) (ss_cons (s_ret ic_non)
    ss_nil) ss_nil)
    (ss_cons (s_ex (i_ml PySem.F.slot_list_append PySem.F.type_list_append (mtM mt_append) ok_app (iv 2) (ia_cons (i_tup (ia_cons (iv 5) (ia_cons (iv 4) ia_nil))) ia_nil)))
    ss_nil)))))
    (ss_cons (s_ret (i_ct call_tuple_of ok_tupOf.ok (He.free_ok hX hG (hc.fact 0)) (by decide +kernel) (ia_cons (iv 2) ia_nil)))
    ss_nil))))
theorem ok_p_corner_of (hX : K.In hp) (hG : hp.Ns mainGlobals mg) (hc : He.SaysD fa fn K) (hy : (fx.all fun f => f.ok K) = true) {fd : FuncData} (F : FunD K "corner_of" "corner_of" (defArgs s_p_corner_of) (defBody s_p_corner_of) (defScope s_p_corner_of) [] [] (He.fAd K ("corner_of", none)) fd) : FnOk P w K mg base CX0 1 (He.fAd K ("corner_of", none)) fd ["text", "dims"] (spI ⟨K, cA K, fN, P, w⟩ 2 m_p_corner_of) := by
  refine fn0 F sc_p_corner_of fun cdv A outer s H E hr => ?_
  exact (ss_cons (s_if (PW.pt (w_or (t_cmp (op_neA hr.units) ok_ne.ok (i_cb call_len ok_len.ok (He.free_ok hX hG (hc.fact 4)) (by decide +kernel) (ia_cons (iv 0) ia_nil)) (iv 1) (nomark _)) (w_or1 (t_cmp (op_neA hr.units) ok_ne.ok (i_ms PySem.F.slot_str_strip PySem.F.type_str_strip mt_stripChars ok_strip.ok (iv 0) (ia_cons ic_str ia_nil)) ic_str (nomark _))))) (ss_cons (s_ret ic_non)
    ss_nil) ss_nil)
    (ss_cons (s_ret (i_ct call_tuple_of ok_tupOf.ok (He.free_ok hX hG (hc.fact 0)) (by decide +kernel) (ia_cons (i_lc (own := [("sign", 2)]) (tg_name 2) (by decide) rfl sc_p_corner_of.nd (x_str (iv 0)) (blkOk_by (N := N_p_corner_of) (sc := defScope s_p_corner_of) (by decide +kernel)) (fun _ _ _ _ _ => (g_name 2 sc_p_corner_of.nd)) (fun _ _ _ _ _ => cs_nil) (fun _ _ _ _ _ => (i_fz (i_ct cr_intA ok_int.ok (He.free_ok hX hG (hc.fact 5)) (by decide +kernel) (ia_cons (iv 2) ia_nil))))) ia_nil)))
    ss_nil))
theorem ok_p_Part_init (hX : K.In hp) (hG : hp.Ns mainGlobals mg) (hc : He.SaysD fa fn K) (hy : (fx.all fun f => f.ok K) = true) {fd : FuncData} (F : FunD K "__init__" "Part.__init__" (defArgs s_p_Part_init) (defBody s_p_Part_init) (defScope s_p_Part_init) [] [] (He.fAd K ("Part", some "__init__")) fd) : FnOk P w K mg base CX0 1 (He.fAd K ("Part", some "__init__")) fd ["self", "corner", "turn", "back"] (spI ⟨K, cA K, fN, P, w⟩ 4 m_p_Part_init) := by
  refine fn0 F sc_p_Part_init fun cdv A outer s H E hr => ?_
  exact (ss_cons (s_fld (fld_corner hc) (iv 0) (iv 1))
    (ss_cons (s_fld (fld_turn hc) (iv 0) (iv 2))
    (ss_cons (s_fld (fld_back hc) (iv 0) (iv 3))
    ss_nil)))
theorem ok_p_Curve_init (hX : K.In hp) (hG : hp.Ns mainGlobals mg) (hc : He.SaysD fa fn K) (hy : (fx.all fun f => f.ok K) = true) {fd : FuncData} (F : FunD K "__init__" "Curve.__init__" (defArgs s_p_Curve_init) (defBody s_p_Curve_init) (defScope s_p_Curve_init) [] [] (He.fAd K ("Curve", some "__init__")) fd) : FnOk P w K mg base CX0 1 (He.fAd K ("Curve", some "__init__")) fd ["self", "name", "dims", "joined", "parts"] (spI ⟨K, cA K, fN, P, w⟩ 5 m_p_Curve_init) := by
  refine fn0 F sc_p_Curve_init fun cdv A outer s H E hr => ?_
  exact (ss_cons (s_fld (fld_name hc) (iv 0) (iv 1))
    (ss_cons (s_fld (fld_dims hc) (iv 0) (iv 2))
    (ss_cons (s_fld (fld_joined hc) (iv 0) (iv 3))
    (ss_cons (s_fld (fld_parts hc) (iv 0) (i_fz (i_ct call_list_of ok_lstOf.ok (He.free_ok hX hG (hc.fact 6)) (by decide +kernel) (ia_cons (iv 4) ia_nil))))
    ss_nil))))
theorem ok_p_is_of (hX : K.In hp) (hG : hp.Ns mainGlobals mg) (hc : He.SaysD fa fn K) (hy : (fx.all fun f => f.ok K) = true) {fd : FuncData} (F : FunD K "is_of" "is_of" (defArgs s_p_is_of) (defBody s_p_is_of) (defScope s_p_is_of) [] [] (He.fAd K ("is_of", none)) fd) : FnOk P w K mg base CX0 1 (He.fAd K ("is_of", none)) fd ["text", "signs", "most"] (spI ⟨K, cA K, fN, P, w⟩ 3 m_p_is_of) := by
  refine fn0 F sc_p_is_of fun cdv A outer s H E hr => ?_
  exact (ss_cons (s_ret (i_and (i_chain op_le op_le ok_le.ok ok_le.ok ic_int (i_cb call_len ok_len.ok (He.free_ok hX hG (hc.fact 4)) (by decide +kernel) (ia_cons (iv 0) ia_nil)) (iv 2)) (i_one (i_cmp (op_eqA hr.units) ok_eq.ok (i_ms PySem.F.slot_str_strip PySem.F.type_str_strip mt_stripChars ok_strip.ok (iv 0) (ia_cons (iv 1) ia_nil)) ic_str (nomark _)))))
    ss_nil)
theorem ok_p_axis_between (hX : K.In hp) (hG : hp.Ns mainGlobals mg) (hc : He.SaysD fa fn K) (hy : (fx.all fun f => f.ok K) = true) {fd : FuncData} (F : FunD K "axis_between" "axis_between" (defArgs s_p_axis_between) (defBody s_p_axis_between) (defScope s_p_axis_between) [] [] (He.fAd K ("axis_between", none)) fd) : FnOk P w K mg base CX0 1 (He.fAd K ("axis_between", none)) fd ["one", "other"] (spI ⟨K, cA K, fN, P, w⟩ 2 m_p_axis_between) := by
  refine fn0 F sc_p_axis_between fun cdv A outer s H E hr => ?_
  exact (ss_cons (s_setLcF (i := 2) (own := [("axis", 3)]) (tg_name 3) (by decide) rfl sc_p_axis_between.nd rfl rfl (sw_true rfl rfl rfl (by decide +kernel)) (x_range1 (He.free_ok hX hG (hc.fact 1)) (i_cb call_len ok_len.ok (He.free_ok hX hG (hc.fact 4)) (by decide +kernel) (ia_cons (iv 0) ia_nil))) (blkOk_by (N := N_p_axis_between) (sc := defScope s_p_axis_between) (by decide +kernel)) (fun _ _ _ _ _ => (g_name 3 sc_p_axis_between.nd)) (fun _ _ _ _ _ => (pts_one (t_cmp (op_neA hr.units) ok_ne.ok (i_ix ix_seq ok_ix.ok (iv 0) (iv 3)) (i_ix ix_seq ok_ix.ok (iv 1) (iv 3)) (nomark _)))) (fun _ _ _ _ _ => (iv 3)))
    (ss_cons (s_if (t_cmp (op_neA hr.units) ok_ne.ok (i_cb call_len ok_len.ok (He.free_ok hX hG (hc.fact 4)) (by decide +kernel) (ia_cons (iv 2) ia_nil)) ic_int (nomark _)) (ss_cons (s_ret ic_non)
    ss_nil) ss_nil)
    (ss_cons (s_ret (i_ix ix_seq ok_ix.ok (iv 2) ic_int))
    ss_nil)))
theorem ok_p_touches (hX : K.In hp) (hG : hp.Ns mainGlobals mg) (hc : He.SaysD fa fn K) (hy : (fx.all fun f => f.ok K) = true) {fd : FuncData} (F : FunD K "touches" "touches" (defArgs s_p_touches) (defBody s_p_touches) (defScope s_p_touches) [] [] (He.fAd K ("touches", none)) fd) : FnOk P w K mg base CX0 1 (He.fAd K ("touches", none)) fd ["one", "other", "axis", "upward"] (spI ⟨K, cA K, fN, P, w⟩ 4 m_p_touches) := by
  refine fn0 F sc_p_touches fun cdv A outer s H E hr => ?_
  exact (ss_cons (s_for [4] PassesOwn.never rfl (tg_name 4) (x_range1 (He.free_ok hX hG (hc.fact 1)) (i_cb call_len ok_len.ok (He.free_ok hX hG (hc.fact 4)) (by decide +kernel) (ia_cons (iv 0) ia_nil))) (g_name 4 sc_p_touches.nd) (ss_cons (s_if (t_cmp (op_eqA hr.units) ok_eq.ok (iv 4) (iv 2) (nomark _)) (ss_cons (s_if (PW.pt (w_or (t_cmp (op_neA hr.units) ok_ne.ok (i_ix ix_seq ok_ix.ok (iv 0) (iv 4)) (iv 3) (nomark _)) (w_or1 (t_cmp (op_eqA hr.units) ok_eq.ok (i_ix ix_seq ok_ix.ok (iv 1) (iv 4)) (iv 3) (nomark _))))) (ss_cons (s_ret ic_bl)
    ss_nil) ss_nil)
    ss_nil) (ss_cons (s_if (t_cmp (op_neA hr.units) ok_ne.ok (i_ix ix_seq ok_ix.ok (iv 0) (iv 4)) (i_ix ix_seq ok_ix.ok (iv 1) (iv 4)) (nomark _)) (ss_cons (s_ret ic_bl)
    ss_nil) ss_nil)
    ss_nil))
    ss_nil))
    (ss_cons (s_ret ic_bl)
    ss_nil))
theorem ok_L_mix (hX : K.In hp) (hG : hp.Ns mainGlobals mg) (hc : He.SaysD fa fn K) (hy : (fx.all fun f => f.ok K) = true) {fd : FuncData} (F : FunD K "_law_mix" "_law_mix" (defArgs s_L_mix) (defBody s_L_mix) (defScope s_L_mix) [] [] (He.fAd K ("_law_mix", none)) fd) : FnOk P w K mg base CX0 1 (He.fAd K ("_law_mix", none)) fd ["_law_cell", "_law_factor"] (spI ⟨K, cA K, fN, P, w⟩ 2 m_L_mix) := by
  refine fn0 F sc_L_mix fun cdv A outer s H E hr => ?_
  exact (ss_cons (s_set 2 sc_L_mix.nd (i_fz (i_op op_mod ok_mod.ok (i_op op_addA ok_add.ok (i_op op_mulA ok_mulA.ok (iv 0) (iv 1)) ic_int) ic_int)))
    (ss_cons (s_ret (i_op op_fdivW ok_fdiv.ok (i_op op_mod ok_mod.ok (i_op op_mulA ok_mulA.ok (iv 2) (iv 2)) ic_int) ic_int))
    ss_nil))
theorem ok_L_turned (hX : K.In hp) (hG : hp.Ns mainGlobals mg) (hc : He.SaysD fa fn K) (hy : (fx.all fun f => f.ok K) = true) {fd : FuncData} (F : FunD K "_law_turned" "_law_turned" (defArgs s_L_turned) (defBody s_L_turned) (defScope s_L_turned) [] [] (He.fAd K ("_law_turned", none)) fd) : FnOk P w K mg base CX0 1 (He.fAd K ("_law_turned", none)) fd ["_law_turn_here", "_law_corner"] (spI ⟨K, cA K, fN, P, w⟩ 2 m_L_turned) := by
  refine fn0 F sc_L_turned fun cdv A outer s H E hr => ?_
  exact (ss_cons (s_ret (i_ct call_tuple_of ok_tupOf.ok (He.free_ok hX hG (hc.fact 0)) (by decide +kernel) (ia_cons (i_lc (own := [("_law_axis", 2), ("_law_flip", 3)]) (tg_names [2, 3]) (by decide) rfl sc_L_turned.nd (x_tup (iv 0)) (blkOk_by (N := N_L_turned) (sc := defScope s_L_turned) (by decide +kernel)) (fun _ _ _ _ _ => (pg_tup rfl (pgs_cons (g_name 2 sc_L_turned.nd) (pgs_cons (g_name 3 sc_L_turned.nd) pgs_nil)))) (fun _ _ _ _ _ => cs_nil) (fun _ _ _ _ _ => (i_fz (i_op op_xor ok_xor.ok (i_ix ix_seq ok_ix.ok (iv 1) (iv 2)) (iv 3))))) ia_nil)))
    ss_nil)
theorem ok_L_after (hX : K.In hp) (hG : hp.Ns mainGlobals mg) (hc : He.SaysD fa fn K) (hy : (fx.all fun f => f.ok K) = true) {fd : FuncData} (F : FunD K "_law_after" "_law_after" (defArgs s_L_after) (defBody s_L_after) (defScope s_L_after) [] [] (He.fAd K ("_law_after", none)) fd) : FnOk P w K mg base CX0 1 (He.fAd K ("_law_after", none)) fd ["_law_one", "_law_other"] (spI ⟨K, cA K, fN, P, w⟩ 2 m_L_after) := by
  refine fn0 F sc_L_after fun cdv A outer s H E hr => ?_
  exact (ss_cons (s_ret (i_ct call_tuple_of ok_tupOf.ok (He.free_ok hX hG (hc.fact 0)) (by decide +kernel) (ia_cons (i_lc (own := [("_law_axis", 2), ("_law_flip", 3)]) (tg_names [2, 3]) (by decide) rfl sc_L_after.nd (x_tup (iv 0)) (blkOk_by (N := N_L_after) (sc := defScope s_L_after) (by decide +kernel)) (fun _ _ _ _ _ => (pg_tup rfl (pgs_cons (g_name 2 sc_L_after.nd) (pgs_cons (g_name 3 sc_L_after.nd) pgs_nil)))) (fun _ _ _ _ _ => cs_nil) (fun _ _ _ _ _ => (i_tup (ia_cons (i_ix ix_seq ok_ix.ok (i_ix ix_seq ok_ix.ok (iv 1) (iv 2)) ic_int) (ia_cons (i_fz (i_op op_xor ok_xor.ok (i_ix ix_seq ok_ix.ok (i_ix ix_seq ok_ix.ok (iv 1) (iv 2)) ic_int) (iv 3))) ia_nil))))) ia_nil)))
    ss_nil)
theorem ok_L_undone (hX : K.In hp) (hG : hp.Ns mainGlobals mg) (hc : He.SaysD fa fn K) (hy : (fx.all fun f => f.ok K) = true) {fd : FuncData} (F : FunD K "_law_undone" "_law_undone" (defArgs s_L_undone) (defBody s_L_undone) (defScope s_L_undone) [] [] (He.fAd K ("_law_undone", none)) fd) : FnOk P w K mg base CX0 1 (He.fAd K ("_law_undone", none)) fd ["_law_turn_here"] (spI ⟨K, cA K, fN, P, w⟩ 1 m_L_undone) := by
  refine fn0 F sc_L_undone fun cdv A outer s H E hr => ?_
  exact (ss_cons (s_set 1 sc_L_undone.nd (i_op op_mulA ok_mulA.ok (i_lst (ia_cons ic_non ia_nil)) (i_cb call_len ok_len.ok (He.free_ok hX hG (hc.fact 4)) (by decide +kernel) (ia_cons (iv 0) ia_nil))))
    (ss_cons (s_for [2] PassesOwn.never rfl (tg_name 2) (x_range1 (He.free_ok hX hG (hc.fact 1)) (i_cb call_len ok_len.ok (He.free_ok hX hG (hc.fact 4)) (by decide +kernel) (ia_cons (iv 0) ia_nil))) (g_name 2 sc_L_undone.nd) (ss_cons (s_sub (iv 1) (i_ix ix_seq ok_ix.ok (i_ix ix_seq ok_ix.ok (iv 0) (iv 2)) ic_int) (i_tup (ia_cons (iv 2) (ia_cons (i_ix ix_seq ok_ix.ok (i_ix ix_seq ok_ix.ok (iv 0) (iv 2)) ic_int) ia_nil))))
    ss_nil))
    (ss_cons (s_ret (i_ct call_tuple_of ok_tupOf.ok (He.free_ok hX hG (hc.fact 0)) (by decide +kernel) (ia_cons (iv 1) ia_nil)))
    ss_nil)))
theorem ok_L_turn (hX : K.In hp) (hG : hp.Ns mainGlobals mg) (hc : He.SaysD fa fn K) (hy : (fx.all fun f => f.ok K) = true) {fd : FuncData} (F : FunD K "_law_turn" "_law_turn" (defArgs s_L_turn) (defBody s_L_turn) (defScope s_L_turn) [] [] (He.fAd K ("_law_turn", none)) fd) : FnOk P w K mg base CX0 1 (He.fAd K ("_law_turn", none)) fd ["_law_number", "_law_dims"] (spI ⟨K, cA K, fN, P, w⟩ 2 m_L_turn) := by
  refine fn0 F sc_L_turn fun cdv A outer s H E hr => ?_
  exact (ss_cons (s_set 2 sc_L_turn.nd (i_fz (i_lst (ia_cons ic_int (ia_cons ic_int ia_nil)))))
    (ss_cons (s_k [] (s_if (t_cmp (op_eqA hr.units) ok_eq.ok (iv 1) ic_int (nomark _)) (ss_cons (s_set 2 sc_L_turn.nd (i_ix ix_seq ok_ix.ok (i_lst (ia_cons (i_fz (i_lst (ia_cons ic_int (ia_cons ic_int (ia_cons ic_int ia_nil))))) (ia_cons (i_fz (i_lst (ia_cons ic_int (ia_cons ic_int (ia_cons ic_int ia_nil))))) (ia_cons (i_fz (i_lst (ia_cons ic_int (ia_cons ic_int (ia_cons ic_int ia_nil))))) (ia_cons (i_fz (i_lst (ia_cons ic_int (ia_cons ic_int (ia_cons ic_int ia_nil))))) (ia_cons (i_fz (i_lst (ia_cons ic_int (ia_cons ic_int (ia_cons ic_int ia_nil))))) (ia_cons (i_fz (i_lst (ia_cons ic_int (ia_cons ic_int (ia_cons ic_int ia_nil))))) ia_nil))))))) (i_op op_mod ok_mod.ok (i_op op_fdivW ok_fdiv.ok (iv 0) ic_int) ic_int)))
    ss_nil) (ss_cons (s_k [] (s_if (t_cmp (op_eqA hr.units) ok_eq.ok (i_op op_mod ok_mod.ok (i_op op_fdivW ok_fdiv.ok (iv 0) ic_int) ic_int) ic_int (nomark _)) (ss_cons (s_set 2 sc_L_turn.nd (i_fz (i_lst (ia_cons ic_int (ia_cons ic_int ia_nil)))))
    ss_nil) ss_nil))
    ss_nil)))
    (ss_cons (s_ret (i_ct call_tuple_of ok_tupOf.ok (He.free_ok hX hG (hc.fact 0)) (by decide +kernel) (ia_cons (i_lc (own := [("_law_k", 3)]) (tg_name 3) (by decide) rfl sc_L_turn.nd (x_range1 (He.free_ok hX hG (hc.fact 1)) (iv 1)) (blkOk_by (N := N_L_turn) (sc := defScope s_L_turn) (by decide +kernel)) (fun _ _ _ _ _ => (g_name 3 sc_L_turn.nd)) (fun _ _ _ _ _ => cs_nil) (fun _ _ _ _ _ => (i_tup (ia_cons (i_ix ix_seq ok_ix.ok (iv 2) (iv 3)) (ia_cons (i_fz (i_op op_mod ok_mod.ok (i_op op_fdivW ok_fdiv.ok (iv 0) (i_ix ix_seq ok_ix.ok (i_lst (ia_cons ic_int (ia_cons ic_int (ia_cons ic_int ia_nil)))) (iv 3))) ic_int)) ia_nil))))) ia_nil)))
    ss_nil)))
theorem ok_L_base (hX : K.In hp) (hG : hp.Ns mainGlobals mg) (hc : He.SaysD fa fn K) (hy : (fx.all fun f => f.ok K) = true) {fd : FuncData} (F : FunD K "_law_base" "_law_base" (defArgs s_L_base) (defBody s_L_base) (defScope s_L_base) [] [] (He.fAd K ("_law_base", none)) fd) : FnOk P w K mg base CX0 1 (He.fAd K ("_law_base", none)) fd ["_law_dims"] (spI ⟨K, cA K, fN, P, w⟩ 1 m_L_base) := by
  refine fn0 F sc_L_base fun cdv A outer s H E hr => ?_
  exact (ss_cons (s_if (t_cmp (op_eqA hr.units) ok_eq.ok (iv 0) ic_int (nomark _)) (ss_cons (s_set 1 sc_L_base.nd (i_tup (ia_cons (i_tup (ia_cons ic_int (ia_cons ic_int ia_nil))) (ia_cons (i_tup (ia_cons ic_int (ia_cons ic_int ia_nil))) ia_nil))))
    (ss_cons (s_set 2 sc_L_base.nd (i_lst (ia_cons (i_tup (ia_cons (i_tup (ia_cons ic_int (ia_cons ic_int ia_nil))) (ia_cons (i_tup (ia_cons (i_tup (ia_cons ic_int (ia_cons ic_int ia_nil))) (ia_cons (i_tup (ia_cons ic_int (ia_cons ic_int ia_nil))) ia_nil))) ia_nil))) (ia_cons (i_tup (ia_cons (i_tup (ia_cons ic_int (ia_cons ic_int ia_nil))) (ia_cons (iv 1) ia_nil))) (ia_cons (i_tup (ia_cons (i_tup (ia_cons ic_int (ia_cons ic_int ia_nil))) (ia_cons (iv 1) ia_nil))) (ia_cons (i_tup (ia_cons (i_tup (ia_cons ic_int (ia_cons ic_int ia_nil))) (ia_cons (i_tup (ia_cons (i_tup (ia_cons ic_int (ia_cons ic_int ia_nil))) (ia_cons (i_tup (ia_cons ic_int (ia_cons ic_int ia_nil))) ia_nil))) ia_nil))) ia_nil))))))
    (ss_cons (s_ret (iv 2))
    ss_nil))) ss_nil)
    (ss_cons (s_set 1 sc_L_base.nd (i_tup (ia_cons (i_tup (ia_cons ic_int (ia_cons ic_int ia_nil))) (ia_cons (i_tup (ia_cons ic_int (ia_cons ic_int ia_nil))) (ia_cons (i_tup (ia_cons ic_int (ia_cons ic_int ia_nil))) ia_nil)))))
    (ss_cons (s_set 2 sc_L_base.nd (i_lst (ia_cons (i_tup (ia_cons (i_tup (ia_cons ic_int (ia_cons ic_int (ia_cons ic_int ia_nil)))) (ia_cons (i_tup (ia_cons (i_tup (ia_cons ic_int (ia_cons ic_int ia_nil))) (ia_cons (i_tup (ia_cons ic_int (ia_cons ic_int ia_nil))) (ia_cons (i_tup (ia_cons ic_int (ia_cons ic_int ia_nil))) ia_nil)))) ia_nil))) (ia_cons (i_tup (ia_cons (i_tup (ia_cons ic_int (ia_cons ic_int (ia_cons ic_int ia_nil)))) (ia_cons (i_tup (ia_cons (i_tup (ia_cons ic_int (ia_cons ic_int ia_nil))) (ia_cons (i_tup (ia_cons ic_int (ia_cons ic_int ia_nil))) (ia_cons (i_tup (ia_cons ic_int (ia_cons ic_int ia_nil))) ia_nil)))) ia_nil))) (ia_cons (i_tup (ia_cons (i_tup (ia_cons ic_int (ia_cons ic_int (ia_cons ic_int ia_nil)))) (ia_cons (iv 1) ia_nil))) ia_nil)))))
    (ss_cons (s_set 2 sc_L_base.nd (i_op op_addA ok_add.ok (iv 2) (i_lst (ia_cons (i_tup (ia_cons (i_tup (ia_cons ic_int (ia_cons ic_int (ia_cons ic_int ia_nil)))) (ia_cons (i_tup (ia_cons (i_tup (ia_cons ic_int (ia_cons ic_int ia_nil))) (ia_cons (i_tup (ia_cons ic_int (ia_cons ic_int ia_nil))) (ia_cons (i_tup (ia_cons ic_int (ia_cons ic_int ia_nil))) ia_nil)))) ia_nil))) (ia_cons (i_tup (ia_cons (i_tup (ia_cons ic_int (ia_cons ic_int (ia_cons ic_int ia_nil)))) (ia_cons (i_tup (ia_cons (i_tup (ia_cons ic_int (ia_cons ic_int ia_nil))) (ia_cons (i_tup (ia_cons ic_int (ia_cons ic_int ia_nil))) (ia_cons (i_tup (ia_cons ic_int (ia_cons ic_int ia_nil))) ia_nil)))) ia_nil))) ia_nil)))))
    (ss_cons (s_set 2 sc_L_base.nd (i_op op_addA ok_add.ok (iv 2) (i_lst (ia_cons (i_tup (ia_cons (i_tup (ia_cons ic_int (ia_cons ic_int (ia_cons ic_int ia_nil)))) (ia_cons (iv 1) ia_nil))) (ia_cons (i_tup (ia_cons (i_tup (ia_cons ic_int (ia_cons ic_int (ia_cons ic_int ia_nil)))) (ia_cons (i_tup (ia_cons (i_tup (ia_cons ic_int (ia_cons ic_int ia_nil))) (ia_cons (i_tup (ia_cons ic_int (ia_cons ic_int ia_nil))) (ia_cons (i_tup (ia_cons ic_int (ia_cons ic_int ia_nil))) ia_nil)))) ia_nil))) ia_nil)))))
    (ss_cons (s_ret (i_op op_addA ok_add.ok (iv 2) (i_lst (ia_cons (i_tup (ia_cons (i_tup (ia_cons ic_int (ia_cons ic_int (ia_cons ic_int ia_nil)))) (ia_cons (i_tup (ia_cons (i_tup (ia_cons ic_int (ia_cons ic_int ia_nil))) (ia_cons (i_tup (ia_cons ic_int (ia_cons ic_int ia_nil))) (ia_cons (i_tup (ia_cons ic_int (ia_cons ic_int ia_nil))) ia_nil)))) ia_nil))) ia_nil))))
    ss_nil))))))
theorem ok_L_corners (hX : K.In hp) (hG : hp.Ns mainGlobals mg) (hc : He.SaysD fa fn K) (hy : (fx.all fun f => f.ok K) = true) {fd : FuncData} (F : FunD K "_law_corners" "_law_corners" (defArgs s_L_corners) (defBody s_L_corners) (defScope s_L_corners) [] [] (He.fAd K ("_law_corners", none)) fd) : FnOk P w K mg base CX0 1 (He.fAd K ("_law_corners", none)) fd ["_law_dims"] (spI ⟨K, cA K, fN, P, w⟩ 1 m_L_corners) := by
  refine fn0 F sc_L_corners fun cdv A outer s H E hr => ?_
  exact (ss_cons (s_set 1 sc_L_corners.nd (i_lst (ia_cons (i_tup (ia_cons ic_int (ia_cons ic_int ia_nil))) (ia_cons (i_tup (ia_cons ic_int (ia_cons ic_int ia_nil))) (ia_cons (i_tup (ia_cons ic_int (ia_cons ic_int ia_nil))) (ia_cons (i_tup (ia_cons ic_int (ia_cons ic_int ia_nil))) ia_nil))))))
    (ss_cons (s_k [] (s_if (t_cmp (op_eqA hr.units) ok_eq.ok (iv 0) ic_int (nomark _)) (ss_cons (s_set 1 sc_L_corners.nd (i_op op_addA ok_add.ok (i_lc (own := [("_law_x", 2), ("_law_y", 3)]) (tg_names [2, 3]) (by decide) rfl sc_L_corners.nd (x_list (iv 1)) (blkOk_by (N := N_L_corners) (sc := defScope s_L_corners) (by decide +kernel)) (fun _ _ _ _ _ => (pg_tup rfl (pgs_cons (g_name 2 sc_L_corners.nd) (pgs_cons (g_name 3 sc_L_corners.nd) pgs_nil)))) (fun _ _ _ _ _ => cs_nil) (fun _ _ _ _ _ => (i_tup (ia_cons (iv 2) (ia_cons (iv 3) (ia_cons ic_int ia_nil)))))) (i_lc (own := [("_law_x", 2), ("_law_y", 3)]) (tg_names [2, 3]) (by decide) rfl sc_L_corners.nd (x_list (iv 1)) (blkOk_by (N := N_L_corners) (sc := defScope s_L_corners) (by decide +kernel)) (fun _ _ _ _ _ => (pg_tup rfl (pgs_cons (g_name 2 sc_L_corners.nd) (pgs_cons (g_name 3 sc_L_corners.nd) pgs_nil)))) (fun _ _ _ _ _ => cs_nil) (fun _ _ _ _ _ => (i_tup (ia_cons (iv 2) (ia_cons (iv 3) (ia_cons ic_int ia_nil))))))))
    ss_nil) ss_nil))
    (ss_cons (s_ret (iv 1))
    ss_nil)))
theorem ok_L_rows (hX : K.In hp) (hG : hp.Ns mainGlobals mg) (hc : He.SaysD fa fn K) (hy : (fx.all fun f => f.ok K) = true) {fd : FuncData} (F : FunD K "_law_rows" "_law_rows" (defArgs s_L_rows) (defBody s_L_rows) (defScope s_L_rows) [] [] (He.fAd K ("_law_rows", none)) fd) : FnOk P w K mg base CX0 1 (He.fAd K ("_law_rows", none)) fd ["_law_dims", "_law_joined_here", "_law_parts"] (spI ⟨K, cA K, fN, P, w⟩ 3 m_L_rows) := by
  refine fn0 F sc_L_rows fun cdv A outer s H E hr => ?_
  exact (ss_cons (s_set 3 sc_L_rows.nd (i_lst (ia_cons (i_fz (i_op op_addA ok_add.ok (i_op op_addA ok_add.ok (i_op op_addA ok_add.ok ic_str (i_ix ix_seq ok_ix.ok (i_lst (ia_cons ic_str (ia_cons ic_str ia_nil))) (i_ct cr_intA ok_int.ok (He.free_ok hX hG (hc.fact 5)) (by decide +kernel) (ia_cons (iv 1) ia_nil)))) ic_str) (i_ct call_str_int ok_str.ok (He.free_ok hX hG (hc.fact 12)) (by decide +kernel) (ia_cons (iv 0) ia_nil)))) ia_nil)))
    (ss_cons (s_for [4, 5, 6, 7, 8] PassesOwn.never rfl (tg_names [4, 5, 6]) (x_list (iv 2)) (pg_tup rfl (pgs_cons (g_name 4 sc_L_rows.nd) (pgs_cons (g_name 5 sc_L_rows.nd) (pgs_cons (g_name 6 sc_L_rows.nd) pgs_nil)))) (ss_cons (s_set 7 sc_L_rows.nd (i_fz (i_ms PySem.F.slot_str_join PySem.F.type_str_join mt_join ok_join.ok ic_str (ia_cons (i_lc (own := [("_law_axis", 9), ("_law_flip", 10)]) (tg_names [9, 10]) (by decide) rfl sc_L_rows.nd (x_tup (iv 5)) (blkOk_by (N := N_L_rows) (sc := defScope s_L_rows) (by decide +kernel)) (fun _ _ _ _ _ => (pg_tup rfl (pgs_cons (g_name 9 sc_L_rows.nd) (pgs_cons (g_name 10 sc_L_rows.nd) pgs_nil)))) (fun _ _ _ _ _ => cs_nil) (fun _ _ _ _ _ => (i_fz (i_op op_addA ok_add.ok (i_ix ix_seq ok_ix.ok ic_str (iv 10)) (i_ix ix_seq ok_ix.ok ic_str (iv 9)))))) ia_nil))))
    (ss_cons (s_set 8 sc_L_rows.nd (i_fz (i_op op_addA ok_add.ok (i_op op_addA ok_add.ok (i_op op_addA ok_add.ok ic_str (i_ms PySem.F.slot_str_join PySem.F.type_str_join mt_join ok_join.ok ic_str (ia_cons (i_lc (own := [("_law_bit", 11)]) (tg_name 11) (by decide) rfl sc_L_rows.nd (x_tup (iv 4)) (blkOk_by (N := N_L_rows) (sc := defScope s_L_rows) (by decide +kernel)) (fun _ _ _ _ _ => (g_name 11 sc_L_rows.nd)) (fun _ _ _ _ _ => cs_nil) (fun _ _ _ _ _ => (i_fz (i_ct call_str_int ok_str.ok (He.free_ok hX hG (hc.fact 12)) (by decide +kernel) (ia_cons (iv 11) ia_nil))))) ia_nil))) ic_str) (iv 7))))
    (ss_cons (s_k [] (s_if (t_val (iv 6)) (ss_cons (s_set 8 sc_L_rows.nd (i_fz (i_op op_addA ok_add.ok (iv 8) ic_str)))
    ss_nil) ss_nil))
    (ss_cons (s_ex (i_ml PySem.F.slot_list_append PySem.F.type_list_append (mtM mt_append) ok_app (iv 3) (ia_cons (iv 8) ia_nil)))
    ss_nil)))))
    (ss_cons (s_ret (iv 3))
    ss_nil)))
theorem ok_L_bad_head (hX : K.In hp) (hG : hp.Ns mainGlobals mg) (hc : He.SaysD fa fn K) (hy : (fx.all fun f => f.ok K) = true) {fd : FuncData} (F : FunD K "_law_bad_head" "_law_bad_head" (defArgs s_L_bad_head) (defBody s_L_bad_head) (defScope s_L_bad_head) [] [] (He.fAd K ("_law_bad_head", none)) fd) : FnOk P w K mg base CX0 1 (He.fAd K ("_law_bad_head", none)) fd ["_law_row", "_law_draw"] (spI ⟨K, cA K, fN, P, w⟩ 2 m_L_bad_head) := by
  refine fn0 F sc_L_bad_head fun cdv A outer s H E hr => ?_
  exact (ss_consO (s_setO 2 sc_L_bad_head.nd (i_fzO (i_msO PySem.F.slot_str_split PySem.F.type_str_split mt_split ok_split.ok (iv 0) (iaO_cons icO_str ia_nil))))
    (ssT_cons (s_setT 3 sc_L_bad_head.nd (i_fzT (i_lstT (iaT_cons (i_fzT (CwR.PET.of (i_ms PySem.F.slot_str_join PySem.F.type_str_join mt_join ok_join.ok ic_str (ia_cons (i_op op_addA ok_add.ok (i_lst (ia_cons ic_str ia_nil)) (i_slice (iv 2) (o_some ic_int) o_none)) ia_nil)))) (iaT_cons (i_fzT (CwR.PET.of (i_ms PySem.F.slot_str_join PySem.F.type_str_join mt_join ok_join.ok ic_str (ia_cons (i_slice (iv 2) o_none (o_some ic_int)) ia_nil)))) (iaT_cons (i_fzT (CwR.PET.of (i_op op_addA ok_add.ok (iv 0) ic_str))) (iaT_cons (i_fzT (CwR.PET.of (i_op op_addA ok_add.ok ic_str (iv 0)))) (iaT_cons (i_fzT (i_repl1 (iv 0))) iaT_nil))))))))
    (ssT_cons (s_setT 3 sc_L_bad_head.nd (i_fzT (i_opT op_addA ok_add.ok (CwR.PET.of (iv 3)) (i_lstT (iaT_cons (i_fzT (i_repl1 (iv 0))) (iaT_cons (i_fzT (CwR.PET.of (i_op op_addA ok_add.ok (iv 0) ic_str))) iaT_nil))))))
    (PSsT.of (ss_cons (s_set 3 sc_L_bad_head.nd (i_fz (i_op op_addA ok_add.ok (iv 3) (i_lst (ia_cons ic_str (ia_cons ic_str (ia_cons ic_str (ia_cons ic_str (ia_cons ic_str ia_nil)))))))))
    (ss_cons (s_set 3 sc_L_bad_head.nd (i_fz (i_op op_addA ok_add.ok (iv 3) (i_lst (ia_cons ic_str (ia_cons ic_str (ia_cons ic_str (ia_cons ic_str ia_nil))))))))
    (ss_cons (s_set 3 sc_L_bad_head.nd (i_fz (i_op op_addA ok_add.ok (iv 3) (i_lst (ia_cons ic_str (ia_cons (i_fz (i_op op_addA ok_add.ok (iv 0) ic_str)) (ia_cons ic_str (ia_cons ic_str ia_nil))))))))
    (ss_cons (s_ret (i_ix ix_seq ok_ix.ok (iv 3) (i_op op_mod ok_mod.ok (iv 1) (i_cb call_len ok_len.ok (He.free_ok hX hG (hc.fact 4)) (by decide +kernel) (ia_cons (iv 3) ia_nil)))))
    ss_nil))))))))
theorem ok_L_bad_part (hX : K.In hp) (hG : hp.Ns mainGlobals mg) (hc : He.SaysD fa fn K) (hy : (fx.all fun f => f.ok K) = true) {fd : FuncData} (F : FunD K "_law_bad_part" "_law_bad_part" (defArgs s_L_bad_part) (defBody s_L_bad_part) (defScope s_L_bad_part) [] [] (He.fAd K ("_law_bad_part", none)) fd) : FnOk P w K mg base CX0 1 (He.fAd K ("_law_bad_part", none)) fd ["_law_row", "_law_draw"] (spI ⟨K, cA K, fN, P, w⟩ 2 m_L_bad_part) := by
  refine fn0 F sc_L_bad_part fun cdv A outer s H E hr => ?_
  exact (ss_consO (s_setO 2 sc_L_bad_part.nd (i_fzO (i_msO PySem.F.slot_str_split PySem.F.type_str_split mt_split ok_split.ok (iv 0) (iaO_cons icO_str ia_nil))))
    (ssT_cons (PST.of (s_set 3 sc_L_bad_part.nd (i_ix ix_seq ok_ix.ok (iv 2) ic_int)))
    (ssT_cons (PST.of (s_set 4 sc_L_bad_part.nd (i_ix ix_seq ok_ix.ok (iv 2) ic_int)))
    (ssT_cons (PST.of (s_set 5 sc_L_bad_part.nd (i_fz (i_lst (ia_cons (i_fz (i_op op_addA ok_add.ok (i_slice (iv 4) (o_some ic_int) o_none) ic_str)) (ia_cons (i_fz (i_op op_mulA ok_mulA.ok ic_str (i_cb call_len ok_len.ok (He.free_ok hX hG (hc.fact 4)) (by decide +kernel) (ia_cons (iv 3) ia_nil)))) (ia_cons (i_fz (i_slice (iv 4) (o_some ic_int) o_none)) (ia_cons (i_fz (i_op op_addA ok_add.ok (iv 4) ic_str)) ia_nil))))))))
    (ssT_cons (PST.of (s_set 5 sc_L_bad_part.nd (i_fz (i_op op_addA ok_add.ok (iv 5) (i_lst (ia_cons (i_fz (i_op op_addA ok_add.ok (i_slice (iv 4) (o_some ic_int) o_none) ic_str)) (ia_cons (i_fz (i_upper (iv 4))) (ia_cons (i_fz (i_op op_addA ok_add.ok ic_str (i_slice (iv 4) (o_some ic_int) o_none))) ia_nil))))))))
    (ssT_cons (PST.of (s_set 6 sc_L_bad_part.nd (i_fz (i_lst (ia_cons (i_fz (i_op op_addA ok_add.ok ic_str (i_slice (iv 3) (o_some ic_int) o_none))) (ia_cons (i_fz (i_slice (iv 3) (o_some ic_int) o_none)) (ia_cons (i_fz (i_op op_addA ok_add.ok (iv 3) ic_str)) (ia_cons (i_fz (i_op op_addA ok_add.ok (iv 3) ic_str)) ia_nil))))))))
    (ssT_cons (PST.of (s_set 6 sc_L_bad_part.nd (i_fz (i_op op_addA ok_add.ok (iv 6) (i_lst (ia_cons (i_fz (i_op op_addA ok_add.ok ic_str (i_slice (iv 3) (o_some ic_int) o_none))) (ia_cons (i_fz (i_op op_addA ok_add.ok (i_op op_mulA ok_mulA.ok ic_str (i_op op_sub ok_sub.ok (i_cb call_len ok_len.ok (He.free_ok hX hG (hc.fact 4)) (by decide +kernel) (ia_cons (iv 3) ia_nil)) ic_int)) ic_str)) ia_nil)))))))
    (ssT_cons (PST.of (s_set 7 sc_L_bad_part.nd (i_fz (i_op op_addA ok_add.ok (i_lc (own := [("_law_one", 8)]) (tg_name 8) (by decide) rfl sc_L_bad_part.nd (x_list (iv 5)) (blkOk_by (N := N_L_bad_part) (sc := defScope s_L_bad_part) (by decide +kernel)) (fun _ _ _ _ _ => (g_name 8 sc_L_bad_part.nd)) (fun _ _ _ _ _ => cs_nil) (fun _ _ _ _ _ => (i_fz (i_op op_addA ok_add.ok (i_op op_addA ok_add.ok (i_op op_addA ok_add.ok ic_str (iv 3)) ic_str) (iv 8))))) (i_lc (own := [("_law_one", 8)]) (tg_name 8) (by decide) rfl sc_L_bad_part.nd (x_list (iv 6)) (blkOk_by (N := N_L_bad_part) (sc := defScope s_L_bad_part) (by decide +kernel)) (fun _ _ _ _ _ => (g_name 8 sc_L_bad_part.nd)) (fun _ _ _ _ _ => cs_nil) (fun _ _ _ _ _ => (i_fz (i_op op_addA ok_add.ok (i_op op_addA ok_add.ok (i_op op_addA ok_add.ok ic_str (iv 8)) ic_str) (iv 4)))))))))
    (ssT_cons (PST.of (s_set 7 sc_L_bad_part.nd (i_fz (i_op op_addA ok_add.ok (iv 7) (i_lst (ia_cons (i_fz (i_op op_addA ok_add.ok (i_op op_addA ok_add.ok (i_op op_addA ok_add.ok ic_str (iv 3)) ic_str) (iv 4))) (ia_cons (i_fz (i_op op_addA ok_add.ok ic_str (iv 3))) (ia_cons (i_fz (i_op op_addA ok_add.ok (i_op op_addA ok_add.ok (i_op op_addA ok_add.ok (i_op op_addA ok_add.ok ic_str (iv 3)) ic_str) (iv 4)) ic_str)) (ia_cons ic_str ia_nil)))))))))
    (ssT_cons (PST.of (s_set 7 sc_L_bad_part.nd (i_fz (i_op op_addA ok_add.ok (iv 7) (i_lst (ia_cons (i_fz (i_op op_addA ok_add.ok (i_op op_addA ok_add.ok (i_op op_addA ok_add.ok (i_op op_addA ok_add.ok ic_str (iv 3)) ic_str) (iv 4)) ic_str)) (ia_cons (i_fz (i_op op_addA ok_add.ok (iv 0) ic_str)) (ia_cons (i_fz (i_op op_addA ok_add.ok ic_str (iv 0))) (ia_cons (i_fz (i_op op_addA ok_add.ok (i_op op_addA ok_add.ok (i_op op_addA ok_add.ok ic_str (iv 3)) ic_str) (iv 4))) ia_nil)))))))))
    (ssT_cons (s_setT 7 sc_L_bad_part.nd (i_fzT (i_opT op_addA ok_add.ok (CwR.PET.of (iv 7)) (i_lstT (iaT_cons (i_fzT (i_repl1 (iv 0))) (iaT_cons (i_fzT (CwR.PET.of (i_op op_addA ok_add.ok (iv 0) ic_str))) iaT_nil))))))
    (PSsT.of (ss_cons (s_ret (i_ix ix_seq ok_ix.ok (iv 7) (i_op op_mod ok_mod.ok (iv 1) (i_cb call_len ok_len.ok (He.free_ok hX hG (hc.fact 4)) (by decide +kernel) (ia_cons (iv 7) ia_nil)))))
    ss_nil)))))))))))))
theorem ok_L_second (hX : K.In hp) (hG : hp.Ns mainGlobals mg) (hc : He.SaysD fa fn K) (hy : (fx.all fun f => f.ok K) = true) {fd : FuncData} (F : FunD K "_law_second" "_law_second" (defArgs s_L_second) (defBody s_L_second) (defScope s_L_second) [] [] (He.fAd K ("_law_second", none)) fd) : FnOk P w K mg base CX0 1 (He.fAd K ("_law_second", none)) fd ["_law_rows_here", "_law_first", "_law_draw"] (spI ⟨K, cA K, fN, P, w⟩ 3 m_L_second) := by
  refine fn0 F sc_L_second fun cdv A outer s H E hr => ?_
  exact (ss_cons (s_if (PW.pt (w_or (t_cmp (op_eqA hr.units) ok_eq.ok (i_op op_mod ok_mod.ok (iv 2) ic_int) ic_int (nomark _)) (w_or1 (t_cmp op_ge ok_ge.ok (iv 1) (i_cb call_len ok_len.ok (He.free_ok hX hG (hc.fact 4)) (by decide +kernel) (ia_cons (iv 0) ia_nil)) (nomark _))))) (ss_cons (s_ret (iv 0))
    ss_nil) ss_nil)
    (ss_cons (s_set 3 sc_L_second.nd (i_fz (i_op op_addA ok_add.ok (iv 1) (i_op op_mod ok_mod.ok (i_op op_fdivW ok_fdiv.ok (iv 2) ic_int) (i_op op_sub ok_sub.ok (i_cb call_len ok_len.ok (He.free_ok hX hG (hc.fact 4)) (by decide +kernel) (ia_cons (iv 0) ia_nil)) (iv 1))))))
    (ss_cons (s_ret (i_fz (i_op op_addA ok_add.ok (i_op op_addA ok_add.ok (i_slice (iv 0) o_none (o_some (iv 3))) (i_lst (ia_cons ic_str ia_nil))) (i_slice (iv 0) (o_some (i_op op_addA ok_add.ok (iv 3) ic_int)) o_none))))
    ss_nil)))
theorem ok_L_refused (hX : K.In hp) (hG : hp.Ns mainGlobals mg) (hc : He.SaysD fa fn K) (hy : (fx.all fun f => f.ok K) = true) {fd : FuncData} (F : FunD K "_law_refused" "_law_refused" (defArgs s_L_refused) (defBody s_L_refused) (defScope s_L_refused) [] [] (He.fAd K ("_law_refused", none)) fd) : FnOk P w K mg base CX0 1 (He.fAd K ("_law_refused", none)) fd ["_law_caught_here", "_law_row", "_law_kind"] (spI ⟨K, cA K, fN, P, w⟩ 3 m_L_refused) := by
  refine fn0 F sc_L_refused fun cdv A outer s H E hr => ?_
  exact (ss_cons (s_if (PW.pt (w_or (t_not (t_val (i_isE1 (c := .ref (He.ga K "TextError")) (u := .ref (He.ga K "TextError")) (nb := (some false)) (tb := [(6, true), (7, true), (4, false)]) (He.free_ok hX hG (hc.fact 17)) (IsTb.cons rfl (Fx.is1_ok (x := "BadRow") (y := .own "TextError") (b := true) (fxOk hy 29)) (Fx.excC (x := "BadRow") (fxOk hy 17)) (IsTb.cons rfl (Fx.is1_ok (x := "CornerTwice") (y := .own "TextError") (b := true) (fxOk hy 28)) (Fx.excC (x := "CornerTwice") (fxOk hy 15)) (IsTb.cons rfl (Fx.is1_ok (x := "Unmet") (y := .own "TextError") (b := false) (fxOk hy 27)) (Fx.excC (x := "Unmet") (fxOk hy 13)) (IsTb.nil (fun b e => by cases e; exact Fx.in1_ok (y := .own "TextError") (b := false) (fxOk hy 26)))))) (pe_glob (v := .ref (He.ga K "TextError")) rfl (He.glo_ok hX hG (hc.fact 20)) rfl) (.own _) (iv 0)))) (w_or1 (t_not (t_val (i_isE1 (c := .ty "ValueError") (u := .type "ValueError") (nb := (some false)) (tb := [(6, true), (7, true), (4, true)]) (He.free_ok hX hG (hc.fact 17)) (IsTb.cons rfl (Fx.is1_ok (x := "BadRow") (y := .ty "ValueError") (b := true) (fxOk hy 33)) (Fx.excC (x := "BadRow") (fxOk hy 17)) (IsTb.cons rfl (Fx.is1_ok (x := "CornerTwice") (y := .ty "ValueError") (b := true) (fxOk hy 32)) (Fx.excC (x := "CornerTwice") (fxOk hy 15)) (IsTb.cons rfl (Fx.is1_ok (x := "Unmet") (y := .ty "ValueError") (b := true) (fxOk hy 31)) (Fx.excC (x := "Unmet") (fxOk hy 13)) (IsTb.nil (fun b e => by cases e; exact Fx.in1_ok (y := .ty "ValueError") (b := false) (fxOk hy 30)))))) (pe_bltn (v := .ty "ValueError") rfl (He.free_ok hX hG (hc.fact 21)) (by decide +kernel) rfl) (.ty _) (iv 0))))))) (ss_cons (s_ret ic_bl)
    ss_nil) ss_nil)
    (ss_cons (s_if (PW.pt (w_or (t_val (i_isET (cs := [.ref (He.ga K "OffFloor"), .ref (He.ga K "Unmet")]) (us := [.ref (He.ga K "OffFloor"), .ref (He.ga K "Unmet")]) (nb := (some false)) (tb := [(6, false), (7, false), (4, true)]) (He.free_ok hX hG (hc.fact 17)) (IsTb.cons rfl (Fx.isa_ok (x := "BadRow") (ys := [.own "OffFloor", .own "Unmet"]) (b := false) (fxOk hy 21)) (Fx.excC (x := "BadRow") (fxOk hy 17)) (IsTb.cons rfl (Fx.isa_ok (x := "CornerTwice") (ys := [.own "OffFloor", .own "Unmet"]) (b := false) (fxOk hy 20)) (Fx.excC (x := "CornerTwice") (fxOk hy 15)) (IsTb.cons rfl (Fx.isa_ok (x := "Unmet") (ys := [.own "OffFloor", .own "Unmet"]) (b := true) (fxOk hy 19)) (Fx.excC (x := "Unmet") (fxOk hy 13)) (IsTb.nil (fun b e => by cases e; exact Fx.isn_ok (ys := [.own "OffFloor", .own "Unmet"]) (b := false) (fxOk hy 18)))))) (pa_vc (pe_glob (v := .ref (He.ga K "OffFloor")) rfl (He.glo_ok hX hG (hc.fact 19)) rfl) (pa_vc (pe_glob (v := .ref (He.ga K "Unmet")) rfl (He.glo_ok hX hG (hc.fact 10)) rfl) pa_vn)) (.cons (.own _) (.cons (.own _) .nil)) (Nat.le_of_ble_eq_true rfl) (iv 0))) (w_or1 (t_cmp (op_neA hr.units) ok_ne.ok (i_isE1 (c := .ref (He.ga K "BadRow")) (u := .ref (He.ga K "BadRow")) (nb := (some false)) (tb := [(6, true), (7, false), (4, false)]) (He.free_ok hX hG (hc.fact 17)) (IsTb.cons rfl (Fx.is1_ok (x := "BadRow") (y := .own "BadRow") (b := true) (fxOk hy 25)) (Fx.excC (x := "BadRow") (fxOk hy 17)) (IsTb.cons rfl (Fx.is1_ok (x := "CornerTwice") (y := .own "BadRow") (b := false) (fxOk hy 24)) (Fx.excC (x := "CornerTwice") (fxOk hy 15)) (IsTb.cons rfl (Fx.is1_ok (x := "Unmet") (y := .own "BadRow") (b := false) (fxOk hy 23)) (Fx.excC (x := "Unmet") (fxOk hy 13)) (IsTb.nil (fun b e => by cases e; exact Fx.in1_ok (y := .own "BadRow") (b := false) (fxOk hy 22)))))) (pe_glob (v := .ref (He.ga K "BadRow")) rfl (He.glo_ok hX hG (hc.fact 8)) rfl) (.own _) (iv 0)) (i_cmp (op_eqA hr.units) ok_eq.ok (iv 2) ic_str (nomark _)) (nomark _))))) (ss_cons (s_ret ic_bl)
    ss_nil) ss_nil)
    (ss_cons (s_if (t_cmp (op_neA hr.units) ok_ne.ok (i_isE1 (c := .ref (He.ga K "CornerTwice")) (u := .ref (He.ga K "CornerTwice")) (nb := (some false)) (tb := [(6, false), (7, true), (4, false)]) (He.free_ok hX hG (hc.fact 17)) (IsTb.cons rfl (Fx.is1_ok (x := "BadRow") (y := .own "CornerTwice") (b := false) (fxOk hy 16)) (Fx.excC (x := "BadRow") (fxOk hy 17)) (IsTb.cons rfl (Fx.is1_ok (x := "CornerTwice") (y := .own "CornerTwice") (b := true) (fxOk hy 14)) (Fx.excC (x := "CornerTwice") (fxOk hy 15)) (IsTb.cons rfl (Fx.is1_ok (x := "Unmet") (y := .own "CornerTwice") (b := false) (fxOk hy 12)) (Fx.excC (x := "Unmet") (fxOk hy 13)) (IsTb.nil (fun b e => by cases e; exact Fx.in1_ok (y := .own "CornerTwice") (b := false) (fxOk hy 11)))))) (pe_glob (v := .ref (He.ga K "CornerTwice")) rfl (He.glo_ok hX hG (hc.fact 9)) rfl) (.own _) (iv 0)) (i_cmp (op_eqA hr.units) ok_eq.ok (iv 2) ic_str (nomark _)) (nomark _)) (ss_cons (s_ret ic_bl)
    ss_nil) ss_nil)
    (ss_cons (s_ret (i_and (i_isi (He.free_ok hX hG (hc.fact 17)) (He.free_ok hX hG (hc.fact 5)) (by decide +kernel) (i_fldX (fldx_row hy) (iv 0))) (i_and (i_not (i_isi (He.free_ok hX hG (hc.fact 17)) (He.free_ok hX hG (hc.fact 18)) (by decide +kernel) (i_fldX (fldx_row hy) (iv 0)))) (i_one (i_cmp (op_eqA hr.units) ok_eq.ok (i_fldX (fldx_row hy) (iv 0)) (iv 1) (nomark _))))))
    ss_nil))))
theorem ok_p_first_state (hX : K.In hp) (hG : hp.Ns mainGlobals mg) (hc : He.SaysD fa fn K) (hy : (fx.all fun f => f.ok K) = true) (C_p_still_0 : Callee P w K mg base (cA K) fN 1 "still" ["dims"] [] m_p_still) {fd : FuncData} (F : FunD K "first_state" "first_state" (defArgs s_p_first_state) (defBody s_p_first_state) (defScope s_p_first_state) [] [] (He.fAd K ("first_state", none)) fd) : FnOk P w K mg base CX0 2 (He.fAd K ("first_state", none)) fd ["dims"] (spI ⟨K, cA K, fN, P, w⟩ 1 m_p_first_state) := by
  refine fn0 F sc_p_first_state fun cdv A outer s H E hr => ?_
  exact (ss_cons (s_ret (i_tup (ia_cons (i_fz (i_callC (hr.mono (by omega)) C_p_still_0 (ia_cons (iv 0) ia_nil))) (ia_cons ic_bl ia_nil))))
    ss_nil)
theorem ok_p_part_at (hX : K.In hp) (hG : hp.Ns mainGlobals mg) (hc : He.SaysD fa fn K) (hy : (fx.all fun f => f.ok K) = true) (C_p_after_0 : Callee P w K mg base (cA K) fN 1 "after" ["one", "other"] [] m_p_after) (C_p_turned_0 : Callee P w K mg base (cA K) fN 1 "turned" ["turn", "corner"] [] m_p_turned) {fd : FuncData} (F : FunD K "part_at" "part_at" (defArgs s_p_part_at) (defBody s_p_part_at) (defScope s_p_part_at) [] [] (He.fAd K ("part_at", none)) fd) : FnOk P w K mg base CX0 2 (He.fAd K ("part_at", none)) fd ["curve", "state", "digit"] (spI ⟨K, cA K, fN, P, w⟩ 3 m_p_part_at) := by
  refine fn0 F sc_p_part_at fun cdv A outer s H E hr => ?_
  exact (ss_cons (s_asg (tg_names [4, 5]) (iv 1) (pg_tup rfl (pgs_cons (g_name 4 sc_p_part_at.nd) (pgs_cons (g_name 5 sc_p_part_at.nd) pgs_nil))))
    (ss_cons (s_k [] (s_if (t_val (iv 5)) (ss_cons (s_set 2 sc_p_part_at.nd (i_fz (i_op op_sub ok_sub.ok (i_op op_sub ok_sub.ok (i_cb call_len ok_len.ok (He.free_ok hX hG (hc.fact 4)) (by decide +kernel) (ia_cons (i_fld (fld_parts hc) (iv 0)) ia_nil)) ic_int) (iv 2))))
    ss_nil) ss_nil))
    (ss_cons (s_set 3 sc_p_part_at.nd (i_ix ix_seq ok_ix.ok (i_fld (fld_parts hc) (iv 0)) (iv 2)))
    (ss_cons (s_ret (i_tup (ia_cons (i_fz (i_callC (hr.mono (by omega)) C_p_turned_0 (ia_cons (iv 4) (ia_cons (i_fld (fld_corner hc) (iv 3)) ia_nil)))) (ia_cons (i_tup (ia_cons (i_fz (i_callC (hr.mono (by omega)) C_p_after_0 (ia_cons (iv 4) (ia_cons (i_fld (fld_turn hc) (iv 3)) ia_nil)))) (ia_cons (i_cmp (op_neA hr.units) ok_ne.ok (iv 5) (i_fld (fld_back hc) (iv 3)) (nomark _)) ia_nil))) ia_nil))))
    ss_nil))))
theorem ok_p_is_word (hX : K.In hp) (hG : hp.Ns mainGlobals mg) (hc : He.SaysD fa fn K) (hy : (fx.all fun f => f.ok K) = true) (C_p_is_of_0 : Callee P w K mg base (cA K) fN 1 "is_of" ["text", "signs", "most"] [] m_p_is_of) {fd : FuncData} (F : FunD K "is_word" "is_word" (defArgs s_p_is_word) (defBody s_p_is_word) (defScope s_p_is_word) [] [] (He.fAd K ("is_word", none)) fd) : FnOk P w K mg base CX0 2 (He.fAd K ("is_word", none)) fd ["text"] (spI ⟨K, cA K, fN, P, w⟩ 1 m_p_is_word) := by
  refine fn0 F sc_p_is_word fun cdv A outer s H E hr => ?_
  exact (ss_cons (s_ret (i_callC (hr.mono (by omega)) C_p_is_of_0 (ia_cons (iv 0) (ia_cons (ic_gs rfl (he_str hX hG (hc.fact 7)).choose_spec) (ia_cons ic_int ia_nil)))))
    ss_nil)
theorem ok_L_joined (hX : K.In hp) (hG : hp.Ns mainGlobals mg) (hc : He.SaysD fa fn K) (hy : (fx.all fun f => f.ok K) = true) (C_L_turned_0 : Callee P w K mg base (cA K) fN 1 "_law_turned" ["_law_turn_here", "_law_corner"] [] m_L_turned) (C_L_after_0 : Callee P w K mg base (cA K) fN 1 "_law_after" ["_law_one", "_law_other"] [] m_L_after) (C_L_undone_0 : Callee P w K mg base (cA K) fN 1 "_law_undone" ["_law_turn_here"] [] m_L_undone) (C_L_turn_0 : Callee P w K mg base (cA K) fN 1 "_law_turn" ["_law_number", "_law_dims"] [] m_L_turn) (C_L_base_0 : Callee P w K mg base (cA K) fN 1 "_law_base" ["_law_dims"] [] m_L_base) {fd : FuncData} (F : FunD K "_law_joined" "_law_joined" (defArgs s_L_joined) (defBody s_L_joined) (defScope s_L_joined) [] [] (He.fAd K ("_law_joined", none)) fd) : FnOk P w K mg base CX0 2 (He.fAd K ("_law_joined", none)) fd ["_law_dims", "_law_number"] (spI ⟨K, cA K, fN, P, w⟩ 2 m_L_joined) := by
  refine fn0 F sc_L_joined fun cdv A outer s H E hr => ?_
  exact (ss_cons (s_set 2 sc_L_joined.nd (i_fz (i_callC (hr.mono (by omega)) C_L_base_0 (ia_cons (iv 0) ia_nil))))
    (ss_cons (s_set 3 sc_L_joined.nd (i_fz (i_callC (hr.mono (by omega)) C_L_turn_0 (ia_cons (iv 1) (ia_cons (iv 0) ia_nil)))))
    (ss_cons (s_k [] (s_if (t_cmp (op_eqA hr.units) ok_eq.ok (i_op op_mod ok_mod.ok (i_op op_fdivW ok_fdiv.ok (iv 1) ic_int) ic_int) ic_int (nomark _)) (ss_cons (s_set 2 sc_L_joined.nd (i_fz (i_lrev (He.free_ok hX hG (hc.fact 6)) (He.free_ok hX hG (hc.fact 11)) (iv 2))))
    ss_nil) ss_nil))
    (ss_cons (s_set 4 sc_L_joined.nd (i_fz (i_ct call_tuple_of ok_tupOf.ok (He.free_ok hX hG (hc.fact 0)) (by decide +kernel) (ia_cons (i_lc (own := [("_law_axis", 10)]) (tg_name 10) (by decide) rfl sc_L_joined.nd (x_range1 (He.free_ok hX hG (hc.fact 1)) (iv 0)) (blkOk_by (N := N_L_joined) (sc := defScope s_L_joined) (by decide +kernel)) (fun _ _ _ _ _ => (g_name 10 sc_L_joined.nd)) (fun _ _ _ _ _ => cs_nil) (fun _ _ _ _ _ => (i_tup (ia_cons (iv 10) (ia_cons (i_fz (i_ct cr_intA ok_int.ok (He.free_ok hX hG (hc.fact 5)) (by decide +kernel) (ia_cons (i_cmp (op_eqA hr.units) ok_eq.ok (iv 10) ic_int (nomark _)) ia_nil))) ia_nil))))) ia_nil))))
    (ss_cons (s_set 4 sc_L_joined.nd (i_fz (i_callC (hr.mono (by omega)) C_L_after_0 (ia_cons (iv 3) (ia_cons (i_fz (i_callC (hr.mono (by omega)) C_L_after_0 (ia_cons (iv 4) (ia_cons (i_fz (i_callC (hr.mono (by omega)) C_L_undone_0 (ia_cons (iv 3) ia_nil))) ia_nil)))) ia_nil)))))
    (ss_cons (s_set 5 sc_L_joined.nd (i_lst ia_nil))
    (ss_cons (s_set 6 sc_L_joined.nd (i_fz (i_op op_fdivW ok_fdiv.ok (iv 1) ic_int)))
    (ss_cons (s_for [7, 8, 9] PassesOwn.never rfl (tg_names [7, 8]) (x_list (iv 2)) (pg_tup rfl (pgs_cons (g_name 7 sc_L_joined.nd) (pgs_cons (g_name 8 sc_L_joined.nd) pgs_nil))) (ss_cons (s_set 9 sc_L_joined.nd (i_fz (i_callC (hr.mono (by omega)) C_L_after_0 (ia_cons (iv 3) (ia_cons (i_fz (i_callC (hr.mono (by omega)) C_L_after_0 (ia_cons (iv 8) (ia_cons (i_fz (i_callC (hr.mono (by omega)) C_L_undone_0 (ia_cons (iv 3) ia_nil))) ia_nil)))) ia_nil)))))
    (ss_cons (s_k [] (s_if (t_cmp (op_eqA hr.units) ok_eq.ok (i_op op_mod ok_mod.ok (iv 6) ic_int) ic_int (nomark _)) (ss_cons (s_set 9 sc_L_joined.nd (i_fz (i_callC (hr.mono (by omega)) C_L_after_0 (ia_cons (iv 9) (ia_cons (iv 4) ia_nil)))))
    ss_nil) ss_nil))
    (ss_cons (s_ex (i_ml PySem.F.slot_list_append PySem.F.type_list_append (mtM mt_append) ok_app (iv 5) (ia_cons (i_tup (ia_cons (i_fz (i_callC (hr.mono (by omega)) C_L_turned_0 (ia_cons (iv 3) (ia_cons (iv 7) ia_nil)))) (ia_cons (iv 9) (ia_cons (i_cmp (op_eqA hr.units) ok_eq.ok (i_op op_mod ok_mod.ok (iv 6) ic_int) ic_int (nomark _)) ia_nil)))) ia_nil)))
    (ss_cons (s_set 6 sc_L_joined.nd (i_fz (i_op op_fdivW ok_fdiv.ok (iv 6) ic_int)))
    ss_nil)))))
    (ss_cons (s_ret (iv 5))
    ss_nil)))))))))
theorem ok_L_loose (hX : K.In hp) (hG : hp.Ns mainGlobals mg) (hc : He.SaysD fa fn K) (hy : (fx.all fun f => f.ok K) = true) (C_L_turn_0 : Callee P w K mg base (cA K) fN 1 "_law_turn" ["_law_number", "_law_dims"] [] m_L_turn) (C_L_mix_0 : Callee P w K mg base (cA K) fN 1 "_law_mix" ["_law_cell", "_law_factor"] [] m_L_mix) (C_L_corners_0 : Callee P w K mg base (cA K) fN 1 "_law_corners" ["_law_dims"] [] m_L_corners) {fd : FuncData} (F : FunD K "_law_loose" "_law_loose" (defArgs s_L_loose) (defBody s_L_loose) (defScope s_L_loose) [] [] (He.fAd K ("_law_loose", none)) fd) : FnOk P w K mg base CX0 2 (He.fAd K ("_law_loose", none)) fd ["_law_dims", "_law_cell"] (spI ⟨K, cA K, fN, P, w⟩ 2 m_L_loose) := by
  refine fn0 F sc_L_loose fun cdv A outer s H E hr => ?_
  exact (ss_cons (s_set 2 sc_L_loose.nd (i_callC (hr.mono (by omega)) C_L_corners_0 (ia_cons (iv 0) ia_nil)))
    (ss_cons (s_set 3 sc_L_loose.nd (i_lst ia_nil))
    (ss_cons (s_while [4, 5] PassesOwn.never (t_cmp (op_neA hr.units) ok_ne.ok (iv 2) (i_lst ia_nil) (nomark _)) (ss_cons (s_set 4 sc_L_loose.nd (i_fz (i_callC (hr.mono (by omega)) C_L_mix_0 (ia_cons (iv 1) (ia_cons (i_fz (i_op op_addA ok_add.ok ic_int (i_op op_mulA ok_mulA.ok ic_int (i_cb call_len ok_len.ok (He.free_ok hX hG (hc.fact 4)) (by decide +kernel) (ia_cons (iv 2) ia_nil))))) ia_nil)))))
    (ss_cons (s_set 5 sc_L_loose.nd (i_fz (i_ml PySem.F.slot_list_pop PySem.F.type_list_pop (mtM mt_popAt) ok_popAt (iv 2) (ia_cons (i_op op_mod ok_mod.ok (iv 4) (i_cb call_len ok_len.ok (He.free_ok hX hG (hc.fact 4)) (by decide +kernel) (ia_cons (iv 2) ia_nil))) ia_nil))))
    (ss_cons (s_ex (i_ml PySem.F.slot_list_append PySem.F.type_list_append (mtM mt_append) ok_app (iv 3) (ia_cons (i_tup (ia_cons (iv 5) (ia_cons (i_fz (i_callC (hr.mono (by omega)) C_L_turn_0 (ia_cons (i_fz (i_op op_fdivW ok_fdiv.ok (iv 4) ic_int)) (ia_cons (iv 0) ia_nil)))) (ia_cons (i_cmp (op_eqA hr.units) ok_eq.ok (i_op op_mod ok_mod.ok (i_op op_fdivW ok_fdiv.ok (iv 4) ic_int) ic_int) ic_int (nomark _)) ia_nil)))) ia_nil)))
    ss_nil))))
    (ss_cons (s_ret (iv 3))
    ss_nil))))
theorem ok_L_faulty (hX : K.In hp) (hG : hp.Ns mainGlobals mg) (hc : He.SaysD fa fn K) (hy : (fx.all fun f => f.ok K) = true) (C_L_bad_part_0 : Callee P w K mg base (cA K) fN 1 "_law_bad_part" ["_law_row", "_law_draw"] [] m_L_bad_part) (C_L_bad_head_0 : Callee P w K mg base (cA K) fN 1 "_law_bad_head" ["_law_row", "_law_draw"] [] m_L_bad_head) {fd : FuncData} (F : FunD K "_law_faulty" "_law_faulty" (defArgs s_L_faulty) (defBody s_L_faulty) (defScope s_L_faulty) [] [] (He.fAd K ("_law_faulty", none)) fd) : FnOk P w K mg base CX0 2 (He.fAd K ("_law_faulty", none)) fd ["_law_rows_here", "_law_draw"] (spI ⟨K, cA K, fN, P, w⟩ 2 m_L_faulty) := by
  refine fn0 F sc_L_faulty fun cdv A outer s H E hr => ?_
  exact (ss_cons (s_set 2 sc_L_faulty.nd (i_fz (i_op op_mod ok_mod.ok (iv 1) ic_int)))
    (ss_cons (s_set 3 sc_L_faulty.nd (i_fz (i_op op_addA ok_add.ok ic_int (i_op op_mod ok_mod.ok (i_op op_fdivW ok_fdiv.ok (iv 1) ic_int) (i_op op_sub ok_sub.ok (i_cb call_len ok_len.ok (He.free_ok hX hG (hc.fact 4)) (by decide +kernel) (ia_cons (iv 0) ia_nil)) ic_int)))))
    (ss_cons (s_set 4 sc_L_faulty.nd (i_fz (i_op op_fdivW ok_fdiv.ok (iv 1) ic_int)))
    (ss_cons (s_if (t_cmp (op_eqA hr.units) ok_eq.ok (iv 2) ic_int (nomark _)) (ss_cons (s_ret (i_tup (ia_cons (i_fz (i_op op_addA ok_add.ok (i_lst (ia_cons (i_fz (i_callC (hr.mono (by omega)) C_L_bad_head_0 (ia_cons (i_ix ix_seq ok_ix.ok (iv 0) ic_int) (ia_cons (iv 4) ia_nil)))) ia_nil)) (i_slice (iv 0) (o_some ic_int) o_none))) (ia_cons ic_int (ia_cons ic_str ia_nil)))))
    ss_nil) ss_nil)
    (ss_cons (s_if (t_cmp op_ltA ok_ltA.ok (iv 2) ic_int (nomark _)) (ss_cons (s_ret (i_tup (ia_cons (i_fz (i_op op_addA ok_add.ok (i_op op_addA ok_add.ok (i_slice (iv 0) o_none (o_some (iv 3))) (i_lst (ia_cons (i_fz (i_callC (hr.mono (by omega)) C_L_bad_part_0 (ia_cons (i_ix ix_seq ok_ix.ok (iv 0) (iv 3)) (ia_cons (iv 4) ia_nil)))) ia_nil))) (i_slice (iv 0) (o_some (i_op op_addA ok_add.ok (iv 3) ic_int)) o_none))) (ia_cons (i_fz (i_op op_addA ok_add.ok (iv 3) ic_int)) (ia_cons ic_str ia_nil)))))
    ss_nil) ss_nil)
    (ss_cons (s_if (PW.pt (w_and (t_cmp (op_eqA hr.units) ok_eq.ok (iv 2) ic_int (nomark _)) (w_and1 (t_cmp op_gt ok_gt.ok (iv 3) ic_int (nomark _))))) (ss_cons (s_set 5 sc_L_faulty.nd (i_ms PySem.F.slot_str_split PySem.F.type_str_split mt_split ok_split.ok (i_ix ix_seq ok_ix.ok (iv 0) (iv 3)) (ia_cons ic_str ia_nil)))
    (ss_cons (s_sub (iv 5) ic_int (i_ix ix_seq ok_ix.ok (i_ms PySem.F.slot_str_split PySem.F.type_str_split mt_split ok_split.ok (i_ix ix_seq ok_ix.ok (iv 0) (i_op op_addA ok_add.ok ic_int (i_op op_mod ok_mod.ok (iv 4) (i_op op_sub ok_sub.ok (iv 3) ic_int)))) (ia_cons ic_str ia_nil)) ic_int))
    (ss_cons (s_ret (i_tup (ia_cons (i_fz (i_op op_addA ok_add.ok (i_op op_addA ok_add.ok (i_slice (iv 0) o_none (o_some (iv 3))) (i_lst (ia_cons (i_fz (i_ms PySem.F.slot_str_join PySem.F.type_str_join mt_join ok_join.ok ic_str (ia_cons (iv 5) ia_nil))) ia_nil))) (i_slice (iv 0) (o_some (i_op op_addA ok_add.ok (iv 3) ic_int)) o_none))) (ia_cons (i_fz (i_op op_addA ok_add.ok (iv 3) ic_int)) (ia_cons ic_str ia_nil)))))
    ss_nil))) ss_nil)
    (ss_cons (s_if (t_cmp op_ltA ok_ltA.ok (iv 2) ic_int (nomark _)) (ss_cons (s_ret (i_tup (ia_cons (i_fz (i_slice (iv 0) o_none (o_some (iv 3)))) (ia_cons (i_fz (i_op op_addA ok_add.ok (iv 3) ic_int)) (ia_cons ic_str ia_nil)))))
    ss_nil) ss_nil)
    (ss_cons (s_ret (i_tup (ia_cons (i_fz (i_op op_addA ok_add.ok (iv 0) (i_lst (ia_cons (i_ix ix_seq ok_ix.ok (i_lst (ia_cons ic_str (ia_cons ic_str (ia_cons ic_str ia_nil)))) (i_op op_mod ok_mod.ok (iv 4) ic_int)) ia_nil)))) (ia_cons (i_fz (i_op op_addA ok_add.ok (i_cb call_len ok_len.ok (He.free_ok hX hG (hc.fact 4)) (by decide +kernel) (ia_cons (iv 0) ia_nil)) ic_int)) (ia_cons ic_str ia_nil)))))
    ss_nil))))))))
theorem ok_p_unmet_at (hX : K.In hp) (hG : hp.Ns mainGlobals mg) (hc : He.SaysD fa fn K) (hy : (fx.all fun f => f.ok K) = true) (C_p_touches_0 : Callee P w K mg base (cA K) fN 1 "touches" ["one", "other", "axis", "upward"] [] m_p_touches) (C_p_part_at_0 : Callee P w K mg base (cA K) fN 2 "part_at" ["curve", "state", "digit"] [] m_p_part_at) (C_p_axis_between_0 : Callee P w K mg base (cA K) fN 1 "axis_between" ["one", "other"] [] m_p_axis_between) (C_p_first_state_0 : Callee P w K mg base (cA K) fN 2 "first_state" ["dims"] [] m_p_first_state) {fd : FuncData} (F : FunD K "unmet_at" "unmet_at" (defArgs s_p_unmet_at) (defBody s_p_unmet_at) (defScope s_p_unmet_at) [] [] (He.fAd K ("unmet_at", none)) fd) : FnOk P w K mg base CX0 3 (He.fAd K ("unmet_at", none)) fd ["curve", "first"] (spI ⟨K, cA K, fN, P, w⟩ 2 m_p_unmet_at) := by
  refine fn0 F sc_p_unmet_at fun cdv A outer s H E hr => ?_
  exact (ss_cons (s_set 2 sc_p_unmet_at.nd (i_fz (i_op op_sub ok_sub.ok (i_cb call_len ok_len.ok (He.free_ok hX hG (hc.fact 4)) (by decide +kernel) (ia_cons (i_fld (fld_parts hc) (iv 0)) ia_nil)) ic_int)))
    (ss_cons (s_asg (tg_names [7, 8]) (i_fz (i_callC (hr.mono (by omega)) C_p_part_at_0 (ia_cons (iv 0) (ia_cons (i_fz (i_callC (hr.mono (by omega)) C_p_first_state_0 (ia_cons (i_fld (fld_dims hc) (iv 0)) ia_nil))) (ia_cons (iv 1) ia_nil))))) (pg_tup rfl (pgs_cons (g_name 7 sc_p_unmet_at.nd) (pgs_cons (g_name 8 sc_p_unmet_at.nd) pgs_nil))))
    (ss_cons (s_asg (tg_names [9, 10]) (i_fz (i_callC (hr.mono (by omega)) C_p_part_at_0 (ia_cons (iv 0) (ia_cons (i_fz (i_callC (hr.mono (by omega)) C_p_first_state_0 (ia_cons (i_fld (fld_dims hc) (iv 0)) ia_nil))) (ia_cons (i_fz (i_op op_addA ok_add.ok (iv 1) ic_int)) ia_nil))))) (pg_tup rfl (pgs_cons (g_name 9 sc_p_unmet_at.nd) (pgs_cons (g_name 10 sc_p_unmet_at.nd) pgs_nil))))
    (ss_cons (s_set 3 sc_p_unmet_at.nd ic_int)
    (ss_cons (s_set 4 sc_p_unmet_at.nd (i_fz (i_callC (hr.mono (by omega)) C_p_axis_between_0 (ia_cons (iv 7) (ia_cons (iv 9) ia_nil)))))
    (ss_cons (s_if (t_cmp op_isA ok_is.ok (iv 4) ic_non (nomark _)) (ss_cons (s_ret (iv 3))
    ss_nil) ss_nil)
    (ss_cons (s_set 5 sc_p_unmet_at.nd (i_ix ix_seq ok_ix.ok (iv 9) (iv 4)))
    (ss_cons (s_set 6 sc_p_unmet_at.nd i_dnew)
    (ss_cons (s_while [7, 9] PassesOwn.never (t_dnotin (units9 hr) (i_tup (ia_cons (iv 8) (ia_cons (iv 10) ia_nil))) (iv 6)) (ss_cons (s_dput (units9 hr) (iv 6) (i_tup (ia_cons (iv 8) (ia_cons (iv 10) ia_nil))) ic_bl)
    (ss_cons (s_aug 3 sc_p_unmet_at.nd ip_addA ok_iadd.ok ic_int)
    (ss_cons (s_asg (tg_names [7, 8]) (i_fz (i_callC (hr.mono (by omega)) C_p_part_at_0 (ia_cons (iv 0) (ia_cons (iv 8) (ia_cons (iv 2) ia_nil))))) (pg_tup rfl (pgs_cons (g_name 7 sc_p_unmet_at.nd) (pgs_cons (g_name 8 sc_p_unmet_at.nd) pgs_nil))))
    (ss_cons (s_asg (tg_names [9, 10]) (i_fz (i_callC (hr.mono (by omega)) C_p_part_at_0 (ia_cons (iv 0) (ia_cons (iv 10) (ia_cons ic_int ia_nil))))) (pg_tup rfl (pgs_cons (g_name 9 sc_p_unmet_at.nd) (pgs_cons (g_name 10 sc_p_unmet_at.nd) pgs_nil))))
    (ss_cons (s_if (t_not (t_val (i_callC (hr.mono (by omega)) C_p_touches_0 (ia_cons (iv 7) (ia_cons (iv 9) (ia_cons (iv 4) (ia_cons (iv 5) ia_nil))))))) (ss_cons (s_ret (iv 3))
    ss_nil) ss_nil)
    ss_nil))))))
    (ss_cons (s_ret ic_non)
    ss_nil))))))))))
theorem ok_p_head_of (hX : K.In hp) (hG : hp.Ns mainGlobals mg) (hc : He.SaysD fa fn K) (hy : (fx.all fun f => f.ok K) = true) (C_p_is_word_0 : Callee P w K mg base (cA K) fN 2 "is_word" ["text"] [] m_p_is_word) (X_TextError : XIni P w K mg base 1 "TextError" ["row"]) {fd : FuncData} (F : FunD K "head_of" "head_of" (defArgs s_p_head_of) (defBody s_p_head_of) (defScope s_p_head_of) [] [] (He.fAd K ("head_of", none)) fd) : FnOk P w K mg base (L2.CX P w) 3 (He.fAd K ("head_of", none)) fd ["row"] (spI ⟨K, cA K, fN, P, w⟩ 1 m_p_head_of) := by
  refine fnXt F sc_p_head_of fun cdv A outer s H E hr tk po => ?_
  exact (ss_cons (s_set 1 sc_p_head_of.nd (i_fz (i_ms PySem.F.slot_str_split PySem.F.type_str_split mt_split ok_split.ok (iv 0) (ia_cons ic_str ia_nil))))
    (ss_cons (s_if (PW.pt (w_or (t_cmp (op_neA hr.units) ok_ne.ok (i_cb call_len ok_len.ok (He.free_ok hX hG (hc.fact 4)) (by decide +kernel) (ia_cons (iv 1) ia_nil)) ic_int (nomark _)) (w_or (t_cmp (op_neA hr.units) ok_ne.ok (i_ix ix_seq ok_ix.ok (iv 1) ic_int) ic_str (nomark _)) (w_or1 (t_not (t_val (i_callC (hr.mono (by omega)) C_p_is_word_0 (ia_cons (i_ix ix_seq ok_ix.ok (iv 1) ic_int) ia_nil)))))))) (ss_cons (s_raiseC (x := "BadRow") (b := "TextError") (names := ["row"]) tk X_TextError (hr.mono (by omega)) rfl (Fx.oex_ok (x := "BadRow") (fxOk hy 1)) (Fx.ini_ok (x := "BadRow") (c := "TextError") (fxOk hy 2)) (List.forall_mem_singleton.mpr (Fx.xf_ok (x := "BadRow") (f := "row") (fxOk hy 0)).2) rfl (He.glo_ok hX hG (hc.fact 8)) (ia_cons ic_int ia_nil) rfl (by decide) (by simp))
    ss_nil) ss_nil)
    (ss_cons (s_if (PW.pt (w_or (t_cmp (op_notInA (units65 hr)) ok_notIn.ok (i_ix ix_seq ok_ix.ok (iv 1) ic_int) (i_tup (ia_cons ic_str (ia_cons ic_str ia_nil))) (by rfl)) (w_or1 (t_cmp (op_notInA (units65 hr)) ok_notIn.ok (i_ix ix_seq ok_ix.ok (iv 1) ic_int) (i_tup (ia_cons ic_str (ia_cons ic_str ia_nil))) (by rfl))))) (ss_cons (s_raiseC (x := "BadRow") (b := "TextError") (names := ["row"]) tk X_TextError (hr.mono (by omega)) rfl (Fx.oex_ok (x := "BadRow") (fxOk hy 1)) (Fx.ini_ok (x := "BadRow") (c := "TextError") (fxOk hy 2)) (List.forall_mem_singleton.mpr (Fx.xf_ok (x := "BadRow") (f := "row") (fxOk hy 0)).2) rfl (He.glo_ok hX hG (hc.fact 8)) (ia_cons ic_int ia_nil) rfl (by decide) (by simp))
    ss_nil) ss_nil)
    (ss_cons (s_ret (i_tup (ia_cons (i_ix ix_seq ok_ix.ok (iv 1) ic_int) (ia_cons (i_fz (i_ct cr_intA ok_int.ok (He.free_ok hX hG (hc.fact 5)) (by decide +kernel) (ia_cons (i_ix ix_seq ok_ix.ok (iv 1) ic_int) ia_nil))) (ia_cons (i_cmp (op_eqA hr.units) ok_eq.ok (i_ix ix_seq ok_ix.ok (iv 1) ic_int) ic_str (nomark _)) ia_nil)))))
    ss_nil))))
theorem ok_p_part_of (hX : K.In hp) (hG : hp.Ns mainGlobals mg) (hc : He.SaysD fa fn K) (hy : (fx.all fun f => f.ok K) = true) (C_p_Part_init_0 : Maker P w K mg base (cA K) fN 1 "Part" 0 ["self", "corner", "turn", "back"] [] m_p_Part_init) (C_p_turn_of_0 : Callee P w K mg base (cA K) fN 1 "turn_of" ["text", "dims"] [] m_p_turn_of) (C_p_corner_of_0 : Callee P w K mg base (cA K) fN 1 "corner_of" ["text", "dims"] [] m_p_corner_of) (X_TextError : XIni P w K mg base 1 "TextError" ["row"]) {fd : FuncData} (F : FunD K "part_of" "part_of" (defArgs s_p_part_of) (defBody s_p_part_of) (defScope s_p_part_of) [] [] (He.fAd K ("part_of", none)) fd) : FnOk P w K mg base (L2.CX P w) 3 (He.fAd K ("part_of", none)) fd ["row", "number", "dims"] (spI ⟨K, cA K, fN, P, w⟩ 3 m_p_part_of) := by
  refine fnXt F sc_p_part_of fun cdv A outer s H E hr tk po => ?_
  exact (ss_cons (s_set 3 sc_p_part_of.nd (i_fz (i_ms PySem.F.slot_str_split PySem.F.type_str_split mt_split ok_split.ok (iv 0) (ia_cons ic_str ia_nil))))
    (ss_cons (s_if (PW.pt (w_or (t_cmp (op_notInA (units65 hr)) ok_notIn.ok (i_cb call_len ok_len.ok (He.free_ok hX hG (hc.fact 4)) (by decide +kernel) (ia_cons (iv 3) ia_nil)) (i_tup (ia_cons ic_int (ia_cons ic_int ia_nil))) (by rfl)) (w_or1 (t_cmp (op_neA hr.units) ok_ne.ok (i_ix ix_seq ok_ix.ok (iv 3) ic_int) ic_str (nomark _))))) (ss_cons (s_raiseC (x := "BadRow") (b := "TextError") (names := ["row"]) tk X_TextError (hr.mono (by omega)) rfl (Fx.oex_ok (x := "BadRow") (fxOk hy 1)) (Fx.ini_ok (x := "BadRow") (c := "TextError") (fxOk hy 2)) (List.forall_mem_singleton.mpr (Fx.xf_ok (x := "BadRow") (f := "row") (fxOk hy 0)).2) rfl (He.glo_ok hX hG (hc.fact 8)) (ia_cons (iv 1) ia_nil) rfl (by decide) (by simp))
    ss_nil) ss_nil)
    (ss_cons (s_set 4 sc_p_part_of.nd (i_fz (i_callC (hr.mono (by omega)) C_p_corner_of_0 (ia_cons (i_ix ix_seq ok_ix.ok (iv 3) ic_int) (ia_cons (iv 2) ia_nil)))))
    (ss_cons (s_set 5 sc_p_part_of.nd (i_fz (i_callC (hr.mono (by omega)) C_p_turn_of_0 (ia_cons (i_ix ix_seq ok_ix.ok (iv 3) ic_int) (ia_cons (iv 2) ia_nil)))))
    (ss_cons (s_if (PW.pt (w_or (t_cmp op_isA ok_is.ok (iv 4) ic_non (nomark _)) (w_or (t_cmp op_isA ok_is.ok (iv 5) ic_non (nomark _)) (w_or1 (t_cmp (op_notInA (units65 hr)) ok_notIn.ok (i_slice (iv 3) (o_some ic_int) o_none) (i_tup (ia_cons (i_fz (i_lst ia_nil)) (ia_cons (i_fz (i_lst (ia_cons ic_str ia_nil))) ia_nil))) (by rfl)))))) (ss_cons (s_raiseC (x := "BadRow") (b := "TextError") (names := ["row"]) tk X_TextError (hr.mono (by omega)) rfl (Fx.oex_ok (x := "BadRow") (fxOk hy 1)) (Fx.ini_ok (x := "BadRow") (c := "TextError") (fxOk hy 2)) (List.forall_mem_singleton.mpr (Fx.xf_ok (x := "BadRow") (f := "row") (fxOk hy 0)).2) rfl (He.glo_ok hX hG (hc.fact 8)) (ia_cons (iv 1) ia_nil) rfl (by decide) (by simp))
    ss_nil) ss_nil)
    (ss_cons (s_ret (i_fz (i_cl (i_newC (hr.mono (by omega)) C_p_Part_init_0 (ia_cons (iv 4) (ia_cons (iv 5) (ia_cons (i_cmp (op_eqA hr.units) ok_eq.ok (i_slice (iv 3) (o_some ic_int) o_none) (i_lst (ia_cons ic_str ia_nil)) (nomark _)) ia_nil)))))))
    ss_nil))))))
theorem ok_p_meeting_of (hX : K.In hp) (hG : hp.Ns mainGlobals mg) (hc : He.SaysD fa fn K) (hy : (fx.all fun f => f.ok K) = true) (C_p_unmet_at_0 : Callee P w K mg base (cA K) fN 3 "unmet_at" ["curve", "first"] [] m_p_unmet_at) {fd : FuncData} (F : FunD K "meeting_of" "meeting_of" (defArgs s_p_meeting_of) (defBody s_p_meeting_of) (defScope s_p_meeting_of) [] [] (He.fAd K ("meeting_of", none)) fd) : FnOk P w K mg base CX0 4 (He.fAd K ("meeting_of", none)) fd ["curve"] (spI ⟨K, cA K, fN, P, w⟩ 1 m_p_meeting_of) := by
  refine fn0 F sc_p_meeting_of fun cdv A outer s H E hr => ?_
  exact (ss_cons (s_set 1 sc_p_meeting_of.nd ic_non)
    (ss_cons (s_for [2, 3] PassesOwn.never rfl (tg_name 2) (x_range1 (He.free_ok hX hG (hc.fact 1)) (i_op op_sub ok_sub.ok (i_cb call_len ok_len.ok (He.free_ok hX hG (hc.fact 4)) (by decide +kernel) (ia_cons (i_fld (fld_parts hc) (iv 0)) ia_nil)) ic_int)) (g_name 2 sc_p_meeting_of.nd) (ss_cons (s_set 3 sc_p_meeting_of.nd (i_fz (i_callC (hr.mono (by omega)) C_p_unmet_at_0 (ia_cons (iv 0) (ia_cons (iv 2) ia_nil)))))
    (ss_cons (s_k [] (s_if (PW.pt (w_and (t_cmp op_isNotA ok_isNot.ok (iv 3) ic_non (nomark _)) (w_and1 (PW.pt (w_or (t_cmp op_isA ok_is.ok (iv 1) ic_non (nomark _)) (w_or1 (t_cmp op_ltA ok_ltA.ok (iv 3) (i_ix ix_seq ok_ix.ok (iv 1) ic_int) (nomark _)))))))) (ss_cons (s_set 1 sc_p_meeting_of.nd (i_tup (ia_cons (iv 2) (ia_cons (iv 3) ia_nil))))
    ss_nil) ss_nil))
    ss_nil)))
    (ss_cons (s_ret (iv 1))
    ss_nil)))
theorem ok_p_curve_from (hX : K.In hp) (hG : hp.Ns mainGlobals mg) (hc : He.SaysD fa fn K) (hy : (fx.all fun f => f.ok K) = true) (C_p_Curve_init_0 : Maker P w K mg base (cA K) fN 1 "Curve" 1 ["self", "name", "dims", "joined", "parts"] [] m_p_Curve_init) (C_p_part_of_0 : CalleeX P w K mg base (cA K) fN 3 "part_of" ["row", "number", "dims"] [] m_p_part_of) (C_p_head_of_0 : CalleeX P w K mg base (cA K) fN 3 "head_of" ["row"] [] m_p_head_of) (X_TextError : XIni P w K mg base 1 "TextError" ["row"]) {fd : FuncData} (F : FunD K "curve_from" "curve_from" (defArgs s_p_curve_from) (defBody s_p_curve_from) (defScope s_p_curve_from) [] [] (He.fAd K ("curve_from", none)) fd) : FnOk P w K mg base (L2.CX P w) 4 (He.fAd K ("curve_from", none)) fd ["rows"] (spI ⟨K, cA K, fN, P, w⟩ 1 m_p_curve_from) := by
  refine fnXt F sc_p_curve_from fun cdv A outer s H E hr tk po => ?_
  exact (ss_cons (s_asg (tg_names [4, 5, 6]) (i_fz (i_callX tk (hr.mono (by omega)) C_p_head_of_0 (ia_cons (i_ix ix_seq ok_ix.ok (iv 0) ic_int) ia_nil))) (pg_tup rfl (pgs_cons (g_name 4 sc_p_curve_from.nd) (pgs_cons (g_name 5 sc_p_curve_from.nd) (pgs_cons (g_name 6 sc_p_curve_from.nd) pgs_nil)))))
    (ss_cons (s_set 1 sc_p_curve_from.nd (i_lst ia_nil))
    (ss_cons (s_set 2 sc_p_curve_from.nd i_dnew)
    (ss_cons (s_for [3, 7] po rfl (tg_name 3) (x_range2 (He.free_ok hX hG (hc.fact 1)) ic_int (i_op op_addA ok_add.ok ic_int (i_op op_shl ok_shl.ok ic_int (iv 5)))) (g_name 3 sc_p_curve_from.nd) (ss_cons (s_if (t_cmp op_gt ok_gt.ok (iv 3) (i_cb call_len ok_len.ok (He.free_ok hX hG (hc.fact 4)) (by decide +kernel) (ia_cons (iv 0) ia_nil)) (nomark _)) (ss_cons (s_raiseC (x := "BadRow") (b := "TextError") (names := ["row"]) tk X_TextError (hr.mono (by omega)) rfl (Fx.oex_ok (x := "BadRow") (fxOk hy 1)) (Fx.ini_ok (x := "BadRow") (c := "TextError") (fxOk hy 2)) (List.forall_mem_singleton.mpr (Fx.xf_ok (x := "BadRow") (f := "row") (fxOk hy 0)).2) rfl (He.glo_ok hX hG (hc.fact 8)) (ia_cons (iv 3) ia_nil) rfl (by decide) (by simp))
    ss_nil) ss_nil)
    (ss_cons (s_set 7 sc_p_curve_from.nd (i_fz (i_callX tk (hr.mono (by omega)) C_p_part_of_0 (ia_cons (i_ix ix_seq ok_ix.ok (iv 0) (i_op op_sub ok_sub.ok (iv 3) ic_int)) (ia_cons (iv 3) (ia_cons (iv 5) ia_nil))))))
    (ss_cons (s_if (t_din (units9 hr) (i_fld (fld_corner hc) (iv 7)) (iv 2)) (ss_cons (s_raiseC (x := "CornerTwice") (b := "TextError") (names := ["row"]) tk X_TextError (hr.mono (by omega)) rfl (Fx.oex_ok (x := "CornerTwice") (fxOk hy 4)) (Fx.ini_ok (x := "CornerTwice") (c := "TextError") (fxOk hy 5)) (List.forall_mem_singleton.mpr (Fx.xf_ok (x := "CornerTwice") (f := "row") (fxOk hy 3)).2) rfl (He.glo_ok hX hG (hc.fact 9)) (ia_cons (iv 3) ia_nil) rfl (by decide) (by simp))
    ss_nil) ss_nil)
    (ss_cons (s_dput (units9 hr) (iv 2) (i_fld (fld_corner hc) (iv 7)) ic_bl)
    (ss_cons (s_ex (i_ml PySem.F.slot_list_append PySem.F.type_list_append (mtM mt_append) ok_app (iv 1) (ia_cons (iv 7) ia_nil)))
    ss_nil))))))
    (ss_cons (s_ret (i_fz (i_cl (i_newC (hr.mono (by omega)) C_p_Curve_init_0 (ia_cons (iv 4) (ia_cons (iv 5) (ia_cons (iv 6) (ia_cons (iv 1) ia_nil))))))))
    ss_nil)))))
theorem ok_p_fitted (hX : K.In hp) (hG : hp.Ns mainGlobals mg) (hc : He.SaysD fa fn K) (hy : (fx.all fun f => f.ok K) = true) (C_p_meeting_of_0 : Callee P w K mg base (cA K) fN 4 "meeting_of" ["curve"] [] m_p_meeting_of) (X_Unmet : XIni P w K mg base 1 "Unmet" ["first", "second", "level"]) {fd : FuncData} (F : FunD K "fitted" "fitted" (defArgs s_p_fitted) (defBody s_p_fitted) (defScope s_p_fitted) [] [] (He.fAd K ("fitted", none)) fd) : FnOk P w K mg base (L2.CX P w) 5 (He.fAd K ("fitted", none)) fd ["curve"] (spI ⟨K, cA K, fN, P, w⟩ 1 m_p_fitted) := by
  refine fnXt F sc_p_fitted fun cdv A outer s H E hr tk po => ?_
  exact (ss_cons (s_if (t_val (i_fld (fld_joined hc) (iv 0))) (ss_cons (s_set 1 sc_p_fitted.nd (i_fz (i_callC (hr.mono (by omega)) C_p_meeting_of_0 (ia_cons (iv 0) ia_nil))))
    (ss_cons (s_if (t_cmp op_isNotA ok_isNot.ok (iv 1) ic_non (nomark _)) (ss_cons (s_raiseC (x := "Unmet") (b := "Unmet") (names := ["first", "second", "level"]) tk X_Unmet (hr.mono (by omega)) rfl (Fx.oex_ok (x := "Unmet") (fxOk hy 9)) (Fx.ini_ok (x := "Unmet") (c := "Unmet") (fxOk hy 10)) (List.forall_mem_cons.mpr ⟨(Fx.xf_ok (x := "Unmet") (f := "first") (fxOk hy 8)).2, (List.forall_mem_cons.mpr ⟨(Fx.xf_ok (x := "Unmet") (f := "second") (fxOk hy 7)).2, (List.forall_mem_singleton.mpr (Fx.xf_ok (x := "Unmet") (f := "level") (fxOk hy 6)).2)⟩)⟩) rfl (He.glo_ok hX hG (hc.fact 10)) (ia_cons (i_ix ix_seq ok_ix.ok (iv 1) ic_int) (ia_cons (i_fz (i_op op_addA ok_add.ok (i_ix ix_seq ok_ix.ok (iv 1) ic_int) ic_int)) (ia_cons (i_ix ix_seq ok_ix.ok (iv 1) ic_int) ia_nil))) rfl (by decide) (by simp))
    ss_nil) ss_nil)
    ss_nil)) ss_nil)
    (ss_cons (s_ret (iv 0))
    ss_nil))
theorem ok_p_curve_of (hX : K.In hp) (hG : hp.Ns mainGlobals mg) (hc : He.SaysD fa fn K) (hy : (fx.all fun f => f.ok K) = true) (C_p_fitted_0 : CalleeX P w K mg base (cA K) fN 5 "fitted" ["curve"] [] m_p_fitted) (C_p_curve_from_0 : CalleeX P w K mg base (cA K) fN 4 "curve_from" ["rows"] [] m_p_curve_from) (X_TextError : XIni P w K mg base 1 "TextError" ["row"]) {fd : FuncData} (F : FunD K "curve_of" "curve_of" (defArgs s_p_curve_of) (defBody s_p_curve_of) (defScope s_p_curve_of) [] [] (He.fAd K ("curve_of", none)) fd) : FnOk P w K mg base (L2.CX P w) 6 (He.fAd K ("curve_of", none)) fd ["text"] (spI ⟨K, cA K, fN, P, w⟩ 1 m_p_curve_of) := by
  refine fnXt F sc_p_curve_of fun cdv A outer s H E hr tk po => ?_
  exact (ss_cons (s_set 1 sc_p_curve_of.nd (i_fz (i_ms PySem.F.slot_str_split PySem.F.type_str_split mt_split ok_split.ok (iv 0) (ia_cons ic_str ia_nil))))
    (ss_cons (s_set 2 sc_p_curve_of.nd (i_fz (i_callX tk (hr.mono (by omega)) C_p_curve_from_0 (ia_cons (iv 1) ia_nil))))
    (ss_cons (s_if (t_cmp op_gt ok_gt.ok (i_cb call_len ok_len.ok (He.free_ok hX hG (hc.fact 4)) (by decide +kernel) (ia_cons (iv 1) ia_nil)) (i_op op_addA ok_add.ok ic_int (i_cb call_len ok_len.ok (He.free_ok hX hG (hc.fact 4)) (by decide +kernel) (ia_cons (i_fld (fld_parts hc) (iv 2)) ia_nil))) (nomark _)) (ss_cons (s_raiseC (x := "BadRow") (b := "TextError") (names := ["row"]) tk X_TextError (hr.mono (by omega)) rfl (Fx.oex_ok (x := "BadRow") (fxOk hy 1)) (Fx.ini_ok (x := "BadRow") (c := "TextError") (fxOk hy 2)) (List.forall_mem_singleton.mpr (Fx.xf_ok (x := "BadRow") (f := "row") (fxOk hy 0)).2) rfl (He.glo_ok hX hG (hc.fact 8)) (ia_cons (i_fz (i_op op_addA ok_add.ok ic_int (i_cb call_len ok_len.ok (He.free_ok hX hG (hc.fact 4)) (by decide +kernel) (ia_cons (i_fld (fld_parts hc) (iv 2)) ia_nil)))) ia_nil) rfl (by decide) (by simp))
    ss_nil) ss_nil)
    (ss_cons (s_ret (i_callX tk (hr.mono (by omega)) C_p_fitted_0 (ia_cons (iv 2) ia_nil)))
    ss_nil))))
theorem ok_L_caught (hX : K.In hp) (hG : hp.Ns mainGlobals mg) (hc : He.SaysD fa fn K) (hy : (fx.all fun f => f.ok K) = true) (C_p_curve_of_0 : CalleeX P w K mg base (cA K) fN 6 "curve_of" ["text"] [] m_p_curve_of) (C_p_curve_from_0 : CalleeX P w K mg base (cA K) fN 4 "curve_from" ["rows"] [] m_p_curve_from) {fd : FuncData} (F : FunD K "_law_caught" "_law_caught" (defArgs s_L_caught) (defBody s_L_caught) (defScope s_L_caught) [] [] (He.fAd K ("_law_caught", none)) fd) : FnOk P w K mg base CX0 7 (He.fAd K ("_law_caught", none)) fd ["_law_rows_here", "_law_whole"] (spI ⟨K, cA K, fN, P, w⟩ 2 m_L_caught) := by
  refine fn0 F sc_L_caught fun cdv A outer s H E hr => ?_
  exact (ss_cons (s_set 2 sc_L_caught.nd ic_non)
    (ss_cons (s_k [3] (s_try (i := 3) (n := "e") (tb := [(6, true), (7, true), (4, true)]) rfl rfl sc_L_caught.nd rfl rfl rfl ⟨rfl, by decide, .inl (He.glo_ok hX hG (hc.fact 16))⟩ tk0 (tbX_cons rfl (He.exm_ok (hc.fact 15)) (tbX_cons rfl (He.exm_ok (hc.fact 14)) (tbX_cons rfl (He.exm_ok (hc.fact 13)) tbX_nil))) (fun W pn xe tk po => (ss_cons (s_if (t_val (iv 1)) (ss_cons (s_ex (i_callX tk (hr.mono (j := 6) (by omega)) C_p_curve_of_0 (ia_cons (i_fz (i_ms PySem.F.slot_str_join PySem.F.type_str_join mt_join ok_join.ok ic_str (ia_cons (iv 0) ia_nil))) ia_nil)))
    ss_nil) (ss_cons (s_ex (i_callX tk (hr.mono (j := 4) (by omega)) C_p_curve_from_0 (ia_cons (iv 0) ia_nil)))
    ss_nil))
    ss_nil)) (fun a pn => (ss_cons (s_set 2 sc_L_caught.nd (iv 3))
    ss_nil))))
    (ss_cons (s_ret (iv 2))
    ss_nil)))
theorem ok_L_law (hX : K.In hp) (hG : hp.Ns mainGlobals mg) (hc : He.SaysD fa fn K) (hy : (fx.all fun f => f.ok K) = true) (C_p_curve_of_0 : CalleeX P w K mg base (cA K) fN 6 "curve_of" ["text"] [] m_p_curve_of) (C_L_refused_0 : Callee P w K mg base (cA K) fN 1 "_law_refused" ["_law_caught_here", "_law_row", "_law_kind"] [] m_L_refused) (C_L_caught_0 : Callee P w K mg base (cA K) fN 7 "_law_caught" ["_law_rows_here", "_law_whole"] [] m_L_caught) (C_L_second_0 : Callee P w K mg base (cA K) fN 1 "_law_second" ["_law_rows_here", "_law_first", "_law_draw"] [] m_L_second) (C_L_mix_0 : Callee P w K mg base (cA K) fN 1 "_law_mix" ["_law_cell", "_law_factor"] [] m_L_mix) (C_L_faulty_0 : Callee P w K mg base (cA K) fN 2 "_law_faulty" ["_law_rows_here", "_law_draw"] [] m_L_faulty) (C_L_rows_0 : Callee P w K mg base (cA K) fN 1 "_law_rows" ["_law_dims", "_law_joined_here", "_law_parts"] [] m_L_rows) (C_L_joined_0 : Callee P w K mg base (cA K) fN 2 "_law_joined" ["_law_dims", "_law_number"] [] m_L_joined) (C_L_loose_0 : Callee P w K mg base (cA K) fN 2 "_law_loose" ["_law_dims", "_law_cell"] [] m_L_loose) {fd : FuncData} (F : FunD K "law" "law" (defArgs s_L_law) (defBody s_L_law) (defScope s_L_law) [] [] (He.fAd K ("law", none)) fd) : FnOk P w K mg base CX0 8 (He.fAd K ("law", none)) fd ["_law_script"] (spI ⟨K, cA K, fN, P, w⟩ 1 m_L_law) := by
  refine fn0 F sc_L_law fun cdv A outer s H E hr => ?_
  exact (ss_cons (s_for [1, 2, 3, 4, 5, 6, 7, 8, 9] PassesOwn.never rfl (tg_name 1) (x_list (i_op op_addA ok_add.ok (i_slice (iv 0) o_none (o_some ic_int)) (i_lst (ia_cons ic_int ia_nil)))) (g_name 1 sc_L_law.nd) (ss_cons (s_set 2 sc_L_law.nd (i_fz (i_callC (hr.mono (by omega)) C_L_mix_0 (ia_cons (iv 1) (ia_cons ic_int ia_nil)))))
    (ss_cons (s_set 3 sc_L_law.nd (i_fz (i_op op_addA ok_add.ok ic_int (i_op op_mod ok_mod.ok (iv 2) ic_int))))
    (ss_cons (s_set 4 sc_L_law.nd (i_fz (i_callC (hr.mono (by omega)) C_L_loose_0 (ia_cons (iv 3) (ia_cons (iv 1) ia_nil)))))
    (ss_cons (s_k [] (s_if (t_cmp (op_eqA hr.units) ok_eq.ok (i_op op_mod ok_mod.ok (i_op op_fdivW ok_fdiv.ok (iv 2) ic_int) ic_int) ic_int (nomark _)) (ss_cons (s_set 4 sc_L_law.nd (i_fz (i_callC (hr.mono (by omega)) C_L_joined_0 (ia_cons (iv 3) (ia_cons (i_fz (i_op op_fdivW ok_fdiv.ok (iv 2) ic_int)) ia_nil)))))
    ss_nil) ss_nil))
    (ss_cons (s_set 5 sc_L_law.nd (i_fz (i_callC (hr.mono (by omega)) C_L_rows_0 (ia_cons (iv 3) (ia_cons ic_bl (ia_cons (iv 4) ia_nil))))))
    (ss_cons (s_asg (tg_names [6, 8, 9]) (i_fz (i_callC (hr.mono (by omega)) C_L_faulty_0 (ia_cons (i_fz (i_callC (hr.mono (by omega)) C_L_rows_0 (ia_cons (iv 3) (ia_cons (i_cmp (op_eqA hr.units) ok_eq.ok (i_op op_mod ok_mod.ok (i_op op_fdivW ok_fdiv.ok (iv 2) ic_int) ic_int) ic_int (nomark _)) (ia_cons (iv 4) ia_nil))))) (ia_cons (i_fz (i_callC (hr.mono (by omega)) C_L_mix_0 (ia_cons (iv 1) (ia_cons ic_int ia_nil)))) ia_nil)))) (pg_tup rfl (pgs_cons (g_name 6 sc_L_law.nd) (pgs_cons (g_name 8 sc_L_law.nd) (pgs_cons (g_name 9 sc_L_law.nd) pgs_nil)))))
    (ss_cons (s_set 6 sc_L_law.nd (i_fz (i_callC (hr.mono (by omega)) C_L_second_0 (ia_cons (iv 6) (ia_cons (iv 8) (ia_cons (i_fz (i_callC (hr.mono (by omega)) C_L_mix_0 (ia_cons (iv 1) (ia_cons ic_int ia_nil)))) ia_nil))))))
    (ss_cons (s_if (t_not (t_val (i_callC (hr.mono (by omega)) C_L_refused_0 (ia_cons (i_fz (i_callC (hr.mono (by omega)) C_L_caught_0 (ia_cons (iv 6) (ia_cons ic_bl ia_nil)))) (ia_cons (iv 8) (ia_cons (iv 9) ia_nil)))))) (ss_cons (s_ret ic_bl)
    ss_nil) ss_nil)
    (ss_cons (s_set 7 sc_L_law.nd (i_fz (i_callC (hr.mono (by omega)) C_L_caught_0 (ia_cons (iv 6) (ia_cons ic_bl ia_nil)))))
    (ss_cons (s_if (t_cmp op_gt ok_gt.ok (iv 8) (i_cb call_len ok_len.ok (He.free_ok hX hG (hc.fact 4)) (by decide +kernel) (ia_cons (iv 5) ia_nil)) (nomark _)) (ss_cons (s_if (t_cmp op_isNotA ok_isNot.ok (iv 7) ic_non (nomark _)) (ss_cons (s_ret ic_bl)
    ss_nil) ss_nil)
    ss_nil) (ss_cons (s_if (t_not (t_val (i_callC (hr.mono (by omega)) C_L_refused_0 (ia_cons (iv 7) (ia_cons (iv 8) (ia_cons (iv 9) ia_nil)))))) (ss_cons (s_ret ic_bl)
    ss_nil) ss_nil)
    ss_nil))
    (ss_cons (s_if (t_cmp (op_neA hr.units) ok_ne.ok (i_fld (fld_dims hc) (i_callX tk0 (hr.mono (by omega)) C_p_curve_of_0 (ia_cons (i_fz (i_ms PySem.F.slot_str_join PySem.F.type_str_join mt_join ok_join.ok ic_str (ia_cons (iv 5) ia_nil))) ia_nil))) (iv 3) (nomark _)) (ss_cons (s_ret ic_bl)
    ss_nil) ss_nil)
    ss_nil))))))))))))
    (ss_cons (s_ret ic_bl)
    ss_nil))
theorem all_ok (hX : K.In hp) (hG : hp.Ns mainGlobals mg) (hc : He.SaysD fa fn K) (hy : (fx.all fun f => f.ok K) = true) : ∃ fd : FuncData, (∀ (s : Shared) (v : Value), BindsTo s fd ⟨[v], []⟩ [("_law_script", v)]) ∧ ∀ base : Heap, FnOk P w K mg base CX0 8 (He.fAd K ("law", none)) fd ["_law_script"] (spI ⟨K, cA K, fN, P, w⟩ 1 m_L_law) := by
  obtain ⟨fd_p_turned, F_p_turned⟩ := hc.def_ 0 (d := fn[0]) rfl
  obtain ⟨fd_p_still, F_p_still⟩ := hc.def_ 1 (d := fn[1]) rfl
  obtain ⟨fd_p_after, F_p_after⟩ := hc.def_ 2 (d := fn[2]) rfl
  obtain ⟨fd_p_turn_of, F_p_turn_of⟩ := hc.def_ 3 (d := fn[3]) rfl
  obtain ⟨fd_p_corner_of, F_p_corner_of⟩ := hc.def_ 4 (d := fn[4]) rfl
  obtain ⟨fd_p_Part_init, F_p_Part_init⟩ := hc.def_ 5 (d := fn[5]) rfl
  obtain ⟨fd_p_Curve_init, F_p_Curve_init⟩ := hc.def_ 6 (d := fn[6]) rfl
  obtain ⟨fd_p_is_of, F_p_is_of⟩ := hc.def_ 7 (d := fn[7]) rfl
  obtain ⟨fd_p_axis_between, F_p_axis_between⟩ := hc.def_ 8 (d := fn[8]) rfl
  obtain ⟨fd_p_touches, F_p_touches⟩ := hc.def_ 9 (d := fn[9]) rfl
  obtain ⟨fd_L_mix, F_L_mix⟩ := hc.def_ 10 (d := fn[10]) rfl
  obtain ⟨fd_L_turned, F_L_turned⟩ := hc.def_ 11 (d := fn[11]) rfl
  obtain ⟨fd_L_after, F_L_after⟩ := hc.def_ 12 (d := fn[12]) rfl
  obtain ⟨fd_L_undone, F_L_undone⟩ := hc.def_ 13 (d := fn[13]) rfl
  obtain ⟨fd_L_turn, F_L_turn⟩ := hc.def_ 14 (d := fn[14]) rfl
  obtain ⟨fd_L_base, F_L_base⟩ := hc.def_ 15 (d := fn[15]) rfl
  obtain ⟨fd_L_corners, F_L_corners⟩ := hc.def_ 16 (d := fn[16]) rfl
  obtain ⟨fd_L_rows, F_L_rows⟩ := hc.def_ 17 (d := fn[17]) rfl
  obtain ⟨fd_L_bad_head, F_L_bad_head⟩ := hc.def_ 18 (d := fn[18]) rfl
  obtain ⟨fd_L_bad_part, F_L_bad_part⟩ := hc.def_ 19 (d := fn[19]) rfl
  obtain ⟨fd_L_second, F_L_second⟩ := hc.def_ 20 (d := fn[20]) rfl
  obtain ⟨fd_L_refused, F_L_refused⟩ := hc.def_ 21 (d := fn[21]) rfl
  obtain ⟨fd_p_first_state, F_p_first_state⟩ := hc.def_ 22 (d := fn[22]) rfl
  obtain ⟨fd_p_part_at, F_p_part_at⟩ := hc.def_ 23 (d := fn[23]) rfl
  obtain ⟨fd_p_is_word, F_p_is_word⟩ := hc.def_ 24 (d := fn[24]) rfl
  obtain ⟨fd_L_joined, F_L_joined⟩ := hc.def_ 25 (d := fn[25]) rfl
  obtain ⟨fd_L_loose, F_L_loose⟩ := hc.def_ 26 (d := fn[26]) rfl
  obtain ⟨fd_L_faulty, F_L_faulty⟩ := hc.def_ 27 (d := fn[27]) rfl
  obtain ⟨fd_p_unmet_at, F_p_unmet_at⟩ := hc.def_ 28 (d := fn[28]) rfl
  obtain ⟨fd_p_head_of, F_p_head_of⟩ := hc.def_ 29 (d := fn[29]) rfl
  obtain ⟨fd_p_part_of, F_p_part_of⟩ := hc.def_ 30 (d := fn[30]) rfl
  obtain ⟨fd_p_meeting_of, F_p_meeting_of⟩ := hc.def_ 31 (d := fn[31]) rfl
  obtain ⟨fd_p_curve_from, F_p_curve_from⟩ := hc.def_ 32 (d := fn[32]) rfl
  obtain ⟨fd_p_fitted, F_p_fitted⟩ := hc.def_ 33 (d := fn[33]) rfl
  obtain ⟨fd_p_curve_of, F_p_curve_of⟩ := hc.def_ 34 (d := fn[34]) rfl
  obtain ⟨fd_L_caught, F_L_caught⟩ := hc.def_ 35 (d := fn[35]) rfl
  obtain ⟨fd_L_law, F_L_law⟩ := hc.def_ 36 (d := fn[36]) rfl
  obtain ⟨fd_p_TextError_init, F_p_TextError_init⟩ := hc.def_ 37 (d := fn[37]) rfl
  obtain ⟨fd_p_Unmet_init, F_p_Unmet_init⟩ := hc.def_ 38 (d := fn[38]) rfl
  refine ⟨fd_L_law, fun s v => FunD.bindsA (ps := ["_law_script"]) F_L_law (fun _ _ _ _ _ _ us hl => match us, hl with | [_], _ => rfl) s [v] rfl, fun base => ?_⟩
  have X_TextError : XIni P w K mg base 1 "TextError" ["row"] := ⟨fd_p_TextError_init, ["self", "row"], ok_p_TextError_init (P := P) (w := w) (base := base) hX hG hc hy F_p_TextError_init, F_p_TextError_init.bindsN fun _ _ _ _ _ _ us hl => match us, hl with | [_, _], _ => rfl⟩
  have X_Unmet : XIni P w K mg base 1 "Unmet" ["first", "second", "level"] := ⟨fd_p_Unmet_init, ["self", "first", "second", "level"], ok_p_Unmet_init (P := P) (w := w) (base := base) hX hG hc hy F_p_Unmet_init, F_p_Unmet_init.bindsN fun _ _ _ _ _ _ us hl => match us, hl with | [_, _, _, _], _ => rfl⟩
  have O_p_turned := ok_p_turned (P := P) (w := w) (base := base) hX hG hc hy  F_p_turned
  have C_p_turned_0 := Callee.mkN (x := "turned") (ne_clean _) (He.glo_ok hX hG (hc.fact 22)) F_p_turned.kp (F_p_turned.bindsN fun _ _ _ _ _ _ us hl => match us, hl with | [_, _], _ => rfl) .nil (fun _ _ => .nil) O_p_turned
  have O_p_still := ok_p_still (P := P) (w := w) (base := base) hX hG hc hy  F_p_still
  have C_p_still_0 := Callee.mkN (x := "still") (ne_clean _) (He.glo_ok hX hG (hc.fact 23)) F_p_still.kp (F_p_still.bindsN fun _ _ _ _ _ _ us hl => match us, hl with | [_], _ => rfl) .nil (fun _ _ => .nil) O_p_still
  have O_p_after := ok_p_after (P := P) (w := w) (base := base) hX hG hc hy  F_p_after
  have C_p_after_0 := Callee.mkN (x := "after") (ne_clean _) (He.glo_ok hX hG (hc.fact 24)) F_p_after.kp (F_p_after.bindsN fun _ _ _ _ _ _ us hl => match us, hl with | [_, _], _ => rfl) .nil (fun _ _ => .nil) O_p_after
  have O_p_turn_of := ok_p_turn_of (P := P) (w := w) (base := base) hX hG hc hy  F_p_turn_of
  have C_p_turn_of_0 := Callee.mkN (x := "turn_of") (ne_clean _) (He.glo_ok hX hG (hc.fact 25)) F_p_turn_of.kp (F_p_turn_of.bindsN fun _ _ _ _ _ _ us hl => match us, hl with | [_, _], _ => rfl) .nil (fun _ _ => .nil) O_p_turn_of
  have O_p_corner_of := ok_p_corner_of (P := P) (w := w) (base := base) hX hG hc hy  F_p_corner_of
  have C_p_corner_of_0 := Callee.mkN (x := "corner_of") (ne_clean _) (He.glo_ok hX hG (hc.fact 26)) F_p_corner_of.kp (F_p_corner_of.bindsN fun _ _ _ _ _ _ us hl => match us, hl with | [_, _], _ => rfl) .nil (fun _ _ => .nil) O_p_corner_of
  have O_p_Part_init := ok_p_Part_init (P := P) (w := w) (base := base) hX hG hc hy  F_p_Part_init
  have C_p_Part_init_0 := Maker.mkN (x := "Part") (c := 0) (cA := cA K) (ne_clean _) (He.mkr_ok (hc.fact 59)) (He.glo_ok hX hG (hc.fact 27)) (F_p_Part_init.bindsN fun _ _ _ _ _ _ us hl => match us, hl with | [_, _, _, _], _ => rfl) .nil (fun _ _ => .nil) O_p_Part_init
  have O_p_Curve_init := ok_p_Curve_init (P := P) (w := w) (base := base) hX hG hc hy  F_p_Curve_init
  have C_p_Curve_init_0 := Maker.mkN (x := "Curve") (c := 1) (cA := cA K) (ne_clean _) (He.mkr_ok (hc.fact 60)) (He.glo_ok hX hG (hc.fact 28)) (F_p_Curve_init.bindsN fun _ _ _ _ _ _ us hl => match us, hl with | [_, _, _, _, _], _ => rfl) .nil (fun _ _ => .nil) O_p_Curve_init
  have O_p_is_of := ok_p_is_of (P := P) (w := w) (base := base) hX hG hc hy  F_p_is_of
  have C_p_is_of_0 := Callee.mkN (x := "is_of") (ne_clean _) (He.glo_ok hX hG (hc.fact 29)) F_p_is_of.kp (F_p_is_of.bindsN fun _ _ _ _ _ _ us hl => match us, hl with | [_, _, _], _ => rfl) .nil (fun _ _ => .nil) O_p_is_of
  have O_p_axis_between := ok_p_axis_between (P := P) (w := w) (base := base) hX hG hc hy  F_p_axis_between
  have C_p_axis_between_0 := Callee.mkN (x := "axis_between") (ne_clean _) (He.glo_ok hX hG (hc.fact 30)) F_p_axis_between.kp (F_p_axis_between.bindsN fun _ _ _ _ _ _ us hl => match us, hl with | [_, _], _ => rfl) .nil (fun _ _ => .nil) O_p_axis_between
  have O_p_touches := ok_p_touches (P := P) (w := w) (base := base) hX hG hc hy  F_p_touches
  have C_p_touches_0 := Callee.mkN (x := "touches") (ne_clean _) (He.glo_ok hX hG (hc.fact 31)) F_p_touches.kp (F_p_touches.bindsN fun _ _ _ _ _ _ us hl => match us, hl with | [_, _, _, _], _ => rfl) .nil (fun _ _ => .nil) O_p_touches
  have O_L_mix := ok_L_mix (P := P) (w := w) (base := base) hX hG hc hy  F_L_mix
  have C_L_mix_0 := Callee.mkN (x := "_law_mix") (ne_clean _) (He.glo_ok hX hG (hc.fact 32)) F_L_mix.kp (F_L_mix.bindsN fun _ _ _ _ _ _ us hl => match us, hl with | [_, _], _ => rfl) .nil (fun _ _ => .nil) O_L_mix
  have O_L_turned := ok_L_turned (P := P) (w := w) (base := base) hX hG hc hy  F_L_turned
  have C_L_turned_0 := Callee.mkN (x := "_law_turned") (ne_clean _) (He.glo_ok hX hG (hc.fact 33)) F_L_turned.kp (F_L_turned.bindsN fun _ _ _ _ _ _ us hl => match us, hl with | [_, _], _ => rfl) .nil (fun _ _ => .nil) O_L_turned
  have O_L_after := ok_L_after (P := P) (w := w) (base := base) hX hG hc hy  F_L_after
  have C_L_after_0 := Callee.mkN (x := "_law_after") (ne_clean _) (He.glo_ok hX hG (hc.fact 34)) F_L_after.kp (F_L_after.bindsN fun _ _ _ _ _ _ us hl => match us, hl with | [_, _], _ => rfl) .nil (fun _ _ => .nil) O_L_after
  have O_L_undone := ok_L_undone (P := P) (w := w) (base := base) hX hG hc hy  F_L_undone
  have C_L_undone_0 := Callee.mkN (x := "_law_undone") (ne_clean _) (He.glo_ok hX hG (hc.fact 35)) F_L_undone.kp (F_L_undone.bindsN fun _ _ _ _ _ _ us hl => match us, hl with | [_], _ => rfl) .nil (fun _ _ => .nil) O_L_undone
  have O_L_turn := ok_L_turn (P := P) (w := w) (base := base) hX hG hc hy  F_L_turn
  have C_L_turn_0 := Callee.mkN (x := "_law_turn") (ne_clean _) (He.glo_ok hX hG (hc.fact 36)) F_L_turn.kp (F_L_turn.bindsN fun _ _ _ _ _ _ us hl => match us, hl with | [_, _], _ => rfl) .nil (fun _ _ => .nil) O_L_turn
  have O_L_base := ok_L_base (P := P) (w := w) (base := base) hX hG hc hy  F_L_base
  have C_L_base_0 := Callee.mkN (x := "_law_base") (ne_clean _) (He.glo_ok hX hG (hc.fact 37)) F_L_base.kp (F_L_base.bindsN fun _ _ _ _ _ _ us hl => match us, hl with | [_], _ => rfl) .nil (fun _ _ => .nil) O_L_base
  have O_L_corners := ok_L_corners (P := P) (w := w) (base := base) hX hG hc hy  F_L_corners
  have C_L_corners_0 := Callee.mkN (x := "_law_corners") (ne_clean _) (He.glo_ok hX hG (hc.fact 38)) F_L_corners.kp (F_L_corners.bindsN fun _ _ _ _ _ _ us hl => match us, hl with | [_], _ => rfl) .nil (fun _ _ => .nil) O_L_corners
  have O_L_rows := ok_L_rows (P := P) (w := w) (base := base) hX hG hc hy  F_L_rows
  have C_L_rows_0 := Callee.mkN (x := "_law_rows") (ne_clean _) (He.glo_ok hX hG (hc.fact 39)) F_L_rows.kp (F_L_rows.bindsN fun _ _ _ _ _ _ us hl => match us, hl with | [_, _, _], _ => rfl) .nil (fun _ _ => .nil) O_L_rows
  have O_L_bad_head := ok_L_bad_head (P := P) (w := w) (base := base) hX hG hc hy  F_L_bad_head
  have C_L_bad_head_0 := Callee.mkN (x := "_law_bad_head") (ne_clean _) (He.glo_ok hX hG (hc.fact 40)) F_L_bad_head.kp (F_L_bad_head.bindsN fun _ _ _ _ _ _ us hl => match us, hl with | [_, _], _ => rfl) .nil (fun _ _ => .nil) O_L_bad_head
  have O_L_bad_part := ok_L_bad_part (P := P) (w := w) (base := base) hX hG hc hy  F_L_bad_part
  have C_L_bad_part_0 := Callee.mkN (x := "_law_bad_part") (ne_clean _) (He.glo_ok hX hG (hc.fact 41)) F_L_bad_part.kp (F_L_bad_part.bindsN fun _ _ _ _ _ _ us hl => match us, hl with | [_, _], _ => rfl) .nil (fun _ _ => .nil) O_L_bad_part
  have O_L_second := ok_L_second (P := P) (w := w) (base := base) hX hG hc hy  F_L_second
  have C_L_second_0 := Callee.mkN (x := "_law_second") (ne_clean _) (He.glo_ok hX hG (hc.fact 42)) F_L_second.kp (F_L_second.bindsN fun _ _ _ _ _ _ us hl => match us, hl with | [_, _, _], _ => rfl) .nil (fun _ _ => .nil) O_L_second
  have O_L_refused := ok_L_refused (P := P) (w := w) (base := base) hX hG hc hy  F_L_refused
  have C_L_refused_0 := Callee.mkN (x := "_law_refused") (ne_clean _) (He.glo_ok hX hG (hc.fact 43)) F_L_refused.kp (F_L_refused.bindsN fun _ _ _ _ _ _ us hl => match us, hl with | [_, _, _], _ => rfl) .nil (fun _ _ => .nil) O_L_refused
  have O_p_first_state := ok_p_first_state (P := P) (w := w) (base := base) hX hG hc hy C_p_still_0 F_p_first_state
  have C_p_first_state_0 := Callee.mkN (x := "first_state") (ne_clean _) (He.glo_ok hX hG (hc.fact 44)) F_p_first_state.kp (F_p_first_state.bindsN fun _ _ _ _ _ _ us hl => match us, hl with | [_], _ => rfl) .nil (fun _ _ => .nil) O_p_first_state
  have O_p_part_at := ok_p_part_at (P := P) (w := w) (base := base) hX hG hc hy C_p_after_0 C_p_turned_0 F_p_part_at
  have C_p_part_at_0 := Callee.mkN (x := "part_at") (ne_clean _) (He.glo_ok hX hG (hc.fact 45)) F_p_part_at.kp (F_p_part_at.bindsN fun _ _ _ _ _ _ us hl => match us, hl with | [_, _, _], _ => rfl) .nil (fun _ _ => .nil) O_p_part_at
  have O_p_is_word := ok_p_is_word (P := P) (w := w) (base := base) hX hG hc hy C_p_is_of_0 F_p_is_word
  have C_p_is_word_0 := Callee.mkN (x := "is_word") (ne_clean _) (He.glo_ok hX hG (hc.fact 46)) F_p_is_word.kp (F_p_is_word.bindsN fun _ _ _ _ _ _ us hl => match us, hl with | [_], _ => rfl) .nil (fun _ _ => .nil) O_p_is_word
  have O_L_joined := ok_L_joined (P := P) (w := w) (base := base) hX hG hc hy C_L_turned_0 C_L_after_0 C_L_undone_0 C_L_turn_0 C_L_base_0 F_L_joined
  have C_L_joined_0 := Callee.mkN (x := "_law_joined") (ne_clean _) (He.glo_ok hX hG (hc.fact 47)) F_L_joined.kp (F_L_joined.bindsN fun _ _ _ _ _ _ us hl => match us, hl with | [_, _], _ => rfl) .nil (fun _ _ => .nil) O_L_joined
  have O_L_loose := ok_L_loose (P := P) (w := w) (base := base) hX hG hc hy C_L_turn_0 C_L_mix_0 C_L_corners_0 F_L_loose
  have C_L_loose_0 := Callee.mkN (x := "_law_loose") (ne_clean _) (He.glo_ok hX hG (hc.fact 48)) F_L_loose.kp (F_L_loose.bindsN fun _ _ _ _ _ _ us hl => match us, hl with | [_, _], _ => rfl) .nil (fun _ _ => .nil) O_L_loose
  have O_L_faulty := ok_L_faulty (P := P) (w := w) (base := base) hX hG hc hy C_L_bad_part_0 C_L_bad_head_0 F_L_faulty
  have C_L_faulty_0 := Callee.mkN (x := "_law_faulty") (ne_clean _) (He.glo_ok hX hG (hc.fact 49)) F_L_faulty.kp (F_L_faulty.bindsN fun _ _ _ _ _ _ us hl => match us, hl with | [_, _], _ => rfl) .nil (fun _ _ => .nil) O_L_faulty
  have O_p_unmet_at := ok_p_unmet_at (P := P) (w := w) (base := base) hX hG hc hy C_p_touches_0 C_p_part_at_0 C_p_axis_between_0 C_p_first_state_0 F_p_unmet_at
  have C_p_unmet_at_0 := Callee.mkN (x := "unmet_at") (ne_clean _) (He.glo_ok hX hG (hc.fact 50)) F_p_unmet_at.kp (F_p_unmet_at.bindsN fun _ _ _ _ _ _ us hl => match us, hl with | [_, _], _ => rfl) .nil (fun _ _ => .nil) O_p_unmet_at
  have O_p_head_of := ok_p_head_of (P := P) (w := w) (base := base) hX hG hc hy C_p_is_word_0 X_TextError F_p_head_of
  have C_p_head_of_0 := CalleeX.mkN (x := "head_of")  (He.glo_ok hX hG (hc.fact 51)) F_p_head_of.kp (F_p_head_of.bindsN fun _ _ _ _ _ _ us hl => match us, hl with | [_], _ => rfl) .nil (fun _ _ => .nil) O_p_head_of
  have O_p_part_of := ok_p_part_of (P := P) (w := w) (base := base) hX hG hc hy C_p_Part_init_0 C_p_turn_of_0 C_p_corner_of_0 X_TextError F_p_part_of
  have C_p_part_of_0 := CalleeX.mkN (x := "part_of")  (He.glo_ok hX hG (hc.fact 52)) F_p_part_of.kp (F_p_part_of.bindsN fun _ _ _ _ _ _ us hl => match us, hl with | [_, _, _], _ => rfl) .nil (fun _ _ => .nil) O_p_part_of
  have O_p_meeting_of := ok_p_meeting_of (P := P) (w := w) (base := base) hX hG hc hy C_p_unmet_at_0 F_p_meeting_of
  have C_p_meeting_of_0 := Callee.mkN (x := "meeting_of") (ne_clean _) (He.glo_ok hX hG (hc.fact 53)) F_p_meeting_of.kp (F_p_meeting_of.bindsN fun _ _ _ _ _ _ us hl => match us, hl with | [_], _ => rfl) .nil (fun _ _ => .nil) O_p_meeting_of
  have O_p_curve_from := ok_p_curve_from (P := P) (w := w) (base := base) hX hG hc hy C_p_Curve_init_0 C_p_part_of_0 C_p_head_of_0 X_TextError F_p_curve_from
  have C_p_curve_from_0 := CalleeX.mkN (x := "curve_from")  (He.glo_ok hX hG (hc.fact 54)) F_p_curve_from.kp (F_p_curve_from.bindsN fun _ _ _ _ _ _ us hl => match us, hl with | [_], _ => rfl) .nil (fun _ _ => .nil) O_p_curve_from
  have O_p_fitted := ok_p_fitted (P := P) (w := w) (base := base) hX hG hc hy C_p_meeting_of_0 X_Unmet F_p_fitted
  have C_p_fitted_0 := CalleeX.mkN (x := "fitted")  (He.glo_ok hX hG (hc.fact 55)) F_p_fitted.kp (F_p_fitted.bindsN fun _ _ _ _ _ _ us hl => match us, hl with | [_], _ => rfl) .nil (fun _ _ => .nil) O_p_fitted
  have O_p_curve_of := ok_p_curve_of (P := P) (w := w) (base := base) hX hG hc hy C_p_fitted_0 C_p_curve_from_0 X_TextError F_p_curve_of
  have C_p_curve_of_0 := CalleeX.mkN (x := "curve_of")  (He.glo_ok hX hG (hc.fact 56)) F_p_curve_of.kp (F_p_curve_of.bindsN fun _ _ _ _ _ _ us hl => match us, hl with | [_], _ => rfl) .nil (fun _ _ => .nil) O_p_curve_of
  have O_L_caught := ok_L_caught (P := P) (w := w) (base := base) hX hG hc hy C_p_curve_of_0 C_p_curve_from_0 F_L_caught
  have C_L_caught_0 := Callee.mkN (x := "_law_caught") (ne_clean _) (He.glo_ok hX hG (hc.fact 57)) F_L_caught.kp (F_L_caught.bindsN fun _ _ _ _ _ _ us hl => match us, hl with | [_, _], _ => rfl) .nil (fun _ _ => .nil) O_L_caught
  exact ok_L_law hX hG hc hy C_p_curve_of_0 C_L_refused_0 C_L_caught_0 C_L_second_0 C_L_mix_0 C_L_faulty_0 C_L_rows_0 C_L_joined_0 C_L_loose_0 F_L_law
end
end Pf
theorem Pf.law_trueB (ns : List Int) (hl : ns.length ≤ 63) (hb : ∀ z ∈ ns, PySem.Builtin.Int.intBits z ≤ 1048576) : ∃ S', Pf.m_L_law [.frl (ns.map .int)] [] = .ok (.va (.bl true)) S' := Pf.law_true ns hl
open PySem PySem.W PySem.Calls PyProof.Rows
theorem PySem.Challenge.cw_curveyard_k09_texts_refused_holds : PySem.Challenge.rw_curveyard_k09_texts_refused.Holds :=
  Pf.top_ Pf.m_L_law (fun _ _ _ _ a b c d => Pf.all_ok a b c d) Pf.law_trueB
