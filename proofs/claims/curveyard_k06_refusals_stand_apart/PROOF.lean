import PyProof.Rows.All
import Wide.All
import OpenK.AllK
import Wide.FinOn
import HandS.ForMost
import HandS.Exc
import HandS.TryOnly
import HandS.ExcOwn
import HandS.WordsExc
import HandS.IsInst
import HandS.StrMore
import HandS.Flow
import HandS.Conv
import HandS.Wide
import HandS.WideBits
import HandS.TupMul
import HandS.TupAny
import HandS.Zip
import HandS.RevRange
import HandS.Dict
import KE.KeyNested
import PyProof.LongRange
import HandS.Defaults
import HandS.CallSlots
import HandS.Deep
import HandS.HeadHook1
import HandS.Rev
import HandS.SortInts
import HandS.SortRule
import KE.GoesMore
import KE.GoesZip
import KE.GoesEnum
import HandS.FStr
import HandS.Flt
import KE.DataMinMax
import HandS.RevTup
import HandS.EndBits
import HandS.HeadEnd
import HandS.Style
import HandS.ExcIs
import HandS.ExcField
import HandS.HeadHook2
import HandS.ExcInit
import HandS.ClsMeth
import HandS.ExcValue
import PyProof.P3Eq
import HandS.Head0
import HandS.Head1
import HandS.Head2
import PySem.Challenge.RW_curveyard_k06_refusals_stand_apart
section
set_option Elab.async false
set_option linter.all false
set_option maxRecDepth 100000
set_option maxHeartbeats 2000000
set_option autoImplicit false
namespace Cy
open PySem L2
inductive D where
  | non
  | bl (b : Bool)
  | int (i : Int)
  | str (x : Str)
  | tup (ds : List D)
  | frl (ds : List D)
  | obj (c : Nat) (ds : List D)
  | exn (c : Nat) (ds : List D)
  | ref (n : Nat)
inductive Ob where
  | lst (ds : List D)
  | dct (kvs : List (D × D))
  | ins (c : Nat) (ds : List D)
  | lck (kvs : List (D × D))
abbrev Sto := List Ob
abbrev Env := List (Option D)
/-- a class table: the class's address, its fields' names in order -/
structure Cfg where
  K : PySem.W.Frag
  cA : Nat → Addr
  fN : Nat → List Str
  P : Program
  w : World
/-- an exception's object, held fast: of this class, with this dict -/
abbrev exm : HO := .ext fun _ => True
structure ExObj (C : Addr) (d : Option Addr) (oe : Obj) : Prop where
  cls : oe.cls = .ref C
  dct : oe.dict = d
  fld : ∃ vs, oe.data = .fields vs
mutual
inductive Rep (G : Cfg) (r : List Addr) (H : Hp) : V → D → Prop
  | non : Rep G r H .non .non
  | bl (b : Bool) : Rep G r H (.bl b) (.bl b)
  | int (i : Int) : Rep G r H (.int i) (.int i)
  | str (x : Str) : Rep G r H (.str x) (.str x)
  | tup {a : Addr} {vs : List V} {ds : List D} (h : Rd H a (.tup vs)) (na : a ∉ r) (q : Reps G r H vs ds) : Rep G r H (.ref a) (.tup ds)
  | frl {a : Addr} {vs : List V} {ds : List D} (h : ((∃ o, H a = some (.frz o (.lst vs))) ∧ a ∉ r) ∨ ∀ H', SqL G.K H' a vs) (q : Reps G r H vs ds) : Rep G r H (.ref a) (.frl ds)
  | obj {a dx : Addr} {o : Obj} {c : Nat} {fs : List (Str × V)} {ds : List D} (h : H a = some (.frz o (.ins (G.cA c) dx fs))) (na : a ∉ r) (hf : fs.map (·.1) = (G.fN c).take ds.length) (q : Reps G r H (fs.map (·.2)) ds) : Rep G r H (.ref a) (.obj c ds)
  | exn0 {a : Addr} {oe : Obj} {c : Nat} (h : H a = some (.frz oe exm)) (na : a ∉ r) (x : ExObj (G.cA c) none oe) : Rep G r H (.ref a) (.exn c [])
  | exnF {a d : Addr} {oe : Obj} {c : Nat} {fs : List (Str × V)} {ds : List D} (h : H a = some (.frz oe exm)) (na : a ∉ r) (x : ExObj (G.cA c) (some d) oe) (hd : H d = some (.xd fs)) (nd : d ∉ r) (hf : fs.map (·.1) = (G.fN c).take ds.length) (q : Reps G r H (fs.map (·.2)) ds) : Rep G r H (.ref a) (.exn c ds)
  | ref {a : Addr} {n : Nat} (h : r[n]? = some a) : Rep G r H (.ref a) (.ref n)
inductive Reps (G : Cfg) (r : List Addr) (H : Hp) : List V → List D → Prop
  | nil : Reps G r H [] []
  | cons {v : V} {d : D} {vs : List V} {ds : List D} (h : Rep G r H v d) (t : Reps G r H vs ds) : Reps G r H (v :: vs) (d :: ds)
end
/-- later: more is tracked, what is not the store's own stands as it was -/
structure Exw (r : List Addr) (H : Hp) (r' : List Addr) (H' : Hp) : Prop where
  pre : ∃ l, r' = r ++ l
  keep : ∀ a o, H a = some o → a ∉ r → H' a = some o ∧ a ∉ r'
  there : ∀ a o, H a = some o → ∃ o', H' a = some o'
/-- .. and what is held fast stays so -/
structure Ext (r : List Addr) (H : Hp) (r' : List Addr) (H' : Hp) : Prop extends Exw r H r' H' where
  frz : ∀ a o u, H a = some (.frz o u) → H' a = some (.frz o u)
theorem Ext.trans {r r1 r2 : List Addr} {H H1 H2 : Hp} (a : Ext r H r1 H1) (b : Ext r1 H1 r2 H2) : Ext r H r2 H2 := by
  obtain ⟨l, hl⟩ := a.pre
  obtain ⟨m, hm⟩ := b.pre
  refine ⟨⟨⟨l ++ m, by rw [hm, hl, List.append_assoc]⟩, fun p o h n => ?_, fun p o h => ?_⟩, fun p o u h => b.frz p o u (a.frz p o u h)⟩
  · obtain ⟨h1, n1⟩ := a.keep p o h n
    exact b.keep p o h1 n1
  · obtain ⟨o1, h1⟩ := a.there p o h
    exact b.there p o1 h1
theorem Ext.back {r r1 : List Addr} {H H1 : Hp} (a : Ext r H r1 H1) {p : Addr} (h : H1 p = none) : H p = none := by
  cases e : H p with
  | none => rfl
  | some o =>
    obtain ⟨o', e'⟩ := a.there p o e
    rw [h] at e'
    cases e'
theorem Exw.at_ {r r1 : List Addr} {H H1 : Hp} (a : Exw r H r1 H1) {n : Nat} {p : Addr} (h : r[n]? = some p) : r1[n]? = some p := by
  obtain ⟨l, hl⟩ := a.pre
  rw [hl, List.getElem?_append_left (List.getElem?_eq_some_iff.mp h).1]
  exact h
theorem Ext.at_ {r r1 : List Addr} {H H1 : Hp} (a : Ext r H r1 H1) {n : Nat} {p : Addr} (h : r[n]? = some p) : r1[n]? = some p := a.toExw.at_ h
/-- not held fast -/
def Lse (u : HO) : Prop := ∀ o v, u ≠ .frz o v
theorem Lse.mut {u : HO} (h : Mut (some u)) : Lse u := fun o v e => by rw [e] at h; exact h
/-- a new object becomes the store's own -/
theorem Ext.own {r r1 : List Addr} {H H1 : Hp} {p : Addr} (a : Ext r H r1 H1) (h : H p = none) : Ext r H (r1 ++ [p]) H1 := by
  obtain ⟨l, hl⟩ := a.pre
  refine ⟨⟨⟨l ++ [p], by rw [hl, List.append_assoc]⟩, fun b u e n => ?_, a.there⟩, a.frz⟩
  obtain ⟨h1, n1⟩ := a.keep b u e n
  refine ⟨h1, fun z => ?_⟩
  rcases List.mem_append.mp z with z | z
  · exact n1 z
  · have : b = p := by simpa using z
    rw [this, h] at e
    cases e
theorem Rd.exw {r r1 : List Addr} {H H1 : Hp} {a : Addr} {u : HO} (e : Exw r H r1 H1) (h : Rd H a u) (n : a ∉ r) : Rd H1 a u ∧ a ∉ r1 := by
  rcases h with h | ⟨o, h⟩
  · exact ⟨.inl (e.keep a _ h n).1, (e.keep a _ h n).2⟩
  · exact ⟨.inr ⟨o, (e.keep a _ h n).1⟩, (e.keep a _ h n).2⟩
section
variable {G : Cfg} {r r1 : List Addr} {H H1 : Hp}
mutual
theorem Rep.exw (e : Exw r H r1 H1) : ∀ {v : V} {d : D}, Rep G r H v d → Rep G r1 H1 v d
  | _, _, .non => .non
  | _, _, .bl b => .bl b
  | _, _, .int i => .int i
  | _, _, .str x => .str x
  | _, _, .tup h na q => .tup (Rd.exw e h na).1 (Rd.exw e h na).2 (Reps.exw e q)
  | _, _, .frl h q => .frl (h.elim (fun ⟨⟨o, z⟩, n⟩ => .inl ⟨⟨o, (e.keep _ _ z n).1⟩, (e.keep _ _ z n).2⟩) .inr) (Reps.exw e q)
  | _, _, .obj h na hf q => .obj (e.keep _ _ h na).1 (e.keep _ _ h na).2 hf (Reps.exw e q)
  | _, _, .exn0 h na x => .exn0 (e.keep _ _ h na).1 (e.keep _ _ h na).2 x
  | _, _, .exnF h na x hd nd hf q => .exnF (e.keep _ _ h na).1 (e.keep _ _ h na).2 x (e.keep _ _ hd nd).1 (e.keep _ _ hd nd).2 hf (Reps.exw e q)
  | _, _, .ref h => .ref (e.at_ h)
theorem Reps.exw (e : Exw r H r1 H1) : ∀ {vs : List V} {ds : List D}, Reps G r H vs ds → Reps G r1 H1 vs ds
  | _, _, .nil => .nil
  | _, _, .cons h t => .cons (Rep.exw e h) (Reps.exw e t)
end
theorem Rd.ext {a : Addr} {u : HO} (e : Ext r H r1 H1) (h : Rd H a u) (n : a ∉ r) : Rd H1 a u ∧ a ∉ r1 := Rd.exw e.toExw h n
theorem Rep.ext (e : Ext r H r1 H1) {v : V} {d : D} (h : Rep G r H v d) : Rep G r1 H1 v d := Rep.exw e.toExw h
theorem Reps.ext (e : Ext r H r1 H1) {vs : List V} {ds : List D} (h : Reps G r H vs ds) : Reps G r1 H1 vs ds := Reps.exw e.toExw h
/-- not held fast, or a dict that is walked -/
def Gw : HO → Prop
  | .frz _ (.dK _) => True
  | u => Mut (some u)
mutual
/-- an object that is no tuple and not frozen becomes the store's own -/
theorem Rep.grow {p : Addr} {o : HO} (hp : H p = some o) (mu : Gw o) : ∀ {v : V} {d : D}, Rep G r H v d → Rep G (r ++ [p]) H v d
  | _, _, .non => .non
  | _, _, .bl b => .bl b
  | _, _, .int i => .int i
  | _, _, .str x => .str x
  | _, _, .tup (a := a) h na q => .tup h (fun z => by
      rcases List.mem_append.mp z with z | z
      · exact na z
      · have e : a = p := by simpa using z
        subst e
        rcases h with h | ⟨u, h⟩
        · rw [hp] at h; cases h; exact mu
        · rw [hp] at h; cases h; exact mu) (Reps.grow hp mu q)
  | _, _, .frl (a := a) h q => .frl (h.elim (fun ⟨h, na⟩ => by
      by_cases e : a = p
      · subst e
        obtain ⟨u, h⟩ := h
        rw [hp] at h; cases h; exact mu.elim
      · exact .inl ⟨h, fun z => (List.mem_append.mp z).elim na fun z => e (by simpa using z)⟩) .inr) (Reps.grow hp mu q)
  | _, _, .obj (a := a) h na hf q => .obj h (fun z => by
      rcases List.mem_append.mp z with z | z
      · exact na z
      · have e : a = p := by simpa using z
        subst e
        rw [hp] at h; cases h; exact mu) hf (Reps.grow hp mu q)
  | _, _, .exn0 (a := a) h na x => .exn0 h (fun z => by
      rcases List.mem_append.mp z with z | z
      · exact na z
      · have e : a = p := by simpa using z
        subst e
        rw [hp] at h; cases h; exact mu) x
  | _, _, .exnF (a := a) (d := d) h na x hd nd hf q => .exnF h (fun z => by
      rcases List.mem_append.mp z with z | z
      · exact na z
      · have e : a = p := by simpa using z
        subst e
        rw [hp] at h; cases h; exact mu) x hd (fun z => by
      rcases List.mem_append.mp z with z | z
      · exact nd z
      · have e : d = p := by simpa using z
        subst e
        rw [hp] at hd; cases hd; exact mu) hf (Reps.grow hp mu q)
  | _, _, .ref h => .ref (by rw [List.getElem?_append_left (List.getElem?_eq_some_iff.mp h).1]; exact h)
theorem Reps.grow {p : Addr} {o : HO} (hp : H p = some o) (mu : Gw o) : ∀ {vs : List V} {ds : List D}, Reps G r H vs ds → Reps G (r ++ [p]) H vs ds
  | _, _, .nil => .nil
  | _, _, .cons h t => .cons (Rep.grow hp mu h) (Reps.grow hp mu t)
end
theorem Reps.length : ∀ {vs : List V} {ds : List D}, Reps G r H vs ds → vs.length = ds.length
  | _, _, .nil => rfl
  | _, _, .cons _ t => by rw [List.length_cons, List.length_cons, Reps.length t]
theorem Reps.take {vs : List V} {ds : List D} (n : Nat) (a : Reps G r H vs ds) : Reps G r H (vs.take n) (ds.take n) := by
  induction vs generalizing ds n with
  | nil => cases a; simp; exact .nil
  | cons v vs ih =>
    cases a with
    | cons h t =>
      cases n with
      | zero => exact .nil
      | succ n => exact .cons h (ih n t)
theorem Reps.set {vs : List V} {ds : List D} {v : V} {d : D} (n : Nat) (a : Reps G r H vs ds) (b : Rep G r H v d) : Reps G r H (vs.set n v) (ds.set n d) := by
  induction vs generalizing ds n with
  | nil => cases a; exact .nil
  | cons w vs ih =>
    cases a with
    | cons h t =>
      cases n with
      | zero => exact .cons b t
      | succ n => exact .cons h (ih n t)
def keyD : Key → D
  | .inl i => .int i
  | .inr x => .str x
mutual
/-- a key, as it is told -/
def keyN : D → Option NestedKey
  | .non => some .none
  | .bl b => some (.num (if b = true then 1 else 0))
  | .int i => some (.num i)
  | .str x => some (.text x)
  | .tup ds => (keysN ds).map .tup
  | _ => none
def keysN : List D → Option (List NestedKey)
  | [] => some []
  | d :: r => (keyN d).bind fun k => (keysN r).map (k :: ·)
end
/-- a dict by tuples; its rows: the key, where the key stands, the value -/
def NestD (P : Program) (w : World) (a : Addr) (rows : List (NestedKey × Addr × V)) : HO := .ext fun h => rows.length ≤ sizeLine ∧ (a == sysModules) = false ∧
  ∃ xs : List (NestedKey × Addr × Value), Paired (fun (p : NestedKey × Addr × V) (q : NestedKey × Addr × Value) => p.1 = q.1 ∧ p.2.1 = q.2.1 ∧ RelV p.2.2 q.2.2) rows xs ∧
  ∃ o es ep, h.get? a = some o ∧ o.ExactDict ∧ o.data = .dict es ep ∧ es.toList = xs.map (entryOfKey (nestedKind P w)) ∧ (xs.map (·.1)).Nodup
def ObFlat (G : Cfg) (r : List Addr) (H : Hp) (a : Addr) (kvs : List (D × D)) : Prop := ∃ ws : List (Key × V), H a = some (.dK ws) ∧ kvs.map (·.1) = ws.map (fun w => keyD w.1) ∧ Reps G r H (ws.map (·.2)) (kvs.map (·.2)) ∧ (ws.map (·.1)).Nodup
def ObNest (G : Cfg) (r : List Addr) (H : Hp) (a : Addr) (kvs : List (D × D)) : Prop := kvs ≠ [] ∧ ∃ rows : List (NestedKey × Addr × V), H a = some (NestD G.P G.w a rows) ∧ kvs.map (fun kv => keyN kv.1) = rows.map (fun x => some x.1) ∧ (∀ x ∈ rows, x.1.depth ≤ 8) ∧
  Reps G r H (rows.map fun x => V.ref x.2.1) (kvs.map (·.1)) ∧ Reps G r H (rows.map (·.2.2)) (kvs.map (·.2)) ∧ (rows.map (·.1)).Nodup
def ObLck (G : Cfg) (r : List Addr) (H : Hp) (a : Addr) (kvs : List (D × D)) : Prop := ∃ (o : Obj) (ws : List (Key × V)), H a = some (.frz o (.dK ws)) ∧ kvs.map (·.1) = ws.map (fun w => keyD w.1) ∧ Reps G r H (ws.map (·.2)) (kvs.map (·.2)) ∧ (ws.map (·.1)).Nodup
def ObAt (G : Cfg) (r : List Addr) (H : Hp) (a : Addr) : Ob → Prop
  | .lst ds => ∃ vs, H a = some (.lst vs) ∧ Reps G r H vs ds
  | .dct kvs => ObFlat G r H a kvs ∨ ObNest G r H a kvs
  | .ins c ds => ∃ dx fs, H a = some (.ins (G.cA c) dx fs) ∧ fs.map (·.1) = (G.fN c).take ds.length ∧ Reps G r H (fs.map (·.2)) ds
  | .lck kvs => ObLck G r H a kvs
theorem ObAt.mut {a : Addr} {o : Ob} (h : ObAt G r H a o) : ∃ u, H a = some u ∧ Gw u := by
  cases o with
  | lst ds => obtain ⟨vs, h, _⟩ := h; exact ⟨_, h, trivial⟩
  | dct kvs =>
    rcases h with ⟨ws, h, _⟩ | ⟨_, rows, h, _⟩
    · exact ⟨_, h, trivial⟩
    · exact ⟨_, h, trivial⟩
  | ins c ds => obtain ⟨dx, fs, h, _⟩ := h; exact ⟨_, h, trivial⟩
  | lck kvs => obtain ⟨o, ws, h, _⟩ := h; exact ⟨_, h, trivial⟩
/-- the object itself stands -/
theorem ObAt.exw {a : Addr} {o : Ob} (e : Exw r H r1 H1) (k : H1 a = H a) (h : ObAt G r H a o) : ObAt G r1 H1 a o := by
  cases o with
  | lst ds => obtain ⟨vs, h, q⟩ := h; exact ⟨vs, k.trans h, q.exw e⟩
  | dct kvs =>
    rcases h with ⟨ws, h, q, p, n⟩ | ⟨z, rows, h, q, y, p, p2, n⟩
    · exact .inl ⟨ws, k.trans h, q, p.exw e, n⟩
    · exact .inr ⟨z, rows, k.trans h, q, y, p.exw e, p2.exw e, n⟩
  | ins c ds => obtain ⟨dx, fs, h, q, p⟩ := h; exact ⟨dx, fs, k.trans h, q, p.exw e⟩
  | lck kvs => obtain ⟨o, ws, h, q, p, n⟩ := h; exact ⟨o, ws, k.trans h, q, p.exw e, n⟩
theorem ObAt.ext {a : Addr} {o : Ob} (e : Ext r H r1 H1) (k : H1 a = H a) (h : ObAt G r H a o) : ObAt G r1 H1 a o := h.exw e.toExw k
theorem ObAt.grow {a p : Addr} {o : Ob} {u : HO} (hp : H p = some u) (mu : Gw u) (h : ObAt G r H a o) : ObAt G (r ++ [p]) H a o := by
  cases o with
  | lst ds => obtain ⟨vs, h, q⟩ := h; exact ⟨vs, h, q.grow hp mu⟩
  | dct kvs =>
    rcases h with ⟨ws, h, q, p, n⟩ | ⟨z, rows, h, q, y, p, p2, n⟩
    · exact .inl ⟨ws, h, q, p.grow hp mu, n⟩
    · exact .inr ⟨z, rows, h, q, y, p.grow hp mu, p2.grow hp mu, n⟩
  | ins c ds => obtain ⟨dx, fs, h, q, p⟩ := h; exact ⟨dx, fs, h, q, p.grow hp mu⟩
  | lck kvs => obtain ⟨o, ws, h, q, p, n⟩ := h; exact ⟨o, ws, h, q, p.grow hp mu, n⟩
structure Sim (G : Cfg) (r : List Addr) (H : Hp) (S : Sto) : Prop where
  len : r.length = S.length
  nd : r.Nodup
  at_ : ∀ (n : Nat) (a : Addr) (o : Ob), r[n]? = some a → S[n]? = some o → ObAt G r H a o
variable {S : Sto}
/-- new objects were laid, nothing else changed -/
theorem Sim.stays (s : Sim G r H S) (e : ∀ a o, H a = some o → H1 a = some o) (x : Ext r H r H1) : Sim G r H1 S := by
  refine ⟨s.len, s.nd, fun n a o h1 h2 => ?_⟩
  have h := s.at_ n a o h1 h2
  obtain ⟨u, hu, _⟩ := h.mut
  exact h.ext x ((e a u hu).trans hu.symm)
/-- a fresh object becomes the store's own -/
theorem Sim.own (s : Sim G r H S) {a : Addr} {o : Ob} (na : a ∉ r) (h : ObAt G r H a o) : Sim G (r ++ [a]) H (S ++ [o]) := by
  obtain ⟨u, hu, mu⟩ := h.mut
  refine ⟨by rw [List.length_append, List.length_append, s.len] <;> rfl, ?_, fun n b p h1 h2 => ?_⟩
  · rw [List.nodup_append]
    refine ⟨s.nd, by simp, fun x hx y hy => ?_⟩
    have e : y = a := by simpa using hy
    rw [e]
    exact fun z => na (by rw [← z]; exact hx)
  · by_cases hn : n < r.length
    · rw [List.getElem?_append_left hn] at h1
      rw [List.getElem?_append_left (by rw [← s.len]; exact hn)] at h2
      exact (s.at_ n b p h1 h2).grow hu mu
    · have hn' : n = r.length := by
        have := (List.getElem?_eq_some_iff.mp h1).1
        rw [List.length_append, List.length_singleton] at this
        omega
      subst hn'
      simp at h1
      rw [s.len] at h2
      simp at h2
      subst h1 h2
      exact h.grow hu mu
end
end Cy
set_option Elab.async false
set_option linter.all false
set_option maxRecDepth 100000
set_option maxHeartbeats 2000000
set_option autoImplicit false
namespace Cy
open PySem L2
inductive Rv where
  | va (d : D)
  | fr (o : Ob)
inductive Rs (α : Type) where
  | ok (a : α) (S : Sto)
  | err (c : Nat) (ds : List D) (S : Sto)
  | bad
def Rs.bind {α β : Type} (m : Rs α) (k : α → Sto → Rs β) : Rs β :=
  match m with
  | .ok a S => k a S
  | .err c ds S => .err c ds S
  | .bad => .bad
@[simp] theorem Rs.bind_ok {α β : Type} (a : α) (S : Sto) (k : α → Sto → Rs β) : (Rs.ok a S).bind k = k a S := rfl
@[simp] theorem Rs.bind_err {α β : Type} (c : Nat) (ds : List D) (S : Sto) (k : α → Sto → Rs β) : (Rs.err c ds S : Rs α).bind k = .err c ds S := rfl
@[simp] theorem Rs.bind_bad {α β : Type} (k : α → Sto → Rs β) : (Rs.bad : Rs α).bind k = .bad := rfl
abbrev EX := Env → Sto → Rs Rv
abbrev FI := List D → Sto → Rs Rv
/-- a result: a datum, or a fresh object that nobody else knows -/
def RepR (G : Cfg) (r : List Addr) (H0 H : Hp) (v : V) : Rv → Prop
  | .va d => Rep G r H v d
  | .fr o => ∃ a, v = .ref a ∧ H0 a = none ∧ a ∉ r ∧ ObAt G r H a o
inductive RepRs (G : Cfg) (r : List Addr) (H0 H : Hp) : List V → List Rv → Prop
  | nil : RepRs G r H0 H [] []
  | cons {v : V} {x : Rv} {vs : List V} {xs : List Rv} (h : RepR G r H0 H v x) (t : RepRs G r H0 H vs xs) : RepRs G r H0 H (v :: vs) (x :: xs)
section
variable {G : Cfg} {r r1 : List Addr} {H0 H H1 : Hp}
theorem RepR.ext {v : V} {x : Rv} (e : Ext r H r1 H1) (h : RepR G r H0 H v x) : RepR G r1 H0 H1 v x := by
  cases x with
  | va d => exact Rep.ext e h
  | fr o =>
    obtain ⟨a, h1, h2, h3, h4⟩ := h
    obtain ⟨u, hu, _⟩ := h4.mut
    obtain ⟨k1, k2⟩ := e.keep a u hu h3
    exact ⟨a, h1, h2, k2, h4.ext e (k1.trans hu.symm)⟩
theorem RepR.from {v : V} {x : Rv} {H00 : Hp} (b : ∀ p, H0 p = none → H00 p = none) (h : RepR G r H0 H v x) : RepR G r H00 H v x := by
  cases x with
  | va d => exact h
  | fr o =>
    obtain ⟨a, h1, h2, h3, h4⟩ := h
    exact ⟨a, h1, b a h2, h3, h4⟩
theorem RepRs.ext {vs : List V} {xs : List Rv} (e : Ext r H r1 H1) (h : RepRs G r H0 H vs xs) : RepRs G r1 H0 H1 vs xs := by
  induction h with
  | nil => exact .nil
  | cons h t ih => exact .cons (h.ext e) ih
theorem RepRs.from {vs : List V} {xs : List Rv} {H00 : Hp} (b : ∀ p, H0 p = none → H00 p = none) (h : RepRs G r H0 H vs xs) : RepRs G r H00 H vs xs := by
  induction h with
  | nil => exact .nil
  | cons h t ih => exact .cons (h.from b) ih
end
/-- the slots -/
structure EnvR (G : Cfg) (r : List Addr) (H : Hp) (σ : L2.St) (env : Env) : Prop where
  len : σ.length = env.length
  at_ : ∀ (i : Nat) (d : D), env[i]? = some (some d) → ∃ v, σ[i]? = some (some v) ∧ Rep G r H v d
section
variable {G : Cfg} {r r1 : List Addr} {H H1 : Hp} {σ : L2.St} {env : Env}
theorem EnvR.ext (e : Ext r H r1 H1) (h : EnvR G r H σ env) : EnvR G r1 H1 σ env := ⟨h.len, fun i d q => let ⟨v, a, b⟩ := h.at_ i d q; ⟨v, a, b.ext e⟩⟩
theorem EnvR.set {i : Nat} {v : V} {d : D} (h : EnvR G r H σ env) (q : Rep G r H v d) : EnvR G r H (σ.set i (some v)) (env.set i (some d)) := by
  refine ⟨by rw [List.length_set, List.length_set]; exact h.len, fun j x e => ?_⟩
  by_cases hj : j = i
  · subst hj
    by_cases hl : j < env.length
    · rw [List.getElem?_set_self hl] at e
      cases e
      exact ⟨v, List.getElem?_set_self (by rw [h.len]; exact hl), q⟩
    · rw [List.getElem?_eq_none (by rw [List.length_set]; omega)] at e
      cases e
  · rw [List.getElem?_set_ne (fun z => hj z.symm)] at e
    obtain ⟨w, a, b⟩ := h.at_ j x e
    exact ⟨w, by rw [List.getElem?_set_ne (fun z => hj z.symm)]; exact a, b⟩
end
/-- an exception as it flies -/
def ErrAt (G : Cfg) (r : List Addr) (H : Hp) (c : Nat) (ds : List D) (cls : Value) (oe : Option Addr) : Prop :=
  cls = .ref (G.cA c) ∧ ((oe = none ∧ ds = []) ∨ ∃ d fs, oe = some d ∧ H d = some (.xd fs) ∧ d ∉ r ∧ fs.map (·.1) = (G.fN c).take ds.length ∧ Reps G r H (fs.map (·.2)) ds)
/-- what is to be shown of all ends -/
def Post {α β : Type} (G : Cfg) (W : WX) (σ : L2.St) (r : List Addr) (H : Hp) (R : List Addr → Hp → β → α → Prop) (Q : β → Hp → Prop) : Rs α → Prop
  | .ok x S' => ∀ v r' H', Ext r H r' H' → Sim G r' H' S' → R r' H' v x → Q v H'
  | .err c ds S' => ∀ cls oe r' H', Ext r H r' H' → Sim G r' H' S' → ErrAt G r' H' c ds cls oe → W cls oe σ H'
  | .bad => False
abbrev RV (G : Cfg) (H : Hp) : List Addr → Hp → V → Rv → Prop := fun r' H' v x => RepR G r' H H' v x
section
variable {G : Cfg} {W : WX} {σ : L2.St} {r r1 : List Addr} {H H1 : Hp} {α β γ δ : Type}
theorem Post.shift {R R' : List Addr → Hp → β → α → Prop} {Q : β → Hp → Prop} {m : Rs α} (h : Post G W σ r H R Q m) (e : Ext r H r1 H1) (k : ∀ r' H' v x, R' r' H' v x → R r' H' v x) : Post G W σ r1 H1 R' Q m := by
  cases m with
  | ok x S => exact fun v r' H' x1 s q => h v r' H' (e.trans x1) s (k _ _ _ _ q)
  | err c ds S => exact fun cls oe r' H' x1 s q => h cls oe r' H' (e.trans x1) s q
  | bad => exact h
theorem Post.bind {R1 : List Addr → Hp → β → α → Prop} {R2 : List Addr → Hp → δ → γ → Prop} {Q1 : β → Hp → Prop} {Q2 : δ → Hp → Prop} {m : Rs α} {k : α → Sto → Rs γ} (h : Post G W σ r H R2 Q2 (m.bind k))
    (step : ∀ x S1 v r1 H1, Ext r H r1 H1 → Sim G r1 H1 S1 → R1 r1 H1 v x → Post G W σ r H R2 Q2 (k x S1) → Q1 v H1) : Post G W σ r H R1 Q1 m := by
  cases m with
  | ok x S => exact fun v r' H' e s q => step x S v r' H' e s q h
  | err c ds S => exact h
  | bad => exact h
end
def eC (d : D) : EX := fun _ S => .ok (.va d) S
/-- the value becomes the store's own -/
def own (x : Rv) (S : Sto) : D × Sto := match x with
  | .va d => (d, S)
  | .fr o => (.ref S.length, S ++ [o])
abbrev Prim := Sto → List Rv → Option (Rv × Sto)
/-- a primitive keeps to its rule -/
def PrimOk (G : Cfg) (rd : List V → Hp → VK → Prop) (f : Prim) : Prop :=
  ∀ (r : List Addr) (H0 H : Hp) (S S' : Sto) (xs : List Rv) (z : Rv) (vs : List V) (Q : VK), Sim G r H S → (∀ p, H p = none → H0 p = none) → RepRs G r H0 H vs xs → f S xs = some (z, S') →
    (∀ v r' H', Ext r H r' H' → Sim G r' H' S' → RepR G r' H0 H' v z → Q v H') → rd vs H Q
/-- such as change nothing of the store -/
def Pure1 (G : Cfg) (rd : List V → Hp → VK → Prop) (f : Sto → List Rv → Option Rv) : Prop :=
  ∀ (r : List Addr) (H0 H : Hp) (S : Sto) (xs : List Rv) (z : Rv) (vs : List V) (Q : VK), Sim G r H S → (∀ p, H p = none → H0 p = none) → RepRs G r H0 H vs xs → f S xs = some z →
    (∀ v H', Ext r H r H' → (∀ a o, H a = some o → H' a = some o) → RepR G r H0 H' v z → Q v H') → rd vs H Q
def lift (f : Sto → List Rv → Option Rv) : Prim := fun S xs => (f S xs).map fun z => (z, S)
theorem Pure1.ok {G : Cfg} {rd : List V → Hp → VK → Prop} {f : Sto → List Rv → Option Rv} (h : Pure1 G rd f) : PrimOk G rd (lift f) := by
  intro r H0 H S S' xs z vs Q s b q e k
  unfold lift at e
  cases e' : f S xs with
  | none => rw [e'] at e; cases e
  | some z' =>
    rw [e'] at e
    obtain ⟨rfl, rfl⟩ : z' = z ∧ S = S' := by simpa using e
    exact h r H0 H S xs z' vs Q s b q e' fun v H' x st q' => k v r H' x (s.stays st x) q'
end Cy
set_option Elab.async false
set_option linter.all false
set_option maxRecDepth 100000
set_option maxHeartbeats 2000000
set_option autoImplicit false
namespace Cy
open PySem L2
/-- how a statement ends -/
inductive SR where
  | nx (env : Env) (S : Sto)
  | brk (env : Env) (S : Sto)
  | ct (env : Env) (S : Sto)
  | ret (x : Rv) (S : Sto)
  | err (env : Env) (c : Nat) (ds : List D) (S : Sto)
  | bad
abbrev SM := Env → Sto → SR
def Rs.on {α : Type} (m : Rs α) (env : Env) (k : α → Sto → SR) : SR := match m with
  | .ok a S => k a S
  | .err c ds S => .err env c ds S
  | .bad => .bad
@[simp] theorem Rs.on_ok {α : Type} (a : α) (S : Sto) (env : Env) (k : α → Sto → SR) : (Rs.ok a S).on env k = k a S := rfl
@[simp] theorem Rs.on_err {α : Type} (c : Nat) (ds : List D) (S : Sto) (env : Env) (k : α → Sto → SR) : (Rs.err c ds S : Rs α).on env k = .err env c ds S := rfl
@[simp] theorem Rs.on_bad {α : Type} (env : Env) (k : α → Sto → SR) : (Rs.bad : Rs α).on env k = .bad := rfl
def SR.then (m : SR) (k : Env → Sto → SR) : SR := match m with
  | .nx env S => k env S
  | m => m
@[simp] theorem SR.then_nx (env : Env) (S : Sto) (k : Env → Sto → SR) : (SR.nx env S).then k = k env S := rfl
@[simp] theorem SR.then_brk (env : Env) (S : Sto) (k : Env → Sto → SR) : (SR.brk env S).then k = .brk env S := rfl
@[simp] theorem SR.then_ct (env : Env) (S : Sto) (k : Env → Sto → SR) : (SR.ct env S).then k = .ct env S := rfl
@[simp] theorem SR.then_ret (x : Rv) (S : Sto) (k : Env → Sto → SR) : (SR.ret x S).then k = .ret x S := rfl
@[simp] theorem SR.then_err (env : Env) (c : Nat) (ds : List D) (S : Sto) (k : Env → Sto → SR) : (SR.err env c ds S).then k = .err env c ds S := rfl
@[simp] theorem SR.then_bad (k : Env → Sto → SR) : SR.bad.then k = .bad := rfl
def PostS (G : Cfg) (W : WX) (D : Ends) (r : List Addr) (H : Hp) : SR → Prop
  | .nx env S' => ∀ σ' r' H', Ext r H r' H' → EnvR G r' H' σ' env → Sim G r' H' S' → D.nx σ' H'
  | .brk env S' => ∀ σ' r' H', Ext r H r' H' → EnvR G r' H' σ' env → Sim G r' H' S' → D.bk σ' H'
  | .ct env S' => ∀ σ' r' H', Ext r H r' H' → EnvR G r' H' σ' env → Sim G r' H' S' → D.ct σ' H'
  | .ret x S' => ∀ v r' H', Ext r H r' H' → Sim G r' H' S' → RepR G r' H H' v x → D.rt v H'
  | .err env c ds S' => ∀ cls oe σ' r' H', Ext r H r' H' → EnvR G r' H' σ' env → Sim G r' H' S' → ErrAt G r' H' c ds cls oe → W cls oe σ' H'
  | .bad => False
def TSI (G : Cfg) (W : WX) (m : SM) : TS := fun D σ H => ∃ r S env, EnvR G r H σ env ∧ Sim G r H S ∧ PostS G W D r H (m env S)
section
variable {G : Cfg} {W : WX} {D D' : Ends} {σ : L2.St} {r r1 : List Addr} {H H1 : Hp} {α β : Type}
theorem PostS.shift {m : SR} (h : PostS G W D r H m) (e : Ext r H r1 H1) : PostS G W D r1 H1 m := by
  cases m with
  | nx env S => exact fun σ' r' H' x => h σ' r' H' (e.trans x)
  | brk env S => exact fun σ' r' H' x => h σ' r' H' (e.trans x)
  | ct env S => exact fun σ' r' H' x => h σ' r' H' (e.trans x)
  | ret v S => exact fun v r' H' x s q => h v r' H' (e.trans x) s (q.from fun _ => e.back)
  | err env c ds S => exact fun cls oe σ' r' H' x => h cls oe σ' r' H' (e.trans x)
  | bad => exact h
/-- an expression's ends, then a statement's -/
theorem PostS.on {R1 : List Addr → Hp → β → α → Prop} {Q1 : β → Hp → Prop} {env : Env} {m : Rs α} {k : α → Sto → SR} (he : EnvR G r H σ env) (h : PostS G W D r H (m.on env k))
    (step : ∀ x S1 v r1 H1, Ext r H r1 H1 → Sim G r1 H1 S1 → R1 r1 H1 v x → PostS G W D r H (k x S1) → Q1 v H1) : Post G W σ r H R1 Q1 m := by
  cases m with
  | ok x S => exact fun v r' H' e s q => step x S v r' H' e s q h
  | err c ds S => exact fun cls oe r' H' e s q => h cls oe σ r' H' e (he.ext e) s q
  | bad => exact h
theorem PostS.then {m : SR} {k : Env → Sto → SR} (h : PostS G W D r H (m.then k)) : PostS G W { D with nx := fun σ' H' => TSI G W k D σ' H' } r H m := by
  cases m with
  | nx env S => exact fun σ' r' H' e q s => ⟨r', S, env, q, s, h.shift e⟩
  | brk env S => exact h
  | ct env S => exact h
  | ret v S => exact h
  | err env c ds S => exact h
  | bad => exact h
end
/-- what is assigned to: a name, or names in a row -/
inductive Tg where
  | name (i : Nat)
  | names (is : List Nat)
def setAll : List Nat → List D → Env → Env
  | i :: is, d :: ds, env => setAll is ds (env.set i (some d))
  | _, _, env => env
def Tg.bind : Tg → D → Env → Option Env
  | .name i, d, env => some (env.set i (some d))
  | .names is, .tup ds, env => if ds.length = is.length then some (setAll is ds env) else none
  | .names _, _, _ => none
inductive Src where
  | fix (ds : List D)
  | live (n : Nat) (len : Nat)
  | gen (g : Nat → Sto → Option (Option D)) (len : Nat)
def Src.len : Src → Nat
  | .fix ds => ds.length
  | .live _ l => l
  | .gen _ l => l
end Cy
set_option Elab.async false
set_option linter.all false
set_option maxRecDepth 100000
set_option maxHeartbeats 2000000
set_option autoImplicit false
set_option Elab.async false
set_option linter.all false
set_option maxRecDepth 100000
set_option maxHeartbeats 2000000
set_option autoImplicit false
namespace Cy
open PySem L2
section
variable {X : Cx} {cA : Nat → Addr} {fN : Nat → List Str} {W : WX} {pos : Pos}
variable {iter tg : Expr} {m : EX}
def postF (G : Cfg) (E : XK) (r : List Addr) (H : Hp) (Q : VK) (m : Rs Rv) : Prop := Post G (fun c o _ H => E c o H) [] r H (RV G H) Q m
def spI (G : Cfg) (n : Nat) (f : FI) : Sp := fun vs H Q E => vs.length = n ∧ ∃ r S ds, Sim G r H S ∧ Reps G r H vs ds ∧ postF G E r H Q (f ds S)
end
section
variable {X : Cx} {cA : Nat → Addr} {fN : Nat → List Str} {W : WX} {k : Nat} {f : Addr} {fd : FuncData} {ps : List Str} {fI : FI} {dvs : List V} {dds : List D} {ds : List Value} {x : Str} {p pos : Pos} {e : Expr} {es : List Expr} {ms : List EX} {m : EX}
/-- f lets nothing out -/
def NoErr (f : FI) : Prop := ∀ ds S c fs S', f ds S ≠ .err c fs S'
end
end Cy
set_option Elab.async false
set_option linter.all false
set_option maxRecDepth 100000
set_option maxHeartbeats 2000000
set_option autoImplicit false
namespace Cy
open PySem PySem.Spec PyProof.Rows L2 PySem.Builtin
end Cy
set_option Elab.async false
set_option linter.all false
set_option maxRecDepth 100000
set_option maxHeartbeats 2000000
set_option autoImplicit false
namespace Cy
open PySem L2
section
variable {G : Cfg} {r : List Addr} {H0 H : Hp} {S : Sto}
def pII (g : Int → Int → Option D) : Sto → List Rv → Option Rv := fun _ xs => match xs with
  | [.va (.int i), .va (.int j)] => (g i j).map .va
  | _ => none
@[simp] theorem pII_int (g : Int → Int → Option D) (S : Sto) (i j : Int) : pII g S [.va (.int i), .va (.int j)] = (g i j).map .va := rfl
end
end Cy
set_option Elab.async false
set_option linter.all false
set_option maxRecDepth 100000
set_option maxHeartbeats 2000000
set_option autoImplicit false
namespace Cy
open PySem L2
end Cy
set_option Elab.async false
set_option linter.all false
set_option maxRecDepth 100000
set_option maxHeartbeats 2000000
set_option autoImplicit false
namespace Cy
open PySem L2
end Cy
set_option Elab.async false
set_option linter.all false
set_option maxRecDepth 100000
set_option maxHeartbeats 2000000
set_option autoImplicit false
namespace Cy
open PySem L2 RZ
end Cy
set_option Elab.async false
set_option linter.all false
set_option maxRecDepth 100000
set_option maxHeartbeats 2000000
set_option autoImplicit false
namespace Cy
open PySem PySem.Spec PyProof.Rows L2 PySem.Builtin
end Cy
set_option Elab.async false
set_option linter.all false
set_option maxRecDepth 100000
set_option maxHeartbeats 2000000
set_option autoImplicit false
namespace Cy
open PySem L2
def nVal (rows : List (NestedKey × Addr × V)) (k : NestedKey) : Option V := (rows.find? fun x => decide (x.1 = k)).map (·.2.2)
abbrev NT : List (NestedKey × Addr × V) → List (NestedKey × Addr × Value) → Prop := Paired fun (p : NestedKey × Addr × V) (q : NestedKey × Addr × Value) => p.1 = q.1 ∧ p.2.1 = q.2.1 ∧ RelV p.2.2 q.2.2
theorem NT.val {rows : List (NestedKey × Addr × V)} {xs : List (NestedKey × Addr × Value)} (r : NT rows xs) (k : NestedKey) : RelO (nVal rows k) ((atKey xs k).map (·.2)) := by
  induction r with
  | nil => exact True.intro
  | @cons p q ps qs h t ih =>
    obtain ⟨h1, _, h2⟩ := h
    unfold nVal atKey at ih ⊢
    rw [List.find?_cons, List.find?_cons]
    by_cases e : p.1 = k
    · rw [decide_eq_true e, decide_eq_true (h1.symm.trans e)]; exact h2
    · rw [decide_eq_false e, decide_eq_false (fun z => e (h1.trans z))]; exact ih
end Cy
set_option Elab.async false
set_option linter.all false
set_option maxRecDepth 100000
set_option maxHeartbeats 2000000
set_option autoImplicit false
namespace Cy
open PySem L2
/-- a field of these classes: each with the field's place -/
structure FldOk (G : Cfg) (f : Str) (tbl : List (Nat × Nat)) : Prop where
  at_ : ∀ c j, tbl.lookup c = some j → Cls G.K (G.cA c) ∧ NoAttr G.K (G.cA c) f ∧ (G.fN c)[j]? = some f ∧ (G.fN c).Nodup
theorem FldOk.nil {G : Cfg} {f : Str} : FldOk G f [] := ⟨fun c j h => by cases h⟩
theorem FldOk.cons {G : Cfg} {f : Str} {tbl : List (Nat × Nat)} {c j : Nat} (hc : Cls G.K (G.cA c)) (hn : NoAttr G.K (G.cA c) f) (hf : (G.fN c)[j]? = some f) (hd : (G.fN c).Nodup) (t : FldOk G f tbl) : FldOk G f ((c, j) :: tbl) := ⟨fun c2 j2 h => by
  have h' : (match c2 == c with | true => some j | false => tbl.lookup c2) = some j2 := h
  cases e : c2 == c with
  | true =>
    rw [e] at h'
    have ec : c2 = c := by simpa using e
    cases h'
    subst ec
    exact ⟨hc, hn, hf, hd⟩
  | false =>
    rw [e] at h'
    exact t.at_ c2 j2 h'⟩
end Cy
set_option Elab.async false
set_option linter.all false
set_option maxRecDepth 100000
set_option maxHeartbeats 2000000
set_option autoImplicit false
namespace Cy
open PySem L2
end Cy
set_option Elab.async false
set_option linter.all false
set_option maxRecDepth 100000
set_option maxHeartbeats 4000000
set_option autoImplicit false
namespace Cy
open PySem PySem.Spec PyProof.Rows L2 PySem.Builtin
end Cy
set_option Elab.async false
set_option linter.all false
set_option maxRecDepth 100000
set_option maxHeartbeats 2000000
set_option autoImplicit false
namespace Cy
open PySem L2
end Cy
set_option Elab.async false
set_option linter.all false
set_option maxRecDepth 100000
set_option maxHeartbeats 2000000
set_option autoImplicit false
namespace Cy
open PySem L2 PySem PySem.W
end Cy
set_option Elab.async false
set_option linter.all false
set_option maxRecDepth 100000
set_option maxHeartbeats 2000000
set_option autoImplicit false
namespace Cy
open PySem L2
end Cy
set_option Elab.async false
set_option linter.all false
set_option maxRecDepth 100000
set_option maxHeartbeats 2000000
set_option autoImplicit false
namespace Cy
open PySem PySem.Spec PyProof.Rows L2 PySem.Builtin
end Cy
set_option Elab.async false
set_option linter.all false
set_option maxRecDepth 100000
set_option maxHeartbeats 2000000
set_option autoImplicit false
namespace Cy
open PySem
end Cy
set_option Elab.async false
set_option linter.all false
set_option maxRecDepth 100000
set_option maxHeartbeats 2000000
set_option autoImplicit false
namespace Cy
open PySem L2
end Cy
namespace Cy
open PySem L2
end Cy
set_option Elab.async false
set_option linter.all false
set_option maxRecDepth 100000
set_option maxHeartbeats 2000000
set_option autoImplicit false
namespace Cy
open PySem L2 RT
end Cy
namespace L2
open PySem PySem.Spec PyProof.Rows
end L2
namespace Cy
open PySem L2
end Cy
namespace Cy
open PySem L2
end Cy
namespace L2
open PySem PySem.Spec PyProof.Rows
end L2
set_option Elab.async false
set_option linter.all false
set_option maxRecDepth 100000
set_option maxHeartbeats 2000000
set_option autoImplicit false
namespace Cy
open PySem L2
/-- a method of a class, by its mirror -/
structure Methd (P : Program) (w : World) (K : PySem.W.Frag) (mg : Str → Option Value) (base : Heap) (cA : Nat → Addr) (fN : Nat → List Str) (k c : Nat) (m : Str) (n : Nat) (fI : FI) : Prop where
  ne : NoErr fI
  nf : m ∉ fN c
  got : ∃ (f : Addr) (fd : FuncData) (ps : List Str), ps.length = n ∧ Cls K (cA c) ∧ Meth K (cA c) m f ∧ Binds K fd ps [] ∧ FnOk P w K mg base CX0 k f fd ps (spI ⟨K, cA, fN, P, w⟩ n fI)
/-- the methods of that name, class by class -/
def MTbl (P : Program) (w : World) (K : PySem.W.Frag) (mg : Str → Option Value) (base : Heap) (cA : Nat → Addr) (fN : Nat → List Str) (k : Nat) (m : Str) (n : Nat) (tbl : List (Nat × FI)) : Prop := ∀ c f, tbl.lookup c = some f → Methd P w K mg base cA fN k c m n f
theorem MTbl.nil {P : Program} {w : World} {K : PySem.W.Frag} {mg : Str → Option Value} {base : Heap} {cA : Nat → Addr} {fN : Nat → List Str} {k : Nat} {m : Str} {n : Nat} : MTbl P w K mg base cA fN k m n [] := fun _ _ h => by cases h
theorem MTbl.cons {P : Program} {w : World} {K : PySem.W.Frag} {mg : Str → Option Value} {base : Heap} {cA : Nat → Addr} {fN : Nat → List Str} {k c : Nat} {m : Str} {n : Nat} {f : FI} {tbl : List (Nat × FI)} (h : Methd P w K mg base cA fN k c m n f) (t : MTbl P w K mg base cA fN k m n tbl) : MTbl P w K mg base cA fN k m n ((c, f) :: tbl) := fun c2 f2 e => by
  have e' : (match c2 == c with | true => some f | false => tbl.lookup c2) = some f2 := e
  cases hc : c2 == c with
  | true =>
    rw [hc] at e'
    have e1 : f = f2 := Option.some.inj e'
    have e2 : c2 = c := eq_of_beq hc
    subst e1 e2
    exact h
  | false => rw [hc] at e'; exact t c2 f2 e'
end Cy
set_option Elab.async false
set_option linter.all false
set_option maxRecDepth 100000
set_option maxHeartbeats 2000000
set_option autoImplicit false
namespace Cy
open PySem L2
end Cy
namespace Cy
open PySem L2
end Cy
set_option Elab.async false
set_option linter.all false
set_option maxRecDepth 100000
set_option maxHeartbeats 2000000
set_option autoImplicit false
namespace PySem.W
open PySem PySem.Spec PySem.Calls PyProof.Rows
end PySem.W
namespace Cy
open PySem L2
/-- what the classes tell: one class u, or these -/
structure IsTb (K : PySem.W.Frag) (cA : Nat → Addr) (ask : Value → Option Bool) (nb : Option Bool) (tb : List (Nat × Bool)) : Prop where
  non : ∀ b, nb = some b → ask (.type "NoneType") = some b
  exn : ∀ c b, tb.lookup c = some b → ask (.ref (cA c)) = some b ∧ ExcC K (cA c)
end Cy
namespace Cy
open PySem L2
inductive Cn where
  | own (x : Str)
  | ty (n : String)
def Cn.val (K : PySem.W.Frag) : Cn → Value
  | .own x => .ref (He.ga K x)
  | .ty n => .type n
inductive Fx where
  | isa (x : Str) (ys : List Cn) (b : Bool)
  | isn (ys : List Cn) (b : Bool)
  | is1 (x : Str) (y : Cn) (b : Bool)
  | in1 (y : Cn) (b : Bool)
  | exC (x : Str)
  | xf (x f : Str)
  | oex (x : Str)
  | sup (x : Str)
  | ini (x c : Str)
  | inC (x : Str)
  | same (x y m : Str)
  | clsF (x m : Str)
/-- an exception class over ValueError whose objects have a dict -/
def oexB (K : PySem.W.Frag) (C : Addr) : Bool := match K.lookup C with
  | some ⟨.type "type", _, .cls cd, sl⟩ => (match cd.mro, sl.toList with
    | .ref C' :: bm, [_, _, _, _, some (.builtin n), _] => C' == C && (n == "ValueError.__new__" && (!cd.hasDel && (cd.hasDict && PySem.HandSPX.refsVE bm)))
    | _, _ => false)
  | _ => false
def supB (K : PySem.W.Frag) (B : Addr) : Bool := match PySem.W.findCls K (.ref B) (.type "type") "__init__" with
  | some (.val (.builtin n)) => n == "ValueError.__init__"
  | _ => false
def clsB (K : PySem.W.Frag) (B : Addr) (m : Str) : Bool := match PySem.W.findCls K (.ref B) (.type "type") m with
  | some (.val (.ref a)) => a == He.ma K B m
  | _ => false
def Fx.ok (K : PySem.W.Frag) : Fx → Bool
  | .isa x ys b => decide (PySem.W.kitAny K (.ref (He.ga K x)) (ys.map (Cn.val K)) = some b)
  | .isn ys b => decide (PySem.W.kitAny K (.type "NoneType") (ys.map (Cn.val K)) = some b)
  | .is1 x y b => decide (PySem.W.kitOne K (.ref (He.ga K x)) (y.val K) = some b)
  | .in1 y b => decide (PySem.W.kitOne K (.type "NoneType") (y.val K) = some b)
  | .exC x => (He.eqO (PySem.W.findIn K (.ref (He.ga K x)) "__getattribute__") (some (some (.builtin "BaseException.__getattribute__"))) && (He.eqO (PySem.W.findIn K (.ref (He.ga K x)) "__getattr__") (some none) && (decide (PySem.W.subIn K (.ref (He.ga K x)) (.type "BaseException") = some true) && PySem.W.hasDictIn K (He.ga K x)))) &&
      (He.eqO (PySem.W.findIn K (.ref (He.ga K x)) "__class__") (some (some (.builtin "object.__class__"))) && (He.eqO (PySem.W.specialIn K (.builtin "object.__class__") "__get__") (some (some (.builtin "getset_descriptor.__get__"))) && (decide (PySem.W.takesIn K (.builtin "object.__class__") = some true) && decide (PySem.W.mroIn K (He.ga K x) (.type "object") = some true))))
  | .xf x f => xfB K (He.ga K x) && He.eqO (PySem.W.findIn K (.ref (He.ga K x)) f) (some none)
  | .oex x => oexB K (He.ga K x) && (He.eqO (PySem.W.findIn K (.ref (He.ga K x)) "__setattr__") (some (some (.builtin "object.__setattr__"))) && (decide (PySem.W.subIn K (.ref (He.ga K x)) (.type "BaseException") = some true) && (decide (PySem.W.typeIn K (.ref (He.ga K x)) = some (.type "type")) && PySem.W.keepIn K (.ref (He.ga K x)))))
  | .sup x => PySem.W.readsIn K (He.ga K x) (.type "type") && (He.eqO (PySem.W.specialIn K (.ref (He.ga K x)) "__getattribute__") (some (some (.builtin "type.__getattribute__"))) && supB K (He.ga K x))
  | .ini x c => He.eqO (PySem.W.findIn K (.ref (He.ga K x)) "__init__") (some (some (.ref (He.fAd K (c, some "__init__"))))) && decide (PySem.W.typeIn K (.ref (He.fAd K (c, some "__init__"))) = some (.type "function"))
  | .inC x => He.eqO (PySem.W.findIn K (.ref (He.ga K x)) "__class__") (some (some (.builtin "object.__class__"))) && (He.eqO (PySem.W.specialIn K (.builtin "object.__class__") "__get__") (some (some (.builtin "getset_descriptor.__get__"))) && (decide (PySem.W.takesIn K (.builtin "object.__class__") = some true) && decide (PySem.W.mroIn K (He.ga K x) (.type "object") = some true)))
  | .same x y m => decide (He.ma K (He.ga K x) m = He.ma K (He.ga K y) m)
  | .clsF x m => PySem.W.readsIn K (He.ga K x) (.type "type") && (He.eqO (PySem.W.specialIn K (.ref (He.ga K x)) "__getattribute__") (some (some (.builtin "type.__getattribute__"))) && (clsB K (He.ga K x) m && PySem.W.keepIn K (.ref (He.ma K (He.ga K x) m))))
def SaysX (fa : List He.Fa) (fn : List He.DefD) (fx : List Fx) (K : PySem.W.Frag) : Prop := He.SaysD fa fn K ∧ (fx.all fun f => f.ok K) = true
/-- what the names reach in n steps, and the interpreter's statics (reading a class's attribute looks there) -/
def asX (g : Addr → Option Obj) (n : Nat) : List Addr := He.asD g n ++ [cStatics]
def obsXG (n : Nat) (fa : List He.Fa) (fn : List He.DefD) (fx : List Fx) (g : Addr → Option Obj) : He.AlD × Bool := (He.obsD fa fn (He.frG g (asX g n)), fx.all fun f => f.ok (He.frG g (asX g n)))
def hookX (n : Nat) (fa : List He.Fa) (fn : List He.DefD) (fx : List Fx) : PySem.W.Hook where
  α := He.AlD × Bool
  obs := fun s => obsXG n fa fn fx s.heap.get?
  val := fun _ => (He.valD fn, true)
  says := fun _ h => ∃ K : PySem.W.Frag, K.In h ∧ SaysX fa fn fx K
  of := fun _ _ e => ⟨_, He.frG_in, congrArg Prod.fst e, congrArg Prod.snd e⟩
  keeps := fun _ _ _ ⟨K, hK, c⟩ k => ⟨K, PySem.W.Frag.In.keeps hK k, c⟩
section
variable {K : PySem.W.Frag} {cA : Nat → Addr} {ask : Value → Option Bool} {nb : Option Bool} {tb : List (Nat × Bool)}
theorem IsTb.nil (h : ∀ b, nb = some b → ask (.type "NoneType") = some b) : IsTb K cA ask nb [] := ⟨h, fun c b e => by cases e⟩
theorem IsTb.cons {c : Nat} {b : Bool} {C : Addr} (e : cA c = C) (h1 : ask (.ref C) = some b) (h2 : ExcC K C) (T : IsTb K cA ask nb tb) : IsTb K cA ask nb ((c, b) :: tb) := ⟨T.non, fun c' b' q => by
  rw [List.lookup_cons] at q
  by_cases z : c' = c
  · subst z
    rw [beq_self_eq_true] at q
    cases q
    rw [e]; exact ⟨h1, h2⟩
  · rw [show (c' == c) = false from by simp [z]] at q
    exact T.exn c' b' q⟩
end
end Cy
set_option Elab.async false
set_option linter.all false
set_option maxRecDepth 100000
set_option maxHeartbeats 2000000
set_option autoImplicit false
namespace L2
open PySem PySem.Spec PyProof.Rows
end L2
namespace L2
open PySem PySem.Spec PyProof.Rows
end L2
namespace Cy
open PySem L2
end Cy
namespace L2
open PySem PySem.Spec PyProof.Rows
end L2
namespace Cy
open PySem L2
structure FldX (G : Cfg) (f : Str) (tbl : List (Nat × Nat)) : Prop where
  ok : ∀ c j, tbl.lookup c = some j → XfC G.K (G.cA c) ∧ PySem.W.findIn G.K (.ref (G.cA c)) f = some none ∧ (G.fN c)[j]? = some f ∧ (G.fN c).Nodup
theorem FldX.nil {G : Cfg} {f : Str} : FldX G f [] := ⟨fun c j h => by cases h⟩
theorem FldX.cons {G : Cfg} {f : Str} {tbl : List (Nat × Nat)} {c j : Nat} {C : Addr} (eC : G.cA c = C) (h1 : XfC G.K C) (h2 : PySem.W.findIn G.K (.ref C) f = some none) (h3 : (G.fN c)[j]? = some f) (h4 : (G.fN c).Nodup) (t : FldX G f tbl) : FldX G f ((c, j) :: tbl) := ⟨fun c2 j2 h => by
  rw [List.lookup_cons] at h
  by_cases z : c2 = c
  · subst z
    rw [beq_self_eq_true] at h
    cases h
    rw [eC]; exact ⟨h1, h2, h3, h4⟩
  · rw [show (c2 == c) = false from by simp [z]] at h
    exact t.ok c2 j2 h⟩
end Cy
namespace Cy
open PySem L2
end Cy
set_option Elab.async false
set_option linter.all false
set_option maxRecDepth 100000
set_option maxHeartbeats 2000000
set_option autoImplicit false
namespace L2
open PySem PySem.Spec PyProof.Rows
end L2
namespace Cy
open PySem L2
end Cy
set_option Elab.async false
set_option linter.all false
set_option maxRecDepth 100000
set_option maxHeartbeats 2000000
set_option autoImplicit false
namespace Cy
open PySem L2
end Cy
set_option Elab.async false
set_option linter.all false
set_option maxRecDepth 100000
set_option maxHeartbeats 2000000
set_option autoImplicit false
namespace Cy
open PySem L2
end Cy
set_option Elab.async false
set_option linter.all false
set_option maxRecDepth 100000
set_option maxHeartbeats 2000000
set_option autoImplicit false
namespace Cy
open PySem L2
end Cy
set_option Elab.async false
set_option linter.all false
set_option maxRecDepth 100000
set_option maxHeartbeats 2000000
set_option autoImplicit false
namespace Cy
open PySem L2
end Cy
set_option Elab.async false
set_option linter.all false
set_option maxRecDepth 100000
set_option maxHeartbeats 2000000
set_option autoImplicit false
namespace Cy
open PySem L2
end Cy
namespace Cy
open PySem L2
end Cy
namespace Cy
open PySem L2
end Cy
set_option Elab.async false
set_option linter.all false
set_option maxRecDepth 100000
set_option maxHeartbeats 2000000
set_option autoImplicit false
namespace Cy
open PySem L2
end Cy
namespace Cy
open PySem L2
end Cy
set_option Elab.async false
set_option linter.all false
set_option maxRecDepth 100000
set_option maxHeartbeats 2000000
set_option autoImplicit false
namespace Cy
open PySem L2
end Cy
set_option Elab.async false
set_option linter.all false
set_option maxRecDepth 100000
set_option maxHeartbeats 2000000
set_option autoImplicit false
namespace Cy
open PySem L2
end Cy
set_option Elab.async false
set_option linter.all false
set_option maxRecDepth 100000
set_option maxHeartbeats 2000000
set_option autoImplicit false
namespace Cy
open PySem L2
end Cy
set_option Elab.async false
set_option linter.all false
set_option maxRecDepth 100000
set_option maxHeartbeats 2000000
set_option autoImplicit false
namespace Cy
open PySem L2
end Cy
set_option Elab.async false
set_option linter.all false
set_option maxRecDepth 100000
set_option maxHeartbeats 2000000
set_option autoImplicit false
namespace Cy
open PySem L2
end Cy
set_option Elab.async false
set_option linter.all false
set_option maxRecDepth 100000
set_option maxHeartbeats 2000000
set_option autoImplicit false
namespace Cy
open PySem L2
end Cy
set_option Elab.async false
set_option linter.all false
set_option maxRecDepth 100000
set_option maxHeartbeats 2000000
set_option autoImplicit false
namespace Cy
open PySem L2
end Cy
set_option Elab.async false
set_option linter.all false
set_option maxRecDepth 100000
set_option maxHeartbeats 2000000
set_option autoImplicit false
namespace Cy
open PySem L2
end Cy
namespace Cy
open PySem L2
end Cy
set_option Elab.async false
set_option linter.all false
set_option maxRecDepth 100000
set_option maxHeartbeats 2000000
set_option autoImplicit false
namespace Cy
open PySem L2
end Cy
set_option Elab.async false
set_option linter.all false
set_option maxRecDepth 100000
set_option autoImplicit false
set_option Elab.async false
set_option linter.all false
set_option maxRecDepth 100000
set_option maxHeartbeats 4000000
set_option autoImplicit false
set_option Elab.async false
set_option linter.all false
set_option maxRecDepth 100000
set_option maxHeartbeats 2000000
set_option autoImplicit false
set_option Elab.async false
set_option linter.all false
set_option maxRecDepth 100000
set_option maxHeartbeats 0
set_option autoImplicit false
namespace Pf
open PySem PySem.Spec PyProof.Rows L2 Cy
def topS (i : Nat) : Stmt := PySem.Challenge.pw_curveyard_k06_refusals_stand_apart.main.body.getD i (.Pass ⟨0, 0, 0, 0⟩)
def clsS (i j : Nat) : Stmt := match topS i with | .ClassDef _ _ _ b _ _ _ _ _ _ _ => b.getD j (.Pass ⟨0, 0, 0, 0⟩) | s => s
abbrev s_L_cell_at : Stmt := topS 13
abbrev s_L_whole : Stmt := topS 14
abbrev s_L_kinds : Stmt := topS 15
abbrev s_L_plain_kinds : Stmt := topS 16
abbrev s_L_numbered : Stmt := topS 17
abbrev s_L_law : Stmt := topS 18
abbrev s_p_TextError_init : Stmt := clsS 9 0
abbrev s_p_Unmet_init : Stmt := clsS 8 0
abbrev fn : List He.DefD := [⟨("_law_cell_at", none), "_law_cell_at", "_law_cell_at", defArgs s_L_cell_at, defBody s_L_cell_at, defScope s_L_cell_at, [], []⟩,
  ⟨("_law_whole", none), "_law_whole", "_law_whole", defArgs s_L_whole, defBody s_L_whole, defScope s_L_whole, [], []⟩,
  ⟨("_law_kinds", none), "_law_kinds", "_law_kinds", defArgs s_L_kinds, defBody s_L_kinds, defScope s_L_kinds, [], []⟩,
  ⟨("_law_plain_kinds", none), "_law_plain_kinds", "_law_plain_kinds", defArgs s_L_plain_kinds, defBody s_L_plain_kinds, defScope s_L_plain_kinds, [], []⟩,
  ⟨("_law_numbered", none), "_law_numbered", "_law_numbered", defArgs s_L_numbered, defBody s_L_numbered, defScope s_L_numbered, [], []⟩,
  ⟨("law", none), "law", "law", defArgs s_L_law, defBody s_L_law, defScope s_L_law, [], []⟩,
  ⟨("TextError", some "__init__"), "__init__", "TextError.__init__", defArgs s_p_TextError_init, defBody s_p_TextError_init, defScope s_p_TextError_init, [], []⟩,
  ⟨("Unmet", some "__init__"), "__init__", "Unmet.__init__", defArgs s_p_Unmet_init, defBody s_p_Unmet_init, defScope s_p_Unmet_init, [], []⟩]
abbrev fa : List He.Fa := [.free "len", .free "isinstance", .free "int", .free "bool", .free "ValueError", .glo "YardError", .glo "TextError", .glo "CornerTwice", .glo "BadRow", .glo "Unmet", .glo "NoEntry", .glo "NoThing", .glo "Twice", .glo "BadBox", .glo "TooWide", .glo "OffFloor", .exc "YardError", .free "enumerate", .free "range", .exc "NoEntry", .exc "NoThing", .exc "Twice", .exc "BadBox", .exc "TooWide", .exc "OffFloor", .free "all", .glo "_law_cell_at", .glo "_law_whole", .glo "_law_kinds", .glo "_law_plain_kinds", .glo "_law_numbered", .glo "law"]
abbrev fx : List Fx := [.is1 "CornerTwice" (.ty "ValueError") true, .exC "CornerTwice", .is1 "BadRow" (.ty "ValueError") true, .exC "BadRow", .is1 "TextError" (.ty "ValueError") true, .exC "TextError", .is1 "Unmet" (.ty "ValueError") true, .exC "Unmet", .is1 "YardError" (.ty "ValueError") true, .exC "YardError", .is1 "NoEntry" (.ty "ValueError") true, .exC "NoEntry", .is1 "NoThing" (.ty "ValueError") true, .exC "NoThing", .is1 "Twice" (.ty "ValueError") true, .exC "Twice", .is1 "BadBox" (.ty "ValueError") true, .exC "BadBox", .is1 "TooWide" (.ty "ValueError") true, .exC "TooWide", .is1 "OffFloor" (.ty "ValueError") true, .exC "OffFloor", .is1 "CornerTwice" (.own "YardError") true, .is1 "BadRow" (.own "YardError") true, .is1 "TextError" (.own "YardError") true, .is1 "Unmet" (.own "YardError") true, .is1 "YardError" (.own "YardError") true, .is1 "NoEntry" (.own "YardError") true, .is1 "NoThing" (.own "YardError") true, .is1 "Twice" (.own "YardError") true, .is1 "BadBox" (.own "YardError") true, .is1 "TooWide" (.own "YardError") true, .is1 "OffFloor" (.own "YardError") true, .is1 "CornerTwice" (.own "TextError") true, .is1 "BadRow" (.own "TextError") true, .is1 "TextError" (.own "TextError") true, .is1 "Unmet" (.own "TextError") false, .is1 "YardError" (.own "TextError") false, .is1 "NoEntry" (.own "TextError") false, .is1 "NoThing" (.own "TextError") false, .is1 "Twice" (.own "TextError") false, .is1 "BadBox" (.own "TextError") false, .is1 "TooWide" (.own "TextError") false, .is1 "OffFloor" (.own "TextError") false, .is1 "CornerTwice" (.own "CornerTwice") true, .is1 "BadRow" (.own "CornerTwice") false, .is1 "TextError" (.own "CornerTwice") false, .is1 "Unmet" (.own "CornerTwice") false, .is1 "YardError" (.own "CornerTwice") false, .is1 "NoEntry" (.own "CornerTwice") false, .is1 "NoThing" (.own "CornerTwice") false, .is1 "Twice" (.own "CornerTwice") false, .is1 "BadBox" (.own "CornerTwice") false, .is1 "TooWide" (.own "CornerTwice") false, .is1 "OffFloor" (.own "CornerTwice") false, .is1 "CornerTwice" (.own "BadRow") false, .is1 "BadRow" (.own "BadRow") true, .is1 "TextError" (.own "BadRow") false, .is1 "Unmet" (.own "BadRow") false, .is1 "YardError" (.own "BadRow") false, .is1 "NoEntry" (.own "BadRow") false, .is1 "NoThing" (.own "BadRow") false, .is1 "Twice" (.own "BadRow") false, .is1 "BadBox" (.own "BadRow") false, .is1 "TooWide" (.own "BadRow") false, .is1 "OffFloor" (.own "BadRow") false, .is1 "CornerTwice" (.own "Unmet") false, .is1 "BadRow" (.own "Unmet") false, .is1 "TextError" (.own "Unmet") false, .is1 "Unmet" (.own "Unmet") true, .is1 "YardError" (.own "Unmet") false, .is1 "NoEntry" (.own "Unmet") false, .is1 "NoThing" (.own "Unmet") false, .is1 "Twice" (.own "Unmet") false, .is1 "BadBox" (.own "Unmet") false, .is1 "TooWide" (.own "Unmet") false, .is1 "OffFloor" (.own "Unmet") false, .is1 "CornerTwice" (.own "NoEntry") false, .is1 "BadRow" (.own "NoEntry") false, .is1 "TextError" (.own "NoEntry") false, .is1 "Unmet" (.own "NoEntry") false, .is1 "YardError" (.own "NoEntry") false, .is1 "NoEntry" (.own "NoEntry") true, .is1 "NoThing" (.own "NoEntry") false, .is1 "Twice" (.own "NoEntry") false, .is1 "BadBox" (.own "NoEntry") false, .is1 "TooWide" (.own "NoEntry") false, .is1 "OffFloor" (.own "NoEntry") false, .is1 "CornerTwice" (.own "NoThing") false, .is1 "BadRow" (.own "NoThing") false, .is1 "TextError" (.own "NoThing") false, .is1 "Unmet" (.own "NoThing") false, .is1 "YardError" (.own "NoThing") false, .is1 "NoEntry" (.own "NoThing") false, .is1 "NoThing" (.own "NoThing") true, .is1 "Twice" (.own "NoThing") false, .is1 "BadBox" (.own "NoThing") false, .is1 "TooWide" (.own "NoThing") false, .is1 "OffFloor" (.own "NoThing") false, .is1 "CornerTwice" (.own "Twice") false, .is1 "BadRow" (.own "Twice") false, .is1 "TextError" (.own "Twice") false, .is1 "Unmet" (.own "Twice") false, .is1 "YardError" (.own "Twice") false, .is1 "NoEntry" (.own "Twice") false, .is1 "NoThing" (.own "Twice") false, .is1 "Twice" (.own "Twice") true, .is1 "BadBox" (.own "Twice") false, .is1 "TooWide" (.own "Twice") false, .is1 "OffFloor" (.own "Twice") false, .is1 "CornerTwice" (.own "BadBox") false, .is1 "BadRow" (.own "BadBox") false, .is1 "TextError" (.own "BadBox") false, .is1 "Unmet" (.own "BadBox") false, .is1 "YardError" (.own "BadBox") false, .is1 "NoEntry" (.own "BadBox") false, .is1 "NoThing" (.own "BadBox") false, .is1 "Twice" (.own "BadBox") false, .is1 "BadBox" (.own "BadBox") true, .is1 "TooWide" (.own "BadBox") false, .is1 "OffFloor" (.own "BadBox") false, .is1 "CornerTwice" (.own "TooWide") false, .is1 "BadRow" (.own "TooWide") false, .is1 "TextError" (.own "TooWide") false, .is1 "Unmet" (.own "TooWide") false, .is1 "YardError" (.own "TooWide") false, .is1 "NoEntry" (.own "TooWide") false, .is1 "NoThing" (.own "TooWide") false, .is1 "Twice" (.own "TooWide") false, .is1 "BadBox" (.own "TooWide") false, .is1 "TooWide" (.own "TooWide") true, .is1 "OffFloor" (.own "TooWide") false, .is1 "CornerTwice" (.own "OffFloor") false, .is1 "BadRow" (.own "OffFloor") false, .is1 "TextError" (.own "OffFloor") false, .is1 "Unmet" (.own "OffFloor") false, .is1 "YardError" (.own "OffFloor") false, .is1 "NoEntry" (.own "OffFloor") false, .is1 "NoThing" (.own "OffFloor") false, .is1 "Twice" (.own "OffFloor") false, .is1 "BadBox" (.own "OffFloor") false, .is1 "TooWide" (.own "OffFloor") false, .is1 "OffFloor" (.own "OffFloor") true, .xf "TextError" "row", .oex "TextError", .ini "TextError" "TextError", .xf "CornerTwice" "row", .oex "CornerTwice", .ini "CornerTwice" "TextError", .xf "BadRow" "row", .oex "BadRow", .ini "BadRow" "TextError", .xf "Unmet" "level", .xf "Unmet" "second", .xf "Unmet" "first", .oex "Unmet", .ini "Unmet" "Unmet", .sup "YardError"]
def cA (K : PySem.W.Frag) : Nat → Addr
  | 0 => He.ga K "YardError"
  | 1 => He.ga K "OffFloor"
  | 2 => He.ga K "TooWide"
  | 3 => He.ga K "BadBox"
  | 4 => He.ga K "Twice"
  | 5 => He.ga K "NoThing"
  | 6 => He.ga K "NoEntry"
  | 7 => He.ga K "Unmet"
  | 8 => He.ga K "TextError"
  | 9 => He.ga K "BadRow"
  | 10 => He.ga K "CornerTwice"
  | _ => 0
def fN : Nat → List Str
  | 0 => []
  | 1 => []
  | 2 => []
  | 3 => []
  | 4 => []
  | 5 => []
  | 6 => []
  | 7 => ["level", "second", "first"]
  | 8 => ["row"]
  | 9 => ["row"]
  | 10 => ["row"]
  | _ => []
def loose0 : List PySem.Str := ["YardError", "OffFloor", "TooWide", "BadBox", "Twice", "NoThing", "NoEntry", "Unmet", "TextError", "BadRow", "CornerTwice", "_law_cell_at", "_law_whole", "_law_kinds", "_law_plain_kinds", "_law_numbered"]
abbrev looseN : List PySem.Str := loose0
abbrev R : PySem.W.OpenRow := PySem.W.OpenLaw.row PySem.Challenge.rw_curveyard_k06_refusals_stand_apart
abbrev hk : PySem.W.Hook := Cy.hookX 4 fa fn fx
def ob (s : PySem.W.SharedT) : He.AlD × Bool := Cy.obsXG 4 fa fn fx (HandSHeadRun.getT s)
theorem run (w : World) : HandSHeadRun.RunEq R (PySem.W.view R.prog [18]) hk ob 10140 looseN w := by
  intro os
  kernel_rfl
end Pf
open PySem PySem.W PySem.Calls PyProof.Rows
end
set_option Elab.async false
set_option linter.all false
set_option maxRecDepth 100000
set_option maxHeartbeats 2000000
set_option autoImplicit false
namespace Cy
open PySem L2
mutual
def D.und (n : Nat) : D → Bool
  | .tup ds => D.unds n ds
  | .frl ds => D.unds n ds
  | .obj _ ds => D.unds n ds
  | .exn _ ds => D.unds n ds
  | .ref m => decide (m < n)
  | _ => true
def D.unds (n : Nat) : List D → Bool
  | [] => true
  | d :: r => D.und n d && D.unds n r
end
def Ob.und (n : Nat) : Ob → Bool
  | .lst ds => D.unds n ds
  | .dct kvs => D.unds n (kvs.map (·.2))
  | .ins _ ds => D.unds n ds
  | .lck kvs => D.unds n (kvs.map (·.2))
theorem Ext.refl (r : List Addr) (H : Hp) : Ext r H r H := ⟨⟨⟨[], by simp⟩, fun _ _ h n => ⟨h, n⟩, fun _ o h => ⟨o, h⟩⟩, fun _ _ _ h => h⟩
/-- only new objects -/
theorem Ext.new {r : List Addr} {H : Hp} {p : Addr} {o : HO} (h : H p = none) : Ext r H r (upd H p o) := by
  refine ⟨⟨⟨[], by simp⟩, fun a u e n => ⟨?_, n⟩, fun a u e => ⟨u, ?_⟩⟩, fun a o' u e => ?_⟩
  · rw [upd_ne (ne_of_none e h)]; exact e
  · rw [upd_ne (ne_of_none e h)]; exact e
  · rw [upd_ne (ne_of_none e h)]; exact e
/-- an object of the store is written -/
theorem Exw.wr {r : List Addr} {H : Hp} {p : Addr} {o : HO} (h : p ∈ r) : Exw r H r (upd H p o) := by
  refine ⟨⟨[], by simp⟩, fun a u e n => ⟨?_, n⟩, fun a u e => ?_⟩
  · rw [upd_ne (fun z => n (by rw [z]; exact h))]; exact e
  · by_cases z : a = p
    · rw [z]; exact ⟨o, upd_same⟩
    · rw [upd_ne z]; exact ⟨u, e⟩
section
variable {G : Cfg} {r r1 : List Addr} {H H1 : Hp}
theorem eq_of_pre {r l : List Addr} {n : Nat} {a : Addr} (h : (r ++ l)[n]? = some a) (hn : n < r.length) : r[n]? = some a := by
  rw [List.getElem?_append_left hn] at h
  exact h
mutual
/-- what speaks of the old part of the store alone -/
theorem Rep.cut {l : List Addr} : ∀ {v : V} {d : D}, Rep G (r ++ l) H v d → d.und r.length = true → Rep G r H v d
  | _, _, .non, _ => .non
  | _, _, .bl b, _ => .bl b
  | _, _, .int i, _ => .int i
  | _, _, .str x, _ => .str x
  | _, _, .tup h na q, u => .tup h (fun z => na (List.mem_append_left _ z)) (Reps.cut q (by simpa [D.und] using u))
  | _, _, .frl h q, u => .frl (h.elim (fun ⟨h, na⟩ => .inl ⟨h, fun z => na (List.mem_append_left _ z)⟩) .inr) (Reps.cut q (by simpa [D.und] using u))
  | _, _, .obj h na hf q, u => .obj h (fun z => na (List.mem_append_left _ z)) hf (Reps.cut q (by simpa [D.und] using u))
  | _, _, .exn0 h na x, _ => .exn0 h (fun z => na (List.mem_append_left _ z)) x
  | _, _, .exnF h na x hd nd hf q, u => .exnF h (fun z => na (List.mem_append_left _ z)) x hd (fun z => nd (List.mem_append_left _ z)) hf (Reps.cut q (by simpa [D.und] using u))
  | _, _, .ref h, u => .ref (eq_of_pre h (by simpa [D.und] using u))
theorem Reps.cut {l : List Addr} : ∀ {vs : List V} {ds : List D}, Reps G (r ++ l) H vs ds → D.unds r.length ds = true → Reps G r H vs ds
  | _, _, .nil, _ => .nil
  | _, _, .cons h t, u => by
    have u' := Bool.and_eq_true_iff.mp (by simpa only [D.unds] using u)
    exact .cons (Rep.cut h u'.1) (Reps.cut t u'.2)
end
mutual
theorem Rep.und : ∀ {v : V} {d : D}, Rep G r H v d → d.und r.length = true
  | _, _, .non => rfl
  | _, _, .bl b => rfl
  | _, _, .int i => rfl
  | _, _, .str x => rfl
  | _, _, .tup h na q => by simpa only [D.und] using Reps.und q
  | _, _, .frl h q => by simpa only [D.und] using Reps.und q
  | _, _, .obj h na hf q => by simpa only [D.und] using Reps.und q
  | _, _, .exn0 h na x => rfl
  | _, _, .exnF h na x hd nd hf q => by simpa only [D.und] using Reps.und q
  | _, _, .ref h => by simpa only [D.und, decide_eq_true_eq] using (List.getElem?_eq_some_iff.mp h).1
theorem Reps.und : ∀ {vs : List V} {ds : List D}, Reps G r H vs ds → D.unds r.length ds = true
  | _, _, .nil => rfl
  | _, _, .cons h t => by simp only [D.unds, Rep.und h, Reps.und t, Bool.and_self]
end
theorem Reps.get : ∀ {vs : List V} {ds : List D}, Reps G r H vs ds → ∀ {i : Nat} {d : D}, ds[i]? = some d → ∃ v, vs[i]? = some v ∧ Rep G r H v d
  | _, _, .nil, i, d, h => by simp at h
  | _, _, .cons h t, 0, d, e => by simp at e; subst e; exact ⟨_, rfl, h⟩
  | _, _, .cons h t, i + 1, d, e => by
    obtain ⟨v, e1, e2⟩ := Reps.get t (i := i) (d := d) (by simpa using e)
    exact ⟨v, by simpa using e1, e2⟩
theorem Reps.append {vs ws : List V} {ds es : List D} (a : Reps G r H vs ds) (b : Reps G r H ws es) : Reps G r H (vs ++ ws) (ds ++ es) := by
  induction vs generalizing ds with
  | nil => cases a; exact b
  | cons v vs ih => cases a with | cons h t => exact .cons h (ih t)
theorem Reps.drop {vs : List V} {ds : List D} (n : Nat) (a : Reps G r H vs ds) : Reps G r H (vs.drop n) (ds.drop n) := by
  induction vs generalizing ds n with
  | nil => cases a; simp; exact .nil
  | cons v vs ih =>
    cases a with
    | cons h t =>
      cases n with
      | zero => exact .cons h t
      | succ n => exact ih n t
theorem Reps.reverse {vs : List V} {ds : List D} (a : Reps G r H vs ds) : Reps G r H vs.reverse ds.reverse := by
  induction vs generalizing ds with
  | nil => cases a; exact .nil
  | cons w vs ih =>
    cases a with
    | cons h t =>
      rw [List.reverse_cons, List.reverse_cons]
      exact (ih t).append (.cons h .nil)
theorem Reps.ints (ns : List Int) : Reps G r H (ns.map V.int) (ns.map D.int) := by
  induction ns with
  | nil => exact .nil
  | cons n ns ih => exact .cons (.int n) ih
mutual
theorem keyN_und (n : Nat) : ∀ {d : D} {k : NestedKey}, keyN d = some k → d.und n = true
  | .non, _, _ => rfl
  | .bl _, _, _ => rfl
  | .int _, _, _ => rfl
  | .str _, _, _ => rfl
  | .tup ds, k, h => by
    unfold keyN at h
    obtain ⟨ks, h1, _⟩ := Option.map_eq_some_iff.mp h
    unfold D.und
    exact keysN_und n h1
  | .frl _, _, h => by unfold keyN at h; cases h
  | .obj _ _, _, h => by unfold keyN at h; cases h
  | .ref _, _, h => by unfold keyN at h; cases h
theorem keysN_und (n : Nat) : ∀ {ds : List D} {ks : List NestedKey}, keysN ds = some ks → D.unds n ds = true
  | [], _, _ => rfl
  | d :: r, ks, h => by
    unfold keysN at h
    obtain ⟨k, h1, h2⟩ := Option.bind_eq_some_iff.mp h
    obtain ⟨ks', h3, _⟩ := Option.map_eq_some_iff.mp h2
    unfold D.unds
    rw [keyN_und n h1, keysN_und n h3]
    rfl
end
theorem keys_und (n : Nat) : ∀ {kvs : List (D × D)} {rows : List (NestedKey × Addr × V)}, kvs.map (fun kv => keyN kv.1) = rows.map (fun x => some x.1) → D.unds n (kvs.map (·.1)) = true
  | [], _, _ => rfl
  | kv :: kvs, [], h => by simp at h
  | kv :: kvs, x :: rows, h => by
    simp only [List.map_cons, List.cons.injEq] at h
    show (kv.1.und n && D.unds n (kvs.map (·.1))) = true
    rw [keyN_und n h.1, keys_und n h.2]; rfl
theorem ObAt.cut {a : Addr} {l : List Addr} {o : Ob} (h : ObAt G (r ++ l) H a o) (u : o.und r.length = true) : ObAt G r H a o := by
  cases o with
  | lst ds => obtain ⟨vs, h, q⟩ := h; exact ⟨vs, h, q.cut u⟩
  | dct kvs =>
    rcases h with ⟨ws, h, q, p, n⟩ | ⟨z, rows, h, q, y, p, p2, n⟩
    · exact .inl ⟨ws, h, q, p.cut u, n⟩
    · exact .inr ⟨z, rows, h, q, y, p.cut (keys_und _ q), p2.cut u, n⟩
  | ins c ds => obtain ⟨dx, fs, h, q, p⟩ := h; exact ⟨dx, fs, h, q, p.cut u⟩
  | lck kvs => obtain ⟨o, ws, h, q, p, n⟩ := h; exact ⟨o, ws, h, q, p.cut u, n⟩
theorem ObAt.und {a : Addr} {o : Ob} (h : ObAt G r H a o) : o.und r.length = true := by
  cases o with
  | lst ds => obtain ⟨vs, h, q⟩ := h; exact q.und
  | dct kvs =>
    rcases h with ⟨ws, h, q, p, n⟩ | ⟨z, rows, h, q, y, p, p2, n⟩
    · exact p.und
    · exact p2.und
  | ins c ds => obtain ⟨dx, fs, h, q, p⟩ := h; exact p.und
  | lck kvs => obtain ⟨o, ws, h, q, p, n⟩ := h; exact p.und
variable {S : Sto}
/-- a place of the store, its object -/
theorem Sim.get (s : Sim G r H S) {v : V} {n : Nat} {o : Ob} (h : Rep G r H v (.ref n)) (e : S[n]? = some o) : ∃ a, v = .ref a ∧ r[n]? = some a ∧ ObAt G r H a o := by
  cases h with
  | ref h => exact ⟨_, rfl, h, s.at_ n _ o h e⟩
theorem Sim.und (s : Sim G r H S) : ∀ o ∈ S, o.und S.length = true := fun o ho => by
  obtain ⟨n, hn⟩ := List.mem_iff_getElem?.mp ho
  have hl : n < r.length := by rw [s.len]; exact (List.getElem?_eq_some_iff.mp hn).1
  have := (s.at_ n r[n] o (List.getElem?_eq_getElem hl) hn).und
  rw [s.len] at this
  exact this
/-- an object of the store is written -/
theorem Sim.wr (s : Sim G r H S) {n : Nat} {a : Addr} {u : HO} {o : Ob} (ha : r[n]? = some a) (h : ObAt G r (upd H a u) a o) : Sim G r (upd H a u) (S.set n o) := by
  have hm : a ∈ r := List.mem_of_getElem? ha
  refine ⟨by rw [List.length_set]; exact s.len, s.nd, fun m b p h1 h2 => ?_⟩
  by_cases e : m = n
  · subst e
    rw [ha] at h1
    cases h1
    rw [List.getElem?_set_self (by rw [← s.len]; exact (List.getElem?_eq_some_iff.mp ha).1)] at h2
    cases h2
    exact h
  · rw [List.getElem?_set_ne (fun z => e z.symm)] at h2
    have hb : b ≠ a := fun z => by
      subst z
      exact e (nodup_at s.nd h1 ha)
    exact (s.at_ m b p h1 h2).exw (Exw.wr hm) (upd_ne hb)
where
  nodup_at {l : List Addr} (h : l.Nodup) {i j : Nat} {x : Addr} (a : l[i]? = some x) (b : l[j]? = some x) : i = j := by
    obtain ⟨h1, e1⟩ := List.getElem?_eq_some_iff.mp a
    obtain ⟨h2, e2⟩ := List.getElem?_eq_some_iff.mp b
    exact (List.getElem_inj h).mp (e1.trans e2.symm)
end
end Cy
set_option Elab.async false
set_option linter.all false
set_option maxRecDepth 100000
set_option maxHeartbeats 2000000
set_option autoImplicit false
namespace Cy
open PySem L2
theorem Rs.bind_assoc {α β γ : Type} (m : Rs α) (k : α → Sto → Rs β) (l : β → Sto → Rs γ) : (m.bind k).bind l = m.bind fun a S => (k a S).bind l := by
  cases m <;> rfl
abbrev BX := Env → Sto → Rs Bool
section
variable {G : Cfg} {r r1 : List Addr} {H H1 : Hp} {σ : L2.St} {env : Env}
/-- slots forgotten -/
def kill : List Nat → Env → Env
  | [], env => env
  | i :: is, env => (kill is env).set i none
theorem EnvR.forget {i : Nat} (h : EnvR G r H σ env) : EnvR G r H σ (env.set i none) := by
  refine ⟨by rw [List.length_set]; exact h.len, fun j x e => ?_⟩
  by_cases hj : j = i
  · subst hj
    by_cases hl : j < env.length
    · rw [List.getElem?_set_self hl] at e
      cases e
    · rw [List.getElem?_eq_none (by rw [List.length_set]; omega)] at e
      cases e
  · rw [List.getElem?_set_ne (fun z => hj z.symm)] at e
    exact h.at_ j x e
theorem EnvR.kill (h : EnvR G r H σ env) : ∀ is : List Nat, EnvR G r H σ (kill is env)
  | [] => h
  | i :: is => (EnvR.kill h is).forget
theorem kill_wipe (h : EnvR G r H σ env) : ∀ is : List Nat, EnvR G r H (wipe σ is) (Cy.kill is env)
  | [] => h
  | i :: is => by
    have q := kill_wipe h is
    refine ⟨by unfold wipe Cy.kill; rw [List.length_set, List.length_set]; exact q.len, fun j x e => ?_⟩
    unfold Cy.kill at e
    unfold wipe
    by_cases hj : j = i
    · subst hj
      by_cases hl : j < (Cy.kill is env).length
      · rw [List.getElem?_set_self hl] at e
        cases e
      · rw [List.getElem?_eq_none (by rw [List.length_set]; omega)] at e
        cases e
    · rw [List.getElem?_set_ne (fun z => hj z.symm)] at e
      obtain ⟨v, a, b⟩ := q.at_ j x e
      exact ⟨v, by rw [List.getElem?_set_ne (fun z => hj z.symm)]; exact a, b⟩
end
abbrev RVs (G : Cfg) (H : Hp) : List Addr → Hp → List V → List Rv → Prop := fun r' H' v x => RepRs G r' H H' v x
abbrev RB : List Addr → Hp → Bool → Bool → Prop := fun _ _ b c => b = c
def TI (G : Cfg) (W : WX) (m : EX) : TE := fun σ H Q => ∃ r S env, EnvR G r H σ env ∧ Sim G r H S ∧ Post G W σ r H (RV G H) Q (m env S)
def TTI (G : Cfg) (W : WX) (m : BX) : TT := fun σ H Q => ∃ r S env, EnvR G r H σ env ∧ Sim G r H S ∧ Post G W σ r H RB Q (m env S)
def TAI (G : Cfg) (W : WX) (m : Env → Sto → Rs (List Rv)) : TA := fun σ H Q => ∃ r S env, EnvR G r H σ env ∧ Sim G r H S ∧ Post G W σ r H (RVs G H) Q (m env S)
section
variable {G : Cfg} {W : WX} {σ : L2.St} {r r1 : List Addr} {H H1 : Hp} {α β γ δ : Type}
theorem Post.mono {R : List Addr → Hp → β → α → Prop} {Q Q' : β → Hp → Prop} {m : Rs α} (h : Post G W σ r H R Q m) (k : ∀ v H, Q v H → Q' v H) : Post G W σ r H R Q' m := by
  cases m with
  | ok x S => exact fun v r' H' e s q => k _ _ (h v r' H' e s q)
  | err c ds S => exact h
  | bad => exact h
theorem back_rv {r' : List Addr} {H' : Hp} {v : V} {x : Rv} (e : Ext r H r1 H1) (h : RV G H1 r' H' v x) : RV G H r' H' v x := RepR.from (fun _ => e.back) h
end
theorem _root_.L2.PE.mono {X : Cx} {e : Expr} {t t' : TE} (h : PE X e t) (k : ∀ σ H Q, t' σ H Q → t σ H Q) : PE X e t' := ⟨fun pins s σ H Q I q => h.run pins s σ H Q I (k σ H Q q)⟩
theorem _root_.L2.PT.mono {X : Cx} {e : Expr} {t t' : TT} (h : PT X e t) (k : ∀ σ H Q, t' σ H Q → t σ H Q) : PT X e t' := ⟨fun pins s σ H Q I q => h.run pins s σ H Q I (k σ H Q q)⟩
theorem _root_.L2.PW.mono {X : Cx} {e : Expr} {t t' : TT} (h : PW X e t) (k : ∀ σ H Q, t' σ H Q → t σ H Q) : PW X e t' := ⟨fun wh pins s σ H Q I q => h.run wh pins s σ H Q I (k σ H Q q)⟩
theorem _root_.L2.PA.mono {X : Cx} {es : List Expr} {t t' : TA} (h : PA X es t) (k : ∀ σ H Q, t' σ H Q → t σ H Q) : PA X es t' := ⟨fun pos pins s σ H Q I q => h.run pos pins s σ H Q I (k σ H Q q)⟩
theorem _root_.L2.PS.mono {X : Cx} {st : Stmt} {t t' : TS} (h : PS X st t) (k : ∀ D σ H, t' D σ H → t D σ H) : PS X st t' := ⟨fun pins s σ H D I q => h.run pins s σ H D I (k D σ H q)⟩
theorem _root_.L2.PSs.mono {X : Cx} {st : List Stmt} {t t' : TS} (h : PSs X st t) (k : ∀ D σ H, t' D σ H → t D σ H) : PSs X st t' := ⟨fun pins s σ H D I q => h.run pins s σ H D I (k D σ H q)⟩
def eVar (i : Nat) : EX := fun env S => match env[i]? with
  | some (some d) => .ok (.va d) S
  | _ => .bad
def eTo (m : EX) : EX := fun env S => (m env S).bind fun x S1 => .ok (.va (own x S1).1) (own x S1).2
def eArgs : List EX → Env → Sto → Rs (List Rv)
  | [], _, S => .ok [] S
  | m :: ms, env, S => (m env S).bind fun x S1 => (eArgs ms env S1).bind fun xs S2 => .ok (x :: xs) S2
def eP (f : Prim) (ms : List EX) : EX := fun env S => (eArgs ms env S).bind fun xs S1 => match f S1 xs with
  | some (z, S2) => .ok z S2
  | none => .bad
abbrev GX (X : Cx) (cA : Nat → Addr) (fN : Nat → List Str) : Cfg := ⟨X.K, cA, fN, X.prog, X.w⟩
section
variable {G : Cfg} {W : WX} {σ : L2.St} {r : List Addr} {H : Hp}
/-- a value becomes the store's own -/
theorem own_ok {r0 : List Addr} {H0 : Hp} {x : Rv} {v : V} {S : Sto} (e : Ext r0 H0 r H) (s : Sim G r H S) (q : RepR G r H0 H v x) :
    ∃ r', Ext r0 H0 r' H ∧ Sim G r' H (own x S).2 ∧ Rep G r' H v (own x S).1 := by
  cases x with
  | va d => exact ⟨r, e, s, q⟩
  | fr o =>
    obtain ⟨a, rfl, h2, h3, h4⟩ := q
    refine ⟨r ++ [a], e.own h2, s.own h3 h4, .ref ?_⟩
    show (r ++ [a])[S.length]? = some a
    rw [← s.len]
    simp
theorem TI.to {m : EX} {Q : VK} (h : TI G W (eTo m) σ H Q) : TI G W m σ H Q := by
  obtain ⟨r, S, env, he, hs, hp⟩ := h
  refine ⟨r, S, env, he, hs, Post.bind hp fun x S1 v r1 H1 e s q z => ?_⟩
  obtain ⟨r', e', s', q'⟩ := own_ok e s q
  exact z v r' H1 e' s' q'
end
section
variable {X : Cx} {cA : Nat → Addr} {fN : Nat → List Str} {W : WX} {e a b : Expr} {es : List Expr} {pos : Pos} {m ma mb : EX}
theorem iv (i : Nat) {x : Str} (hN : X.N[i]? = some x := by rfl) (hv : Vis X.env.scope x := by first | exact Or.inl rfl | exact Or.inr (Or.inl rfl) | exact Or.inr (Or.inr rfl)) (hd : (x == ("__debug__" : Str)) = false := by decide)
    (hcd : (x == ("__classdict__" : Str)) = false := by decide) : PE X (.Name x pos) (TI (GX X cA fN) W (eVar i)) := (pe_var hN hv hd hcd).mono fun σ H Q h => by
  obtain ⟨r, S, env, he, hs, hp⟩ := h
  unfold eVar at hp
  cases e1 : env[i]? with
  | none => rw [e1] at hp; exact hp.elim
  | some o =>
    cases o with
    | none => rw [e1] at hp; exact hp.elim
    | some d =>
      rw [e1] at hp
      obtain ⟨v, h1, h2⟩ := he.at_ i d e1
      exact ⟨v, h1, hp v r H (Ext.refl r H) hs h2⟩
theorem ic {v : V} {d : D} (h : PE X e (tC v)) (q : ∀ G r H, Rep G r H v d) : PE X e (TI (GX X cA fN) W (eC d)) := h.mono fun σ H Q h => by
  obtain ⟨r, S, env, he, hs, hp⟩ := h
  exact hp v r H (Ext.refl r H) hs (q _ _ _)
theorem ic_int {i : Int} {j : Nat} : PE X (.Constant (.int i) j pos) (TI (GX X cA fN) W (eC (.int i))) := ic pe_int fun _ _ _ => .int i
theorem ic_bl {b : Bool} {j : Nat} : PE X (.Constant (.bool b) j pos) (TI (GX X cA fN) W (eC (.bl b))) := ic pe_bl fun _ _ _ => .bl b
theorem ic_str {x : Str} {j : Nat} : PE X (.Constant (.str x) j pos) (TI (GX X cA fN) W (eC (.str x))) := ic pe_str fun _ _ _ => .str x
theorem ia_nil : PA X [] (TAI (GX X cA fN) W (eArgs [])) := pa_nil.mono fun σ H Q h => by
  obtain ⟨r, S, env, he, hs, hp⟩ := h
  exact hp [] r H (Ext.refl r H) hs .nil
theorem ia_cons {ms : List EX} (h : PE X e (TI (GX X cA fN) W m)) (t : PA X es (TAI (GX X cA fN) W (eArgs ms))) (hs : starEach (e :: es) X.env = (false, eval e X.env) :: starEach es X.env := by rfl) :
    PA X (e :: es) (TAI (GX X cA fN) W (eArgs (m :: ms))) := (pa_cons h t hs).mono fun σ H Q h => by
  obtain ⟨r, S, env, he, hs, hp⟩ := h
  refine ⟨r, S, env, he, hs, Post.bind hp fun x S1 v r1 H1 e1 s1 q1 z => ?_⟩
  refine ⟨r1, S1, env, he.ext e1, s1, Post.bind (z.shift e1 (R' := RVs _ H) fun _ _ _ _ k => k) fun xs S2 vs r2 H2 e2 s2 q2 z2 => ?_⟩
  exact z2 (v :: vs) r2 H2 (Ext.refl r2 H2 |> fun k => e2.trans k) s2 (.cons (q1.ext e2) (q2.from fun _ => e1.back))
/-- from the arguments to the primitive -/
theorem prim_post {rd : List V → Hp → VK → Prop} {f : Prim} {G : Cfg} (P : PrimOk G rd f) {σ : L2.St} {r : List Addr} {H : Hp} {env : Env} {S : Sto} {ms : List EX} {Q : VK} (hp : Post G W σ r H (RV G H) Q (eP f ms env S)) :
    Post G W σ r H (RVs G H) (fun vs H1 => rd vs H1 Q) (eArgs ms env S) := Post.bind hp fun xs S1 vs r1 H1 e1 s1 q1 z => by
  cases e : f S1 xs with
  | none => rw [e] at z; exact z.elim
  | some p =>
    obtain ⟨y, S2⟩ := p
    rw [e] at z
    exact P r1 H H1 S1 S2 xs y vs Q s1 (fun _ => e1.back) q1 e fun v r2 H2 e2 s2 q2 => z v r2 H2 (e1.trans e2) s2 q2
theorem two_of {G : Cfg} {rd : List V → Hp → VK → Prop} {f : Prim} {ro : R2} (P : PrimOk G rd f) (hr : ∀ vs H Q, rd vs H Q → ∃ x y, vs = [x, y] ∧ ro x y H Q) {σ : L2.St} {H : Hp} {Q : VK} (h : TI G W (eP f [ma, mb]) σ H Q) :
    tOp ro (TI G W ma) (TI G W mb) σ H Q := by
  obtain ⟨r, S, env, he, hs, hp⟩ := h
  have hq := prim_post P hp
  refine ⟨r, S, env, he, hs, Post.bind hq fun x S1 v r1 H1 e1 s1 q1 z => ?_⟩
  unfold eArgs at z
  rw [Rs.bind_assoc] at z
  refine ⟨r1, S1, env, he.ext e1, s1, Post.bind (z.shift e1 (R' := RVs _ H) fun _ _ _ _ k => k) fun xs S2 w r2 H2 e2 s2 q2 z2 => ?_⟩
  obtain ⟨x', y', e, k⟩ := hr _ _ _ (z2 [v, w] r2 H2 e2 s2 (.cons (q1.ext e2) (.cons (q2.from fun _ => e1.back) .nil)))
  cases e
  exact k
/-- two operands -/
def L22 (ro : R2) : List V → Hp → VK → Prop := fun vs H Q => ∃ x y, vs = [x, y] ∧ ro x y H Q
theorem i_op {op : Operator} {ro : R2} {f : Prim} (ho : OpR X (binaryOp op) ro) (P : PrimOk (GX X cA fN) (L22 ro) f) (ha : PE X a (TI (GX X cA fN) W ma)) (hb : PE X b (TI (GX X cA fN) W mb)) :
    PE X (.BinOp a op b pos) (TI (GX X cA fN) W (eP f [ma, mb])) := (pe_op ho ha hb).mono fun _ _ _ h => two_of P (fun _ _ _ k => k) h
theorem i_cmp {op : CmpOp} {ro : R2} {f : Prim} (ho : OpR X (compareOp op) ro) (P : PrimOk (GX X cA fN) (L22 ro) f) (ha : PE X a (TI (GX X cA fN) W ma)) (hb : PE X b (TI (GX X cA fN) W mb)) (hm : behindInMarks op b = false) :
    PE X (.Compare a [op] [b] pos) (TI (GX X cA fN) W (eP f [ma, mb])) := (pe_cmpR ho ha hb hm).mono fun _ _ _ h => two_of P (fun _ _ _ k => k) h
/-- a value that is a bool, as a test -/
def bB (m : EX) : BX := fun env S => (m env S).bind fun x S1 => match x with
  | .va (.bl b) => .ok b S1
  | _ => .bad
theorem bB_ok {G : Cfg} {m : EX} {σ : L2.St} {H : Hp} {Q : Bool → Hp → Prop} (h : TTI G W (bB m) σ H Q) : TI G W m σ H fun x H1 => ∃ k, x = .bl k ∧ Q k H1 := by
  obtain ⟨r, S, env, he, hs, hp⟩ := h
  refine ⟨r, S, env, he, hs, Post.bind hp fun x S1 v r1 H1 e1 s1 q1 z => ?_⟩
  cases x with
  | fr o => exact z.elim
  | va d =>
    cases d with
    | bl b =>
      cases q1
      exact ⟨b, rfl, z b r1 H1 e1 s1 rfl⟩
    | _ => exact z.elim
theorem t_cmp {op : CmpOp} {ro : R2} {f : Prim} (ho : OpR X (compareOp op) ro) (P : PrimOk (GX X cA fN) (L22 ro) f) (ha : PE X a (TI (GX X cA fN) W ma)) (hb : PE X b (TI (GX X cA fN) W mb)) (hm : behindInMarks op b = false) :
    PT X (.Compare a [op] [b] pos) (TTI (GX X cA fN) W (bB (eP f [ma, mb]))) := (pt_cmpR ho ha hb hm).mono fun _ _ _ h => two_of P (fun _ _ _ k => k) (bB_ok h)
/-- a call, an attribute, a name .. whose value is a bool, as a test -/
theorem t_val (h : PE X e (TI (GX X cA fN) W m)) (he : ∀ whole, isTrue e X.env whole = (do let v ← whole; standAt e.pos; holding [v] (truthy v)) := by intro _; rfl) : PT X e (TTI (GX X cA fN) W (bB m)) :=
  (pt_val h he).mono fun _ _ _ h => bB_ok h
def bNot (m : BX) : BX := fun env S => (m env S).bind fun b S1 => .ok (!b) S1
def bOr (m n : BX) : BX := fun env S => (m env S).bind fun b S1 => if b = true then .ok true S1 else n env S1
variable {c d : BX} {rest : List Expr}
theorem t_not (h : PT X a (TTI (GX X cA fN) W c)) : PT X (.UnaryOp .Not a pos) (TTI (GX X cA fN) W (bNot c)) := (pt_not h).mono fun σ H Q h => by
  obtain ⟨r, S, env, he, hs, hp⟩ := h
  refine ⟨r, S, env, he, hs, Post.bind hp fun x S1 v r1 H1 e1 s1 q1 z => ?_⟩
  subst q1
  exact z (!v) r1 H1 e1 s1 rfl
theorem w_or1 (h : PT X a (TTI (GX X cA fN) W c)) : PW X (.BoolOp .Or [a] pos) (TTI (GX X cA fN) W c) := pw_or1 h
theorem w_or (h : PT X a (TTI (GX X cA fN) W c)) (k : PW X (.BoolOp .Or (b :: rest) pos) (TTI (GX X cA fN) W d)) : PW X (.BoolOp .Or (a :: b :: rest) pos) (TTI (GX X cA fN) W (bOr c d)) := (pw_or h k).mono fun σ H Q h => by
  obtain ⟨r, S, env, he, hs, hp⟩ := h
  refine ⟨r, S, env, he, hs, Post.bind hp fun x S1 v r1 H1 e1 s1 q1 z => ?_⟩
  subst q1
  cases v with
  | false => exact ⟨r1, S1, env, he.ext e1, s1, z.shift e1 fun _ _ _ _ k => k⟩
  | true => exact z true r1 H1 e1 s1 rfl
/-- and, or, not as values (bools but for the last) -/
def eNot (m : EX) : EX := fun env S => (bB m env S).bind fun b S1 => .ok (.va (.bl (!b))) S1
def eAnd (m n : EX) : EX := fun env S => (bB m env S).bind fun b S1 => if b = true then n env S1 else .ok (.va (.bl false)) S1
theorem bB_post {G : Cfg} {σ : L2.St} {r : List Addr} {H : Hp} {env : Env} {S : Sto} {Q : V → Hp → Prop} {k : Bool → Sto → Rs Rv} (hp : Post G W σ r H (RV G H) Q ((bB m env S).bind k)) {Q' : VK}
    (step : ∀ b S1 r1 H1, Ext r H r1 H1 → Sim G r1 H1 S1 → Post G W σ r H (RV G H) Q (k b S1) → Q' (.bl b) H1) : Post G W σ r H (RV G H) Q' (m env S) := by
  have hp2 : Post G W σ r H (RB) (fun b H1 => Q' (.bl b) H1) (bB m env S) := Post.bind hp fun x S1 v r1 H1 e1 s1 q1 z => by
    subst q1
    exact step v S1 r1 H1 e1 s1 z
  refine Post.bind hp2 fun x S1 v r1 H1 e1 s1 q1 z => ?_
  cases x with
  | fr o => exact z.elim
  | va d =>
    cases d with
    | bl b =>
      cases q1
      exact z b r1 H1 e1 s1 rfl
    | _ => exact z.elim
theorem i_not (h : PE X a (TI (GX X cA fN) W m)) : PE X (.UnaryOp .Not a pos) (TI (GX X cA fN) W (eNot m)) := (pe_not h).mono fun σ H Q h => by
  obtain ⟨r, S, env, he, hs, hp⟩ := h
  exact ⟨r, S, env, he, hs, bB_post hp fun b S1 r1 H1 e1 s1 z => ⟨b, rfl, z _ r1 H1 e1 s1 (.bl _)⟩⟩
theorem i_one {op : BoolOp} (h : PE X a (TI (GX X cA fN) W m)) : PE X (.BoolOp op [a] pos) (TI (GX X cA fN) W m) := pe_one h
theorem i_and (h : PE X a (TI (GX X cA fN) W ma)) (k : PE X (.BoolOp .And (b :: rest) pos) (TI (GX X cA fN) W mb)) : PE X (.BoolOp .And (a :: b :: rest) pos) (TI (GX X cA fN) W (eAnd ma mb)) := (pe_and h k).mono fun σ H Q h => by
  obtain ⟨r, S, env, he, hs, hp⟩ := h
  refine ⟨r, S, env, he, hs, bB_post hp fun b S1 r1 H1 e1 s1 z => ⟨b, rfl, ?_⟩⟩
  cases b with
  | true => exact ⟨r1, S1, env, he.ext e1, s1, z.shift e1 fun _ _ _ _ k => back_rv e1 k⟩
  | false => exact z _ r1 H1 e1 s1 (.bl _)
variable {mc : EX} {x y : Expr}
end
end Cy
set_option Elab.async false
set_option linter.all false
set_option maxRecDepth 100000
set_option maxHeartbeats 2000000
set_option autoImplicit false
namespace Cy
open PySem L2
def sNil : SM := fun env S => .nx env S
def sSeq (a b : SM) : SM := fun env S => (a env S).then b
def sRet (m : EX) : SM := fun env S => (m env S).on env fun x S1 => .ret x S1
def sIf (c : BX) (a b : SM) : SM := fun env S => (c env S).on env fun k S1 => if k = true then a env S1 else b env S1
def Tg.slots : Tg → List Nat
  | .name i => [i]
  | .names is => is
def sAsg (t : Tg) (m : EX) : SM := fun env S => (eTo m env S).on env fun x S1 => match x with
  | .va d => match t.bind d env with
    | some env' => .nx env' S1
    | none => .bad
  | .fr _ => .bad
/-- a target's rule -/
structure TgOk (X : Cx) (t : Tg) (g : TG) : Prop where
  run : ∀ (cA : Nat → Addr) (fN : Nat → List Str) (r : List Addr) (H : Hp) (σ : L2.St) (env env' : Env) (v : V) (d : D) (Q : L2.St → Hp → Prop), EnvR (GX X cA fN) r H σ env → Rep (GX X cA fN) r H v d → t.bind d env = some env' →
    (∀ σ', EnvR (GX X cA fN) r H σ' env' → (∀ us, (∀ i ∈ t.slots, i ∈ us) → wipe σ' us = wipe σ us) → Q σ' H) → g v σ H Q
theorem wipe_get (σ : L2.St) : ∀ (us : List Nat) (j : Nat), (wipe σ us)[j]? = if j ∈ us then σ[j]?.map (fun _ => none) else σ[j]?
  | [], j => by simp [wipe]
  | u :: us, j => by
    unfold wipe
    have ih := wipe_get σ us j
    by_cases h : u = j
    · subst h
      rw [List.getElem?_set_self', ih]
      by_cases hm : u ∈ us
      · simp [hm] <;> rfl
      · simp [hm] <;> rfl
    · rw [List.getElem?_set_ne h, ih]
      have h' : ¬ j = u := fun z => h z.symm
      simp [h']
theorem wipe_set (σ : L2.St) (i : Nat) (x : Option V) (us : List Nat) (h : i ∈ us) : wipe (σ.set i x) us = wipe σ us := by
  apply List.ext_getElem?
  intro j
  rw [wipe_get, wipe_get]
  by_cases hj : i = j
  · subst hj
    simp only [h, if_true]
    rw [List.getElem?_set_self']
    cases σ[i]? <;> rfl
  · rw [List.getElem?_set_ne hj]
theorem wipe_wipe (σ : L2.St) (us : List Nat) : wipe (wipe σ us) us = wipe σ us := by
  apply List.ext_getElem?
  intro j
  rw [wipe_get, wipe_get]
  by_cases hj : j ∈ us
  · simp only [hj, if_true]
    cases σ[j]? <;> rfl
  · simp only [hj, if_false]
theorem tg_name {X : Cx} (i : Nat) : TgOk X (.name i) (gName i) := ⟨fun cA fN r H σ env env' v d Q he q e k => by
  have e' : env.set i (some d) = env' := Option.some.inj e
  subst e'
  exact k _ (he.set q) fun us hu => wipe_set σ i _ us (hu i (List.mem_singleton.mpr rfl))⟩
def gAll : List Nat → TGs
  | [] => gNil
  | i :: is => gCons (gName i) (gAll is)
theorem gAll_ok {G : Cfg} {r : List Addr} {H : Hp} {Q : L2.St → Hp → Prop} : ∀ {is : List Nat} {vs : List V} {ds : List D} {σ : L2.St} {env : Env}, EnvR G r H σ env → Reps G r H vs ds → ds.length = is.length →
    (∀ σ', EnvR G r H σ' (setAll is ds env) → (∀ us, (∀ i ∈ is, i ∈ us) → wipe σ' us = wipe σ us) → Q σ' H) → gAll is vs σ H Q
  | [], _, _, σ, env, he, .nil, _, k => ⟨rfl, k σ he fun _ _ => rfl⟩
  | [], _, _, _, _, _, .cons _ _, e, _ => by simp at e
  | i :: is, _, _, _, _, _, .nil, e, _ => by simp at e
  | i :: is, _, _, σ, env, he, .cons (v := v) (vs := vs) h t, e, k => ⟨v, vs, rfl, gAll_ok (he.set h) t (by simpa using e) fun σ' q w => k σ' q fun us hu => (w us fun j hj => hu j (List.mem_cons_of_mem _ hj)).trans (wipe_set σ i _ us (hu i List.mem_cons_self))⟩
theorem tg_names {X : Cx} (is : List Nat) : TgOk X (.names is) (gTup X.K is.length (gAll is)) := ⟨fun cA fN r H σ env env' v d Q he q e k => by
  cases q with
  | tup h na q =>
    rename_i a vs ds
    have e2 : (if ds.length = is.length then some (setAll is ds env) else none) = some env' := e
    by_cases hl : ds.length = is.length
    · rw [if_pos hl] at e2
      have e' := Option.some.inj e2
      subst e'
      exact ⟨_, _, rfl, .inl h, by rw [q.length]; exact hl, gAll_ok he q hl k⟩
    · rw [if_neg hl] at e2
      cases e2
  | _ => cases e⟩
section
variable {X : Cx} {cA : Nat → Addr} {fN : Nat → List Str} {W : WX} {e a b : Expr} {es : List Expr} {pos : Pos} {m ma mb : EX} {c : BX} {st : Stmt} {rest : List Stmt} {sm sn : SM}
theorem ss_nil : PSs X [] (TSI (GX X cA fN) W sNil) := pss_nil.mono fun D σ H h => by
  obtain ⟨r, S, env, he, hs, hp⟩ := h
  exact hp σ r H (Ext.refl r H) he hs
theorem ss_cons (h : PS X st (TSI (GX X cA fN) W sm)) (k : PSs X rest (TSI (GX X cA fN) W sn)) : PSs X (st :: rest) (TSI (GX X cA fN) W (sSeq sm sn)) := (pss_cons h k).mono fun D σ H h => by
  obtain ⟨r, S, env, he, hs, hp⟩ := h
  exact ⟨r, S, env, he, hs, hp.then⟩
theorem s_ret (h : PE X e (TI (GX X cA fN) W m)) : PS X (.Return (some e) pos) (TSI (GX X cA fN) W (sRet m)) := (ps_ret h).mono fun D σ H h => by
  obtain ⟨r, S, env, he, hs, hp⟩ := h
  exact ⟨r, S, env, he, hs, PostS.on he hp fun x S1 v r1 H1 e1 s1 q1 z => z v r1 H1 e1 s1 q1⟩
theorem s_if {x : Expr} {p q : List Stmt} (hc : PT X x (TTI (GX X cA fN) W c)) (h : PSs X p (TSI (GX X cA fN) W sm)) (k : PSs X q (TSI (GX X cA fN) W sn)) : PS X (.If x p q pos) (TSI (GX X cA fN) W (sIf c sm sn)) := (ps_if hc h k).mono fun D σ H h => by
  obtain ⟨r, S, env, he, hs, hp⟩ := h
  refine ⟨r, S, env, he, hs, PostS.on he hp fun x S1 v r1 H1 e1 s1 q1 z => ?_⟩
  subst q1
  cases v with
  | true => exact ⟨r1, S1, env, he.ext e1, s1, z.shift e1⟩
  | false => exact ⟨r1, S1, env, he.ext e1, s1, z.shift e1⟩
theorem asg_of {t : Tg} {g : TG} (T : TgOk X t g) {D : Ends} {σ : L2.St} {H : Hp} (h : TSI (GX X cA fN) W (sAsg t m) D σ H) : tAsg (TI (GX X cA fN) W m) g D σ H := by
  obtain ⟨r, S, env, he, hs, hp⟩ := h
  refine TI.to ⟨r, S, env, he, hs, PostS.on he hp fun x S1 v r1 H1 e1 s1 q1 z => ?_⟩
  cases x with
  | fr o => exact z.elim
  | va d =>
    dsimp only at z
    cases eb : t.bind d env with
    | none => rw [eb] at z; exact z.elim
    | some env' =>
      rw [eb] at z
      exact T.run cA fN r1 H1 σ env env' v d _ (he.ext e1) q1 eb fun σ' q _ => z σ' r1 H1 e1 q s1
theorem s_set (i : Nat) {x : Str} {pos' : Pos} (hN : X.N.Nodup) (h : PE X e (TI (GX X cA fN) W m)) (hi : X.N[i]? = some x := by rfl) (hx : Loc X.env.scope x := by first | exact Or.inl rfl | exact Or.inr rfl) (hs : swapsWith e (some (.Name x pos')) pos.line X.env = pure false := by rfl) (hf : X.fn x = true ∨ X.env.scope.names.lookup x = some .local := by first | exact .inl rfl | exact .inr rfl | assumption) :
    PS X (.Assign [.Name x pos'] e pos) (TSI (GX X cA fN) W (sAsg (.name i) m)) := (ps_set hN hi hx h hs hf).mono fun _ _ _ h => asg_of (tg_name i) h
theorem g_name (i : Nat) {x : Str} (hN : X.N.Nodup) (hi : X.N[i]? = some x := by rfl) (hx : Loc X.env.scope x := by first | exact Or.inl rfl | exact Or.inr rfl) (hf : X.fn x = true ∨ X.env.scope.names.lookup x = some .local := by first | exact .inl rfl | exact .inr rfl | assumption) : PG X (.Name x pos) (gName i) := pg_name hN hi hx hf
end
def Src.get : Src → Nat → Sto → Option (Option D)
  | .fix ds, i, _ => some ds[i]?
  | .live n _, i, S => match S[n]? with
    | some (.lst ds) => some ds[i]?
    | _ => none
  | .gen g _, i, S => g i S
abbrev IX := Env → Sto → Rs Src
/-- an iterator gives what the source tells, as long as what is not the store's own stands -/
def JOk (G : Cfg) (r0 : List Addr) (H0 : Hp) (J : It) (src : Src) : Prop :=
  ∀ (r : List Addr) (H : Hp) (S : Sto) (i : Nat), Ext r0 H0 r H → Sim G r H S →
    (∀ d, src.get i S = some (some d) → J.go i H ∧ ∀ x H', J.yld i H x H' → Ext r H r H' ∧ Sim G r H' S ∧ Rep G r H' x d) ∧ (src.get i S = some none → J.stop i H)
def TII (G : Cfg) (W : WX) (m : IX) : L2.TI := fun σ H R => ∃ r S env, EnvR G r H σ env ∧ Sim G r H S ∧ Post G W σ r H (fun r' H' J src => JOk G r' H' J src) R (m env S)
theorem _root_.L2.PI.mono {X : Cx} {tg it : Expr} {t t' : L2.TI} (h : PI X tg it t) (k : ∀ σ H Q, t' σ H Q → t σ H Q) : PI X tg it t' := ⟨fun pins s σ H Q I q => h.run pins s σ H Q I (k σ H Q q)⟩
/-- the turns of a for: ks, the slots that no later turn asks -/
def forGo (src : Src) (t : Tg) (body : SM) (ks : List Nat) : Nat → Nat → Env → Sto → SR
  | 0, _, _, _ => .bad
  | f + 1, i, env, S => match src.get i S with
    | none => .bad
    | some none => .nx env S
    | some (some d) => match t.bind d env with
      | none => .bad
      | some env' => match body env' S with
        | .nx e' S' => forGo src t body ks f (i + 1) (kill ks e') S'
        | .ct e' S' => forGo src t body ks f (i + 1) (kill ks e') S'
        | .brk e' S' => .nx (kill ks e') S'
        | m => m
def sFor (it : IX) (t : Tg) (body : SM) (ks : List Nat) : SM := fun env S => (it env S).on env fun src S1 => forGo src t body ks (src.len + 1) 0 (kill ks env) S1
section
variable {X : Cx} {cA : Nat → Addr} {fN : Nat → List Str} {W : WX} {pos : Pos}
theorem s_for {iter tg : Expr} {body : List Stmt} {it : IX} {t : Tg} {g : TG} {sm : SM} (ks : List Nat) (hp : PassesOwn (model X.prog X.w) X.A X.env X.xe) (hc : X.calm = true) (T : TgOk X t g) (hi : PI X tg iter (TII (GX X cA fN) W it)) (hg : PG X tg g)
    (hb : PSs X body (TSI (GX X cA fN) W sm)) (hs : ∀ x, foldedSetIterable iter X.env x = pure x := by intro _; rfl) : PS X (.For tg iter body [] pos) (TSI (GX X cA fN) W (sFor it t sm ks)) := (ps_for hp hc hi hg hb hs).mono fun D σ H h => by
  obtain ⟨r, S, env, he, hs, hp⟩ := h
  refine ⟨r, S, env, he, hs, PostS.on he hp fun src S1 J r1 H1 e1 s1 q1 z => ?_⟩
  refine ⟨fun i m σ2 H2 => ∃ r2 S2 env2, Ext r1 H1 r2 H2 ∧ EnvR (GX X cA fN) r2 H2 σ2 env2 ∧ Sim (GX X cA fN) r2 H2 S2 ∧ PostS (GX X cA fN) W D r2 H2 (forGo src t sm ks m i env2 S2), ⟨src.len + 1, r1, S1, kill ks env, Ext.refl _ _, (he.ext e1).kill ks, s1, z.shift e1⟩, ?_⟩
  rintro i m σ2 H2 ⟨r2, S2, env2, x2, he2, s2, z2⟩
  cases m with
  | zero => exact z2.elim
  | succ f =>
    unfold forGo at z2
    obtain ⟨g1, g2⟩ := q1 r2 H2 S2 i x2 s2
    cases eg : src.get i S2 with
    | none => rw [eg] at z2; exact z2.elim
    | some od =>
      cases od with
      | none =>
        rw [eg] at z2
        exact .inl ⟨g2 eg, z2 σ2 r2 H2 (Ext.refl _ _) he2 s2⟩
      | some d =>
        rw [eg] at z2
        dsimp only at z2
        obtain ⟨go, yl⟩ := g1 d eg
        refine .inr ⟨go, fun σ' H' => ∃ r' S' env', Ext r1 H1 r' H' ∧ EnvR (GX X cA fN) r' H' σ' env' ∧ Sim (GX X cA fN) r' H' S' ∧ PostS (GX X cA fN) W D r' H' (forGo src t sm ks f (i + 1) env' S'), fun σ' H' q => ⟨f, Nat.lt_succ_self f, q⟩, fun x H3 y => ?_⟩
        obtain ⟨x3, s3, q3⟩ := yl x H3 y
        cases eb : t.bind d env2 with
        | none => rw [eb] at z2; exact z2.elim
        | some env3 =>
          rw [eb] at z2
          dsimp only at z2
          refine T.run cA fN r2 H3 σ2 env2 env3 x d _ (he2.ext x3) q3 eb fun σ3 he3 _ => ⟨r2, S2, env3, he3, s3, ?_⟩
          cases em : sm env3 S2 with
          | nx e' S' =>
            rw [em] at z2
            exact fun σ' r' H' e4 he4 s4 => ⟨r', S', kill ks e', x2.trans (x3.trans e4), he4.kill ks, s4, z2.shift (x3.trans e4)⟩
          | ct e' S' =>
            rw [em] at z2
            exact fun σ' r' H' e4 he4 s4 => ⟨r', S', kill ks e', x2.trans (x3.trans e4), he4.kill ks, s4, z2.shift (x3.trans e4)⟩
          | brk e' S' =>
            rw [em] at z2
            exact fun σ' r' H' e4 he4 s4 => z2 σ' r' H' (x3.trans e4) (he4.kill ks) s4
          | ret v S' =>
            rw [em] at z2
            exact fun v r' H' e4 s4 q4 => z2 v r' H' (x3.trans e4) s4 (q4.from fun _ => x3.back)
          | err e' c ds S' =>
            rw [em] at z2
            exact fun cls oe σ' r' H' e4 he4 s4 q4 => z2 cls oe σ' r' H' (x3.trans e4) he4 s4 q4
          | bad => rw [em] at z2; exact z2
end
end Cy
set_option Elab.async false
set_option linter.all false
set_option maxRecDepth 100000
set_option maxHeartbeats 2000000
set_option autoImplicit false
set_option Elab.async false
set_option linter.all false
set_option maxRecDepth 100000
set_option maxHeartbeats 2000000
set_option autoImplicit false
namespace Cy
open PySem L2
abbrev W0 : WX := fun _ _ _ _ => False
section
variable {G : Cfg} {r : List Addr} {H : Hp}
mutual
theorem Rep.poke {p : Addr} {o u : HO} (hp : H p = some o) (mu : Mut (some o)) : ∀ {v : V} {d : D}, Rep G r H v d → Rep G r (upd H p u) v d
  | _, _, .non => .non
  | _, _, .bl b => .bl b
  | _, _, .int i => .int i
  | _, _, .str x => .str x
  | _, _, .tup (a := a) h na q => .tup (by
      have hne : a ≠ p := fun e => by
        subst e
        rcases h with h | ⟨w, h⟩
        · rw [hp] at h; cases h; exact mu
        · rw [hp] at h; cases h; exact mu
      rcases h with h | ⟨w, h⟩
      · exact .inl (by rw [upd_ne hne]; exact h)
      · exact .inr ⟨w, by rw [upd_ne hne]; exact h⟩) na (Reps.poke hp mu q)
  | _, _, .frl (a := a) h q => .frl (h.elim (fun ⟨⟨w, h⟩, na⟩ => .inl ⟨⟨w, by
      have hne : a ≠ p := fun e => by
        subst e
        rw [hp] at h; cases h; exact mu
      rw [upd_ne hne]; exact h⟩, na⟩) .inr) (Reps.poke hp mu q)
  | _, _, .obj (a := a) h na hf q => .obj (by
      have hne : a ≠ p := fun e => by
        subst e
        rw [hp] at h; cases h; exact mu
      rw [upd_ne hne]; exact h) na hf (Reps.poke hp mu q)
  | _, _, .exn0 (a := a) h na x => .exn0 (by
      have hne : a ≠ p := fun e => by
        subst e
        rw [hp] at h; cases h; exact mu
      rw [upd_ne hne]; exact h) na x
  | _, _, .exnF (a := a) (d := d) h na x hd nd hf q => .exnF (by
      have hne : a ≠ p := fun e => by
        subst e
        rw [hp] at h; cases h; exact mu
      rw [upd_ne hne]; exact h) na x (by
      have hne : d ≠ p := fun e => by
        subst e
        rw [hp] at hd; cases hd; exact mu
      rw [upd_ne hne]; exact hd) nd hf (Reps.poke hp mu q)
  | _, _, .ref h => .ref h
theorem Reps.poke {p : Addr} {o u : HO} (hp : H p = some o) (mu : Mut (some o)) : ∀ {vs : List V} {ds : List D}, Reps G r H vs ds → Reps G r (upd H p u) vs ds
  | _, _, .nil => .nil
  | _, _, .cons h t => .cons (Rep.poke hp mu h) (Reps.poke hp mu t)
end
theorem ObAt.poke {p a : Addr} {o u : HO} {ob : Ob} (hp : H p = some o) (mu : Mut (some o)) (ne : a ≠ p) (h : ObAt G r H a ob) : ObAt G r (upd H p u) a ob := by
  cases ob with
  | lst ds => obtain ⟨vs, h, q⟩ := h; exact ⟨vs, by rw [upd_ne ne]; exact h, q.poke hp mu⟩
  | dct kvs =>
    rcases h with ⟨ws, h, q, p, n⟩ | ⟨z, rows, h, q, y, p, p2, n⟩
    · exact .inl ⟨ws, by rw [upd_ne ne]; exact h, q, p.poke hp mu, n⟩
    · exact .inr ⟨z, rows, by rw [upd_ne ne]; exact h, q, y, p.poke hp mu, p2.poke hp mu, n⟩
  | ins c ds => obtain ⟨dx, fs, h, q, p⟩ := h; exact ⟨dx, fs, by rw [upd_ne ne]; exact h, q, p.poke hp mu⟩
  | lck kvs => obtain ⟨o, ws, h, q, p, n⟩ := h; exact ⟨o, ws, by rw [upd_ne ne]; exact h, q, p.poke hp mu, n⟩
theorem Sim.poke {p : Addr} {o u : HO} {S : Sto} (hp : H p = some o) (mu : Mut (some o)) (np : p ∉ r) (s : Sim G r H S) : Sim G r (upd H p u) S :=
  ⟨s.len, s.nd, fun n a ob h1 h2 => (s.at_ n a ob h1 h2).poke hp mu fun e => np (by rw [← e]; exact List.mem_of_getElem? h1)⟩
theorem EnvR.poke {p : Addr} {o u : HO} {σ : L2.St} {env : Env} (hp : H p = some o) (mu : Mut (some o)) (h : EnvR G r H σ env) : EnvR G r (upd H p u) σ env :=
  ⟨h.len, fun i d q => let ⟨v, a, b⟩ := h.at_ i d q; ⟨v, a, b.poke hp mu⟩⟩
/-- from before the list was made -/
theorem Ext.poke {r0 : List Addr} {H0 : Hp} {p : Addr} {u : HO} (e : Ext r0 H0 r H) (h0 : H0 p = none) : Ext r0 H0 r (upd H p u) := by
  refine ⟨⟨e.pre, fun a w h n => ?_, fun a w h => ?_⟩, fun a o w h => ?_⟩
  · obtain ⟨k1, k2⟩ := e.keep a w h n
    exact ⟨by rw [upd_ne (ne_of_none h h0)]; exact k1, k2⟩
  · obtain ⟨w', k⟩ := e.there a w h
    exact ⟨w', by rw [upd_ne (ne_of_none h h0)]; exact k⟩
  · rw [upd_ne (ne_of_none h h0)]; exact e.frz a o w h
end
def lcGo (src : Src) (t : Tg) (c : BX) (m : EX) : Nat → Nat → Env → Sto → List D → Rs Rv
  | 0, _, _, _, _ => .bad
  | f + 1, i, env, S, acc => match src.get i S with
    | none => .bad
    | some none => .ok (.fr (.lst acc)) S
    | some (some d) => match t.bind d env with
      | none => .bad
      | some env' => match c env' S with
        | .ok true S1 => match eTo m env' S1 with
          | .ok (.va y) S2 => if acc.length < sizeLine then lcGo src t c m f (i + 1) env S2 (acc ++ [y]) else .bad
          | _ => .bad
        | .ok false S1 => lcGo src t c m f (i + 1) env S1 acc
        | _ => .bad
def bYes : BX := fun _ S => .ok true S
def eLc (it : IX) (t : Tg) (own : List Nat) (c : BX) (m : EX) : EX := fun env S => (it env S).bind fun src S1 => lcGo src t c m (src.len + 1) 0 (kill own env) S1 []
section
variable {X : Cx} {cA : Nat → Addr} {fN : Nat → List Str} {W : WX} {pos : Pos}
theorem cs_nil {Y : Cx} : PTs Y [] (TTI (GX X cA fN) W0 bYes) := ⟨fun pins s σ H Q I h => pts_nil.run pins s σ H Q I (by
  obtain ⟨r, S, env, he, hs, hp⟩ := h
  exact hp true r H (Ext.refl r H) hs rfl)⟩
theorem lc_of {it : IX} {t : Tg} {g : TG} {us : List Nat} {c : BX} {m : EX} (T : TgOk X t g) (hu : ∀ i ∈ t.slots, i ∈ us) {σ : L2.St} {H : Hp} {Q : VK} (h : TI (GX X cA fN) W (eLc it t us c m) σ H Q) :
    tLc (TII (GX X cA fN) W it) g (TTI (GX X cA fN) W0 c) (TI (GX X cA fN) W0 m) us σ H Q := by
  obtain ⟨r, S, env, he, hs, hp⟩ := h
  refine ⟨r, S, env, he, hs, Post.bind hp fun src S1 J r1 H1 e1 s1 q1 z => ?_⟩
  intro Dl hD
  refine ⟨fun i f H2 => ∃ r2 S2 acc vs, Ext r1 H1 r2 H2 ∧ Sim (GX X cA fN) r2 H2 S2 ∧ H2 Dl = some (.lst vs) ∧ Dl ∉ r2 ∧ Reps (GX X cA fN) r2 H2 vs acc ∧ Post (GX X cA fN) W σ r H (RV (GX X cA fN) H) Q (lcGo src t c m f i (kill us env) S2 acc), ⟨src.len + 1, r1, S1, [], [], Ext.new hD, ?_, upd_same, ?_, .nil, z⟩, ?_⟩
  · exact s1.stays (fun a o h => by rw [upd_ne (ne_of_none h hD)]; exact h) (Ext.new hD)
  · intro hm
    obtain ⟨n, hn⟩ := List.mem_iff_getElem?.mp hm
    have hl : n < S1.length := by rw [← s1.len]; exact (List.getElem?_eq_some_iff.mp hn).1
    obtain ⟨u, hu, _⟩ := (s1.at_ n Dl _ hn (List.getElem?_eq_getElem hl)).mut
    rw [hD] at hu
    cases hu
  rintro i f H2 ⟨r2, S2, acc, vs, x2, s2, hD2, nD2, ra, z2⟩
  have hew : EnvR (GX X cA fN) r2 H2 (wipe σ us) (kill us env) := kill_wipe (he.ext (e1.trans x2)) us
  cases f with
  | zero => exact z2.elim
  | succ f =>
    unfold lcGo at z2
    obtain ⟨g1, g2⟩ := q1 r2 H2 S2 i x2 s2
    cases eg : src.get i S2 with
    | none => rw [eg] at z2; exact z2.elim
    | some od =>
      cases od with
      | none =>
        rw [eg] at z2
        exact .inl ⟨g2 eg, z2 (.ref Dl) r2 H2 (e1.trans x2) s2 ⟨Dl, rfl, e1.back hD, nD2, vs, hD2, ra⟩⟩
      | some d =>
        rw [eg] at z2
        dsimp only at z2
        obtain ⟨go, yl⟩ := g1 d eg
        refine .inr ⟨go, fun H' => ∃ r' S' acc vs, Ext r1 H1 r' H' ∧ Sim (GX X cA fN) r' H' S' ∧ H' Dl = some (.lst vs) ∧ Dl ∉ r' ∧ Reps (GX X cA fN) r' H' vs acc ∧ Post (GX X cA fN) W σ r H (RV (GX X cA fN) H) Q (lcGo src t c m f (i + 1) (kill us env) S' acc), fun H' q => ⟨f, Nat.lt_succ_self f, q⟩, fun x H3 y => ?_⟩
        obtain ⟨x3, s3, q3⟩ := yl x H3 y
        cases eb : t.bind d (kill us env) with
        | none => rw [eb] at z2; exact z2.elim
        | some env3 =>
          rw [eb] at z2
          dsimp only at z2
          refine T.run cA fN r2 H3 (wipe σ us) (kill us env) env3 x d _ (hew.ext x3) q3 eb fun σ3 he3 hw => ⟨(hw us hu).trans (wipe_wipe σ us), r2, S2, env3, he3, s3, ?_⟩
          cases ec : c env3 S2 with
          | err c ds S' => rw [ec] at z2; exact z2.elim
          | bad => rw [ec] at z2; exact z2.elim
          | ok b S4 =>
            rw [ec] at z2
            intro b' r4 H4 e4 s4 hb
            subst hb
            have x4 := x3.trans e4
            cases b' with
            | false =>
              simp only [Bool.false_eq_true, if_false]
              dsimp only at z2
              exact ⟨r4, S4, acc, vs, x2.trans x4, s4, (x4.keep _ _ hD2 nD2).1, (x4.keep _ _ hD2 nD2).2, ra.ext x4, z2⟩
            | true =>
              simp only [if_true]
              dsimp only at z2
              refine TI.to ⟨r4, S4, env3, he3.ext e4, s4, ?_⟩
              cases em : eTo m env3 S4 with
              | err c ds S' => rw [em] at z2; exact z2.elim
              | bad => rw [em] at z2; exact z2.elim
              | ok yv S5 =>
                rw [em] at z2
                cases yv with
                | fr o => exact z2.elim
                | va yd =>
                  dsimp only at z2
                  intro y' r5 H5 e5 s5 q5
                  have x5 := x4.trans e5
                  have k := x5.keep _ _ hD2 nD2
                  by_cases hz : acc.length < sizeLine
                  · rw [if_pos hz] at z2
                    have ra5 := ra.ext x5
                    refine ⟨vs, k.1, by rw [ra5.length]; exact hz, r5, S5, acc ++ [yd], vs ++ [y'], (x2.trans x5).poke hD, s5.poke k.1 trivial k.2, upd_same, k.2, (ra5.append (.cons q5 .nil)).poke k.1 trivial, z2⟩
                  · rw [if_neg hz] at z2
                    exact z2.elim
theorem i_lc {elt tg iter : Expr} {ifs : List Expr} {scope : Scope} {own : List (Str × Nat)} {it : IX} {t : Tg} {g : TG} {c : BX} {m : EX} (T : TgOk X t g) (hu : ∀ i ∈ t.slots, i ∈ own.map (·.2)) (hc : X.calm = true) (hN : X.N.Nodup)
    (hi : PI X tg iter (TII (GX X cA fN) W it)) (ok : BlkOk X.N X.env.scope scope own)
    (hg : ∀ (s : Shared) (H : Hp) (C : Addr) (cl : List (Str × Addr)) (fp : List Addr), PG (X.blk s H scope (compEnvC scope cl C X.env) fp) tg g)
    (ht : ∀ (s : Shared) (H : Hp) (C : Addr) (cl : List (Str × Addr)) (fp : List Addr), PTs (X.blk s H scope (compEnvC scope cl C X.env) fp) ifs (TTI (GX X cA fN) W0 c))
    (he : ∀ (s : Shared) (H : Hp) (C : Addr) (cl : List (Str × Addr)) (fp : List Addr), PE (X.blk s H scope (compEnvC scope cl C X.env) fp) elt (TI (GX X cA fN) W0 m)) (hs : ∀ x, foldedSetIterable iter X.env x = pure x := by intro _; rfl) :
    PE X (.ListComp elt [⟨tg, iter, ifs, 0⟩] scope pos) (TI (GX X cA fN) W (eLc it t (own.map (·.2)) c m)) := (pe_lc hc hN hi ok hg ht he hs).mono fun _ _ _ h => lc_of T hu h
def ixL (m : EX) : IX := fun env S => (m env S).bind fun x S1 => match x with
  | .va (.ref n) => match S1[n]? with
    | some (.lst ds) => .ok (.live n ds.length) S1
    | _ => .bad
  | .fr (.lst ds) => .ok (.fix ds) S1
  | .va (.frl ds) => .ok (.fix ds) S1
  | _ => .bad
theorem jok_fix {G : Cfg} {r0 : List Addr} {H0 : Hp} {a : Addr} {vs : List V} {ds : List D} (q : Reps G r0 H0 vs ds) (st : ∀ r H, Ext r0 H0 r H → SqL G.K H a vs) : JOk G r0 H0 (Itl G.K a) (.fix ds) := by
  intro r H S i e s
  have h1 := st r H e
  have q' := q.ext e
  refine ⟨fun d hd => ?_, fun hd => ?_⟩
  · have hd' : ds[i]? = some d := Option.some.inj hd
    obtain ⟨v, hv, rv⟩ := q'.get hd'
    refine ⟨⟨vs, v, h1, hv⟩, fun x H' y => ?_⟩
    obtain ⟨rfl, y⟩ := y
    have := y vs h1
    rw [hv] at this
    cases this
    exact ⟨Ext.refl _ _, s, rv⟩
  · have hd' : ds[i]? = none := Option.some.inj hd
    exact ⟨vs, h1, by rw [q'.length]; exact List.getElem?_eq_none_iff.mp hd'⟩
theorem jok_live {G : Cfg} {r0 : List Addr} {H0 : Hp} {a : Addr} {n l : Nat} (ha : r0[n]? = some a) : JOk G r0 H0 (Itl G.K a) (.live n l) := by
  intro r H S i e s
  have ha' := e.at_ ha
  have key : ∀ od, Src.get (.live n l) i S = some od → ∃ ds vs, S[n]? = some (.lst ds) ∧ od = ds[i]? ∧ H a = some (.lst vs) ∧ Reps G r H vs ds := fun od h => by
    have h : (match S[n]? with | some (.lst ds) => some ds[i]? | _ => none) = some od := h
    cases e1 : S[n]? with
    | none => rw [e1] at h; cases h
    | some o =>
      rw [e1] at h
      cases o with
      | lst ds =>
        obtain ⟨vs, h1, h2⟩ := s.at_ n a _ ha' e1
        exact ⟨ds, vs, rfl, (Option.some.inj h).symm, h1, h2⟩
      | dct kvs => cases h
      | lck _ => cases h
      | ins c ds => cases h
  refine ⟨fun d hd => ?_, fun hd => ?_⟩
  · obtain ⟨ds, vs, h1, h2, h3, h4⟩ := key _ hd
    obtain ⟨v, hv, rv⟩ := h4.get h2.symm
    refine ⟨⟨vs, v, SqL.of h3, hv⟩, fun x H' y => ?_⟩
    obtain ⟨rfl, y⟩ := y
    have := y vs (SqL.of h3)
    rw [hv] at this
    cases this
    exact ⟨Ext.refl _ _, s, rv⟩
  · obtain ⟨ds, vs, h1, h2, h3, h4⟩ := key _ hd
    exact ⟨vs, SqL.of h3, by rw [h4.length]; exact List.getElem?_eq_none_iff.mp h2.symm⟩
variable {iter tg : Expr} {m : EX}
theorem x_list (h : PE X iter (TI (GX X cA fN) W m)) : PI X tg iter (TII (GX X cA fN) W (ixL m)) := (pi_list h).mono fun σ H R h => by
  obtain ⟨r, S, env, he, hs, hp⟩ := h
  refine ⟨r, S, env, he, hs, Post.bind hp fun x S1 v r1 H1 e1 s1 q1 z => ?_⟩
  cases x with
  | fr o =>
    cases o with
    | lst ds =>
      obtain ⟨a, rfl, _, na, vs, hv, rv⟩ := q1
      refine ⟨a, rfl, ⟨vs, SqL.of hv⟩, z (Itl X.K a) r1 H1 e1 s1 (jok_fix (vs := vs) rv fun r2 H2 e2 => ?_)⟩
      exact SqL.of (e2.keep _ _ hv na).1
    | dct kvs => exact z.elim
    | lck _ => exact z.elim
    | ins c ds => exact z.elim
  | va d =>
    cases d with
    | ref n =>
      dsimp only at z
      cases e2 : S1[n]? with
      | none => rw [e2] at z; exact z.elim
      | some o =>
        rw [e2] at z
        cases o with
        | lst ds =>
          obtain ⟨a, rfl, ha, vs, hv, rv⟩ := s1.get q1 e2
          exact ⟨a, rfl, ⟨vs, SqL.of hv⟩, z (Itl X.K a) r1 H1 e1 s1 (jok_live ha)⟩
        | dct kvs => exact z.elim
        | lck _ => exact z.elim
        | ins c ds => exact z.elim
    | frl ds =>
      cases q1 with
      | frl h q =>
        rename_i a vs
        have hq : ∀ r2 H2, Ext r1 H1 r2 H2 → SqL X.K H2 a vs := fun r2 H2 e2 => by
          rcases h with ⟨⟨o, h⟩, na⟩ | h
          · exact .inl (.inr ⟨o, (e2.keep _ _ h na).1⟩)
          · exact h H2
        exact ⟨a, rfl, ⟨_, hq r1 H1 (Ext.refl _ _)⟩, z (Itl X.K a) r1 H1 e1 s1 (jok_fix (vs := vs) q hq)⟩
    | _ => exact z.elim
def rangeD (lo hi : Int) : List D := (List.range (hi - lo).toNat).map fun (i : Nat) => .int (lo + (i : Int))
def small62 (i : Int) : Bool := decide (i.natAbs < 4611686018427387904)
theorem small62_ok {i : Int} (h : small62 i = true) : -(2 ^ 62) ≤ i ∧ i < 2 ^ 62 := by
  have h' : i.natAbs < 4611686018427387904 := of_decide_eq_true h
  omega
theorem jok_range {G : Cfg} {r0 : List Addr} {H0 : Hp} (lo hi : Int) : JOk G r0 H0 (Itr lo (hi - lo).toNat) (.fix (rangeD lo hi)) := by
  intro r H S i e s
  refine ⟨fun d hd => ?_, fun hd => ?_⟩
  · have hd' : (rangeD lo hi)[i]? = some d := Option.some.inj hd
    have hi' : i < (hi - lo).toNat := by simpa [rangeD] using (List.getElem?_eq_some_iff.mp hd').1
    have hv : d = .int (lo + (i : Int)) := by
      unfold rangeD at hd'
      rw [List.getElem?_map, List.getElem?_range hi'] at hd'
      exact (Option.some.inj hd').symm
    refine ⟨hi', fun x H' y => ?_⟩
    obtain ⟨rfl, rfl⟩ := y
    exact ⟨Ext.refl _ _, s, by rw [hv]; exact .int _⟩
  · have hd' : (rangeD lo hi)[i]? = none := Option.some.inj hd
    have := List.getElem?_eq_none_iff.mp hd'
    show (hi - lo).toNat ≤ i
    simpa [rangeD] using this
def ixR1 (m : EX) : IX := fun env S => (m env S).bind fun x S1 => match x with
  | .va (.int i) => if small62 i = true then .ok (.fix (rangeD 0 i)) S1 else .bad
  | _ => .bad
theorem ta_one {G : Cfg} {σ : L2.St} {H : Hp} {Q : List V → Hp → Prop} (h : TI G W m σ H fun v H1 => Q [v] H1) : tCons (TI G W m) tNil σ H Q := h
theorem x_range1 {a : Expr} {p : Pos} (hm : X.mg "range" = none) (ha : PE X a (TI (GX X cA fN) W m)) (hg : Gl X "range" := by rfl) (hs : starEach [a] X.env = [(false, eval a X.env)] := by rfl) :
    PI X tg (.Call (.Name "range" p) [a] [] pos) (TII (GX X cA fN) W (ixR1 m)) := (pi_range1 hg hm (pa_cons ha pa_nil hs) hs).mono fun σ H R h => by
  obtain ⟨r, S, env, he, hs, hp⟩ := h
  refine ta_one ⟨r, S, env, he, hs, Post.bind hp fun x S1 v r1 H1 e1 s1 q1 z => ?_⟩
  cases x with
  | fr o => exact z.elim
  | va d =>
    cases d with
    | int i =>
      cases q1
      dsimp only at z
      by_cases hb : small62 i = true
      · rw [if_pos hb] at z
        obtain ⟨b1, b2⟩ := small62_ok hb
        refine ⟨i, rfl, b1, b2, ?_⟩
        have e0 : (i - 0).toNat = i.toNat := by rw [Int.sub_zero]
        rw [← e0]
        exact z _ r1 H1 e1 s1 (jok_range 0 i)
      · rw [if_neg hb] at z
        exact z.elim
    | _ => exact z.elim
def fnOf (n ar : Nat) (body : SM) : FI := fun ds S => match body (ds.map some ++ List.replicate (n - ar) none) S with
  | .nx _ S' => .ok (.va .non) S'
  | .ret x S' => .ok x S'
  | .err _ c fs S' => .err c fs S'
  | _ => .bad
/-- nothing is let out -/
def noErr (f : FI) : FI := fun ds S => match f ds S with
  | .ok x S' => .ok x S'
  | _ => .bad
mutual
def eqDD : D → D → Bool
  | .non, .non => true
  | .bl a, .bl b => decide (a = b)
  | .int a, .int b => decide (a = b)
  | .str a, .str b => decide (a = b)
  | .tup a, .tup b => eqDs a b
  | .frl a, .frl b => eqDs a b
  | .obj c a, .obj d b => decide (c = d) && eqDs a b
  | .exn c a, .exn d b => decide (c = d) && eqDs a b
  | .ref a, .ref b => decide (a = b)
  | _, _ => false
def eqDs : List D → List D → Bool
  | [], [] => true
  | a :: r, b :: t => eqDD a b && eqDs r t
  | _, _ => false
end
mutual
theorem eqDD_of : ∀ {a b : D}, eqDD a b = true → a = b
  | .non, b, h => by cases b <;> first | rfl | cases h
  | .bl a, b, h => by cases b <;> first | (cases h; done) | exact congrArg _ (of_decide_eq_true h)
  | .int a, b, h => by cases b <;> first | (cases h; done) | exact congrArg _ (of_decide_eq_true h)
  | .str a, b, h => by cases b <;> first | (cases h; done) | exact congrArg _ (of_decide_eq_true h)
  | .frl a, b, h => by cases b <;> first | (cases h; done) | exact congrArg _ (eqDs_of h)
  | .obj c a, b, h => by
    cases b <;> first | (cases h; done) | skip
    have h' := Bool.and_eq_true_iff.mp h
    rw [of_decide_eq_true h'.1, eqDs_of h'.2]
  | .exn c a, b, h => by
    cases b <;> first | (cases h; done) | skip
    have h' := Bool.and_eq_true_iff.mp h
    rw [of_decide_eq_true h'.1, eqDs_of h'.2]
  | .ref a, b, h => by cases b <;> first | (cases h; done) | exact congrArg _ (of_decide_eq_true h)
  | .tup a, b, h => by cases b <;> first | (cases h; done) | exact congrArg _ (eqDs_of h)
theorem eqDs_of : ∀ {a b : List D}, eqDs a b = true → a = b
  | [], [], _ => rfl
  | [], _ :: _, h => by cases h
  | _ :: _, [], h => by cases h
  | a :: r, b :: t, h => by
    have h' := Bool.and_eq_true_iff.mp h
    rw [eqDD_of h'.1, eqDs_of h'.2]
end
mutual
theorem eqDD_refl : ∀ a : D, eqDD a a = true
  | .non => rfl
  | .bl a => decide_eq_true rfl
  | .int a => decide_eq_true rfl
  | .str a => decide_eq_true rfl
  | .frl a => eqDs_refl a
  | .obj c a => by
    show (decide (c = c) && eqDs a a) = true
    rw [eqDs_refl, decide_eq_true rfl]; rfl
  | .exn c a => by
    show (decide (c = c) && eqDs a a) = true
    rw [eqDs_refl, decide_eq_true rfl]; rfl
  | .ref a => decide_eq_true rfl
  | .tup a => eqDs_refl a
theorem eqDs_refl : ∀ a : List D, eqDs a a = true
  | [] => rfl
  | a :: r => by
    show (eqDD a a && eqDs r r) = true
    rw [eqDD_refl a, eqDs_refl r]; rfl
end
def eqOb : Ob → Ob → Bool
  | .lst a, .lst b => eqDs a b
  | .dct a, .dct b => eqDs (a.map (·.1)) (b.map (·.1)) && eqDs (a.map (·.2)) (b.map (·.2))
  | .ins c a, .ins d b => decide (c = d) && eqDs a b
  | .lck a, .lck b => eqDs (a.map (·.1)) (b.map (·.1)) && eqDs (a.map (·.2)) (b.map (·.2))
  | _, _ => false
theorem pairs_eq : ∀ {a b : List (D × D)}, a.map (·.1) = b.map (·.1) → a.map (·.2) = b.map (·.2) → a = b
  | [], [], _, _ => rfl
  | [], _ :: _, h, _ => by simp at h
  | _ :: _, [], h, _ => by simp at h
  | (x, y) :: a, (z, w) :: b, h, k => by
    simp at h k
    rw [h.1, k.1, pairs_eq h.2 k.2]
theorem eqOb_of : ∀ {a b : Ob}, eqOb a b = true → a = b
  | .lst a, b, h => by cases b <;> first | (cases h; done) | exact congrArg _ (eqDs_of h)
  | .dct a, b, h => by
    cases b <;> first | (cases h; done) | skip
    have h' := Bool.and_eq_true_iff.mp h
    exact congrArg _ (pairs_eq (eqDs_of h'.1) (eqDs_of h'.2))
  | .ins c a, b, h => by
    cases b <;> first | (cases h; done) | skip
    have h' := Bool.and_eq_true_iff.mp h
    rw [of_decide_eq_true h'.1, eqDs_of h'.2]
  | .lck a, b, h => by
    cases b <;> first | (cases h; done) | skip
    have h' := Bool.and_eq_true_iff.mp h
    exact congrArg _ (pairs_eq (eqDs_of h'.1) (eqDs_of h'.2))
theorem eqOb_refl : ∀ a : Ob, eqOb a a = true
  | .lst a => eqDs_refl a
  | .dct a => by
    show (eqDs _ _ && eqDs _ _) = true
    rw [eqDs_refl, eqDs_refl]; rfl
  | .ins c a => by
    show (decide (c = c) && eqDs _ _) = true
    rw [eqDs_refl, decide_eq_true rfl]; rfl
  | .lck a => by
    show (eqDs _ _ && eqDs _ _) = true
    rw [eqDs_refl, eqDs_refl]; rfl
def eqSto : Sto → Sto → Bool
  | [], [] => true
  | a :: r, b :: t => eqOb a b && eqSto r t
  | _, _ => false
theorem eqSto_of : ∀ {a b : Sto}, eqSto a b = true → a = b
  | [], [], _ => rfl
  | [], _ :: _, h => by cases h
  | _ :: _, [], h => by cases h
  | a :: r, b :: t, h => by
    have h' := Bool.and_eq_true_iff.mp h
    rw [eqOb_of h'.1, eqSto_of h'.2]
theorem eqSto_refl : ∀ a : Sto, eqSto a a = true
  | [] => rfl
  | a :: r => by
    show (eqOb a a && eqSto r r) = true
    rw [eqOb_refl, eqSto_refl r]; rfl
/-- what nobody can reach any more is dropped -/
def cutB (S S' : Sto) : Bool := eqSto (S'.take S.length) S || (S'.take S.length).all fun o => o.und S.length
def okCut (S S' : Sto) : Prop := S'.take S.length = S ∨ ∀ o ∈ S'.take S.length, o.und S.length = true
theorem cutB_ok {S S' : Sto} (h : cutB S S' = true) : okCut S S' := by
  unfold cutB at h
  rw [Bool.or_eq_true] at h
  rcases h with h | h
  · exact .inl (eqSto_of h)
  · exact .inr fun o ho => by
      have := List.all_eq_true.mp h o ho
      exact this
def clean (f : FI) : FI := fun ds S => match f ds S with
  | .ok (.va d) S' => if (cutB S S' && d.und S.length) = true then .ok (.va d) (S'.take S.length) else
      match d with
      | .ref n => match S'[n]? with
        | some o => if (cutB S S' && (decide (S.length ≤ n) && o.und S.length)) = true then .ok (.fr o) (S'.take S.length) else .ok (.va d) S'
        | none => .ok (.va d) S'
      | _ => .ok (.va d) S'
  | .ok (.fr o) S' => if (cutB S S' && o.und S.length) = true then .ok (.fr o) (S'.take S.length) else .ok (.fr o) S'
  | .err c ds S' => if (cutB S S' && D.unds S.length ds) = true then .err c ds (S'.take S.length) else .err c ds S'
  | .bad => .bad
end
section
variable {G : Cfg} {r : List Addr} {H : Hp} {S : Sto}
theorem cut_sim {r1 : List Addr} {H1 : Hp} {S1 : Sto} (s : Sim G r H S) (e : Ext r H r1 H1) (s1 : Sim G r1 H1 S1) (k : okCut S S1) : Sim G r H1 (S1.take S.length) ∧ Ext r H r H1 := by
  obtain ⟨l, hl⟩ := e.pre
  have hlen : S.length ≤ S1.length := by
    have a := s1.len
    rw [hl, List.length_append, s.len] at a
    omega
  have hu : ∀ o ∈ S1.take S.length, o.und r.length = true := by
    rw [s.len]
    rcases k with k | k
    · rw [k]; exact s.und
    · exact k
  refine ⟨⟨by rw [List.length_take, s.len]; omega, s.nd, fun n a o h1 h2 => ?_⟩, ⟨⟨⟨[], by simp⟩, fun a o h n => ⟨(e.keep a o h n).1, n⟩, e.there⟩, e.frz⟩⟩
  have hn : n < S.length := by rw [← s.len]; exact (List.getElem?_eq_some_iff.mp h1).1
  have h3 : S1[n]? = some o := by
    rw [List.getElem?_take_of_lt hn] at h2
    exact h2
  have h4 := s1.at_ n a o (e.at_ h1) h3
  rw [hl] at h4
  exact h4.cut (hu o (List.mem_of_getElem? h2))
theorem clean_post {E : XK} {Q : VK} {f : FI} {ds : List D} (s : Sim G r H S) (h : postF G E r H Q (clean f ds S)) : postF G E r H Q (f ds S) := by
  unfold clean at h
  cases ef : f ds S with
  | bad => rw [ef] at h; exact h
  | err c fs S1 =>
    rw [ef] at h
    dsimp only at h
    split at h
    · rename_i k
      have k := Bool.and_eq_true_iff.mp k
      have k := And.intro (cutB_ok k.1) k.2
      intro cls oe r1 H1 e1 s1 q1
      obtain ⟨s2, e2⟩ := cut_sim s e1 s1 k.1
      obtain ⟨l, hl⟩ := e1.pre
      refine h cls oe r H1 e2 s2 ⟨q1.1, ?_⟩
      rcases q1.2 with q | ⟨d, fv, q2, q3, q4, q5, q6⟩
      · exact .inl q
      · subst hl
        exact .inr ⟨d, fv, q2, q3, fun z => q4 (List.mem_append_left _ z), q5, q6.cut (by rw [s.len]; exact k.2)⟩
    · exact h
  | ok x S1 =>
    rw [ef] at h
    cases x with
    | fr o =>
      dsimp only at h
      split at h
      · rename_i k
        have k := Bool.and_eq_true_iff.mp k
        have k := And.intro (cutB_ok k.1) k.2
        intro v r1 H1 e1 s1 q1
        obtain ⟨s2, e2⟩ := cut_sim s e1 s1 k.1
        obtain ⟨l, hl⟩ := e1.pre
        subst hl
        obtain ⟨a, h1, h2, h3, h4⟩ := q1
        exact h v r H1 e2 s2 ⟨a, h1, h2, fun z => h3 (List.mem_append_left _ z), h4.cut (by rw [s.len]; exact k.2)⟩
      · exact h
    | va d =>
      dsimp only at h
      split at h
      · rename_i k
        have k := Bool.and_eq_true_iff.mp k
        have k := And.intro (cutB_ok k.1) k.2
        intro v r1 H1 e1 s1 q1
        obtain ⟨s2, e2⟩ := cut_sim s e1 s1 k.1
        obtain ⟨l, hl⟩ := e1.pre
        subst hl
        exact h v r H1 e2 s2 (Rep.cut q1 (by rw [s.len]; exact k.2))
      · cases d with
        | ref n =>
          dsimp only at h
          cases en : S1[n]? with
          | none => rw [en] at h; exact h
          | some o =>
            rw [en] at h
            dsimp only at h
            split at h
            · rename_i k
              have k := Bool.and_eq_true_iff.mp k
              have k := And.intro (cutB_ok k.1) k.2
              intro v r1 H1 e1 s1 q1
              have k := And.intro k.1 (And.intro (of_decide_eq_true (Bool.and_eq_true_iff.mp k.2).1) (Bool.and_eq_true_iff.mp k.2).2)
              obtain ⟨s2, e2⟩ := cut_sim s e1 s1 k.1
              obtain ⟨a, rfl, ha, hob⟩ := s1.get q1 en
              obtain ⟨l, hl⟩ := e1.pre
              subst hl
              have na : a ∉ r := fun z => by
                obtain ⟨m, hm⟩ := List.mem_iff_getElem?.mp z
                have hm' : m < r.length := (List.getElem?_eq_some_iff.mp hm).1
                have hm2 : (r ++ l)[m]? = some a := by rw [List.getElem?_append_left hm']; exact hm
                have e := Sim.wr.nodup_at s1.nd hm2 ha
                have := s.len
                omega
              refine h (.ref a) r H1 e2 s2 ⟨a, rfl, ?_, na, hob.cut (by rw [s.len]; exact k.2.2)⟩
              cases eH : H a with
              | none => rfl
              | some u => exact absurd (List.mem_of_getElem? ha) (e1.keep a u eH na).2
            · exact h
        | _ => exact h
end
section
variable {P : Program} {w : World} {K : PySem.W.Frag} {mg : Str → Option Value} {base : Heap} {cA : Nat → Addr} {fN : Nat → List Str} {x qual : Str} {params : Arguments} {body : List Stmt} {scope : Scope} {dvs : List V} {kws : List (Str × V)} {f : Addr} {fd : FuncData} {N ps : List Str} {k : Nat}
theorem start_env {G : Cfg} {r : List Addr} {H : Hp} {vs : List V} {ds : List D} (q : Reps G r H vs ds) (n : Nat) : EnvR G r H (vs.map some ++ List.replicate n none) (ds.map some ++ List.replicate n none) := by
  refine ⟨by simp [q.length], fun i d e => ?_⟩
  have hl := q.length
  by_cases hi : i < ds.length
  · rw [List.getElem?_append_left (by simpa using hi), List.getElem?_map] at e
    cases ed : ds[i]? with
    | none => rw [ed] at e; cases e
    | some d' =>
      rw [ed] at e
      cases e
      obtain ⟨v, hv, rv⟩ := q.get ed
      exact ⟨v, by rw [List.getElem?_append_left (by simp; omega), List.getElem?_map, hv]; rfl, rv⟩
  · rw [List.getElem?_append_right (by simp; omega), List.getElem?_replicate] at e
    split at e <;> cases e
/-- a def that lets nothing out -/
theorem fn0 {sm : SM} (F : FunD K x qual params body scope dvs kws f fd) (S : FnScope N ps scope)
    (hb : ∀ (cdv : Value) (A : Around) (outer : List PySem.Env) (s : Shared) (H : Hp) (E : XK), Room k (A.deeper (PyProof.Rows.envOfC qual scope s.heap.objs.size f cdv)) →
      PSs (cxOf CX0 P w K mg base N qual scope f cdv A outer s H E).nox body (TSI ⟨K, cA, fN, P, w⟩ W0 sm)) : FnOk P w K mg base CX0 (k + 1) f fd ps (spI ⟨K, cA, fN, P, w⟩ ps.length (clean (noErr (fnOf N.length ps.length sm)))) := by
  refine F.ok S (fun vs H Q E h => h.1) fun cdv A outer s H vs Q E hr h => ⟨_, (hb cdv A outer s H E hr).nox, ?_⟩
  obtain ⟨hl, r, S0, ds, hs, hq, hp⟩ := h
  have hp := clean_post hs hp
  unfold noErr fnOf at hp
  unfold L2.start
  rw [hl]
  refine ⟨r, S0, _, start_env hq _, hs, ?_⟩
  cases em : sm (ds.map some ++ List.replicate (N.length - ps.length) none) S0 with
  | nx env S' => rw [em] at hp; exact fun σ' r' H' e he s => hp .non r' H' e s .non
  | ret y S' => rw [em] at hp; exact fun v r' H' e s q => hp v r' H' e s q
  | brk env S' => rw [em] at hp; exact hp.elim
  | ct env S' => rw [em] at hp; exact hp.elim
  | err env c ds S' => rw [em] at hp; exact hp.elim
  | bad => rw [em] at hp; exact hp.elim
end
def unva : List Rv → Option (List D)
  | [] => some []
  | .va d :: r => (unva r).map (d :: ·)
  | .fr _ :: _ => none
theorem unva_ok {G : Cfg} {r : List Addr} {H0 H : Hp} : ∀ {xs : List Rv} {vs : List V} {ds : List D}, RepRs G r H0 H vs xs → unva xs = some ds → Reps G r H vs ds
  | _, _, _, .nil, e => by cases e; exact .nil
  | _, _, _, .cons (x := .va d) (xs := xs) h t, e => by
    unfold unva at e
    cases eu : unva xs with
    | none => rw [eu] at e; cases e
    | some ds' =>
      rw [eu] at e
      cases e
      exact .cons h (unva_ok t eu)
  | _, _, _, .cons (x := .fr o) h t, e => by cases e
def eCall (f : FI) (ms : List EX) (dds : List D) : EX := fun env S => (eArgs ms env S).bind fun xs S1 => match unva xs with
  | some ds => f (ds ++ dds) S1
  | none => .bad
theorem args_len {ms : List EX} {env : Env} : ∀ {S S1 : Sto} {xs : List Rv}, eArgs ms env S = .ok xs S1 → xs.length = ms.length := by
  induction ms with
  | nil => intro S S1 xs h; cases h; rfl
  | cons m ms ih =>
    intro S S1 xs h
    unfold eArgs at h
    cases e1 : m env S with
    | ok x S2 =>
      rw [e1] at h
      cases e2 : eArgs ms env S2 with
      | ok ys S3 =>
        rw [Rs.bind_ok, e2] at h
        cases h
        rw [List.length_cons, List.length_cons, ih e2]
      | err c ds S3 => rw [Rs.bind_ok, e2] at h; cases h
      | bad => rw [Rs.bind_ok, e2] at h; cases h
    | err c ds S2 => rw [e1] at h; cases h
    | bad => rw [e1] at h; cases h
theorem Post.bindE {G : Cfg} {W : WX} {σ : L2.St} {r : List Addr} {H : Hp} {α β γ δ : Type} {R1 : List Addr → Hp → β → α → Prop} {R2 : List Addr → Hp → δ → γ → Prop} {Q1 : β → Hp → Prop} {Q2 : δ → Hp → Prop} {m : Rs α} {k : α → Sto → Rs γ} (h : Post G W σ r H R2 Q2 (m.bind k))
    (step : ∀ x S1 v r1 H1, m = .ok x S1 → Ext r H r1 H1 → Sim G r1 H1 S1 → R1 r1 H1 v x → Post G W σ r H R2 Q2 (k x S1) → Q1 v H1) : Post G W σ r H R1 Q1 m := by
  cases m with
  | ok x S => exact fun v r' H' e s q => step x S v r' H' rfl e s q h
  | err c ds S => exact h
  | bad => exact h
theorem Reps.dvs {G : Cfg} {dvs : List V} {dds : List D} (h : ∀ r H, Reps G r H dvs dds) {r : List Addr} {H : Hp} {vs : List V} {ds : List D} (q : Reps G r H vs ds) : Reps G r H (vs ++ dvs) (ds ++ dds) := q.append (h r H)
section
variable {X : Cx} {cA : Nat → Addr} {fN : Nat → List Str} {W : WX} {k : Nat} {f : Addr} {fd : FuncData} {ps : List Str} {fI : FI} {dvs : List V} {dds : List D} {ds : List Value} {x : Str} {p pos : Pos} {e : Expr} {es : List Expr} {ms : List EX} {m : EX}
theorem call_of {G : Cfg} {E : L2.St → XK} (hE : ∀ σ c o H, W c o σ H → E σ c o H) (hd : ∀ r H, Reps G r H dvs dds) (hn : ms.length + dds.length = ps.length) {σ : L2.St} {H : Hp} {Q : VK} (h : TI G W (eCall fI ms dds) σ H Q) :
    TAI G W (eArgs ms) σ H fun vs H1 => spI G ps.length fI (vs ++ dvs) H1 Q (E σ) := by
  obtain ⟨r, S, env, he, hs, hp⟩ := h
  refine ⟨r, S, env, he, hs, Post.bindE hp fun xs S1 vs r1 H1 e0 e1 s1 q1 z => ?_⟩
  cases eu : unva xs with
  | none => rw [eu] at z; exact z.elim
  | some ds =>
    rw [eu] at z
    have q := (unva_ok q1 eu).dvs hd
    refine ⟨?_, r1, S1, ds ++ dds, s1, q, ?_⟩
    · rw [q.length, List.length_append, ← hn, ← args_len e0]
      congr 1
      have := (unva_ok q1 eu).length
      have h2 : vs.length = xs.length := by
        clear z eu q this e0
        induction q1 with
        | nil => rfl
        | cons _ _ ih => simp [ih]
      omega
    · have z' := z.shift e1 (R' := RV G H1) fun _ _ _ _ k => back_rv e1 k
      unfold postF
      dsimp only at z'
      cases ef : fI (ds ++ dds) S1 with
      | ok y S2 => rw [ef] at z'; exact z'
      | err c fs S2 => rw [ef] at z'; exact fun cls oe r' H' x s q => hE σ _ _ _ (z' cls oe r' H' x s q)
      | bad => rw [ef] at z'; exact z'
theorem ne_clean (f : FI) : NoErr (clean (noErr f)) := by
  intro ds S c fs S' h
  unfold clean at h
  cases e : noErr f ds S with
  | bad => rw [e] at h; cases h
  | err c1 f1 S1 =>
    unfold noErr at e
    split at e <;> cases e
  | ok x S1 =>
    rw [e] at h
    cases x with
    | fr o => dsimp only at h; split at h <;> cases h
    | va d =>
      dsimp only at h
      split at h
      · cases h
      · split at h
        · split at h
          · split at h <;> cases h
          · cases h
        · cases h
theorem call_of0 {G : Cfg} (ne : NoErr fI) (hd : ∀ r H, Reps G r H dvs dds) (hn : ms.length + dds.length = ps.length) {σ : L2.St} {H : Hp} {Q : VK} (h : TI G W (eCall fI ms dds) σ H Q) :
    TAI G W (eArgs ms) σ H fun vs H1 => spI G ps.length fI (vs ++ dvs) H1 Q E0 := by
  obtain ⟨r, S, env, he, hs, hp⟩ := call_of (E := fun σ c o H => W c o σ H) (fun _ _ _ _ z => z) hd hn h
  refine ⟨r, S, env, he, hs, hp.mono fun vs H1 q => ?_⟩
  obtain ⟨h1, r1, S1, ds, h2, h3, h4⟩ := q
  refine ⟨h1, r1, S1, ds, h2, h3, ?_⟩
  unfold postF at h4 ⊢
  cases ef : fI ds S1 with
  | ok y S2 => rw [ef] at h4; exact h4
  | err c fs S2 => exact absurd ef (ne _ _ _ _ _)
  | bad => rw [ef] at h4; exact h4
/-- f(e, ..), f lets nothing out -/
theorem i_call (ne : NoErr fI) (F : FnOk X.prog X.w X.K X.mg X.base CX0 k f fd ps (spI (GX X cA fN) ps.length fI)) (hr : Room k X.A) (hm : X.mg x = some (.ref f)) (hk : PySem.W.keepIn X.K (.ref f) = true) (hb : Binds X.K fd ps ds) (hd : Vals dvs ds) (hdd : ∀ r H, Reps (GX X cA fN) r H dvs dds)
    (ha : PA X (e :: es) (TAI (GX X cA fN) W (eArgs (m :: ms)))) (hn : (m :: ms).length + dds.length = ps.length := by rfl) (hg : Gl X x := by rfl) (hdb : (x == ("__debug__" : Str)) = false := by decide) (he : starEach (e :: es) X.env = (false, eval e X.env) :: starEach es X.env := by rfl)
    (hpl : (backTo pos (starEach es X.env)).any (·.1) = false := by rfl) : PE X (.Call (.Name x p) (e :: es) [] pos) (TI (GX X cA fN) W (eCall fI (m :: ms) dds)) :=
  (pe_call F hr hg hm hk hb hd pass0 ha hdb he hpl).mono fun σ H Q h => call_of0 ne hdd hn h
theorem i_call0 (ne : NoErr fI) (F : FnOk X.prog X.w X.K X.mg X.base CX0 k f fd ps (spI (GX X cA fN) ps.length fI)) (hr : Room k X.A) (hm : X.mg x = some (.ref f)) (hk : PySem.W.keepIn X.K (.ref f) = true) (hb : Binds X.K fd ps ds) (hd : Vals dvs ds) (hdd : ∀ r H, Reps (GX X cA fN) r H dvs dds)
    (hn : dds.length = ps.length := by rfl) (hg : Gl X x := by rfl) (hdb : (x == ("__debug__" : Str)) = false := by decide) : PE X (.Call (.Name x p) [] [] pos) (TI (GX X cA fN) W (eCall fI [] dds)) :=
  (pe_call0 F hr hg hm hk hb hd pass0 hdb).mono fun σ H Q h => by
    have := call_of0 (ps := ps) (dvs := dvs) ne hdd (by simpa using hn) h
    obtain ⟨r, S, env, he, hs, hp⟩ := this
    exact hp [] r H (Ext.refl r H) hs .nil
end
end Cy
set_option Elab.async false
set_option linter.all false
set_option maxRecDepth 100000
set_option maxHeartbeats 2000000
set_option autoImplicit false
namespace Cy
open PySem PySem.Spec PyProof.Rows L2 PySem.Builtin
theorem add_any (l : Addr) (items : Array Value) (n : Nat) (b : Addr) (items2 : Array Value) (n2 : Nat) (sl sl2 : Array (Option Value)) (hc0 : items.size + items2.size ≤ sizeLine) :
    Meets (Builtin.«list.__add__» ⟨[.ref l, .ref b], []⟩) (fun _ R s => s.heap.get? l = some { cls := .type "list", dict := none, data := .seq items n, slots := sl } ∧ s.heap.get? b = some { cls := .type "list", dict := none, data := .seq items2 n2, slots := sl2 } ∧ R (.ok (.ret (Value.ref s.heap.objs.size))) { s with heap := s.heap.push { cls := Value.type "list", data := Data.seq (items ++ items2) }, toks := s.toks }) :=
  .of_wp fun prog w A R s h => by obtain ⟨hp, g, d, tk, os⟩ := s; obtain ⟨hl, hb, h⟩ := h; have f1 := AutoSeq1.idx_int; have f2 := AutoSeq1.sub_tuple_tuple; have f3 := AutoSeq1.sub_list_list; have f4 := AutoSeq1.sub_tuple_list; have f5 := AutoSeq1.sub_list_tuple; wp_walk using AutoSeq1.wpAny_loadPart' hl, AutoSeq1.wpAny_loadPart' hb; exact ⟨_, rfl, h⟩
def rCatQ (K : PySem.W.Frag) : R2 := fun x y H Q => ∃ l b xs zs, x = .ref l ∧ y = .ref b ∧ SqL K H l xs ∧ SqL K H b zs ∧ xs.length + zs.length ≤ sizeLine ∧ ∀ p, H p = none → Q (.ref p) (upd H p (.lst (xs ++ zs)))
theorem op_catQ {X : Cx} : OpR X (binaryOp .Add) (rCatQ X.K) := by
  intro pins s σ H x y v u Q I rx ry h
  obtain ⟨l, b, xs, zs, rfl, rfl, hH, hB, hz, q⟩ := h
  cases rx
  cases ry
  obtain ⟨its, r, ⟨o, n, e, hc, hd, hs⟩, hl⟩ := I.list hH
  obtain ⟨its2, r2, ⟨o2, n2, e2, hc2, hd2, hs2⟩, hl2⟩ := I.list hB
  obtain ⟨c, d, dt, sl⟩ := o
  obtain ⟨c2, d2, dt2, sl2⟩ := o2
  simp only at hc hd hs hc2 hd2 hs2
  subst hc hd hs hc2 hd2 hs2
  have l1 := r.length
  have l2 := r2.length
  refine concat_meets ⟨_, e, rfl⟩ ⟨_, e2, rfl⟩ noFill_list_add seq_list_add F.slot_list_add F.entry_list_add (F.args_list_add_2 _ _) (add_any l its.toArray n b its2.toArray n2 sl sl2 (by rw [List.size_toArray, List.size_toArray]; omega)) ⟨e, e2, ?_⟩
  have ea : its.toArray ++ its2.toArray = (its ++ its2).toArray := by simp
  rw [ea]
  exact ⟨.ref _, _, I.lnew (t' := s.toks) (r.append r2) (by rw [List.length_append]; omega), rfl, q _ I.fresh⟩
def tFrz (t : TE) : TE := fun σ H Q => t σ H fun v H1 => ∃ d u, v = .ref d ∧ H1 d = some u ∧ Mut (some u) ∧ ∀ od, Q v (upd H1 d (.frz od u))
theorem pe_frz {X : Cx} {e : Expr} {t : TE} (h : PE X e t) : PE X e (tFrz t) := by
  refine ⟨fun pins s σ H Q I hw => ?_⟩
  refine thn (h.run pins s σ H _ I hw) fun v s1 ⟨x, H1, I1, rx, d, u, ex, hd, mu, q⟩ => ?_
  obtain ⟨od, I2⟩ := I1.lock hd mu
  exact ⟨x, _, I2, rx, q od⟩
/-- .. or as it is -/
theorem pe_or {X : Cx} {e : Expr} {t t' : TE} (h : PE X e t) (h' : PE X e t') : PE X e fun σ H Q => t σ H Q ∨ t' σ H Q := ⟨fun pins s σ H Q I hw => hw.elim (h.run pins s σ H Q I) (h'.run pins s σ H Q I)⟩
/-- a fresh list, a fresh instance: a value from now on -/
def frzD : Rv → Rv
  | .fr (.lst ds) => .va (.frl ds)
  | .fr (.ins c ds) => .va (.obj c ds)
  | x => x
def eFz (m : EX) : EX := fun env S => (m env S).bind fun x S1 => .ok (frzD x) S1
section
variable {X : Cx} {cA : Nat → Addr} {fN : Nat → List Str} {W : WX} {e : Expr} {m : EX}
theorem notin_lst {G : Cfg} {r : List Addr} {H : Hp} {S : Sto} {a : Addr} (s : Sim G r H S) (h : H a = none) : a ∉ r := fun hm => by
  obtain ⟨n, hn⟩ := List.mem_iff_getElem?.mp hm
  have hl : n < S.length := by rw [← s.len]; exact (List.getElem?_eq_some_iff.mp hn).1
  obtain ⟨u, hu, _⟩ := (s.at_ n a _ hn (List.getElem?_eq_getElem hl)).mut
  rw [h] at hu
  cases hu
/-- what is outside the store and may be changed is held fast -/
theorem frz_ext {r : List Addr} {H : Hp} {r1 : List Addr} {H1 : Hp} {a : Addr} {u : HO} {od : Obj} (e : Ext r H r1 H1) (h0 : H a = none) : Ext r H r1 (upd H1 a (.frz od u)) := e.poke h0
theorem i_fz (h : PE X e (TI (GX X cA fN) W m)) : PE X e (TI (GX X cA fN) W (eFz m)) := (pe_or h (pe_frz h)).mono fun σ H Q h => by
  obtain ⟨r, S, env, he, hs, hp⟩ := h
  unfold eFz at hp
  cases em : m env S with
  | bad => rw [em] at hp; exact hp.elim
  | err c ds S1 =>
    rw [em] at hp
    exact .inl ⟨r, S, env, he, hs, by rw [em]; exact hp⟩
  | ok x S1 =>
    rw [em] at hp
    have keep : frzD x = x → (TI (GX X cA fN) W m σ H Q ∨ tFrz (TI (GX X cA fN) W m) σ H Q) := fun ex => .inl ⟨r, S, env, he, hs, by
      rw [em]
      rw [Rs.bind_ok, ex] at hp
      exact hp⟩
    cases x with
    | va d => exact keep rfl
    | fr o =>
      cases o with
      | dct kvs => exact keep rfl
      | lck _ => exact keep rfl
      | lst ds =>
        refine .inr ⟨r, S, env, he, hs, ?_⟩
        rw [em]
        intro v r1 H1 e1 s1 q1
        obtain ⟨a, rfl, h0, na, vs, hv, rv⟩ := q1
        refine ⟨a, _, rfl, hv, trivial, fun od => ?_⟩
        exact hp (.ref a) r1 _ (frz_ext e1 h0) (s1.poke hv trivial na) (.frl (vs := vs) (.inl ⟨⟨od, upd_same⟩, na⟩) (rv.poke hv trivial))
      | ins c ds =>
        refine .inr ⟨r, S, env, he, hs, ?_⟩
        rw [em]
        intro v r1 H1 e1 s1 q1
        obtain ⟨a, rfl, h0, na, dx, fs, hv, hf, rv⟩ := q1
        refine ⟨a, _, rfl, hv, trivial, fun od => ?_⟩
        exact hp (.ref a) r1 _ (frz_ext e1 h0) (s1.poke hv trivial na) (.obj (o := od) (dx := dx) (fs := fs) upd_same na hf (rv.poke hv trivial))
end
end Cy
set_option Elab.async false
set_option linter.all false
set_option maxRecDepth 100000
set_option maxHeartbeats 2000000
set_option autoImplicit false
namespace Cy
open PySem L2
section
variable {G : Cfg} {r : List Addr} {H0 H : Hp} {S : Sto}
/-- a list's items -/
def vL (S : Sto) : Rv → Option (List D)
  | .va (.ref n) => match S[n]? with
    | some (.lst ds) => some ds
    | _ => none
  | .fr (.lst ds) => some ds
  | .va (.frl ds) => some ds
  | _ => none
/-- .. of a list that may be changed -/
def vM (S : Sto) : Rv → Option (List D)
  | .va (.ref n) => match S[n]? with
    | some (.lst ds) => some ds
    | _ => none
  | .fr (.lst ds) => some ds
  | _ => none
def vT : Rv → Option (List D)
  | .va (.tup ds) => some ds
  | _ => none
def vQ (S : Sto) (x : Rv) : Option (List D) := match vT x with
  | some ds => some ds
  | none => vL S x
theorem vM_ok {v : V} {x : Rv} {ds : List D} (s : Sim G r H S) (q : RepR G r H0 H v x) (e : vM S x = some ds) : ∃ a vs, v = .ref a ∧ H a = some (.lst vs) ∧ Reps G r H vs ds := by
  cases x with
  | fr o =>
    cases o with
    | lst es =>
      cases e
      obtain ⟨a, rfl, _, _, vs, h1, h2⟩ := q
      exact ⟨a, vs, rfl, h1, h2⟩
    | dct _ => cases e
    | lck _ => cases e
    | ins _ _ => cases e
  | va d =>
    cases d with
    | ref n =>
      unfold vM at e
      dsimp only at e
      cases e1 : S[n]? with
      | none => rw [e1] at e; cases e
      | some o =>
        rw [e1] at e
        cases o with
        | lst es =>
          cases e
          obtain ⟨a, rfl, _, vs, h1, h2⟩ := s.get q e1
          exact ⟨a, vs, rfl, h1, h2⟩
        | dct _ => cases e
        | lck _ => cases e
        | ins _ _ => cases e
    | _ => cases e
theorem vM_vL {x : Rv} {ds : List D} (e : vM S x = some ds) : vL S x = some ds := by
  cases x with
  | fr o => cases o <;> exact e
  | va d => cases d <;> first | exact e | cases e
theorem vL_ok {v : V} {x : Rv} {ds : List D} (s : Sim G r H S) (q : RepR G r H0 H v x) (e : vL S x = some ds) : ∃ a vs, v = .ref a ∧ SqL G.K H a vs ∧ Reps G r H vs ds := by
  cases hm : vM S x with
  | some es =>
    obtain ⟨a, vs, h1, h2, h3⟩ := vM_ok s q hm
    have : es = ds := Option.some.inj ((vM_vL hm).symm.trans e)
    subst this
    exact ⟨a, vs, h1, SqL.of h2, h3⟩
  | none =>
    cases x with
    | fr o => cases o with
      | lst _ => cases hm
      | _ => cases e
    | va d =>
      cases d with
      | ref n => rw [show vL S (.va (.ref n)) = vM S (.va (.ref n)) from rfl, hm] at e; cases e
      | frl es =>
        cases e
        cases q with
        | frl h q =>
          rename_i a vs
          refine ⟨a, vs, rfl, ?_, q⟩
          rcases h with ⟨⟨o, h⟩, _⟩ | h
          · exact .inl (.inr ⟨o, h⟩)
          · exact h H
      | _ => cases e
theorem vT_ok {v : V} {x : Rv} {ds : List D} (q : RepR G r H0 H v x) (e : vT x = some ds) : ∃ a vs, v = .ref a ∧ SqT G.K H a vs ∧ Reps G r H vs ds := by
  cases x with
  | fr o => cases e
  | va d =>
    cases d with
    | tup es =>
      cases e
      cases q with
      | tup h na q => exact ⟨_, _, rfl, .inl h, q⟩
    | _ => cases e
theorem vQ_ok {v : V} {x : Rv} {ds : List D} (s : Sim G r H S) (q : RepR G r H0 H v x) (e : vQ S x = some ds) : ∃ a vs, v = .ref a ∧ (SqL G.K H a vs ∨ SqT G.K H a vs) ∧ Reps G r H vs ds := by
  unfold vQ at e
  cases h : vT x with
  | some es =>
    rw [h] at e
    cases e
    obtain ⟨a, vs, h1, h2, h3⟩ := vT_ok q h
    exact ⟨a, vs, h1, .inr h2, h3⟩
  | none =>
    rw [h] at e
    obtain ⟨a, vs, h1, h2, h3⟩ := vL_ok s q e
    exact ⟨a, vs, h1, .inl h2, h3⟩
theorem reps1 {vs : List V} {x : Rv} (q : RepRs G r H0 H vs [x]) : ∃ v, vs = [v] ∧ RepR G r H0 H v x := by
  cases q with
  | cons h t => cases t; exact ⟨_, rfl, h⟩
theorem reps2 {vs : List V} {x y : Rv} (q : RepRs G r H0 H vs [x, y]) : ∃ v w, vs = [v, w] ∧ RepR G r H0 H v x ∧ RepR G r H0 H w y := by
  cases q with
  | cons h t => cases t with
    | cons h2 t => cases t; exact ⟨_, _, rfl, h, h2⟩
/-- a new object: fresh, or a tuple -/
theorem fin_same {v : V} {z : Rv} {Q : VK} (k : ∀ v H', Ext r H r H' → (∀ a o, H a = some o → H' a = some o) → RepR G r H0 H' v z → Q v H') (q : RepR G r H0 H v z) : Q v H := k v H (Ext.refl r H) (fun _ _ h => h) q
theorem fin_lst {ds : List D} {vs : List V} {Q : VK} (s : Sim G r H S) (b : ∀ p, H p = none → H0 p = none) (k : ∀ v H', Ext r H r H' → (∀ a o, H a = some o → H' a = some o) → RepR G r H0 H' v (.fr (.lst ds)) → Q v H') (q : Reps G r H vs ds) :
    ∀ p, H p = none → Q (.ref p) (upd H p (.lst vs)) := fun p hp => by
  have e : Ext r H r (upd H p (.lst vs)) := Ext.new hp
  refine k (.ref p) _ e (fun a o h => by rw [upd_ne (ne_of_none h hp)]; exact h) ⟨p, rfl, b p hp, fun hm => ?_, vs, upd_same, q.ext e⟩
  obtain ⟨n, hn⟩ := List.mem_iff_getElem?.mp hm
  have hl : n < S.length := by rw [← s.len]; exact (List.getElem?_eq_some_iff.mp hn).1
  obtain ⟨u, hu, _⟩ := (s.at_ n p _ hn (List.getElem?_eq_getElem hl)).mut
  rw [hp] at hu
  cases hu
theorem fin_tup {ds : List D} {vs : List V} {Q : VK} (s : Sim G r H S) (k : ∀ v H', Ext r H r H' → (∀ a o, H a = some o → H' a = some o) → RepR G r H0 H' v (.va (.tup ds)) → Q v H') (q : Reps G r H vs ds) :
    ∀ p, H p = none → Q (.ref p) (upd H p (.tup vs)) := fun p hp => by
  have e : Ext r H r (upd H p (.tup vs)) := Ext.new hp
  refine k (.ref p) _ e (fun a o h => by rw [upd_ne (ne_of_none h hp)]; exact h) (.tup (.inl upd_same) (fun hm => ?_) (q.ext e))
  obtain ⟨n, hn⟩ := List.mem_iff_getElem?.mp hm
  have hl : n < S.length := by rw [← s.len]; exact (List.getElem?_eq_some_iff.mp hn).1
  obtain ⟨u, hu, _⟩ := (s.at_ n p _ hn (List.getElem?_eq_getElem hl)).mut
  rw [hp] at hu
  cases hu
theorem pII_inv {g : Int → Int → Option D} {xs : List Rv} {z : Rv} (e : pII g S xs = some z) : ∃ i j d, xs = [.va (.int i), .va (.int j)] ∧ g i j = some d ∧ z = .va d := by
  unfold pII at e
  split at e
  · rename_i i j
    cases eg : g i j with
    | none => rw [eg] at e; cases e
    | some d => rw [eg] at e; cases e; exact ⟨i, j, d, rfl, eg, rfl⟩
  · cases e
theorem ok_II {C : Int → Int → Prop} {gv : Int → Int → V} {g : Int → Int → Option D} (h : ∀ i j d, g i j = some d → C i j ∧ ∀ r H, Rep G r H (gv i j) d) : Pure1 G (L22 (rI C gv)) (pII g) := by
  intro r H0 H S xs z vs Q s b q e k
  obtain ⟨i, j, d, rfl, eg, rfl⟩ := pII_inv e
  obtain ⟨v, w, rfl, q1, q2⟩ := reps2 q
  cases q1
  cases q2
  obtain ⟨hc, hd⟩ := h i j d eg
  exact ⟨_, _, rfl, i, j, rfl, rfl, hc, fin_same k (hd r H)⟩
def gMod (i j : Int) : Option D := if 0 < j then some (.int (i % j)) else none
theorem ok_mod : Pure1 G (L22 (rI (fun _ j => 0 < j) fun i j => .int (i % j))) (pII gMod) := ok_II fun i j d e => by
  unfold gMod at e
  split at e
  · rename_i h
    cases e
    exact ⟨h, fun _ _ => .int _⟩
  · cases e
def powOk (i j : Int) : Bool := decide (0 ≤ j) && decide (j.natAbs ≤ 1000000) && decide (i.natAbs < 18446744073709551616)
theorem powOk_c {i j : Int} (h : powOk i j = true) : CPow i j := by
  unfold powOk at h
  rw [Bool.and_eq_true, Bool.and_eq_true, decide_eq_true_eq, decide_eq_true_eq, decide_eq_true_eq] at h
  exact ⟨h.1.1, by have := h.1.2; have := h.1.1; omega, h.2⟩
def gPow (i j : Int) : Option D := if powOk i j = true then some (.int (i ^ j.toNat)) else none
theorem ok_pow : Pure1 G (L22 (rI CPow fun i j => .int (i ^ j.toNat))) (pII gPow) := ok_II fun i j d e => by
  unfold gPow at e
  split at e
  · rename_i h
    cases e
    exact ⟨powOk_c h, fun _ _ => .int _⟩
  · cases e
def pAdd : Sto → List Rv → Option Rv := fun S xs => match xs with
  | [.va (.int i), .va (.int j)] => some (.va (.int (i + j)))
  | [.va (.str x), .va (.str y)] => if x.length + y.length ≤ sizeLine then some (.va (.str (x ++ y))) else none
  | [.va (.tup x), .va (.tup y)] => if x.length + y.length ≤ sizeLine then some (.va (.tup (x ++ y))) else none
  | [x, y] => match vL S x, vL S y with
    | some a, some b => if a.length + b.length ≤ sizeLine then some (.fr (.lst (a ++ b))) else none
    | _, _ => none
  | _ => none
def rAddA (K : PySem.W.Frag) : R2 := fun x y H Q => rI0 (fun i j => .int (i + j)) x y H Q ∨ (∃ i j, x = .str i ∧ y = .str j ∧ i.length + j.length ≤ sizeLine ∧ Q (.str (i ++ j)) H) ∨ rCatA K x y H Q ∨ rCatQ K x y H Q
theorem op_addA {X : Cx} : OpR X (binaryOp .Add) (rAddA X.K) := op_add.or (op_add_str.or (op_catA.or op_catQ))
theorem ok_add : Pure1 G (L22 (rAddA G.K)) pAdd := by
  intro r H0 H S xs z vs Q s b q e k
  unfold pAdd at e
  split at e
  · rename_i i j
    cases e
    obtain ⟨v, w, rfl, q1, q2⟩ := reps2 q
    cases q1
    cases q2
    exact ⟨_, _, rfl, .inl ⟨i, j, rfl, rfl, fin_same k (.int _)⟩⟩
  · rename_i x y
    split at e
    · rename_i hz
      cases e
      obtain ⟨v, w, rfl, q1, q2⟩ := reps2 q
      cases q1
      cases q2
      exact ⟨_, _, rfl, .inr (.inl ⟨x, y, rfl, rfl, hz, fin_same k (.str _)⟩)⟩
    · cases e
  · rename_i x y
    split at e
    · rename_i hz
      cases e
      obtain ⟨v, w, rfl, q1, q2⟩ := reps2 q
      obtain ⟨a, xs, rfl, ha, ra⟩ := vT_ok q1 rfl
      obtain ⟨c, ys, rfl, hc, rc⟩ := vT_ok q2 rfl
      have l1 := ra.length
      have l2 := rc.length
      refine ⟨_, _, rfl, .inr (.inr (.inl ⟨a, c, xs, ys, rfl, rfl, ha, hc, by omega, fun e0 => ?_, fun _ e0 => ?_, fun _ _ => ?_⟩))⟩
      · subst e0
        cases ra
        exact fin_same k q2
      · subst e0
        cases rc
        rw [List.append_nil] at k
        exact fin_same k q1
      · exact fin_tup s k (ra.append rc)
    · cases e
  · rename_i x y _ _ _
    cases e1 : vL S x with
    | none => rw [e1] at e; cases e
    | some a =>
      cases e2 : vL S y with
      | none => rw [e1, e2] at e; cases e
      | some c =>
        rw [e1, e2] at e
        dsimp only at e
        split at e
        · rename_i hz
          cases e
          obtain ⟨v, w, rfl, q1, q2⟩ := reps2 q
          obtain ⟨p, xs, rfl, hp, rp⟩ := vL_ok s q1 e1
          obtain ⟨p2, ys, rfl, hp2, rp2⟩ := vL_ok s q2 e2
          have l1 := rp.length
          have l2 := rp2.length
          exact ⟨_, _, rfl, .inr (.inr (.inr ⟨p, p2, xs, ys, rfl, rfl, hp, hp2, by omega, fin_lst s b k (rp.append rp2)⟩))⟩
        · cases e
  · cases e
def eqS : D → D → Option Bool
  | .int i, .int j => some (decide (i = j))
  | .bl i, .bl j => some (decide (i = j))
  | .str i, .str j => some (decide (i = j))
  | .non, .non => some true
  | .non, .int _ => some false | .int _, .non => some false
  | .non, .bl _ => some false | .bl _, .non => some false
  | .non, .str _ => some false | .str _, .non => some false
  | .int _, .str _ => some false | .str _, .int _ => some false
  | .bl _, .str _ => some false | .str _, .bl _ => some false
  | _, _ => none
theorem eqS_ok {v w : V} {d e : D} {b : Bool} (q1 : Rep G r H v d) (q2 : Rep G r H w e) (h : eqS d e = some b) : scal v w = true ∧ decide (v = w) = b := by
  cases q1 <;> cases q2 <;> first
    | (cases h; exact ⟨rfl, by simp⟩)
    | cases h
def pyAll (g : D → Option PyData) : List D → Option (List PyData)
  | [] => some []
  | d :: r => match g d, pyAll g r with
    | some p, some ps => some (p :: ps)
    | _, _ => none
/-- a datum with what it holds, to so great a depth -/
def py : Nat → Sto → D → Option PyData
  | 0, _, _ => none
  | _ + 1, _, .non => some .none
  | _ + 1, _, .bl b => some (.bool b)
  | _ + 1, _, .int i => some (.int i)
  | _ + 1, _, .str x => some (.str x)
  | f + 1, S, .tup ds => (pyAll (py f S) ds).map .tuple
  | f + 1, S, .frl ds => (pyAll (py f S) ds).map .list
  | _ + 1, _, .obj _ _ => none
  | _ + 1, _, .exn _ _ => none
  | f + 1, S, .ref n => match S[n]? with
    | some (.lst ds) => (pyAll (py f S) ds).map .list
    | _ => none
def pyR (S : Sto) : Rv → Option PyData
  | .va d => py 40 S d
  | .fr (.lst ds) => (pyAll (py 40 S) ds).map .list
  | _ => none
theorem pyAll_ok {g : D → Option PyData} (hg : ∀ v d p, Rep G r H v d → g d = some p → Dp G.K H v p) : ∀ {vs : List V} {ds : List D} {ps : List PyData}, Reps G r H vs ds → pyAll g ds = some ps → DpAll G.K H vs ps
  | _, _, _, .nil, e => by cases e; exact .nil
  | _, _, _, .cons (d := d) (ds := ds) h t, e => by
    unfold pyAll at e
    cases e1 : g d with
    | none => rw [e1] at e; cases e
    | some p =>
      cases e2 : pyAll g ds with
      | none => rw [e1, e2] at e; cases e
      | some ps =>
        rw [e1, e2] at e
        cases e
        exact .cons (hg _ _ _ h e1) (pyAll_ok hg t e2)
theorem py_ok (s : Sim G r H S) : ∀ (f : Nat) (v : V) (d : D) (p : PyData), Rep G r H v d → py f S d = some p → Dp G.K H v p
  | 0, _, _, _, _, e => by cases e
  | f + 1, v, d, p, q, e => by
    cases q with
    | non => cases e; exact .non
    | bl b => cases e; exact .bl b
    | int i => cases e; exact .int i
    | str x => cases e; exact .str x
    | @tup a vs ds h na q =>
      unfold py at e
      cases e1 : pyAll (py f S) ds with
      | none => rw [e1] at e; cases e
      | some ps =>
        rw [e1] at e
        cases e
        exact .tup (.inl h) (pyAll_ok (fun v d p => py_ok s f v d p) q e1)
    | @frl a vs ds h q =>
      unfold py at e
      cases e1 : pyAll (py f S) ds with
      | none => rw [e1] at e; cases e
      | some ps =>
        rw [e1] at e
        cases e
        refine .lst (xs := vs) ?_ (pyAll_ok (fun v d p => py_ok s f v d p) q e1)
        rcases h with ⟨⟨o, h⟩, _⟩ | h
        · exact .inl (.inr ⟨o, h⟩)
        · exact h H
    | obj h na hf q => cases e
    | exn0 h na x => cases e
    | exnF h na x hd nd hf q => cases e
    | @ref a n h =>
      unfold py at e
      cases e1 : S[n]? with
      | none => rw [e1] at e; cases e
      | some o =>
        rw [e1] at e
        cases o with
        | lst ds =>
          dsimp only at e
          cases e2 : pyAll (py f S) ds with
          | none => rw [e2] at e; cases e
          | some ps =>
            rw [e2] at e
            cases e
            obtain ⟨vs, h1, h2⟩ := s.at_ n _ _ h e1
            exact .lst (SqL.of h1) (pyAll_ok (fun v d p => py_ok s f v d p) h2 e2)
        | dct _ => cases e
        | lck _ => cases e
        | ins _ _ => cases e
theorem pyR_ok (s : Sim G r H S) {v : V} {x : Rv} {p : PyData} (q : RepR G r H0 H v x) (e : pyR S x = some p) : Dp G.K H v p := by
  cases x with
  | va d => exact py_ok s 40 v d p q e
  | fr o =>
    cases o with
    | lst ds =>
      unfold pyR at e
      dsimp only at e
      cases e2 : pyAll (py 40 S) ds with
      | none => rw [e2] at e; cases e
      | some ps =>
        rw [e2] at e
        cases e
        obtain ⟨a, rfl, _, _, vs, h1, h2⟩ := q
        exact .lst (SqL.of h1) (pyAll_ok (fun v d p => py_ok s 40 v d p) h2 e2)
    | dct _ => cases e
    | lck _ => cases e
    | ins _ _ => cases e
def eqD (S : Sto) (x y : Rv) : Option Bool := match pyR S x, pyR S y with
  | some p, some q => if SeqAt.shaped p && SeqAt.shaped q then some (PyData.eqv p q) else none
  | _, _ => none
def eqB (S : Sto) (x y : Rv) : Option Bool := match x, y with
  | .va d, .va e => match eqS d e with
    | some b => some b
    | none => eqD S x y
  | _, _ => eqD S x y
def pEq : Sto → List Rv → Option Rv := fun S xs => match xs with
  | [x, y] => (eqB S x y).map fun b => .va (.bl b)
  | _ => none
def pNe : Sto → List Rv → Option Rv := fun S xs => match xs with
  | [x, y] => (eqB S x y).map fun b => .va (.bl (!b))
  | _ => none
def rEqA (K : PySem.W.Frag) : R2 := fun x y H Q => rEq x y H Q ∨ rEqD K x y H Q
def rNeA (K : PySem.W.Frag) : R2 := fun x y H Q => rNe x y H Q ∨ rNeD K x y H Q
theorem op_eqA {X : Cx} (hu : X.A.units + 64 < cLine) : OpR X (compareOp .Eq) (rEqA X.K) := op_eq.or (op_eqD hu)
theorem op_neA {X : Cx} (hu : X.A.units + 64 < cLine) : OpR X (compareOp .NotEq) (rNeA X.K) := op_ne.or (op_neD hu)
theorem eqD_ok (s : Sim G r H S) {v w : V} {x y : Rv} {b : Bool} (q1 : RepR G r H0 H v x) (q2 : RepR G r H0 H w y) (e : eqD S x y = some b) :
    ∃ p q, Dp G.K H v p ∧ Dp G.K H w q ∧ SeqAt.shaped p = true ∧ SeqAt.shaped q = true ∧ PyData.eqv p q = b := by
  unfold eqD at e
  cases e1 : pyR S x with
  | none => rw [e1] at e; cases e
  | some p =>
    cases e2 : pyR S y with
    | none => rw [e1, e2] at e; cases e
    | some q =>
      rw [e1, e2] at e
      dsimp only at e
      split at e
      · rename_i h
        have h' := Bool.and_eq_true_iff.mp h
        exact ⟨p, q, pyR_ok s q1 e1, pyR_ok s q2 e2, h'.1, h'.2, Option.some.inj e⟩
      · cases e
theorem eqB_ok (s : Sim G r H S) {v w : V} {x y : Rv} {b : Bool} (q1 : RepR G r H0 H v x) (q2 : RepR G r H0 H w y) (e : eqB S x y = some b) :
    (scal v w = true ∧ decide (v = w) = b) ∨ ∃ p q, Dp G.K H v p ∧ Dp G.K H w q ∧ SeqAt.shaped p = true ∧ SeqAt.shaped q = true ∧ PyData.eqv p q = b := by
  unfold eqB at e
  split at e
  · rename_i d e'
    cases es : eqS d e' with
    | none => rw [es] at e; exact .inr (eqD_ok s q1 q2 e)
    | some c =>
      rw [es] at e
      cases e
      exact .inl (eqS_ok q1 q2 es)
  · exact .inr (eqD_ok s q1 q2 e)
theorem ok_eq : Pure1 G (L22 (rEqA G.K)) pEq := by
  intro r H0 H S xs z vs Q s b q e k
  unfold pEq at e
  split at e
  · rename_i x y
    cases e1 : eqB S x y with
    | none => rw [e1] at e; cases e
    | some c =>
      rw [e1] at e
      cases e
      obtain ⟨v, w, rfl, q1, q2⟩ := reps2 q
      rcases eqB_ok s q1 q2 e1 with ⟨h1, h2⟩ | ⟨p, p', h1, h2, h3, h4, h5⟩
      · exact ⟨_, _, rfl, .inl ⟨h1, by rw [h2]; exact fin_same k (.bl _)⟩⟩
      · exact ⟨_, _, rfl, .inr ⟨p, p', h1, h2, h3, h4, by rw [h5]; exact fin_same k (.bl _)⟩⟩
  · cases e
theorem ok_ne : Pure1 G (L22 (rNeA G.K)) pNe := by
  intro r H0 H S xs z vs Q s b q e k
  unfold pNe at e
  split at e
  · rename_i x y
    cases e1 : eqB S x y with
    | none => rw [e1] at e; cases e
    | some c =>
      rw [e1] at e
      cases e
      obtain ⟨v, w, rfl, q1, q2⟩ := reps2 q
      rcases eqB_ok s q1 q2 e1 with ⟨h1, h2⟩ | ⟨p, p', h1, h2, h3, h4, h5⟩
      · exact ⟨_, _, rfl, .inl ⟨h1, by rw [h2]; exact fin_same k (.bl _)⟩⟩
      · exact ⟨_, _, rfl, .inr ⟨p, p', h1, h2, h3, h4, by rw [h5]; exact fin_same k (.bl _)⟩⟩
  · cases e
def pIx : Sto → List Rv → Option Rv := fun S xs => match xs with
  | [.va (.str x), .va (.int i)] => if x.length ≤ sizeLine then (atI x.cps.toList i).map fun c => .va (.str ⟨#[c]⟩) else none
  | [x, .va (.int i)] => match vQ S x with
    | some ds => (atI ds i).map .va
    | none => none
  | _ => none
theorem atI_reps {vs : List V} {ds : List D} (q : Reps G r H vs ds) {i : Int} {d : D} (e : atI ds i = some d) : ∃ v, atI vs i = some v ∧ Rep G r H v d := by
  unfold atI at e ⊢
  rw [q.length]
  cases ei : ixN ds.length i with
  | none => rw [ei] at e; cases e
  | some j =>
    rw [ei] at e
    exact q.get (i := j) e
theorem ok_ix : Pure1 G (L22 (rIx G.K)) pIx := by
  intro r H0 H S xs z vs Q s b q e k
  unfold pIx at e
  split at e
  · rename_i x i
    split at e
    · rename_i hz
      cases e1 : atI x.cps.toList i with
      | none => rw [e1] at e; cases e
      | some c =>
        rw [e1] at e
        cases e
        obtain ⟨v, w, rfl, q1, q2⟩ := reps2 q
        cases q1
        cases q2
        exact ⟨_, _, rfl, .inr (.inr ⟨x, i, c, rfl, rfl, hz, e1, fin_same k (.str _)⟩)⟩
    · cases e
  · rename_i x i _
    cases e1 : vQ S x with
    | none => rw [e1] at e; cases e
    | some ds =>
      rw [e1] at e
      dsimp only at e
      cases e2 : atI ds i with
      | none => rw [e2] at e; cases e
      | some d =>
        rw [e2] at e
        cases e
        obtain ⟨v, w, rfl, q1, q2⟩ := reps2 q
        cases q2
        obtain ⟨a, us, rfl, hq, rq⟩ := vQ_ok s q1 e1
        obtain ⟨u, hu, ru⟩ := atI_reps rq e2
        rcases hq with hq | hq
        · exact ⟨_, _, rfl, .inl ⟨a, us, i, u, rfl, rfl, hq, hu, fin_same k ru⟩⟩
        · exact ⟨_, _, rfl, .inr (.inl ⟨a, us, i, u, rfl, rfl, hq, hu, fin_same k ru⟩)⟩
  · cases e
end
def cutD (ds : List D) (lo hi : Option Int) : List D := (ds.drop (HT.sIx ds.length 0 lo)).take (HT.sIx ds.length ds.length hi - HT.sIx ds.length 0 lo)
theorem cut_reps {G : Cfg} {r : List Addr} {H : Hp} {vs : List V} {ds : List D} (q : Reps G r H vs ds) (lo hi : Option Int) : Reps G r H (cutV vs lo hi) (cutD ds lo hi) := by
  unfold cutV cutD
  rw [q.length]
  exact (q.drop _).take _
def rSlice (K : PySem.W.Frag) : V → Option Int → Option Int → Hp → VK → Prop := fun x lo hi H Q => rSlL K x lo hi H Q ∨ rSlA K x lo hi H Q ∨ rSlS x lo hi H Q
theorem sl_any {X : Cx} : SlR X (rSlice X.K) := sl_list.or (sl_tupA.or sl_str)
def cutR (S : Sto) (x : Rv) (lo hi : Option Int) : Option Rv := match x with
  | .va (.str z) => if z.length ≤ sizeLine then some (.va (.str (cutS z lo hi))) else none
  | .va (.tup ds) => some (.va (.tup (cutD ds lo hi)))
  | x => (vL S x).map fun ds => .fr (.lst (cutD ds lo hi))
/-- a part of a slice -/
abbrev OX := Env → Sto → Rs (Option Int)
def oSome (m : EX) : OX := fun env S => (m env S).bind fun x S1 => match x with
  | .va (.int i) => .ok (some i) S1
  | _ => .bad
def TOI (G : Cfg) (W : WX) (m : OX) : TO := fun σ H Q => ∃ r S env, EnvR G r H σ env ∧ Sim G r H S ∧ Post G W σ r H (fun _ _ a b => a = b) Q (m env S)
theorem _root_.L2.PO.mono {X : Cx} {e : Option Expr} {t t' : TO} (h : PO X e t) (k : ∀ σ H Q, t' σ H Q → t σ H Q) : PO X e t' := ⟨fun pins s σ H Q I q => h.run pins s σ H Q I (k σ H Q q)⟩
def eSl (m : EX) (lo hi : OX) : EX := fun env S => (m env S).bind fun x S1 => (lo env S1).bind fun a S2 => (hi env S2).bind fun b S3 => match cutR S3 x a b with
  | some z => .ok z S3
  | none => .bad
section
variable {X : Cx} {cA : Nat → Addr} {fN : Nat → List Str} {W : WX} {e a b : Expr} {es : List Expr} {pos p2 : Pos} {m : EX}
theorem o_some (h : PE X e (TI (GX X cA fN) W m)) : PO X (some e) (TOI (GX X cA fN) W (oSome m)) := (po_some h).mono fun σ H Q h => by
  obtain ⟨r, S, env, he, hs, hp⟩ := h
  refine ⟨r, S, env, he, hs, Post.bind hp fun x S1 v r1 H1 e1 s1 q1 z => ?_⟩
  cases x with
  | fr o => exact z.elim
  | va d =>
    cases d with
    | int i => cases q1; exact ⟨i, rfl, z (some i) r1 H1 e1 s1 rfl⟩
    | _ => exact z.elim
theorem i_slice {lo hi : Option Expr} {ol oh : OX} (h : PE X e (TI (GX X cA fN) W m)) (h1 : PO X lo (TOI (GX X cA fN) W ol)) (h2 : PO X hi (TOI (GX X cA fN) W oh)) : PE X (.Subscript e (.Slice lo hi none p2) pos) (TI (GX X cA fN) W (eSl m ol oh)) :=
  (pe_slice sl_any h h1 h2).mono fun σ H Q h => by
  obtain ⟨r, S, env, he, hs, hp⟩ := h
  refine ⟨r, S, env, he, hs, Post.bind hp fun x S1 v r1 H1 e1 s1 q1 z => ?_⟩
  refine ⟨r1, S1, env, he.ext e1, s1, Post.bind (z.shift e1 (R' := RV _ H) fun _ _ _ _ k => k) fun lo S2 lo' r2 H2 e2 s2 q2 z2 => ?_⟩
  subst q2
  refine ⟨r2, S2, env, (he.ext e1).ext e2, s2, Post.bind (z2.shift e2 (R' := RV _ H) fun _ _ _ _ k => k) fun hi S3 hi' r3 H3 e3 s3 q3 z3 => ?_⟩
  subst q3
  have q1' : RepR (GX X cA fN) r3 H H3 v x := (q1.ext e2).ext e3
  have x2 := e1.trans (e2.trans e3)
  unfold cutR at z3
  split at z3
  · rename_i z he
    split at he
    · rename_i w
      split at he
      · rename_i hz
        cases he
        cases q1'
        exact .inr (.inr ⟨w, rfl, hz, z3 _ r3 H3 e3 s3 (.str _)⟩)
      · cases he
    · rename_i ds
      cases he
      obtain ⟨a, us, rfl, ha, ra⟩ := vT_ok q1' rfl
      refine .inr (.inl ⟨a, us, rfl, ha, fun hw => ?_, fun hw p hp => ?_⟩)
      · refine z3 _ r3 H3 e3 s3 ?_
        have : cutD ds lo' hi' = ds := by
          unfold cutD
          rw [← ra.length, hw.1, hw.2, List.drop_zero, Nat.sub_zero, ra.length, List.take_length]
        rw [this]
        exact q1'
      · exact fin_tup (H0 := H) (Q := Q) s3 (fun v H' x st q => z3 v r3 H' (e3.trans x) (s3.stays st x) q) (cut_reps ra lo' hi') p hp
    · cases ev : vL S3 x with
      | none => rw [ev] at he; cases he
      | some ds =>
        rw [ev] at he
        cases he
        obtain ⟨a, us, rfl, ha, ra⟩ := vL_ok s3 q1' ev
        exact .inl ⟨a, us, rfl, ha, fin_lst (H0 := H) (Q := Q) s3 (fun p hp => x2.back hp) (fun v H' x st q => z3 v r3 H' (e3.trans x) (s3.stays st x) q) (cut_reps ra lo' hi')⟩
  · exact z3.elim
end
end Cy
set_option Elab.async false
set_option linter.all false
set_option maxRecDepth 100000
set_option maxHeartbeats 2000000
set_option autoImplicit false
namespace Cy
open PySem L2
section
variable {X : Cx} {cA : Nat → Addr} {fN : Nat → List Str} {W : WX} {e o a b : Expr} {es : List Expr} {pos p apos : Pos} {m mo ma mb : EX} {ms : List EX} {x : Str}
def eLst (ms : List EX) : EX := fun env S => (eArgs ms env S).bind fun xs S1 => match unva xs with
  | some ds => if ds.length ≤ sizeLine then .ok (.fr (.lst ds)) S1 else .bad
  | none => .bad
theorem i_lst (h : PA X es (TAI (GX X cA fN) W (eArgs ms))) : PE X (.List es pos) (TI (GX X cA fN) W (eLst ms)) := (pe_lst h).mono fun σ H Q h => by
  obtain ⟨r, S, env, he, hs, hp⟩ := h
  refine ⟨r, S, env, he, hs, Post.bind hp fun xs S1 vs r1 H1 e1 s1 q1 z => ?_⟩
  cases eu : unva xs with
  | none => rw [eu] at z; exact z.elim
  | some ds =>
    rw [eu] at z
    dsimp only at z
    split at z
    · rename_i hz
      have q := unva_ok q1 eu
      exact ⟨by rw [q.length]; exact hz, fin_lst (H0 := H) s1 (fun p hp => e1.back hp) (fun v H' x st q => z v r1 H' (e1.trans x) (s1.stays st x) q) q⟩
    · exact z.elim
theorem i_ix {f : Prim} {ro : R2} (hr : IxR X ro) (P : PrimOk (GX X cA fN) (L22 ro) f) (ha : PE X a (TI (GX X cA fN) W ma)) (hb : PE X b (TI (GX X cA fN) W mb)) (hs : PlainIx b := by exact fun _ _ => rfl) : PE X (.Subscript a b pos) (TI (GX X cA fN) W (eP f [ma, mb])) :=
  (pe_ix hr ha hb hs).mono fun _ _ _ h => two_of P (fun _ _ _ k => k) h
theorem cb_of {G : Cfg} {rd : List V → Hp → VK → Prop} {f : Prim} (P : PrimOk G rd f) {σ : L2.St} {H : Hp} {Q : VK} (h : TI G W (eP f ms) σ H Q) : tCB rd (TAI G W (eArgs ms)) σ H Q := by
  obtain ⟨r, S, env, he, hs, hp⟩ := h
  exact ⟨r, S, env, he, hs, prim_post P hp⟩
theorem i_cb {id : String} {rd : List V → Hp → VK → Prop} {f : Prim} (hc : CallR X (.builtin id) rd) (P : PrimOk (GX X cA fN) rd f) (hm : X.mg x = none) (hv : bootBuiltins x = some (.builtin id)) (ha : PA X (e :: es) (TAI (GX X cA fN) W (eArgs ms)))
    (hg : Gl X x := by rfl) (hn : x ≠ "__name__" := by decide) (hdb : (x == ("__debug__" : Str)) = false := by decide) (he : starEach (e :: es) X.env = (false, eval e X.env) :: starEach es X.env := by rfl) (hpl : (backTo pos (starEach es X.env)).any (·.1) = false := by rfl) :
    PE X (.Call (.Name x p) (e :: es) [] pos) (TI (GX X cA fN) W (eP f ms)) := (pe_callB hc hg hm hv ha hn hdb he hpl).mono fun _ _ _ h => cb_of P h
end
section
variable {G : Cfg} {r : List Addr} {H0 H : Hp} {S : Sto}
def pLen : Sto → List Rv → Option Rv := fun S xs => match xs with
  | [.va (.str x)] => if x.length ≤ sizeLine then some (.va (.int x.length)) else none
  | [x] => (vQ S x).map fun ds => .va (.int ds.length)
  | _ => none
theorem ok_len : Pure1 G (fun xs H Q => ∃ x n, xs = [x] ∧ LenV G.K x H n ∧ Q (.int n) H) pLen := by
  intro r H0 H S xs z vs Q s b q e k
  unfold pLen at e
  split at e
  · rename_i x
    split at e
    · rename_i hz
      cases e
      obtain ⟨v, rfl, q1⟩ := reps1 q
      cases q1
      exact ⟨.str x, x.length, rfl, ⟨hz, rfl⟩, fin_same k (.int _)⟩
    · cases e
  · rename_i x _
    cases e1 : vQ S x with
    | none => rw [e1] at e; cases e
    | some ds =>
      rw [e1] at e
      cases e
      obtain ⟨v, rfl, q1⟩ := reps1 q
      obtain ⟨a, us, rfl, hq, rq⟩ := vQ_ok s q1 e1
      refine ⟨.ref a, ds.length, rfl, ?_, fin_same k (.int _)⟩
      rcases hq with hq | hq
      · exact .inl ⟨us, hq, rq.length.symm⟩
      · exact .inr ⟨us, hq, rq.length.symm⟩
  · cases e
def tyN (S : Sto) : Rv → Option String
  | .va .non => some "NoneType"
  | .va (.bl _) => some "bool"
  | .va (.int _) => some "int"
  | .va (.str _) => some "str"
  | .va (.tup _) => some "tuple"
  | x => match vL S x with
    | some _ => some "list"
    | none => none
theorem tyN_ok (s : Sim G r H S) {v : V} {x : Rv} {T : String} (q : RepR G r H0 H v x) (e : tyN S x = some T) : TyX G.K H v (.type T) := by
  unfold tyN at e
  split at e
  · cases e; cases q; exact .base .non
  · cases e; cases q; exact .base (.bl _)
  · cases e; cases q; exact .base (.int _)
  · cases e; cases q; exact .base (.str _)
  · cases e
    cases q with
    | tup h na q =>
      rcases h with h | ⟨o, h⟩
      · exact .base (.tup h)
      · exact .fTuple h
  · split at e
    · rename_i ds e1
      cases e
      obtain ⟨a, vs, rfl, h1, _⟩ := vL_ok s q e1
      rcases h1 with (h1 | ⟨o, h1⟩) | ⟨o, its, n, h1, h2, _⟩
      · exact .base (.lst h1)
      · exact .base (.frz h1)
      · exact .kList h1 h2
    · cases e
def isiB (T C : String) : Option Bool := L2.kitB T C
def pIsi (C : String) : Sto → List Rv → Option Rv := fun S xs => match xs with
  | [x] => match tyN S x with
    | some T => (isiB T C).map fun b => .va (.bl b)
    | none => none
  | _ => none
def rIsi1 (K : PySem.W.Frag) (C : String) : List V → Hp → VK → Prop := fun vs H Q => ∃ x, vs = [x] ∧ ∃ t b, TyX K H x t ∧ PySem.W.kitOne K t (.type C) = some b ∧ Q (.bl b) H
theorem ok_isi (C : String) : Pure1 G (rIsi1 G.K C) (pIsi C) := by
  intro r H0 H S xs z vs Q s b q e k
  unfold pIsi at e
  split at e
  · rename_i x
    cases e1 : tyN S x with
    | none => rw [e1] at e; cases e
    | some T =>
      rw [e1] at e
      dsimp only at e
      cases e2 : isiB T C with
      | none => rw [e2] at e; cases e
      | some c =>
        rw [e2] at e
        cases e
        obtain ⟨v, rfl, q1⟩ := reps1 q
        exact ⟨v, rfl, .type T, c, tyN_ok s q1 e1, kit_ty e2, fin_same k (.bl _)⟩
  · cases e
end
section
variable {X : Cx} {cA : Nat → Addr} {fN : Nat → List Str} {W : WX} {e o a b : Expr} {es : List Expr} {pos p apos p2 : Pos} {m mo ma mb : EX} {ms : List EX} {x : Str}
/-- isinstance(x, C), C a built-in class -/
theorem i_isi {C : Str} {cs : String} (hm : X.mg "isinstance" = none) (hmC : X.mg C = none) (hvC : bootBuiltins C = some (.type cs)) (ha : PE X a (TI (GX X cA fN) W ma)) (hg : Gl X "isinstance" := by rfl) (hgC : Gl X C := by rfl) (hnC : C ≠ "__name__" := by decide) (hdC : (C == ("__debug__" : Str)) = false := by decide)
    (hst : starEach [a, .Name C p2] X.env = (false, eval a X.env) :: starEach [.Name C p2] X.env := by rfl) (hst2 : starEach [Expr.Name C p2] X.env = (false, eval (.Name C p2) X.env) :: starEach [] X.env := by rfl) (hpl : (backTo pos (starEach [Expr.Name C p2] X.env)).any (·.1) = false := by rfl) :
    PE X (.Call (.Name "isinstance" p) [a, .Name C p2] [] pos) (TI (GX X cA fN) W (eP (lift (pIsi cs)) [ma])) :=
  (pe_callB call_isi hg hm (by decide +kernel) (pa_cons ha (pa_cons (pe_bltn (v := .ty cs) hgC hmC hvC rfl hnC hdC) pa_nil hst2) hst) (by decide) (by decide) hst hpl).mono fun σ H Q h => by
  obtain ⟨r, S, env, he, hs, hp⟩ := h
  have hq := prim_post (ok_isi cs).ok hp
  refine ⟨r, S, env, he, hs, Post.bind hq fun x S1 v r1 H1 e1 s1 q1 z => ?_⟩
  obtain ⟨x', e, t, c, h1, h2, h3⟩ := z [v] r1 H1 e1 s1 (.cons q1 .nil)
  cases e
  exact ⟨v, .ty cs, t, .type cs, c, rfl, .ty cs, h1, h2, h3⟩
end
end Cy
set_option Elab.async false
set_option linter.all false
set_option maxRecDepth 100000
set_option maxHeartbeats 2000000
set_option autoImplicit false
namespace Cy
open PySem L2
structure Callee (P : Program) (w : World) (K : PySem.W.Frag) (mg : Str → Option Value) (base : Heap) (cA : Nat → Addr) (fN : Nat → List Str) (k : Nat) (x : Str) (ps : List Str) (dds : List D) (fI : FI) : Prop where
  ne : NoErr fI
  got : ∃ (f : Addr) (fd : FuncData) (ds : List Value) (dvs : List V), mg x = some (.ref f) ∧ PySem.W.keepIn K (.ref f) = true ∧ Binds K fd ps ds ∧ Vals dvs ds ∧ (∀ r H, Reps ⟨K, cA, fN, P, w⟩ r H dvs dds) ∧ FnOk P w K mg base CX0 k f fd ps (spI ⟨K, cA, fN, P, w⟩ ps.length fI)
section
variable {P : Program} {w : World} {K : PySem.W.Frag} {mg : Str → Option Value} {base : Heap} {cA : Nat → Addr} {fN : Nat → List Str} {k : Nat} {x : Str} {ps : List Str} {f : FI}
theorem Callee.mkN {fI : FI} {a : Addr} {fd : FuncData} {ds : List Value} {dvs : List V} {dds : List D} (ne : NoErr fI) (hm : mg x = some (.ref a)) (hk : PySem.W.keepIn K (.ref a) = true) (hb : Binds K fd ps ds) (hv : Vals dvs ds) (hd : ∀ r H, Reps ⟨K, cA, fN, P, w⟩ r H dvs dds)
    (F : FnOk P w K mg base CX0 k a fd ps (spI ⟨K, cA, fN, P, w⟩ ps.length fI)) : Callee P w K mg base cA fN k x ps dds fI := ⟨ne, a, fd, ds, dvs, hm, hk, hb, hv, hd, F⟩
end
section
variable {X : Cx} {cA : Nat → Addr} {fN : Nat → List Str} {W : WX} {k : Nat} {ps : List Str} {fI : FI} {dds : List D} {x : Str} {p pos : Pos} {e : Expr} {es : List Expr} {ms : List EX} {m : EX}
theorem i_callC (hr : Room k X.A) (C : Callee X.prog X.w X.K X.mg X.base cA fN k x ps dds fI) (ha : PA X (e :: es) (TAI (GX X cA fN) W (eArgs (m :: ms)))) (hn : (m :: ms).length + dds.length = ps.length := by rfl) (hg : Gl X x := by rfl) (hdb : (x == ("__debug__" : Str)) = false := by decide)
    (he : starEach (e :: es) X.env = (false, eval e X.env) :: starEach es X.env := by rfl) (hpl : (backTo pos (starEach es X.env)).any (·.1) = false := by rfl) : PE X (.Call (.Name x p) (e :: es) [] pos) (TI (GX X cA fN) W (eCall fI (m :: ms) dds)) := by
  obtain ⟨f, fd, ds, dvs, h1, h2, h3, h4, h5, h6⟩ := C.got
  exact i_call C.ne h6 hr h1 h2 h3 h4 h5 ha hn hg hdb he hpl
theorem i_callC0 (hr : Room k X.A) (C : Callee X.prog X.w X.K X.mg X.base cA fN k x ps dds fI) (hn : dds.length = ps.length := by rfl) (hg : Gl X x := by rfl) (hdb : (x == ("__debug__" : Str)) = false := by decide) : PE X (.Call (.Name x p) [] [] pos) (TI (GX X cA fN) W (eCall fI [] dds)) := by
  obtain ⟨f, fd, ds, dvs, h1, h2, h3, h4, h5, h6⟩ := C.got
  exact i_call0 C.ne h6 hr h1 h2 h3 h4 h5 hn hg hdb
end
theorem law_sp {P : Program} {w : World} {K : PySem.W.Frag} {cA : Nat → Addr} {fN : Nat → List Str} {m : FI} {H : Hp} {a : Addr} {ns : List Int} (hO : Only H) (hS : SqL K H a (ns.map V.int)) (h : ∃ S', m [.frl (ns.map .int)] [] = .ok (.va (.bl true)) S') :
    spI ⟨K, cA, fN, P, w⟩ 1 m [.ref a] H (fun v _ => v = .bl true) fun _ _ _ => False := by
  obtain ⟨S', h⟩ := h
  refine ⟨rfl, [], [], [.frl (ns.map .int)], ⟨rfl, List.nodup_nil, fun n a o h => by simp at h⟩, .cons (.frl (vs := ns.map V.int) ?_ (Reps.ints ns)) .nil, ?_⟩
  · rcases hS with (h1 | ⟨o, h1⟩) | h1
    · rcases hO a with h2 | ⟨o, xs, h2⟩
      · rw [h1] at h2; cases h2
      · rw [h1] at h2; cases h2
    · exact .inl ⟨⟨o, h1⟩, by simp⟩
    · exact .inr fun H' => .inr h1
  · unfold postF
    rw [h]
    intro v r' H' _ _ q
    cases q
    rfl
section
variable {G : Cfg} {r : List Addr} {H0 H : Hp} {S : Sto}
def mulB (i j : Int) : Bool := decide (i.natAbs < 18446744073709551616) || decide (j.natAbs < 18446744073709551616) || decide (Builtin.Int.intBits i + Builtin.Int.intBits j ≤ 134217728)
def pMul : Sto → List Rv → Option Rv := fun S xs => match xs with
  | [.va (.int i), .va (.int j)] => if mulB i j = true then some (.va (.int (i * j))) else none
  | [.va (.str x), .va (.int k)] => if decide (k.natAbs ≤ 1000) && decide (x.length ≤ 1000) then some (.va (.str (Txt.mul x k))) else none
  | [.va (.tup ds), .va (.int k)] => if !ds.isEmpty && decide (2 ≤ k) && decide (k.natAbs ≤ 1000) && decide (ds.length ≤ 1000) then some (.va (.tup (List.replicate k.toNat ds).flatten)) else none
  | [x, .va (.int k)] => match vM S x with
    | some ds => if decide (k.natAbs < 9223372036854775808) && decide (ds.length * k.toNat ≤ sizeLine) then some (.fr (.lst (List.replicate k.toNat ds).flatten)) else none
    | none => none
  | _ => none
def rMulS : R2 := fun x y H Q => ∃ a n, x = .str a ∧ y = .int n ∧ MulOk a n ∧ Q (.str (Txt.mul a n)) H
theorem op_mulS {X : Cx} : OpR X (binaryOp .Mult) rMulS := by
  intro pins s σ H x y v u Q I rx ry h
  obtain ⟨a, n, rfl, rfl, hm, q⟩ := h
  obtain ⟨t, rfl⟩ := rx
  obtain ⟨t', rfl⟩ := ry
  exact SB.mul hm fun t2 k => ⟨.str _, H, I.tok _, ⟨_, rfl⟩, q⟩
theorem mulS_ok {x : Str} {k : Int} (hk : k.natAbs ≤ 1000) (hx : x.length ≤ 1000) : MulOk x k := by
  refine ⟨?_, fun h1 _ => ?_, fun h1 _ => ?_⟩
  · rw [decide_eq_false (by omega), decide_eq_false (by omega)]; rfl
  · have h2 : (1000 : Int) ≤ (2 ^ 63 - 1) / k := by
      have hk0 : 0 < k := by omega
      rw [Int.le_ediv_iff_mul_le hk0]
      omega
    omega
  · unfold Builtin.Str.tooLong
    have : x.length * k.toNat ≤ 1000 * 1000 := Nat.mul_le_mul hx (by omega)
    have hz : (1000 * 1000 : Nat) ≤ sizeLine := by decide +kernel
    exact decide_eq_false (by omega)
def rMulA (K : PySem.W.Frag) : R2 := fun x y H Q => rMulS x y H Q ∨ ((rI CMul fun i j => .int (i * j)) x y H Q ∨ (rI CMulX fun i j => .int (i * j)) x y H Q) ∨ rRepT K x y H Q ∨ rRep x y H Q
theorem op_mulA {X : Cx} : OpR X (binaryOp .Mult) (rMulA X.K) := op_mulS.or <| (op_mul.or op_mulX).or (op_repT.or op_rep)
theorem Reps.rep {vs : List V} {ds : List D} (q : Reps G r H vs ds) : ∀ k : Nat, Reps G r H (List.replicate k vs).flatten (List.replicate k ds).flatten
  | 0 => .nil
  | k + 1 => by
    rw [List.replicate_succ, List.replicate_succ, List.flatten_cons, List.flatten_cons]
    exact q.append (Reps.rep q k)
theorem ok_mulA : Pure1 G (L22 (rMulA G.K)) pMul := by
  intro r H0 H S xs z vs Q s b q e k
  unfold pMul at e
  split at e
  · rename_i i j
    split at e
    · rename_i hm
      cases e
      obtain ⟨v, w, rfl, q1, q2⟩ := reps2 q
      cases q1
      cases q2
      unfold mulB at hm
      rw [Bool.or_eq_true, Bool.or_eq_true, decide_eq_true_eq, decide_eq_true_eq, decide_eq_true_eq] at hm
      refine ⟨_, _, rfl, .inr (.inl ?_)⟩
      rcases hm with (hm | hm) | hm
      · exact .inl ⟨i, j, rfl, rfl, .inl (by omega), fin_same k (.int _)⟩
      · exact .inl ⟨i, j, rfl, rfl, .inr (by omega), fin_same k (.int _)⟩
      · exact .inr ⟨i, j, rfl, rfl, (by show _ ≤ _; omega), fin_same k (.int _)⟩
    · cases e
  · split at e
    · rename_i hm
      cases e
      obtain ⟨v, w, rfl, q1, q2⟩ := reps2 q
      cases q1
      cases q2
      have hm' := Bool.and_eq_true_iff.mp hm
      exact ⟨_, _, rfl, .inl ⟨_, _, rfl, rfl, mulS_ok (of_decide_eq_true hm'.1) (of_decide_eq_true hm'.2), fin_same k (.str _)⟩⟩
    · cases e
  · rename_i ds j
    split at e
    · rename_i hm
      cases e
      obtain ⟨v, w, rfl, q1, q2⟩ := reps2 q
      cases q2
      rw [Bool.and_eq_true, Bool.and_eq_true, Bool.and_eq_true, decide_eq_true_eq, decide_eq_true_eq, decide_eq_true_eq] at hm
      obtain ⟨a, us, rfl, ha, ra⟩ := vT_ok q1 rfl
      have hl := ra.length
      refine ⟨_, _, rfl, .inr (.inr (.inl ⟨a, j, us, rfl, rfl, ha, fun e0 => ?_, hm.1.1.2, by have := hm.1.2; have := hm.1.1.2; omega, by omega, fin_tup s k (ra.rep _)⟩))⟩
      subst e0
      cases ra
      have := hm.1.1.1
      simp at this
    · cases e
  · rename_i x j _ _ _
    cases e1 : vM S x with
    | none => rw [e1] at e; cases e
    | some ds =>
      rw [e1] at e
      dsimp only at e
      split at e
      · rename_i hm
        cases e
        obtain ⟨v, w, rfl, q1, q2⟩ := reps2 q
        cases q2
        rw [Bool.and_eq_true, decide_eq_true_eq, decide_eq_true_eq] at hm
        obtain ⟨a, us, rfl, ha, ra⟩ := vM_ok s q1 e1
        have hl := ra.length
        exact ⟨_, _, rfl, .inr (.inr (.inr ⟨a, j, us, rfl, rfl, ha, by have := hm.1; omega, by have := hm.1; omega, by rw [hl]; exact hm.2, fin_lst s b k (ra.rep _)⟩))⟩
      · cases e
  · cases e
def pLt : Sto → List Rv → Option Rv := fun _ xs => match xs with
  | [.va (.int i), .va (.int j)] => some (.va (.bl (decide (i < j))))
  | [.va (.str i), .va (.str j)] => some (.va (.bl (decide (i.cps.toList < j.cps.toList))))
  | _ => none
def rLtA : R2 := fun x y H Q => rI0 (fun i j => .bl (decide (i < j))) x y H Q ∨ ∃ i j, x = .str i ∧ y = .str j ∧ Q (.bl (decide (i.cps.toList < j.cps.toList))) H
theorem op_ltA {X : Cx} : OpR X (compareOp .Lt) rLtA := op_lt.or op_lt_str
theorem ok_ltA : Pure1 G (L22 rLtA) pLt := by
  intro r H0 H S xs z vs Q s b q e k
  unfold pLt at e
  split at e
  · cases e
    obtain ⟨v, w, rfl, q1, q2⟩ := reps2 q
    cases q1
    cases q2
    exact ⟨_, _, rfl, .inl ⟨_, _, rfl, rfl, fin_same k (.bl _)⟩⟩
  · cases e
    obtain ⟨v, w, rfl, q1, q2⟩ := reps2 q
    cases q1
    cases q2
    exact ⟨_, _, rfl, .inr ⟨_, _, rfl, rfl, fin_same k (.bl _)⟩⟩
  · cases e
def dBls : List D → Option (List Bool)
  | [] => some []
  | .bl i :: r => (dBls r).map (i :: ·)
  | _ :: _ => none
theorem dBls_ok : ∀ {vs : List V} {ds : List D} {ns : List Bool}, Reps G r H vs ds → dBls ds = some ns → vs = ns.map V.bl
  | _, _, _, .nil, e => by cases e; rfl
  | _, _, _, .cons (d := d) (ds := ds) h t, e => by
    cases d with
    | bl i =>
      have e : (dBls ds).map (i :: ·) = some _ := e
      cases e1 : dBls ds with
      | none => rw [e1] at e; cases e
      | some ns =>
        rw [e1] at e
        cases e
        cases h
        rw [dBls_ok t e1, List.map_cons]
    | _ => cases e
def pAll : Sto → List Rv → Option Rv := fun S xs => match xs with
  | [x] => match vL S x with
    | some ds => (dBls ds).map fun bs => .va (.bl (bs.all id))
    | none => none
  | _ => none
theorem ok_all : Pure1 G (rAll G.K) pAll := by
  intro r H0 H S xs z vs Q s b q e k
  unfold pAll at e
  split at e
  · rename_i x
    cases e1 : vL S x with
    | none => rw [e1] at e; cases e
    | some ds =>
      rw [e1] at e
      dsimp only at e
      cases e2 : dBls ds with
      | none => rw [e2] at e; cases e
      | some bs =>
        rw [e2] at e
        cases e
        obtain ⟨v, rfl, q1⟩ := reps1 q
        obtain ⟨a, us, rfl, ha, ra⟩ := vL_ok s q1 e1
        have := dBls_ok ra e2
        subst this
        exact ⟨a, bs, rfl, ha, fin_same k (.bl _)⟩
  · cases e
end
section
variable {n ar : Nat} {b : SM} {ds : List D} {S T : Sto}
theorem cutB_app : cutB S (S ++ T) = true := by
  unfold cutB
  rw [List.take_left, eqSto_refl]; rfl
theorem fn_va {d : D} (h : b (ds.map some ++ List.replicate (n - ar) none) S = .ret (.va d) (S ++ T)) (u : d.und S.length = true) : clean (noErr (fnOf n ar b)) ds S = .ok (.va d) S := by
  unfold clean noErr fnOf
  rw [h]
  dsimp only
  rw [cutB_app, u, List.take_left]; rfl
theorem fn_fr {o : Ob} (h : b (ds.map some ++ List.replicate (n - ar) none) S = .ret (.fr o) (S ++ T)) (u : o.und S.length = true) : clean (noErr (fnOf n ar b)) ds S = .ok (.fr o) S := by
  unfold clean noErr fnOf
  rw [h]
  dsimp only
  rw [cutB_app, u, List.take_left]; rfl
theorem und_ref (k : Nat) : (D.ref (S.length + k)).und S.length = false := by
  show decide (S.length + k < S.length) = false
  exact decide_eq_false (by omega)
theorem fn_ref {k : Nat} {o : Ob} (h : b (ds.map some ++ List.replicate (n - ar) none) S = .ret (.va (.ref (S.length + k))) (S ++ T)) (e : T[k]? = some o) (u : o.und S.length = true) : clean (noErr (fnOf n ar b)) ds S = .ok (.fr o) S := by
  unfold clean noErr fnOf
  rw [h]
  dsimp only
  have e1 : (S ++ T)[S.length + k]? = some o := by
    rw [List.getElem?_append_right (by omega), Nat.add_sub_cancel_left]; exact e
  rw [cutB_app, und_ref, e1, List.take_left]
  dsimp only
  rw [u, decide_eq_true (show S.length ≤ S.length + k by omega)]; rfl
end
end Cy
set_option Elab.async false
set_option linter.all false
set_option maxRecDepth 100000
set_option maxHeartbeats 2000000
set_option autoImplicit false
namespace Cy
open PySem L2 RZ
def seqSrc (S : Sto) : Rv → Option Src
  | .va (.ref n) => match S[n]? with
    | some (.lst ds) => some (.live n ds.length)
    | _ => none
  | .fr (.lst ds) => some (.fix ds)
  | .va (.frl ds) => some (.fix ds)
  | _ => none
section
variable {G : Cfg} {r : List Addr} {H0 H : Hp} {S : Sto}
theorem seqSrc_ok {v : V} {x : Rv} {src : Src} (s : Sim G r H S) (q1 : RepR G r H0 H v x) (e : seqSrc S x = some src) : ∃ a xs, v = .ref a ∧ SqL G.K H a xs ∧ JOk G r H (Itl G.K a) src := by
  cases x with
  | fr o =>
    cases o with
    | lst ds =>
      cases e
      obtain ⟨a, rfl, _, na, vs, hv, rv⟩ := q1
      exact ⟨a, vs, rfl, SqL.of hv, jok_fix (vs := vs) rv fun r2 H2 e2 => SqL.of (e2.keep _ _ hv na).1⟩
    | dct kvs => cases e
    | lck _ => cases e
    | ins c ds => cases e
  | va d =>
    cases d with
    | ref n =>
      unfold seqSrc at e
      dsimp only at e
      cases e2 : S[n]? with
      | none => rw [e2] at e; cases e
      | some o =>
        rw [e2] at e
        cases o with
        | lst ds =>
          cases e
          obtain ⟨a, rfl, ha, vs, hv, rv⟩ := s.get q1 e2
          exact ⟨a, vs, rfl, SqL.of hv, jok_live ha⟩
        | dct kvs => cases e
        | lck _ => cases e
        | ins c ds => cases e
    | frl ds =>
      cases e
      cases q1 with
      | frl h q =>
        rename_i a vs
        have hq : ∀ r2 H2, Ext r H r2 H2 → SqL G.K H2 a vs := fun r2 H2 e2 => by
          rcases h with ⟨⟨o, h⟩, na⟩ | h
          · exact .inl (.inr ⟨o, (e2.keep _ _ h na).1⟩)
          · exact h H2
        exact ⟨a, _, rfl, hq r H (Ext.refl _ _), jok_fix (vs := vs) q hq⟩
    | _ => cases e
theorem notin_none {a : Addr} (s : Sim G r H S) (h : H a = none) : a ∉ r := fun hm => by
  obtain ⟨n, hn⟩ := List.mem_iff_getElem?.mp hm
  have hl : n < S.length := by rw [← s.len]; exact (List.getElem?_eq_some_iff.mp hn).1
  obtain ⟨u, hu, _⟩ := (s.at_ n a _ hn (List.getElem?_eq_getElem hl)).mut
  rw [h] at hu
  cases hu
theorem new_tup {T : Addr} {vs : List V} {ds : List D} (s : Sim G r H S) (hT : H T = none) (q : Reps G r H vs ds) : Ext r H r (upd H T (.tup vs)) ∧ Sim G r (upd H T (.tup vs)) S ∧ Rep G r (upd H T (.tup vs)) (.ref T) (.tup ds) := by
  have e : Ext r H r (upd H T (.tup vs)) := Ext.new hT
  exact ⟨e, s.stays (fun a o h => by rw [upd_ne (ne_of_none h hT)]; exact h) e, .tup (.inl upd_same) (notin_none s hT) (q.ext e)⟩
def enGet (src : Src) (i : Nat) (S : Sto) : Option (Option D) := match src.get i S with
  | some (some d) => some (some (.tup [.int (i : Nat), d]))
  | some none => some none
  | none => none
def enSrc (src : Src) : Src := .gen (enGet src) src.len
theorem jok_en {a : Addr} {src : Src} (h : JOk G r H (Itl G.K a) src) : JOk G r H (Ite G.K a) (enSrc src) := by
  intro r2 H2 S2 i e s
  obtain ⟨g1, g2⟩ := h r2 H2 S2 i e s
  have key : ∀ o, Src.get (enSrc src) i S2 = some o → enGet src i S2 = some o := fun o h => h
  refine ⟨fun d hd => ?_, fun hd => ?_⟩
  · have hd := key _ hd
    unfold enGet at hd
    cases eg : src.get i S2 with
    | none => rw [eg] at hd; cases hd
    | some o =>
      rw [eg] at hd
      cases o with
      | none => cases hd
      | some d' =>
        cases hd
        obtain ⟨go, yl⟩ := g1 d' eg
        refine ⟨go, fun x H' y => ?_⟩
        obtain ⟨T, v, rfl, hT, rfl, hx⟩ := y
        obtain ⟨_, _, rv⟩ := yl v H2 ⟨rfl, hx⟩
        exact new_tup s hT (.cons (.int _) (.cons rv .nil))
  · have hd := key _ hd
    unfold enGet at hd
    cases eg : src.get i S2 with
    | none => rw [eg] at hd; cases hd
    | some o =>
      rw [eg] at hd
      cases o with
      | none => exact g2 eg
      | some d' => cases hd
end
section
variable {X : Cx} {cA : Nat → Addr} {fN : Nat → List Str} {W : WX} {pos p tpos : Pos} {e e2 : Expr} {elts : List Expr} {kk : Nat} {m n : EX}
def ixE (m : EX) : IX := fun env S => (m env S).bind fun x S1 => match seqSrc S1 x with
  | some s => .ok (enSrc s) S1
  | none => .bad
theorem x_enum (hm : X.mg "enumerate" = none) (h : PE X e (TI (GX X cA fN) W m)) (hg : Gl X "enumerate" := by rfl) (hs : starEach [e] X.env = [(false, eval e X.env)] := by rfl) : PI X (.Tuple elts kk tpos) (.Call (.Name "enumerate" p) [e] [] pos) (TII (GX X cA fN) W (ixE m)) :=
  (pi_enum hg hm (pa_cons h pa_nil hs) hs).mono fun σ H R h => by
  obtain ⟨r, S, env, he, hs, hp⟩ := h
  refine ta_one ⟨r, S, env, he, hs, Post.bind hp fun x S1 v r1 H1 e1 s1 q1 z => ?_⟩
  cases es : seqSrc S1 x with
  | none => rw [es] at z; exact z.elim
  | some src =>
    rw [es] at z
    obtain ⟨a, xs, rfl, h1, h2⟩ := seqSrc_ok s1 q1 es
    exact ⟨a, xs, rfl, h1, z _ r1 H1 e1 s1 (jok_en h2)⟩
end
end Cy
set_option Elab.async false
set_option linter.all false
set_option maxRecDepth 100000
set_option maxHeartbeats 2000000
set_option autoImplicit false
set_option Elab.async false
set_option linter.all false
set_option maxRecDepth 100000
set_option maxHeartbeats 2000000
set_option autoImplicit false
namespace Cy
open PySem L2
def keyEq : D → D → Bool
  | .int i, .int j => decide (i = j)
  | .str i, .str j => decide (i = j)
  | .tup a, .tup b => decide (keyN (.tup a) = keyN (.tup b))
  | _, _ => false
def isFK : D → Bool
  | .int _ => true
  | .str _ => true
  | _ => false
def isTK : D → Bool
  | .tup ds => match keyN (.tup ds) with
    | some k => decide (k.depth ≤ 8)
    | none => false
  | _ => false
def isKey (d : D) : Bool := isFK d || isTK d
section
variable {G : Cfg} {r : List Addr} {H0 H : Hp} {S : Sto}
theorem isTK_tup {d : D} (h : isTK d = true) : ∃ ds k, d = .tup ds ∧ keyN d = some k ∧ k.depth ≤ 8 := by
  cases d with
  | tup ds =>
    unfold isTK at h
    dsimp only at h
    cases e : keyN (.tup ds) with
    | none => rw [e] at h; cases h
    | some k => rw [e] at h; exact ⟨ds, k, rfl, rfl, of_decide_eq_true h⟩
  | _ => cases h
theorem keyEq_n {a b : D} {j k : NestedKey} (ha : keyN a = some j) (hb : keyN b = some k) (ta : isTK a = true) (tb : isTK b = true) : keyEq a b = decide (j = k) := by
  obtain ⟨as, _, rfl, _, _⟩ := isTK_tup ta
  obtain ⟨bs, _, rfl, _, _⟩ := isTK_tup tb
  show decide (keyN (.tup as) = keyN (.tup bs)) = _
  rw [ha, hb]
  by_cases e : j = k
  · subst e; simp
  · simp [e]
end
end Cy
set_option Elab.async false
set_option linter.all false
set_option maxRecDepth 100000
set_option maxHeartbeats 2000000
set_option autoImplicit false
namespace Cy
open PySem L2
theorem look_at : ∀ {fs : List (Str × V)} {j : Nat} {f : Str} {p : Str × V}, (fs.map (·.1)).Nodup → fs[j]? = some p → p.1 = f → fs.lookup f = some p.2
  | [], j, f, p, _, h, _ => by simp at h
  | q :: fs, 0, f, p, _, h, e => by
    simp at h
    subst h
    subst e
    show (match q.1 == q.1 with | true => some q.2 | false => fs.lookup q.1) = _
    rw [beq_self_eq_true]
  | q :: fs, j + 1, f, p, nd, h, e => by
    rw [List.map_cons, List.nodup_cons] at nd
    have h' : fs[j]? = some p := by simpa using h
    have ne : (f == q.1) = false := by
      rw [beq_eq_false_iff_ne]
      intro e2
      exact nd.1 (List.mem_map.mpr ⟨p, List.mem_of_getElem? h', by rw [e, e2]⟩)
    show (match f == q.1 with | true => some q.2 | false => fs.lookup f) = _
    rw [ne]
    exact look_at nd.2 h' e
end Cy
set_option Elab.async false
set_option linter.all false
set_option maxRecDepth 100000
set_option maxHeartbeats 2000000
set_option autoImplicit false
set_option Elab.async false
set_option linter.all false
set_option maxRecDepth 100000
set_option maxHeartbeats 4000000
set_option autoImplicit false
set_option Elab.async false
set_option linter.all false
set_option maxRecDepth 100000
set_option maxHeartbeats 2000000
set_option autoImplicit false
set_option Elab.async false
set_option linter.all false
set_option maxRecDepth 100000
set_option maxHeartbeats 2000000
set_option autoImplicit false
set_option Elab.async false
set_option linter.all false
set_option maxRecDepth 100000
set_option maxHeartbeats 2000000
set_option autoImplicit false
set_option Elab.async false
set_option linter.all false
set_option maxRecDepth 100000
set_option maxHeartbeats 2000000
set_option autoImplicit false
set_option Elab.async false
set_option linter.all false
set_option maxRecDepth 100000
set_option maxHeartbeats 2000000
set_option autoImplicit false
set_option Elab.async false
set_option linter.all false
set_option maxRecDepth 100000
set_option maxHeartbeats 2000000
set_option autoImplicit false
namespace Cy
open PySem L2
section
variable {X : Cx} {cA : Nat → Addr} {fN : Nat → List Str} {W : WX} {e : Expr} {m : EX}
/-- the ghost step behind a statement -/
theorem ps_frz {st : Stmt} {t : TS} (h : PS X st t) : PS X st fun D σ H => t { D with nx := fun σ' H' => D.nx σ' H' ∨ ∃ d u, H' d = some u ∧ Mut (some u) ∧ ∀ od, D.nx σ' (upd H' d (.frz od u)) } σ H := by
  refine ⟨fun pins s σ H D I hw => ?_⟩
  refine thn (h.run pins s σ H _ I hw) fun f s1 q => ?_
  cases f with
  | next =>
    obtain ⟨σ', H', I2, q⟩ := q
    rcases q with q | ⟨d, u, hd, mu, q⟩
    · exact ⟨σ', H', I2, q⟩
    · obtain ⟨od, I3⟩ := I2.lock hd mu
      exact ⟨σ', _, I3, q od⟩
  | brk => exact q
  | cont => exact q
  | ret v => exact q
theorem s_setLcF {i : Nat} {y : Str} {py : Pos} {spos pos : Pos} {elt tg iter : Expr} {ifs : List Expr} {scope : Scope} {own : List (Str × Nat)} {it : IX} {t : Tg} {g : TG} {c : BX} {m : EX} (T : TgOk X t g) (hu : ∀ i ∈ t.slots, i ∈ own.map (·.2)) (hc : X.calm = true) (hN : X.N.Nodup)
    (hy : X.N[i]? = some y) (hyl : X.env.scope.names.lookup y = some .local) (hsw : swapsWith (.ListComp elt [⟨tg, iter, ifs, 0⟩] scope pos) (some (.Name y py)) spos.line X.env = pure true)
    (hi : PI X tg iter (TII (GX X cA fN) W it)) (ok : BlkOk X.N X.env.scope scope own)
    (hg : ∀ (s : Shared) (H : Hp) (C : Addr) (cl : List (Str × Addr)) (fp : List Addr), PG (X.blk s H scope (compEnvC scope cl C X.env) fp) tg g)
    (ht : ∀ (s : Shared) (H : Hp) (C : Addr) (cl : List (Str × Addr)) (fp : List Addr), PTs (X.blk s H scope (compEnvC scope cl C X.env) fp) ifs (TTI (GX X cA fN) W0 c))
    (he : ∀ (s : Shared) (H : Hp) (C : Addr) (cl : List (Str × Addr)) (fp : List Addr), PE (X.blk s H scope (compEnvC scope cl C X.env) fp) elt (TI (GX X cA fN) W0 m)) (hs : ∀ x, foldedSetIterable iter X.env x = pure x := by intro _; rfl) :
    PS X (.Assign [.Name y py] (.ListComp elt [⟨tg, iter, ifs, 0⟩] scope pos) spos) (TSI (GX X cA fN) W (sAsg (.name i) (eFz (eLc it t (own.map (·.2)) c m)))) := (ps_frz (ps_setLc hc hN hy hyl hsw hi ok hg ht he hs)).mono fun D σ H h => by
  obtain ⟨r, S, env, he, hs, hp⟩ := h
  have key : TI (GX X cA fN) W (eLc it t (own.map (·.2)) c m) σ H fun v H1 => gName i v σ H1 fun σ' H' => D.nx σ' H' ∨ ∃ d u, H' d = some u ∧ Mut (some u) ∧ ∀ od, D.nx σ' (upd H' d (.frz od u)) := by
    refine ⟨r, S, env, he, hs, ?_⟩
    unfold sAsg eTo eFz at hp
    cases em : eLc it t (own.map (·.2)) c m env S with
    | bad => rw [em] at hp; exact hp.elim
    | err c' ds S1 => rw [em] at hp; exact fun cls oe r' H' e s q => hp cls oe σ r' H' e (he.ext e) s q
    | ok x S1 =>
      rw [em] at hp
      intro v r1 H1 e1 s1 q1
      have he1 := he.ext e1
      cases x with
      | va d => exact .inl (hp _ r1 H1 e1 (he1.set q1) s1)
      | fr o =>
        cases o with
        | dct kvs =>
          obtain ⟨a, rfl, h0, na, ho⟩ := q1
          have hs2 := s1.own na ho
          refine .inl (hp _ (r1 ++ [a]) H1 (e1.own h0) ((he.ext (e1.own h0)).set (.ref ?_)) hs2)
          rw [← s1.len]; simp
        | lck kvs =>
          obtain ⟨a, rfl, h0, na, ho⟩ := q1
          have hs2 := s1.own na ho
          refine .inl (hp _ (r1 ++ [a]) H1 (e1.own h0) ((he.ext (e1.own h0)).set (.ref ?_)) hs2)
          rw [← s1.len]; simp
        | lst ds =>
          obtain ⟨a, rfl, h0, na, vs, hv, rv⟩ := q1
          refine .inr ⟨a, _, hv, trivial, fun od => ?_⟩
          exact hp _ r1 _ (frz_ext e1 h0) ((he1.poke hv trivial).set (.frl (vs := vs) (.inl ⟨⟨od, upd_same⟩, na⟩) (rv.poke hv trivial))) (s1.poke hv trivial na)
        | ins c ds =>
          obtain ⟨a, rfl, h0, na, dx, fs, hv, hf, rv⟩ := q1
          refine .inr ⟨a, _, hv, trivial, fun od => ?_⟩
          exact hp _ r1 _ (frz_ext e1 h0) ((he1.poke hv trivial).set (.obj (o := od) (dx := dx) (fs := fs) upd_same na hf (rv.poke hv trivial))) (s1.poke hv trivial na)
  exact lc_of T hu key
end
end Cy
set_option Elab.async false
set_option linter.all false
set_option maxRecDepth 100000
set_option maxHeartbeats 2000000
set_option autoImplicit false
namespace L2
open PySem PySem.Spec PyProof.Rows
/-- a law, the script's bits told -/
theorem walk_ofEB {l : PySem.W.OpenLaw} {n k : Nat} {q : Program} {loose : List Str} {XP : (Str → Option Value) → Heap → Prop} {YP : World → Heap → Prop} {d : DefRec} {CX : CXT} {x : Str}
    (hn : l.most = some n) (hn2 : n ≤ sizeLine) (hdf : d.params.defaults = []) (hr : Room k callerA)
    (F : ∀ (w : World) (mg : Str → Option Value) (fa : Addr) (h : Heap), YP w h → h.Ns mainGlobals mg → mg d.name = some (.ref fa) →
      ∃ (K : PySem.W.Frag) (fd : FuncData) (sp : Sp), K.In h ∧ (∀ (s : Shared) (u : Value), BindsTo s fd ⟨[u], []⟩ [(x, u)]) ∧
        (∀ (H : Hp) (a : Addr) (ns : List Int), ns.length ≤ n → (∀ z ∈ ns, Builtin.Int.intBits z ≤ 1048576) → Only H → SqL K H a (ns.map V.int) → sp [.ref a] H (fun v _ => v = .bl true) fun _ _ _ => False) ∧
        ∀ base : Heap, K.In base → base.Ns mainGlobals mg → FnOk l.prog w K mg base CX k fa fd [x] sp)
    (hCX : ∀ (H : Hp) (s : Shared) (e : Value) (s' : Shared), CX [] H s (fun _ _ _ => False) e s' → False) :
    PySem.W.WalkO q loose XP YP l.row.toRowW d [] (fun f vs => PySem.call f vs) := by
  refine Att.attach_callB hn hdf fun w s₀ s₁ mg mb fa o pm cd doc a vs ns G Y ho hd hcd hmg hobj hints hlen hbits hg => ?_
  obtain ⟨K, fd, sp, KX, hb, hsp, hF⟩ := F w mg fa _ Y G.T.g hmg
  exact law_call KX G.T.g G.T.b G.T.builtins G.T.nolimit hg hobj hints (Nat.le_trans hlen hn2) hr hF hb (fun H hO hS => hsp H a ns hlen hbits hO hS) fun H e s' => hCX H s₁ e s'
end L2
set_option Elab.async false
set_option linter.all false
set_option maxRecDepth 100000
set_option maxHeartbeats 2000000
set_option autoImplicit false
set_option Elab.async false
set_option linter.all false
set_option maxRecDepth 100000
set_option maxHeartbeats 2000000
set_option autoImplicit false
set_option Elab.async false
set_option linter.all false
set_option maxRecDepth 100000
set_option maxHeartbeats 2000000
set_option autoImplicit false
namespace PySem.W
open PySem PySem.Spec PySem.Calls PyProof.Rows
section
variable {prog : Program} {w : World} {A : Around} {E : Value → Shared → Prop} {s : Shared} {K : Frag} {x D : Addr} {ox : Obj} {od : Option Obj}
theorem findObj_dataA {C : Addr} {name : Str} {a g : Value} (hc : (clsIn K C).isSome = true) (ha : findIn K (.ref C) name = some (some a)) (hg : specialIn K a "__get__" = some (some g)) (ht : takesIn K a = some true) : findObj K C od name = some (.bind g a) := by
  obtain ⟨cd, hc⟩ := Option.isSome_iff_exists.mp hc
  unfold findObj
  rw [hc, Option.bind_some, ha, Option.bind_some]
  simp [hg, ht]
theorem kin_classA {Q : Option Value → Shared → Prop} (hga : findIn K (.ref D) "__getattribute__" = some (some (.builtin "BaseException.__getattribute__"))) (hgt : findIn K (.ref D) "__getattr__" = some none) (hsub : subIn K (.ref D) (.type "BaseException") = some true)
    (hdct : hasDictIn K D = true) (ha : findIn K (.ref D) "__class__" = some (some (.builtin "object.__class__")))
    (hn : specialIn K (.builtin "object.__class__") "__get__" = some (some (.builtin "getset_descriptor.__get__"))) (htk : takesIn K (.builtin "object.__class__") = some true) (hm : mroIn K D (.type "object") = some true)
    (X : K.In s.heap) (I : InstAt s.heap x ox D od) (h : Q (some (.ref D)) { s with toks := s.toks + 1 }) : wpAny (model prog w) A (getAttr? (.ref x) "__class__") Q E s := by
  have hf : findObj K D od "__class__" = some (.bind (.builtin "getset_descriptor.__get__") (.builtin "object.__class__")) := findObj_dataA (by obtain ⟨cd, hc, _⟩ := any_some hdct; rw [hc]; rfl) ha hn htk
  obtain ⟨hp, g, d, t, os⟩ := s
  have L0 := I.type (M := model prog w)
  have L1 := looks_findIn (M := model prog w) X hga
  have L2 := looks_findIn (M := model prog w) X hgt
  have L3 := looks_find (M := model prog w) X I hf
  have sub : Looks (model prog w) hp (isInstance (.ref x) (.type "BaseException")) true := L0.andThen (looks_subIn X hsub)
  have hx0 : (false && onTheHeap (Value.builtin "BaseException.__getattribute__")) = false := rfl
  have hx2 : (Value.builtin "BaseException.__getattribute__" == Value.builtin "object.__getattribute__") = false := by decide +kernel
  have hx1 : (onTheHeap (Value.ref D) && Value.builtin "BaseException.__getattribute__" == Value.builtin "object.__getattribute__") = false := by rw [hx2]; rfl
  unfold getAttr? getAttrBy? getAttrBy
  refine wpAny_bind (wpAny_mkText (wpAny_bind (wpAny_attempt (wpAny_holding (wpAny_bind (L0.at (wpAny_bind (L1.at ?_))))))))
  show wpAny _ _ (if (onTheHeap (Value.ref D) && Value.builtin "BaseException.__getattribute__" == Value.builtin "object.__getattribute__") = true then _ else _) _ _ _
  rw [hx1, if_neg Bool.false_ne_true]
  unfold getAttrByItsOwn hookBefore
  refine wpAny_bind ?_
  rw [if_pos (show onTheHeap (Value.ref D) = true from rfl)]
  refine L2.at ?_
  refine wpAny_bind (wpAny_attempt (wpAny_holding ?_))
  unfold callGetattribute
  rw [hx0, if_neg Bool.false_ne_true]
  unfold boundAndCalled
  rw [PySem.F.excAttr_ValueError.ga.bind (.ref x)]
  refine wpAny_bind (wpAny_pure ?_)
  show wpAny _ _ (call (.builtin "BaseException.__getattribute__") [.ref x, .str "__class__" t]) _ _ _
  refine wpAny_call (codeAny_call_builtin PySem.F.excAttr_ValueError.ga.plain PySem.F.entry_bexc_ga ?_)
  refine @check_slot (model prog w) _ _ ⟨hp, g, d, t + 1, os⟩ "BaseException.__getattribute__" "BaseException" "__getattribute__" (.ref x) [.str "__class__" t] [] _ (by decide +kernel) (by decide +kernel) sub (PySem.F.args_bexc_ga (.ref x) (.str "__class__" t)) ?_
  unfold Builtin.«object.__getattribute__»
  refine wpAny_bind (wpAny_of_eq (a := ((Value.ref x : Value), [Value.str "__class__" t])) (by first | rfl | (simp only [slotArgs]; rfl)) ?_)
  refine wpAny_bind (wpAny_pure (wpAny_bind (L0.at (wpAny_bind (L3.at ?_)))))
  show wpAny _ _ (holding [Value.builtin "object.__class__"] (call (.builtin "getset_descriptor.__get__") [.builtin "object.__class__", .ref x, .ref D]) >>= ret) _ _ _
  refine wpAny_bind (wpAny_holding (wpAny_call (class_get (s := ⟨hp, g, d, t + 1, os⟩) (ox := ox) (od := od) X I hm ?_)))
  refine wpAny_pure ?_
  show wpAny _ _ (handedOut (.ref D)) _ _ _
  rw [handedOut_of (v := .ref D) rfl]
  first
    | exact wpAny_pure (wpAny_pure h)
    | exact wpAny_pure h
    | exact wpAny_pure (wpAny_bind (wpAny_pure (wpAny_pure h)))
theorem kitx_excA (C : L2.ExcC K D) : KitX K (.ref x) (.ref D) (fun h => InstAt h x ox D od) where
  ty := fun _ _ _ I => I.type
  it := fun _ _ X _ => by
    obtain ⟨cdD, hcD, _⟩ := any_some C.hd
    unfold clsIn at hcD
    split at hcD
    · rename_i c' d' cd' sl' ho
      intro A' Q' E' s' k q
      unfold isType loadHead
      exact wpAny_bind (wpAny_loadPart (k _ _ (X _ _ ho)) (wpAny_pure q))
    · cases hcD
  ne := fun h tp dd its n sl X htp => by
    obtain ⟨cdD, hcD, _⟩ := any_some C.hd
    refine Bool.eq_false_iff.mpr fun q => ?_
    have e : D = tp := Value.ref.inj (beq_iff_eq.mp q)
    subst e
    unfold clsIn at hcD
    split at hcD
    · rename_i c' d' cd' sl' ho
      have z := (X _ _ ho).symm.trans htp
      cases z
    · cases hcD
  ca := fun X I k => kin_classA C.hg C.hk C.hs C.hd C.ha C.hn C.ht C.hm X I k
end
end PySem.W
namespace Cy
open PySem L2
inductive TyE (K : PySem.W.Frag) (H : Hp) : V → Value → Prop where
  | base {x : V} {t : Value} (h : TyX K H x t) : TyE K H x t
  | exc {a C : Addr} {oe : Obj} {d : Option Addr} (h : H a = some (.frz oe exm)) (x : ExObj C d oe) (T : ExcC K C) (hd : ∀ dd, d = some dd → ∃ fs, H dd = some (.xd fs)) : TyE K H (.ref a) (.ref C)
section
variable {X : Cx} {pins : List (Addr × Obj)} {σ : St} {H : Hp} {s : Shared}
theorem inst_exc {a C : Addr} {oe : Obj} {d : Option Addr} (I : Inv X pins σ H s) (h : H a = some (.frz oe exm)) (x : ExObj C d oe) (hd : ∀ dd, d = some dd → ∃ fs, H dd = some (.xd fs)) : ∃ od, PySem.W.InstAt s.heap a oe C od := by
  obtain ⟨ha, _⟩ := (show ObjOk X.prog X.w H s.heap a (.frz oe exm) from I.hok a _ h)
  obtain ⟨h1, h2, vs, h3⟩ := x
  cases d with
  | none =>
    obtain ⟨oc, od, oda, osl⟩ := oe
    dsimp only at h1 h2 h3
    subst h1 h2 h3
    exact ⟨none, ha, rfl, rfl, trivial⟩
  | some dd =>
    obtain ⟨fs, hx⟩ := hd dd rfl
    have hx2 : ObjOk X.prog X.w H s.heap dd (.xd fs) := I.hok dd _ hx
    obtain ⟨mA, hns, hr⟩ := hx2
    obtain ⟨od, ho, hl⟩ := lookIn_ns hns
    exact ⟨some od, ha, h1, by unfold PySem.W.notCls; rw [h3] <;> rfl, by rw [h2]; exact ho⟩
theorem kit_ofE {x : V} {u t : Value} (I : Inv X pins σ H s) (rx : RelV x u) (ty : TyE X.K H x t) : ∃ P : Heap → Prop, PySem.W.KitX X.K u t P ∧ P s.heap ∧ u ≠ .builtin "__main__.__loader__#opaque" := by
  cases ty with
  | base h => exact kit_of I rx h
  | @exc a C oe d h x T hd =>
    cases (show u = Value.ref a from rx)
    obtain ⟨od, J⟩ := inst_exc I h x hd
    exact ⟨_, PySem.W.kitx_excA T, J, fun z => nomatch z⟩
def rIsi2 (K : PySem.W.Frag) : List V → Hp → VK → Prop := fun xs H Q => ∃ (x c : V) (t u : Value) (b : Bool), xs = [x, c] ∧ ClsV c u ∧ TyE K H x t ∧ PySem.W.kitOne K t u = some b ∧ Q (.bl b) H
theorem call_isi2 : CallR X (.builtin "isinstance") (rIsi2 X.K) := by
  intro pins s σ H xs us Q I r h
  obtain ⟨x, c, t, u, b, rfl, k, ty, e, q⟩ := h
  obtain ⟨u1, u2, rfl, r1, r2⟩ := vals2 r
  have e2 := k.eq r2
  subst e2
  obtain ⟨P, Z, p, hx⟩ := kit_ofE I r1 ty
  exact PySem.W.kia_one Z I.kIn p e hx fun tk => ⟨.bl b, H, I.tok tk, rfl, q⟩
end
/-- by class number: is it one of these? nb: is None? -/
def pIsE (nb : Option Bool) (tb : List (Nat × Bool)) : Sto → List Rv → Option Rv := fun _ xs => match xs with
  | [.va (.exn c _)] => (tb.lookup c).map fun b => .va (.bl b)
  | [.va .non] => nb.map fun b => .va (.bl b)
  | _ => none
def rAsk (K : PySem.W.Frag) (ask : Value → Option Bool) : List V → Hp → VK → Prop := fun vs H Q => ∃ x, vs = [x] ∧ ∃ t b, TyE K H x t ∧ ask t = some b ∧ Q (.bl b) H
theorem ok_isE {G : Cfg} {ask : Value → Option Bool} {nb : Option Bool} {tb : List (Nat × Bool)} (T : IsTb G.K G.cA ask nb tb) : Pure1 G (rAsk G.K ask) (pIsE nb tb) := by
  intro r H0 H S xs z vs Q s b q e k
  unfold pIsE at e
  split at e
  · rename_i c ds
    cases e1 : tb.lookup c with
    | none => rw [e1] at e; cases e
    | some y =>
      rw [e1] at e
      cases e
      obtain ⟨v, rfl, q1⟩ := reps1 q
      obtain ⟨h1, h2⟩ := T.exn c y e1
      refine ⟨v, rfl, .ref (G.cA c), y, ?_, h1, fin_same k (.bl _)⟩
      cases q1 with
      | exn0 h na x => exact .exc h x h2 fun dd e => by cases e
      | exnF h na x hd nd hf q => exact .exc h x h2 fun dd e => by cases e; exact ⟨_, hd⟩
  · cases e1 : nb with
    | none => rw [e1] at e; cases e
    | some y =>
      rw [e1] at e
      cases e
      obtain ⟨v, rfl, q1⟩ := reps1 q
      cases q1
      exact ⟨_, rfl, _, y, .base (.base .non), T.non y e1, fin_same k (.bl _)⟩
  · cases e
section
variable {X : Cx} {cA : Nat → Addr} {fN : Nat → List Str} {W : WX} {a e : Expr} {es : List Expr} {pos p tp : Pos} {ma : EX} {vs : List V} {v : V}
theorem i_isE1 {c : V} {u : Value} {nb : Option Bool} {tb : List (Nat × Bool)} {e2 : Expr} (hm : X.mg "isinstance" = none) (T : IsTb X.K cA (fun t => PySem.W.kitOne X.K t u) nb tb) (hc : PE X e2 (tC c)) (k : ClsV c u) (ha : PE X a (TI (GX X cA fN) W ma)) (hg : Gl X "isinstance" := by rfl)
    (hst : starEach [a, e2] X.env = (false, eval a X.env) :: starEach [e2] X.env := by rfl) (hst2 : starEach [e2] X.env = (false, eval e2 X.env) :: starEach [] X.env := by rfl) (hpl : (backTo pos (starEach [e2] X.env)).any (·.1) = false := by rfl) :
    PE X (.Call (.Name "isinstance" p) [a, e2] [] pos) (TI (GX X cA fN) W (eP (lift (pIsE nb tb)) [ma])) :=
  (pe_callB call_isi2 hg hm (by decide +kernel) (pa_cons ha (pa_cons hc pa_nil hst2) hst) (by decide) (by decide) hst hpl).mono fun σ H Q h => by
  obtain ⟨r, S, env, he, hs, hp⟩ := h
  have hq := prim_post (ok_isE (G := GX X cA fN) T).ok hp
  refine ⟨r, S, env, he, hs, Post.bind hq fun x S1 v r1 H1 e1 s1 q1 z => ?_⟩
  obtain ⟨x', e, t, b, h1, h2, h3⟩ := z [v] r1 H1 e1 s1 (.cons q1 .nil)
  cases e
  exact ⟨v, c, t, u, b, rfl, k, h1, h2, h3⟩
end
end Cy
namespace Cy
open PySem L2
section
variable {K : PySem.W.Frag}
theorem Fx.is1_ok {x : Str} {y : Cn} {b : Bool} (h : (Fx.is1 x y b).ok K = true) : PySem.W.kitOne K (.ref (He.ga K x)) (y.val K) = some b := of_decide_eq_true h
theorem fxOk {fx : List Fx} (h : (fx.all fun f => f.ok K) = true) (i : Nat) {f : Fx} (e : fx[i]? = some f := by rfl) : f.ok K = true := List.all_eq_true.mp h f (List.mem_of_getElem? e)
theorem Fx.excC {x : Str} (h : (Fx.exC x).ok K = true) : ExcC K (He.ga K x) := by
  obtain ⟨h1, h2⟩ := He.ba h
  obtain ⟨a1, h1⟩ := He.ba h1
  obtain ⟨a2, h1⟩ := He.ba h1
  obtain ⟨a3, a4⟩ := He.ba h1
  obtain ⟨b1, h2⟩ := He.ba h2
  obtain ⟨b2, h2⟩ := He.ba h2
  obtain ⟨b3, b4⟩ := He.ba h2
  exact ⟨He.eqO_ok a1, He.eqO_ok a2, of_decide_eq_true a3, a4, He.eqO_ok b1, He.eqO_ok b2, of_decide_eq_true b3, of_decide_eq_true b4⟩
end
theorem obsXG_eq {n : Nat} {fa : List He.Fa} {fn : List He.DefD} {fx : List Fx} {g : Addr → Option Obj} {s : Shared} (h : ∀ a, g a = s.heap.get? a) : obsXG n fa fn fx g = (hookX n fa fn fx).obs s := by
  have e : g = s.heap.get? := funext h
  rw [e] <;> rfl
end Cy
set_option Elab.async false
set_option linter.all false
set_option maxRecDepth 100000
set_option maxHeartbeats 2000000
set_option autoImplicit false
namespace L2
open PySem PySem.Spec PyProof.Rows
section
variable {X : Cx} {pins : List (Addr × Obj)} {σ : St} {H : Hp} {s : Shared} {C B : Addr} {mc u : Value} {m : Str} {A : Around} {E : Value → Shared → Prop}
/-- B.m, read off the class -/
theorem getmethc_ok {pl : Sem Bool} {Q : Value × List Value → Shared → Prop} (I : Inv X pins σ H s) (rd : PySem.W.readsIn X.K B mc = true) (ga : PySem.W.specialIn X.K (.ref B) "__getattribute__" = some (some (.builtin "type.__getattribute__")))
    (at_ : PySem.W.findCls X.K (.ref B) mc m = some (.val u)) (hh : PySem.W.handedIn u = true) (h : ∀ s', Inv X pins σ H s' → Q (u, []) s') : wpAny (model X.prog X.w) A (getMethod (.ref B) m pl) Q E s :=
  PySem.W.method_cls I.kIn ga (PySem.W.cls_value I.kIn rd at_ hh (h _ (I.tok _)))
end
section
variable {X : Cx} {o e : Expr} {es : List Expr} {to te : TE} {ta : TA} {B : Addr} {mc : Value} {x : Str} {p1 p2 pos : Pos}
/-- B.__init__(self, ..), B an own class that has it from ValueError -/
theorem pe_veinitC {pl : Sem Bool} (hg : Gl X x) (hm : X.mg x = some (.ref B)) (rd : PySem.W.readsIn X.K B mc = true) (ga : PySem.W.specialIn X.K (.ref B) "__getattribute__" = some (some (.builtin "type.__getattribute__")))
    (vV : PySem.W.findCls X.K (.ref B) mc "__init__" = some (.val (.builtin "ValueError.__init__"))) (ha : PA X (e :: es) ta) (hdb : (x == ("__debug__" : Str)) = false := by decide)
    (hc : eval (.Call (.Attribute (.Name x p1) "__init__" p2) (e :: es) [] pos) X.env = (do
      let ov ← eval (.Name x p1) X.env
      standAt p2.atName
      let (f, first) ← holding [ov] (getMethod ov "__init__" pl)
      callWith pos f first (backTo pos (starEach (e :: es) X.env)) (backToKw pos (keywordEach [] X.env))) := by rfl)
    (he : starEach (e :: es) X.env = (false, eval e X.env) :: starEach es X.env := by rfl) (hpl : (backTo pos (starEach es X.env)).any (·.1) = false := by rfl) :
    PE X (.Call (.Attribute (.Name x p1) "__init__" p2) (e :: es) [] pos) (tVeI X.K ta) := by
  refine ⟨fun pins s σ H Q I h => ?_⟩
  refine PySem.W.methodCall_KW (ld_glob I hg hm ?_ hdb) hc
  refine getmethc_ok (I.tok _) rd ga vV (by decide +kernel) fun s0 I0 => ?_
  show wpAny _ _ (callWith pos (Value.builtin "ValueError.__init__") [] (backTo pos (starEach (e :: es) X.env)) []) _ _ _
  refine PyProof.Rows.callWith_method1 (thn (ha.run pos pins _ σ H _ I0 h) fun us s1 ⟨vs, H1, I1, r1, a, C, ws, ev, hl, T, ea, q⟩ => ?_) he hpl
  subst ev
  cases r1 with
  | @cons _ u0 _ ur ra rw' =>
    obtain rfl : u0 = Value.ref a := ra
    have hlen : ur.length ≤ sizeLine := by
      rw [← Paired.length rw', sizeLine_eq]
      omega
    exact oinit_ok T I1 ea hlen fun s' J => ⟨.non, H1, J, rfl, q⟩
/-- fields are set one behind another: self.f = (name) -/
def fldsTo (a : Addr) (C : Addr) (dx : Addr) (fs : List (Str × V)) (H : Hp) : Hp := upd (upd H dx (exd dx fs)) a (exo a C (some dx))
theorem fldsTo_more {a C dx : Addr} {fs gs : List (Str × V)} {H : Hp} (ne : dx ≠ a) : upd (fldsTo a C dx fs H) dx (exd dx gs) = fldsTo a C dx gs H := by
  funext b
  unfold fldsTo
  by_cases h1 : b = dx
  · subst h1
    rw [upd_same, upd_ne ne, upd_same]
  · rw [upd_ne h1]
    by_cases h2 : b = a
    · subst h2
      rw [upd_same, upd_same]
    · rw [upd_ne h2, upd_ne h2, upd_ne h1, upd_ne h1]
/-- the init of such a class: what is told of it -/
def spXi (K : PySem.W.Frag) (names : List Str) : Sp := fun vs H Q _ => ∃ (a C : Addr) (ys : List V), vs = .ref a :: ys ∧ ys.length = names.length ∧ OexC K C ∧ (∀ f ∈ names, PySem.W.findIn K (.ref C) f = some none) ∧ H a = some (exo a C none) ∧
  ∀ dx, H dx = none → dx ≠ a → Q .non (fldsTo a C dx (names.zip ys).reverse H)
end
end L2
namespace L2
open PySem PySem.Spec PyProof.Rows
/-- the body of such an init -/
def tXi (K : PySem.W.Frag) (names : List Str) : TS := fun D σ H => ∃ (a C : Addr) (ys : List V), σ[0]? = some (some (.ref a)) ∧ (∀ i y, ys[i]? = some y → σ[i + 1]? = some (some y)) ∧ ys.length = names.length ∧ OexC K C ∧ (∀ f ∈ names, PySem.W.findIn K (.ref C) f = some none) ∧ H a = some (exo a C none) ∧
  ∀ dx, H dx = none → dx ≠ a → D.nx σ (fldsTo a C dx (names.zip ys).reverse H)
theorem ost_first {K : PySem.W.Frag} {f : Str} {u : TS} {D : Ends} {σ : St} {H : Hp} {i : Nat} {a C : Addr} {y : V} (h0 : σ[0]? = some (some (.ref a))) (hi : σ[i]? = some (some y)) (T : OexC K C) (hf : PySem.W.findIn K (.ref C) f = some none) (ha : H a = some (exo a C none))
    (k : ∀ dx, H dx = none → dx ≠ a → u D σ (fldsTo a C dx [(f, y)] H)) : tSeq (tOst K f (tVar 0) (tVar i)) u D σ H :=
  ⟨y, hi, .ref a, h0, a, C, rfl, T, hf, .inl ⟨ha, fun dx n ne => k dx n ne⟩⟩
theorem ost_next {K : PySem.W.Frag} {f : Str} {u : TS} {D : Ends} {σ : St} {H : Hp} {i : Nat} {a C dx : Addr} {y : V} {fs : List (Str × V)} (h0 : σ[0]? = some (some (.ref a))) (hi : σ[i]? = some (some y)) (T : OexC K C) (hf : PySem.W.findIn K (.ref C) f = some none) (ne : dx ≠ a) (hl : fs.length ≤ 900)
    (k : u D σ (fldsTo a C dx ((f, y) :: fs) H)) : tSeq (tOst K f (tVar 0) (tVar i)) u D σ (fldsTo a C dx fs H) :=
  ⟨y, hi, .ref a, h0, a, C, rfl, T, hf, .inr ⟨dx, fs, upd_same, by
    unfold fldsTo
    rw [upd_ne ne, upd_same], hl, by
    show u D σ (upd (fldsTo a C dx fs H) dx (exd dx ((f, y) :: fs)))
    rw [fldsTo_more ne]; exact k⟩⟩
section
variable {X : Cx} {st0 st1 st2 st3 : Stmt} {m : Str} {f1 f2 f3 : Str}
theorem pss_xi1 (h0 : PS X st0 (tDrop (tVeI X.K (tCons (tVar 0) (tCons (tC (.str m)) tNil))))) (h1 : PS X st1 (tOst X.K f1 (tVar 0) (tVar 1))) : PSs X [st0, st1] (tXi X.K [f1]) := (pss_cons h0 (pss_cons h1 pss_nil)).mono fun D σ H h => by
  obtain ⟨a, C, ys, s0, sy, hl, T, hf, ha, k⟩ := h
  match ys, hl with
  | [y], _ =>
    refine ⟨.ref a, s0, a, C, [.str m], rfl, by simp, T, ha, ?_⟩
    exact ost_first s0 (sy 0 y rfl) T (hf f1 (by simp)) ha fun dx n ne => k dx n ne
theorem pss_xi3 (h0 : PS X st0 (tDrop (tVeI X.K (tCons (tVar 0) (tCons (tC (.str m)) tNil))))) (h1 : PS X st1 (tOst X.K f1 (tVar 0) (tVar 1))) (h2 : PS X st2 (tOst X.K f2 (tVar 0) (tVar 2))) (h3 : PS X st3 (tOst X.K f3 (tVar 0) (tVar 3))) : PSs X [st0, st1, st2, st3] (tXi X.K [f1, f2, f3]) :=
  (pss_cons h0 (pss_cons h1 (pss_cons h2 (pss_cons h3 pss_nil)))).mono fun D σ H h => by
  obtain ⟨a, C, ys, s0, sy, hl, T, hf, ha, k⟩ := h
  match ys, hl with
  | [y, z, w], _ =>
    refine ⟨.ref a, s0, a, C, [.str m], rfl, by simp, T, ha, ?_⟩
    exact ost_first s0 (sy 0 y rfl) T (hf f1 (by simp)) ha fun dx n ne => ost_next s0 (sy 1 z rfl) T (hf f2 (by simp)) ne (by simp) <| ost_next s0 (sy 2 w rfl) T (hf f3 (by simp)) ne (by simp) <| k dx n ne
end
section
variable {P : Program} {w : World} {K : PySem.W.Frag} {mg : Str → Option Value} {base : Heap} {k : Nat} {f : Addr} {fd : FuncData} {x qual : Str} {params : Arguments} {body : List Stmt} {scope : Scope} {dvs : List V} {kws : List (Str × V)} {N ps names : List Str}
theorem fn_xi (F : FunD K x qual params body scope dvs kws f fd) (S : FnScope N ps scope) (hp : ps.length = names.length + 1) (hN : N.length = ps.length)
    (hb : ∀ (cdv : Value) (A : Around) (outer : List PySem.Env) (s : Shared) (H : Hp) (E : XK), Room k (A.deeper (PyProof.Rows.envOfC qual scope s.heap.objs.size f cdv)) → PSs (cxOf CX0 P w K mg base N qual scope f cdv A outer s H E) body (tXi K names)) :
    FnOk P w K mg base CX0 (k + 1) f fd ps (spXi K names) := by
  refine F.ok S (fun vs H Q E h => ?_) fun cdv A outer s H vs Q E hr h => ⟨_, hb cdv A outer s H E hr, ?_⟩
  · obtain ⟨a, C, ys, rfl, hl, _⟩ := h
    rw [List.length_cons, hl, hp]
  · obtain ⟨a, C, ys, rfl, hl, T, hf, ha, q⟩ := h
    refine ⟨a, C, ys, rfl, fun i y hy => ?_, hl, T, hf, ha, q⟩
    unfold L2.start
    rw [List.getElem?_append_left (by have := (List.getElem?_eq_some_iff.mp hy).1; rw [List.length_map, List.length_cons]; omega), List.getElem?_map, List.getElem?_cons_succ, hy]; rfl
end
end L2
namespace Cy
open PySem L2
section
variable {X : Cx} {cA : Nat → Addr} {fN : Nat → List Str} {W : WX} {e : Expr} {es : List Expr} {ms : List EX}
theorem unva_len : ∀ {xs : List Rv} {ds : List D}, unva xs = some ds → ds.length = xs.length
  | [], ds, h => by cases h; rfl
  | x :: xs, ds, h => by
    cases x with
    | fr o => cases h
    | va d =>
      unfold unva at h
      cases e : unva xs with
      | none => rw [e] at h; cases h
      | some es =>
        rw [e] at h
        cases h
        rw [List.length_cons, List.length_cons, unva_len e]
theorem passes0 {X : Cx} {E : XK} : Passes CX0 X E := fun _ _ _ _ _ _ _ h => h.elim
end
end Cy
namespace L2
open PySem PySem.Spec PyProof.Rows
/-- err.f, err an exception held fast -/
def tXfF (K : PySem.W.Frag) (f : Str) (te : TE) : TE := fun σ H Q => te σ H fun x H1 => ∃ (a C dd : Addr) (oe : Obj) (fs : List (Str × V)) (v : V), x = .ref a ∧ H1 a = some (.frz oe Cy.exm) ∧ Cy.ExObj C (some dd) oe ∧ H1 dd = some (.xd fs) ∧ XfC K C ∧ PySem.W.findIn K (.ref C) f = some none ∧ fs.lookup f = some v ∧ Q v H1
theorem pe_xfF {X : Cx} {e : Expr} {te : TE} {pos : Pos} {n : Str} (he : PE X e te) (hb : attributeBase e n X.env (eval e X.env) = eval e X.env := by rfl) : PE X (.Attribute e n pos) (tXfF X.K n te) := by
  refine ⟨fun pins s σ H Q I h => ?_⟩
  refine attr_of hb (thn (he.run pins s σ H _ I h) fun u s1 hh => ?_)
  obtain ⟨x, H1, I1, rx, a, C, dd, oe, fs, v, ex, ea, xo, ed, T, hno, l, q⟩ := hh
  subst ex
  obtain rfl : u = Value.ref a := rx
  obtain ⟨ha, _⟩ := (show ObjOk X.prog X.w H1 s1.heap a (.frz oe Cy.exm) from I1.hok a _ ea)
  obtain ⟨z1, z2, vs, hd⟩ := xo
  have hx : ObjOk X.prog X.w H1 s1.heap dd (.xd fs) := I1.hok dd _ ed
  obtain ⟨mA, hns, hr⟩ := hx
  obtain ⟨od, ho, hl⟩ := lookIn_ns hns
  obtain ⟨u, hu, ru⟩ := RelO.some_of (v := v) (o := mA n) (by rw [← l]; exact hr n)
  have J : PySem.W.InstAt s1.heap a oe C (some od) := ⟨ha, z1, by unfold PySem.W.notCls; rw [hd] <;> rfl, by rw [z2]; exact ho⟩
  exact HandSPX.exc_get I1.kIn J T.ga T.gg T.exC (PySem.W.findObj_own T.hdC hno rfl (by rw [hl, hu])) (handed_of ru) ⟨v, H1, I1.tok _, ru, q⟩
end L2
namespace Cy
open PySem L2
def fldX (tbl : List (Nat × Nat)) : Rv → Option D
  | .va (.exn c ds) => (tbl.lookup c).bind fun j => ds[j]?
  | _ => none
def eFldX (tbl : List (Nat × Nat)) (m : EX) : EX := fun env S => (m env S).bind fun x S1 => match fldX tbl x with
  | some d => .ok (.va d) S1
  | none => .bad
section
variable {X : Cx} {cA : Nat → Addr} {fN : Nat → List Str} {W : WX} {e : Expr} {m : EX} {f : Str} {tbl : List (Nat × Nat)} {pos : Pos}
theorem i_fldX (F : FldX (GX X cA fN) f tbl) (h : PE X e (TI (GX X cA fN) W m)) (hb : attributeBase e f X.env (eval e X.env) = eval e X.env := by rfl) : PE X (.Attribute e f pos) (TI (GX X cA fN) W (eFldX tbl m)) := (pe_xfF h hb).mono fun σ H Q h => by
  obtain ⟨r, S, env, he, hs, hp⟩ := h
  refine ⟨r, S, env, he, hs, Post.bind hp fun x S1 v r1 H1 e1 s1 q1 z => ?_⟩
  cases ex : fldX tbl x with
  | none => rw [ex] at z; exact z.elim
  | some d =>
    rw [ex] at z
    unfold fldX at ex
    split at ex
    · rename_i c ds
      cases hj : tbl.lookup c with
      | none => rw [hj] at ex; cases ex
      | some j =>
        rw [hj] at ex
        have ex : ds[j]? = some d := ex
        obtain ⟨T, hno, hfj, nd⟩ := F.ok c j hj
        have q1 : Rep (GX X cA fN) r1 H1 v (.exn c ds) := q1
        cases q1 with
        | exn0 h na x => simp at ex
        | @exnF a dd oe _ fs _ h na xo hd ndd hf q =>
          obtain ⟨w, hw, rw_⟩ := q.get ex
          rw [List.getElem?_map] at hw
          cases hp2 : fs[j]? with
          | none => rw [hp2] at hw; cases hw
          | some p =>
            rw [hp2] at hw
            cases hw
            have hl : fs.map (·.1) = ((GX X cA fN).fN c).take ds.length := hf
            have hjl : j < ds.length := (List.getElem?_eq_some_iff.mp ex).1
            have n1 : (fs.map (·.1)).Nodup := by rw [hl]; exact nd.sublist (List.take_sublist _ _)
            have n2 : p.1 = f := by
              have h1 : (fs.map (·.1))[j]? = some p.1 := by rw [List.getElem?_map, hp2]; rfl
              rw [hl, List.getElem?_take_of_lt hjl] at h1
              have h2 : ((GX X cA fN).fN c)[j]? = some f := hfj
              rw [h2] at h1
              exact (Option.some.inj h1).symm
            exact ⟨a, cA c, dd, oe, fs, p.2, rfl, h, xo, hd, T, hno, look_at n1 hp2 n2, z _ r1 H1 e1 s1 rw_⟩
    · cases ex
end
end Cy
namespace Cy
open PySem L2
section
variable {K : PySem.W.Frag} {x f c : Str}
theorem Fx.xf_ok (h : (Fx.xf x f).ok K = true) : XfC K (He.ga K x) ∧ PySem.W.findIn K (.ref (He.ga K x)) f = some none := by
  obtain ⟨h1, h2⟩ := He.ba h
  exact ⟨xfB_ok h1, He.eqO_ok h2⟩
theorem Fx.ini_ok (h : (Fx.ini x c).ok K = true) : PySem.W.findIn K (.ref (He.ga K x)) "__init__" = some (some (.ref (He.fAd K (c, some "__init__")))) ∧ PySem.W.typeIn K (.ref (He.fAd K (c, some "__init__"))) = some (.type "function") := by
  obtain ⟨h1, h2⟩ := He.ba h
  exact ⟨He.eqO_ok h1, of_decide_eq_true h2⟩
theorem Fx.sup_ok (h : (Fx.sup x).ok K = true) : PySem.W.readsIn K (He.ga K x) (.type "type") = true ∧ PySem.W.specialIn K (.ref (He.ga K x)) "__getattribute__" = some (some (.builtin "type.__getattribute__")) ∧ PySem.W.findCls K (.ref (He.ga K x)) (.type "type") "__init__" = some (.val (.builtin "ValueError.__init__")) := by
  obtain ⟨h1, h2⟩ := He.ba h
  obtain ⟨h2, h3⟩ := He.ba h2
  refine ⟨h1, He.eqO_ok h2, ?_⟩
  unfold supB at h3
  split at h3
  · rename_i n e
    rw [e, beq_iff_eq.mp h3]
  · cases h3
theorem oexB_ok {C : Addr} (q : oexB K C = true) : ∃ nm q N bs bm sn sub ab col dd k0 k1 k2 k3 k5, K.lookup C = some (excClassObj nm q C N bs bm true sn sub ab col dd k0 k1 k2 k3 k5 "ValueError.__new__") ∧ PySem.HandSPX.refsVE bm = true := by
  unfold oexB at q
  split at q
  · rename_i dd cd sl ho
    split at q
    · rename_i C' bm k0 k1 k2 k3 n k5 hm hs
      simp only [Bool.and_eq_true, beq_iff_eq, Bool.not_eq_true'] at q
      obtain ⟨rfl, rfl, hdel, hdict, ht⟩ := q
      obtain ⟨nm, bs, mro, ns, qn, hd, sn, sub, ab, col, del⟩ := cd
      dsimp only at hm hdel hdict
      subst hm hdel hdict
      have hsl : sl = #[k0, k1, k2, k3, some (.builtin "ValueError.__new__"), k5] := by
        obtain ⟨l⟩ := sl
        simp only at hs
        rw [hs]
      subst hsl
      exact ⟨nm, qn, ns, bs, bm, sn, sub, ab, col, dd, k0, k1, k2, k3, k5, ho, ht⟩
    · cases q
  · cases q
theorem Fx.oex_ok (h : (Fx.oex x).ok K = true) : OexC K (He.ga K x) := by
  obtain ⟨h1, h⟩ := He.ba h
  obtain ⟨h2, h⟩ := He.ba h
  obtain ⟨h3, h⟩ := He.ba h
  obtain ⟨h4, h5⟩ := He.ba h
  exact ⟨oexB_ok h1, He.eqO_ok h2, of_decide_eq_true h3, of_decide_eq_true h4, h5⟩
end
/-- an exception class's init, as those that raise it see it -/
structure XIni (P : Program) (w : World) (K : PySem.W.Frag) (mg : Str → Option Value) (base : Heap) (k : Nat) (c : Str) (names : List Str) : Prop where
  got : ∃ (fd : FuncData) (ps : List Str), FnOk P w K mg base CX0 k (He.fAd K (c, some "__init__")) fd ps (spXi K names) ∧ Binds K fd ps []
end Cy
set_option Elab.async false
set_option linter.all false
set_option maxRecDepth 100000
set_option maxHeartbeats 2000000
set_option autoImplicit false
namespace L2
open PySem PySem.Spec PyProof.Rows
section
variable {X : Cx} {e : Expr} {es : List Expr} {ta : TA} {p pos : Pos} {x : Str}
/-- X(e), an own exception class without an own __init__ -/
theorem pe_exv0 {C : Addr} {bmB : List Value} {B newId initId : String} (F : ExcBaseFacts B newId initId bmB) (q : PySem.W.excIn X.K C bmB newId = true) (gC : X.mg x = some (.ref C)) (kC : PySem.W.keepIn X.K (.ref C) = true) (hg : Gl X x)
    (he : PA X [e] ta) (hs : starEach [e] X.env = (false, eval e X.env) :: starEach [] X.env := by rfl) (hdb : (x == ("__debug__" : Str)) = false := by decide) (hpl : (backTo pos (starEach [] X.env)).any (·.1) = false := by rfl) :
    PE X (.Call (.Name x p) [e] [] pos) (fun σ H Q => ta σ H fun vs H1 => vs.length = 1 ∧ ∀ a oe, H1 a = none → Cy.ExObj C none oe → Q (.ref a) (upd H1 a (.frz oe Cy.exm))) := by
  refine ⟨fun pins s σ H Q I h => ?_⟩
  refine wpAny_Call_Name_kw (ld_glob I hg gC ?_ hdb)
  refine PySem.W.callWith_K (h₀ := X.base) I.ok.mod.kin kC (thn (he.run pos pins s σ H _ I h) fun us s1 ⟨vs, H1, I1, r1, hz, q1⟩ => ⟨I1.kIn, ?_⟩) hs hpl
  have hl := r1.length
  rw [hz] at hl
  match us, hl with
  | [u], _ =>
    show wpAny _ _ (call (.ref C) [u]) _ _ _
    obtain ⟨bm, N, nm, qn, bs, hdct, sn, sub, ab, col, dd, k0, k1, k2, k3, k5, mN, hC, hN, hni, T⟩ := exc_obj I1.kIn q
    refine wpAny_call_exc_subT F T hC hN hni (fun h' a hm => ?_) (by show 1 ≤ sizeLine; rw [sizeLine_eq]; omega)
    have hn : H1 a = none := I1.hok.gone hm.new
    obtain ⟨t, ht, _, _⟩ := hm.there
    exact ⟨.ref a, upd H1 a (.frz _ Cy.exm), I1.laidN hm.keeps hm.new hn (show ObjOk X.prog X.w (upd H1 a (.frz _ Cy.exm)) h' a (.frz _ Cy.exm) from ⟨ht, trivial, ⟨_, ht⟩, fun _ _ _ _ => trivial⟩), rfl, q1 a _ hn ⟨rfl, rfl, _, rfl⟩⟩
def tMkV (C : Addr) (sp : Sp) (dvs : List V) (ta : TA) : TE := fun σ H Q => ta σ H fun vs H1 => vs.length ≤ 1000 ∧ ∀ a, H1 a = none → sp (.ref a :: (vs ++ dvs)) (upd H1 a (exo a C none))
  (fun v H2 => v = .non ∧ ∃ (d : Addr) (fs : List (Str × V)), H2 a = some (exo a C (some d)) ∧ H2 d = some (exd d fs) ∧ H1 d = none ∧ ∀ oe, Cy.ExObj C (some d) oe → Q (.ref a) (upd (upd H2 d (.xd fs)) a (.frz oe Cy.exm))) (fun _ _ _ => False)
theorem mk_endV {pins : List (Addr × Obj)} {σ : St} {H1 H2 : Hp} {hp hp2 h2 : Heap} {g1 g2 : Array GenState} {d1 d2 : Drawn} {t1 t2 : Nat} {os1 os2 : OsState} {a C d : Addr} {fs : List (Str × V)} (I1 : Inv X pins σ H1 ⟨hp, g1, d1, t1, os1⟩)
    (ha : hp.objs.size ≤ a) (k : ∀ b o, hp.get? b = some o → hp2.get? b = some o) (un : Un (frs X.stack) [] (upd H1 a (exo a C none)) H2 hp2 h2) (hok : HOk X.prog X.w H2 h2) (ho : os2 = os1) (hb : AllBare g2)
    (ea : H2 a = some (exo a C (some d))) (ed : H2 d = some (exd d fs)) (hd1 : H1 d = none) :
    ∃ oe, Cy.ExObj C (some d) oe ∧ Inv X pins σ (upd (upd H2 d (.xd fs)) a (.frz oe Cy.exm)) ⟨h2, g2, d2, t2, os2⟩ := by
  obtain ⟨t0, hoe⟩ := exo_at hok ea
  obtain ⟨mA, hns, rel⟩ := exd_at hok ed
  have hn : H1 a = none := I1.hok.fresh ha
  have hda : d ≠ a := fun z => by
    obtain ⟨o, es, ep, e1, e2, _⟩ := hns
    rw [z, hoe] at e1
    have z2 := Option.some.inj e1
    subst z2
    cases e2
  refine ⟨_, ⟨rfl, rfl, _, rfl⟩, I1.call' (ch := []) (H' := upd (upd H2 d (.xd fs)) a (.frz ({ cls := .ref C, dict := some d, data := .fields #[.ref t0, .none, .none, .none, .bool false, .none] } : Obj) Cy.exm)) ho ?_ ?_ hb (fun b z => absurd z (by simp))⟩
  · have nha : ∀ {b : Addr} {o : Obj}, hp.get? b = some o → b ≠ a := fun {b o} z => Nat.ne_of_lt (Nat.lt_of_lt_of_le (Heap.lt_size z) ha)
    have up : ∀ {b : Addr}, b ≠ a → H1 b = none → upd H1 a (exo a C none) b = none := fun {b} hb n => by rw [upd_ne hb]; exact n
    have nd : ∀ {b : Addr} {o : Obj}, hp.get? b = some o → H1 b = none → b ≠ d := fun {b o} z n e => by
      have y := un.free b o (k b o z) (up (nha z) n) (by simp)
      rw [e, ed] at y
      cases y
    exact {
      keep := fun b o z n hf hx => un.keep b o (k b o z) (up (nha z) n) hf hx
      slot := fun b o z n hf hx => un.slot b o (k b o z) (up (nha z) n) hf hx
      free := fun b o z n hx => by
        rw [upd_ne (nha z), upd_ne (nd z n)]
        exact un.free b o (k b o z) (up (nha z) n) hx
      there := fun b o z hx => un.there b o (k b o z) hx
      tups := fun b xs z => by
        rw [upd_ne (ne_of_none z hn), upd_ne (ne_of_none z hd1)]
        exact un.tups b xs (by rw [upd_ne (ne_of_none z hn)]; exact z)
      frzs := fun b o v z => by
        rw [upd_ne (ne_of_none z hn), upd_ne (ne_of_none z hd1)]
        exact un.frzs b o v (by rw [upd_ne (ne_of_none z hn)]; exact z)
      tbls := fun b ps z => by
        rw [upd_ne (ne_of_none z hn), upd_ne (ne_of_none z hd1)]
        exact un.tbls b ps (by rw [upd_ne (ne_of_none z hn)]; exact z) }
  · intro b o z
    by_cases hba : b = a
    · subst hba
      rw [upd_same] at z
      cases z
      exact ⟨hoe, trivial, ⟨_, hoe⟩, fun _ _ _ _ => trivial⟩
    · rw [upd_ne hba] at z
      by_cases hbd : b = d
      · subst hbd
        rw [upd_same] at z
        cases z
        exact ⟨mA, hns, rel⟩
      · rw [upd_ne hbd] at z
        exact (hok b o z).stay (fun c v hc y => y)
          (fun c hc => by rw [upd_ne (at_ne ea hc exo_own), upd_ne (at_ne ed hc exd_own)]; exact hc) (fun c xs hc => by rw [upd_ne (at_ne ea hc exo_tup), upd_ne (at_ne ed hc exd_tup)]; exact hc)
theorem pe_exvF {CX : CXT} {C fI : Addr} {k : Nat} {fd : FuncData} {ps : List Str} {sp : Sp} {ds : List Value} {dvs : List V} (T : OexC X.K C) (iC : PySem.W.findIn X.K (.ref C) "__init__" = some (some (.ref fI))) (tI : PySem.W.typeIn X.K (.ref fI) = some (.type "function"))
    (F1 : FnOk X.prog X.w X.K X.mg X.base CX k fI fd ps sp) (hr : Room (k + 1) X.A) (hb : Binds X.K fd ps ds) (hd : Vals dvs ds) (hx : Passes CX X (fun _ _ _ => False)) (hg : Gl X x) (hm : X.mg x = some (.ref C)) (ha : PA X (e :: es) ta)
    (hdb : (x == ("__debug__" : Str)) = false := by decide) (he : starEach (e :: es) X.env = (false, eval e X.env) :: starEach es X.env := by rfl) (hpl : (backTo pos (starEach es X.env)).any (·.1) = false := by rfl) :
    PE X (.Call (.Name x p) (e :: es) [] pos) (tMkV C sp dvs ta) := by
  refine ⟨fun pins s σ H Q I h => ?_⟩
  obtain ⟨nm, q, N, bs, bm, sn, sub, ab, col, dd, k0, k1, k2, k3, k5, hC, hbm⟩ := T.cls
  refine wpAny_Call_Name_kw (ld_glob I hg hm ?_ hdb)
  refine PySem.W.callWith_K (h₀ := X.base) I.ok.mod.kin T.kC (thn (ha.run pos pins s σ H _ I h) fun us s1 ⟨vs, H1, I1, r1, hz, q1⟩ => ⟨I1.kIn, ?_⟩) he hpl
  show wpAny _ _ (call (.ref C) us) _ _ _
  obtain ⟨hp, g, dr, tk, os⟩ := s1
  have hsz : hp.objs.size ≤ hp.objs.size + 1 := Nat.le_succ _
  have hn : H1 (hp.objs.size + 1) = none := I1.hok.fresh hsz
  have hq := q1 (hp.objs.size + 1) hn
  have kk : ∀ b o, hp.get? b = some o → ((hp.push (PySem.W.kdv_tup us)).push (PySem.HandSPX.excO C hp.objs.size)).get? b = some o := fun b o e => Heap.get?_push_of_some _ (Heap.get?_push_of_some _ e)
  have hget : ((hp.push (PySem.W.kdv_tup us)).push (PySem.HandSPX.excO C hp.objs.size)).get? (hp.objs.size + 1) = some (PySem.HandSPX.excO C hp.objs.size) := by heap_get
  have I2 : Inv X pins σ (upd H1 (hp.objs.size + 1) (exo (hp.objs.size + 1) C none)) ⟨(hp.push (PySem.W.kdv_tup us)).push (PySem.HandSPX.excO C hp.objs.size), g, dr, tk, os⟩ :=
    I1.laid (t' := tk) (a := hp.objs.size + 1) (o := exo (hp.objs.size + 1) C none) (h' := (hp.push (PySem.W.kdv_tup us)).push (PySem.HandSPX.excO C hp.objs.size)) kk hsz (exo_ok hget)
  have r2 : Vals (V.ref (hp.objs.size + 1) :: (vs ++ dvs)) (Value.ref (hp.objs.size + 1) :: (us ++ ds)) := .cons rfl (r1.append hd)
  have hl : (Value.ref (hp.objs.size + 1) :: us ++ ds).length = ps.length := by
    have e := r2.length
    rw [F1.len _ _ _ _ hq] at e
    exact e.symm
  have hus : us.length ≤ sizeLine := by
    rw [← Paired.length r1, sizeLine_eq]
    omega
  refine wpAny_call (PySem.HandSPX.call_own F.excBase_ValueError (fun Y => PySem.HandSPX.refsVE_contains Y bm hbm) (I1.kIn _ _ hC) (PySem.W.looks_findIn I1.kIn iC) (fun self => PySem.W.bind_fn I1.kIn self tI) hus
    (codeAny_mono (F1.run _ X.stack _ _ ⟨Value.ref (hp.objs.size + 1) :: us, []⟩ (Value.ref (hp.objs.size + 1) :: (us ++ ds)) _ _ (fun _ _ _ => False) (hr.make C us []) (I2.env0.make C us []) (hb _ (Value.ref (hp.objs.size + 1) :: us) I2.kIn hl) r2 hq) fun r s' hq' => ?_))
  cases r with
  | error er => exact hx pins σ _ _ er s' I2 hq'
  | ok fl =>
    cases fl with
    | ret u =>
      obtain ⟨v, H2, os2, bare2, un2, hok2, rv, ev, d, fs, ea, ed, hd1, q2⟩ := hq'
      subst ev
      obtain ⟨h2, g2, d2, t2, os'⟩ := s'
      obtain ⟨oe, xo, J⟩ := mk_endV (d2 := d2) (t2 := t2) I1 hsz kk un2 hok2 os2 bare2 ea ed hd1
      exact ⟨rv, .ref (hp.objs.size + 1), _, J, rfl, q2 oe xo⟩
    | next => exact False.elim hq'
    | brk => exact False.elim hq'
    | cont => exact False.elim hq'
end
end L2
namespace Cy
open PySem L2
/-- made without numbers: c its class; the argument is lost -/
def eExc0 (c : Nat) (ms : List EX) : EX := fun env S => (eArgs ms env S).bind fun _ S1 => .ok (.va (.exn c [])) S1
def eExcF (c : Nat) (ms : List EX) : EX := fun env S => (eArgs ms env S).bind fun xs S1 => match unva xs with
  | some ds => .ok (.va (.exn c ds.reverse)) S1
  | none => .bad
section
variable {X : Cx} {cA : Nat → Addr} {fN : Nat → List Str} {W : WX} {e : Expr} {es : List Expr} {ms : List EX} {m : EX}
theorem rvs_len {G : Cfg} {r : List Addr} {H0 H : Hp} : ∀ {vs : List V} {xs : List Rv}, RepRs G r H0 H vs xs → vs.length = xs.length
  | _, _, .nil => rfl
  | _, _, .cons _ t => by rw [List.length_cons, List.length_cons, rvs_len t]
theorem i_exc0 {B newId initId : String} {bmB : List Value} {x : Str} {c : Nat} {C : Addr} {p pos : Pos} (F : ExcBaseFacts B newId initId bmB) (q : PySem.W.excIn X.K C bmB newId = true) (gC : X.mg x = some (.ref C)) (kC : PySem.W.keepIn X.K (.ref C) = true)
    (ha : PA X [e] (TAI (GX X cA fN) W (eArgs [m]))) (eC : cA c = C := by rfl) (hg : Gl X x := by rfl) (hdb : (x == ("__debug__" : Str)) = false := by decide)
    (hs : starEach [e] X.env = (false, eval e X.env) :: starEach [] X.env := by rfl) (hpl : (backTo pos (starEach [] X.env)).any (·.1) = false := by rfl) :
    PE X (.Call (.Name x p) [e] [] pos) (TI (GX X cA fN) W (eExc0 c [m])) :=
  (pe_exv0 F q gC kC hg ha hs hdb hpl).mono fun σ H Q h => by
  obtain ⟨r, S, env, hE, hS, hp⟩ := h
  subst eC
  refine ⟨r, S, env, hE, hS, Post.bindE hp fun xs S1 vs r1 H1 em e1 s1 q1 z => ⟨?_, fun a oe ha xo => ?_⟩⟩
  · rw [rvs_len q1, args_len em]; rfl
  · have e2 : Ext r1 H1 r1 (upd H1 a (.frz oe exm)) := Ext.new ha
    have k2 : ∀ b o, H1 b = some o → upd H1 a (.frz oe exm) b = some o := fun b o h => by rw [upd_ne (ne_of_none h ha)]; exact h
    exact z (.ref a) r1 _ (e1.trans e2) (s1.stays k2 e2) (show Rep (GX X cA fN) r1 _ (.ref a) (.exn c []) from .exn0 upd_same (notin_lst s1 ha) xo)
theorem i_excF {x b : Str} {k c : Nat} {names : List Str} {p pos : Pos} (N : XIni X.prog X.w X.K X.mg X.base k b names) (hr : Room (k + 1) X.A) (eC : cA c = He.ga X.K x) (T : OexC X.K (He.ga X.K x)) (iC : PySem.W.findIn X.K (.ref (He.ga X.K x)) "__init__" = some (some (.ref (He.fAd X.K (b, some "__init__")))) ∧ PySem.W.typeIn X.K (.ref (He.fAd X.K (b, some "__init__"))) = some (.type "function"))
    (hf : ∀ f ∈ names, PySem.W.findIn X.K (.ref (He.ga X.K x)) f = some none) (hn : (fN c).take names.length = names.reverse) (hm : X.mg x = some (.ref (He.ga X.K x)))
    (ha : PA X (e :: es) (TAI (GX X cA fN) W (eArgs ms))) (hlen : ms.length = names.length) (hz : names.length ≤ 900) (hg : Gl X x := by rfl) (hdb : (x == ("__debug__" : Str)) = false := by decide)
    (he : starEach (e :: es) X.env = (false, eval e X.env) :: starEach es X.env := by rfl) (hpl : (backTo pos (starEach es X.env)).any (·.1) = false := by rfl) :
    PE X (.Call (.Name x p) (e :: es) [] pos) (TI (GX X cA fN) W (eExcF c ms)) := by
  obtain ⟨fd, ps, F, hb⟩ := N.got
  refine (pe_exvF T iC.1 iC.2 F hr hb .nil passes0 hg hm ha hdb he hpl).mono fun σ H Q h => ?_
  obtain ⟨r, S, env, hE, hS, hp⟩ := h
  refine ⟨r, S, env, hE, hS, Post.bindE hp fun xs S1 vs r1 H1 em e1 s1 q1 z => ?_⟩
  have hxl : xs.length = ms.length := args_len em
  cases eu : unva xs with
  | none => rw [eu] at z; exact z.elim
  | some ds =>
    rw [eu] at z
    have q := unva_ok q1 eu
    have hvl : vs.length = names.length := by
      rw [q.length, unva_len eu, hxl, hlen]
    refine ⟨by omega, fun a ha => ?_⟩
    rw [List.append_nil]
    refine ⟨a, He.ga X.K x, vs, rfl, hvl, T, hf, upd_same, fun dx hd ne => ⟨rfl, dx, (names.zip vs).reverse, upd_same, ?_, ?_, fun oe xo => ?_⟩⟩
    · unfold fldsTo
      rw [upd_ne ne, upd_same]
    · rw [upd_ne ne] at hd; exact hd
    · rw [upd_ne ne] at hd
      have eH : upd (upd (fldsTo a (He.ga X.K x) dx (names.zip vs).reverse (upd H1 a (exo a (He.ga X.K x) none))) dx (.xd (names.zip vs).reverse)) a (.frz oe exm) = upd (upd H1 dx (.xd (names.zip vs).reverse)) a (.frz oe exm) := by
        funext b
        by_cases h1 : b = a
        · subst h1; rw [upd_same, upd_same]
        · rw [upd_ne h1, upd_ne h1]
          by_cases h2 : b = dx
          · subst h2; rw [upd_same, upd_same]
          · rw [upd_ne h2, upd_ne h2]
            unfold fldsTo
            rw [upd_ne h1, upd_ne h2, upd_ne h1]
      rw [eH]
      have e2 : Ext r1 H1 r1 (upd H1 dx (.xd (names.zip vs).reverse)) := Ext.new hd
      have k2 : ∀ b o, H1 b = some o → upd H1 dx (.xd (names.zip vs).reverse) b = some o := fun b o h => by rw [upd_ne (ne_of_none h hd)]; exact h
      have ha2 : upd H1 dx (.xd (names.zip vs).reverse) a = none := by rw [upd_ne (Ne.symm ne)]; exact ha
      have e3 : Ext r1 (upd H1 dx (.xd (names.zip vs).reverse)) r1 (upd (upd H1 dx (.xd (names.zip vs).reverse)) a (.frz oe exm)) := Ext.new ha2
      have k3 : ∀ b o, upd H1 dx (.xd (names.zip vs).reverse) b = some o → upd (upd H1 dx (.xd (names.zip vs).reverse)) a (.frz oe exm) b = some o := fun b o h => by rw [upd_ne (ne_of_none h ha2)]; exact h
      have m1 : (names.zip vs).map (·.1) = names := List.map_fst_zip (by omega)
      have m2 : (names.zip vs).map (·.2) = vs := List.map_snd_zip (by omega)
      rw [← eC] at xo
      refine z (.ref a) r1 _ ((e1.trans e2).trans e3) ((s1.stays k2 e2).stays k3 e3) (show Rep (GX X cA fN) r1 _ (.ref a) (.exn c ds.reverse) from .exnF (d := dx) upd_same (notin_lst s1 ha) xo (by rw [upd_ne ne, upd_same]) (notin_lst s1 hd) ?_ ?_)
      · rw [List.map_reverse, m1, List.length_reverse, ← q.length, hvl]; exact hn.symm
      · rw [List.map_reverse, m2]; exact ((q.reverse).ext e2).ext e3
end
end Cy
set_option Elab.async false
set_option linter.all false
set_option maxRecDepth 100000
set_option maxHeartbeats 2000000
set_option autoImplicit false
namespace Cy
open PySem L2
structure Asn where
  holds : List Nat → Sto → Prop
  loc : ∀ fp (S S' : Sto), (∀ n ∈ fp, S'[n]? = S[n]?) → holds fp S → holds fp S'
  bd : ∀ fp S, holds fp S → ∀ n ∈ fp, n < S.length
/-- an object at its place -/
def pt (n : Nat) (o : Ob) : Asn := ⟨fun fp S => fp = [n] ∧ S[n]? = some o, fun fp S S' h ⟨e, q⟩ => ⟨e, by subst e; rw [h n (List.mem_singleton.mpr rfl)]; exact q⟩, fun fp S ⟨e, q⟩ m hm => by subst e; rw [List.mem_singleton.mp hm]; exact (List.getElem?_eq_some_iff.mp q).1⟩
inductive Fit : List Asn → List (List Nat) → Sto → Prop where
  | nil {S : Sto} : Fit [] [] S
  | cons {a : Asn} {A : List Asn} {fp : List Nat} {fps : List (List Nat)} {S : Sto} (h : a.holds fp S) (t : Fit A fps S) : Fit (a :: A) (fp :: fps) S
/-- what a body found: the store, and the places in it that it was handed to change -/
structure Bs where
  S : Sto
  M : List Nat
abbrev bs (S : Sto) : Bs := ⟨S, []⟩
/-- later: what was not handed on stands -/
structure Kp (B : Bs) (S : Sto) : Prop where
  len : B.S.length ≤ S.length
  at_ : ∀ n, n < B.S.length → n ∉ B.M → S[n]? = B.S[n]?
theorem Kp.app {S0 S : Sto} (h : Kp (bs S0) S) : ∃ T, S = S0 ++ T := by
  refine ⟨S.drop S0.length, ?_⟩
  apply List.ext_getElem?
  intro n
  by_cases hn : n < S0.length
  · rw [List.getElem?_append_left hn]; exact h.at_ n hn (by simp)
  · rw [List.getElem?_append_right (Nat.le_of_not_lt hn), List.getElem?_drop, Nat.add_sub_of_le (Nat.le_of_not_lt hn)]
theorem Kp.refl (B : Bs) : Kp B B.S := ⟨Nat.le_refl _, fun _ _ _ => rfl⟩
structure Sat (S0 : Bs) (A : List Asn) (S : Sto) : Prop where
  pre : Kp S0 S
  own : ∃ fps, Fit A fps S ∧ fps.flatten.Nodup ∧ ∀ n ∈ fps.flatten, S0.S.length ≤ n ∨ n ∈ S0.M
theorem Fit.loc {A : List Asn} {fps : List (List Nat)} {S S' : Sto} (h : Fit A fps S) (k : ∀ n ∈ fps.flatten, S'[n]? = S[n]?) : Fit A fps S' := by
  induction h with
  | nil => exact .nil
  | cons h t ih =>
    refine .cons (Asn.loc _ _ _ _ (fun n hn => k n ?_) h) (ih fun n hn => k n ?_)
    · rw [List.flatten_cons]; exact List.mem_append_left _ hn
    · rw [List.flatten_cons]; exact List.mem_append_right _ hn
theorem Fit.bd {A : List Asn} {fps : List (List Nat)} {S : Sto} (h : Fit A fps S) : ∀ n ∈ fps.flatten, n < S.length := by
  induction h with
  | nil => intro n hn; simp at hn
  | cons h t ih =>
    intro n hn
    rw [List.flatten_cons, List.mem_append] at hn
    rcases hn with hn | hn
    · exact Asn.bd _ _ _ h n hn
    · exact ih n hn
theorem Fit.get {A : List Asn} {fps : List (List Nat)} {S : Sto} (h : Fit A fps S) : ∀ {j : Nat} {a : Asn}, A[j]? = some a → ∃ fp, fps[j]? = some fp ∧ a.holds fp S := by
  induction h with
  | nil => intro j a e; simp at e
  | cons h t ih =>
    intro j a e
    cases j with
    | zero => simp at e; subst e; exact ⟨_, rfl, h⟩
    | succ j => obtain ⟨fp, h1, h2⟩ := ih (j := j) (by simpa using e); exact ⟨fp, by simpa using h1, h2⟩
theorem Sat.start0 (B : Bs) : Sat B [] B.S := ⟨Kp.refl B, [], .nil, by simp, by simp⟩
theorem Sat.start (S : Sto) : Sat (bs S) [] S := Sat.start0 (bs S)
variable {S0 : Bs} {S : Sto} {A : List Asn}
theorem Kp.grow (h : Kp S0 S) (T : Sto) : Kp S0 (S ++ T) := ⟨by rw [List.length_append]; exact Nat.le_trans h.len (Nat.le_add_right _ _), fun n hn hm => by
  rw [List.getElem?_append_left (Nat.lt_of_lt_of_le hn h.len)]; exact h.at_ n hn hm⟩
theorem Sat.grow (h : Sat S0 A S) (T : Sto) : Sat S0 A (S ++ T) := by
  obtain ⟨fps, f, nd, lo⟩ := h.own
  exact ⟨h.pre.grow T, fps, f.loc fun n hn => by rw [List.getElem?_append_left (f.bd n hn)], nd, lo⟩
theorem Sat.len (h : Sat S0 A S) : S0.S.length ≤ S.length := h.pre.len
theorem Sat.new (h : Sat S0 A S) (o : Ob) : Sat S0 (pt S.length o :: A) (S ++ [o]) := by
  have hl := h.len
  have g := h.grow [o]
  obtain ⟨fps, f, nd, lo⟩ := h.own
  refine ⟨g.pre, [S.length] :: fps, .cons ⟨rfl, by simp⟩ (f.loc fun n hn => by rw [List.getElem?_append_left (f.bd n hn)]), ?_, ?_⟩
  · rw [List.flatten_cons, List.nodup_append]
    refine ⟨by simp, nd, fun a ha b hb e => ?_⟩
    have := f.bd b hb
    have : a = S.length := List.mem_singleton.mp ha
    omega
  · intro n hn
    rw [List.flatten_cons, List.mem_append] at hn
    rcases hn with hn | hn
    · rw [List.mem_singleton.mp hn]; exact .inl hl
    · exact lo n hn
theorem mem_flat {fps : List (List Nat)} {j : Nat} {fp : List Nat} {n : Nat} (h : fps[j]? = some fp) (m : n ∈ fp) : n ∈ fps.flatten := List.mem_flatten.mpr ⟨fp, List.mem_of_getElem? h, m⟩
theorem Sat.get (h : Sat S0 A S) {j n : Nat} {o : Ob} (e : A[j]? = some (pt n o)) : S[n]? = some o ∧ (S0.S.length ≤ n ∨ n ∈ S0.M) := by
  obtain ⟨fps, f, nd, lo⟩ := h.own
  obtain ⟨fp, h1, h2⟩ := f.get e
  obtain ⟨rfl, h3⟩ := h2
  exact ⟨h3, lo n (mem_flat h1 (List.mem_singleton.mpr rfl))⟩
theorem Fit.set {A : List Asn} {fps : List (List Nat)} {S S' : Sto} (h : Fit A fps S) : ∀ {j : Nat} {fp fp' : List Nat} {a' : Asn}, fps[j]? = some fp → fps.flatten.Nodup → (∀ n ∈ fps.flatten, n ∉ fp → S'[n]? = S[n]?) → a'.holds fp' S' → Fit (A.set j a') (fps.set j fp') S' := by
  induction h with
  | nil => intro j fp fp' a' e; simp at e
  | @cons b A gp fps S h t ih =>
    intro j fp fp' a' e nd k q
    rw [List.flatten_cons, List.nodup_append] at nd
    cases j with
    | zero =>
      simp at e
      subst e
      exact .cons q (t.loc fun n hn => k n (by rw [List.flatten_cons]; exact List.mem_append_right _ hn) fun m => nd.2.2 n m n hn rfl)
    | succ j =>
      have e' : fps[j]? = some fp := by simpa using e
      exact .cons (Asn.loc _ _ _ _ (fun n hn => k n (by rw [List.flatten_cons]; exact List.mem_append_left _ hn) fun m => nd.2.2 n hn n (mem_flat e' m) rfl) h) (ih e' nd.2.1 (fun n hn hf => k n (by rw [List.flatten_cons]; exact List.mem_append_right _ hn) hf) q)
def eU : Unit → D := fun _ => .non
def eO {α : Type} (e : α → D) : Option α → D
  | none => .non
  | some a => e a
def eP2 {α β : Type} (e : α → D) (f : β → D) : α × β → D := fun p => .tup [e p.1, f p.2]
def eP3 {α β γ : Type} (e : α → D) (f : β → D) (g : γ → D) : α × β × γ → D := fun p => .tup [e p.1, f p.2.1, g p.2.2]
def eP4 {α β γ δ : Type} (e : α → D) (f : β → D) (g : γ → D) (h : δ → D) : α × β × γ × δ → D := fun p => .tup [e p.1, f p.2.1, g p.2.2.1, h p.2.2.2]
def eP1 {α : Type} (e : α → D) : α → D := fun p => .tup [e p]
def eTL {α : Type} (e : α → D) : List α → D := fun l => .tup (l.map e)
def eFL {α : Type} (e : α → D) : List α → D := fun l => .frl (l.map e)
def va {α : Type} (e : α → D) : α → Rv := fun a => .va (e a)
def fl {α : Type} (e : α → D) : List α → Rv := fun l => .fr (.lst (l.map e))
/-- nothing of the store in it -/
class Cl {α : Type} (e : α → D) : Prop where
  und : ∀ a n, (e a).und n = true
theorem unds_map {α : Type} {e : α → D} [c : Cl e] (n : Nat) : ∀ l : List α, D.unds n (l.map e) = true
  | [] => rfl
  | a :: r => by
    show ((e a).und n && D.unds n (r.map e)) = true
    rw [c.und, unds_map n r]; rfl
instance : Cl D.int := ⟨fun _ _ => rfl⟩
instance : Cl D.bl := ⟨fun _ _ => rfl⟩
instance : Cl D.str := ⟨fun _ _ => rfl⟩
instance : Cl eU := ⟨fun _ _ => rfl⟩
section
variable {α β γ δ : Type} {e : α → D} {f : β → D} {g : γ → D} {h : δ → D}
instance [c : Cl e] : Cl (eO e) := ⟨fun a n => by cases a with | none => rfl | some a => exact c.und a n⟩
instance [c : Cl e] : Cl (eP1 e) := ⟨fun p n => by show ((e p).und n && true) = true; rw [c.und]; rfl⟩
instance [c : Cl e] [d : Cl f] : Cl (eP2 e f) := ⟨fun p n => by show ((e p.1).und n && ((f p.2).und n && true)) = true; rw [c.und, d.und]; rfl⟩
instance [c : Cl e] [d : Cl f] [k : Cl g] : Cl (eP3 e f g) := ⟨fun p n => by show ((e p.1).und n && ((f p.2.1).und n && ((g p.2.2).und n && true))) = true; rw [c.und, d.und, k.und]; rfl⟩
instance [c : Cl e] [d : Cl f] [k : Cl g] [l : Cl h] : Cl (eP4 e f g h) := ⟨fun p n => by show ((e p.1).und n && ((f p.2.1).und n && ((g p.2.2.1).und n && ((h p.2.2.2).und n && true)))) = true; rw [c.und, d.und, k.und, l.und]; rfl⟩
instance [c : Cl e] : Cl (eTL e) := ⟨fun l n => unds_map n l⟩
instance [c : Cl e] : Cl (eFL e) := ⟨fun l n => unds_map n l⟩
end
/-- it evaluates to x and leaves the store -/
def Ex (S0 : Bs) (A : List Asn) (m : EX) (env : Env) (x : Rv) : Prop := ∀ S, Sat S0 A S → m env S = .ok x S
def ExA (S0 : Bs) (A : List Asn) (ms : List EX) (env : Env) (xs : List Rv) : Prop := ∀ S, Sat S0 A S → eArgs ms env S = .ok xs S
/-- where the typed value is there, it evaluates to it -/
def XM {α : Type} (S0 : Bs) (A : List Asn) (m : EX) (env : Env) (X : Option α) (e : α → Rv) : Prop := ∀ a, X = some a → Ex S0 A m env (e a)
def BM (S0 : Bs) (A : List Asn) (c : BX) (env : Env) (X : Option Bool) : Prop := ∀ b, X = some b → ∀ S, Sat S0 A S → c env S = .ok b S
section
variable {env : Env} {α β γ : Type} {m ma mb mc : EX} {ms : List EX} {c d : BX}
theorem xm {X : Option α} {e : α → Rv} {a : α} (q : X = some a) (h : Ex S0 A m env (e a)) : XM S0 A m env X e := fun b hb => by
  rw [q] at hb
  cases hb
  exact h
theorem xm_pure {e : α → Rv} {a : α} (h : Ex S0 A m env (e a)) : XM S0 A m env (some a) e := xm rfl h
theorem xm_sub {X : Option α} {e : α → Rv} {K : α → Option β} {f : β → Rv} (h : XM S0 A ma env X e) (k : ∀ t, Ex S0 A ma env (e t) → XM S0 A m env (K t) f) : XM S0 A m env (X.bind K) f := fun b hb => by
  cases X with
  | none => cases hb
  | some t => exact k t (h t rfl) b hb
/-- a side condition -/
theorem xm_if {p : Prop} [Decidable p] {X : Option α} {e : α → Rv} (k : p → XM S0 A m env X e) : XM S0 A m env (if p then X else none) e := fun b hb => by
  by_cases h : p
  · rw [if_pos h] at hb; exact k h b hb
  · rw [if_neg h] at hb; cases hb
theorem ex_var {i : Nat} {d : D} (h : env[i]? = some (some d)) : Ex S0 A (eVar i) env (.va d) := fun S _ => by
  unfold eVar
  rw [h]
theorem ex_c {d : D} : Ex S0 A (eC d) env (.va d) := fun _ _ => rfl
theorem exa_nil : ExA S0 A [] env [] := fun _ _ => rfl
theorem exa_cons {x : Rv} {xs : List Rv} (h : Ex S0 A m env x) (t : ExA S0 A ms env xs) : ExA S0 A (m :: ms) env (x :: xs) := fun S s => by
  unfold eArgs
  rw [h S s, Rs.bind_ok, t S s]; rfl
theorem ex_p {f : Sto → List Rv → Option Rv} {xs : List Rv} {z : Rv} (h : ExA S0 A ms env xs) (hf : ∀ S, Sat S0 A S → f S xs = some z) : Ex S0 A (eP (lift f) ms) env z := fun S s => by
  unfold eP lift
  rw [h S s, Rs.bind_ok, hf S s]; rfl
theorem ex_p1 {f : Sto → List Rv → Option Rv} {x z : Rv} (h : Ex S0 A ma env x) (hf : ∀ S, Sat S0 A S → f S [x] = some z) : Ex S0 A (eP (lift f) [ma]) env z := ex_p (exa_cons h exa_nil) hf
theorem ex_p2 {f : Sto → List Rv → Option Rv} {x y z : Rv} (h : Ex S0 A ma env x) (k : Ex S0 A mb env y) (hf : ∀ S, Sat S0 A S → f S [x, y] = some z) : Ex S0 A (eP (lift f) [ma, mb]) env z := ex_p (exa_cons h (exa_cons k exa_nil)) hf
theorem ex_to {d : D} (h : Ex S0 A m env (.va d)) : Ex S0 A (eTo m) env (.va d) := fun S s => by
  unfold eTo
  rw [h S s]; rfl
theorem ex_fz {x : Rv} (h : Ex S0 A m env x) : Ex S0 A (eFz m) env (frzD x) := fun S s => by
  unfold eFz
  rw [h S s]; rfl
theorem ex_fzl {e : α → D} {l : List α} (h : Ex S0 A m env (fl e l)) : Ex S0 A (eFz m) env (.va (eFL e l)) := ex_fz h
theorem bm_val {X : Option Bool} (h : XM S0 A m env X (va D.bl)) : BM S0 A (bB m) env X := fun b hb S s => by
  unfold bB
  rw [h b hb S s]; rfl
theorem bm_sub {X : Option α} {e : α → Rv} {K : α → Option Bool} (h : XM S0 A ma env X e) (k : ∀ t, Ex S0 A ma env (e t) → BM S0 A c env (K t)) : BM S0 A c env (X.bind K) := fun b hb => by
  cases X with
  | none => cases hb
  | some t => exact k t (h t rfl) b hb
theorem bm_not {b : Bool} (h : BM S0 A c env (some b)) : BM S0 A (bNot c) env (some (!b)) := fun k hk S s => by
  cases hk
  unfold bNot
  rw [h b rfl S s]; rfl
theorem bm_or {X Y : Option Bool} (h : BM S0 A c env X) (k : BM S0 A d env Y) : BM S0 A (bOr c d) env (X.bind fun b => if b = true then some true else Y) := fun r hr S s => by
  cases X with
  | none => cases hr
  | some b =>
    unfold bOr
    rw [h b rfl S s]
    cases b with
    | true => cases hr; rfl
    | false => exact k r hr S s
theorem xm_not {X : Option Bool} (h : XM S0 A m env X (va D.bl)) : XM S0 A (eNot m) env (X.map (!·)) (va D.bl) := fun k hk S s => by
  cases X with
  | none => cases hk
  | some b => cases hk; unfold eNot bB; rw [h b rfl S s]; rfl
theorem xm_and {X : Option Bool} {Y : Option Bool} (h : XM S0 A ma env X (va D.bl)) (k : XM S0 A mb env Y (va D.bl)) : XM S0 A (eAnd ma mb) env (X.bind fun b => if b = true then Y else some false) (va D.bl) := fun r hr S s => by
  cases X with
  | none => cases hr
  | some b =>
    unfold eAnd bB
    rw [h b rfl S s]
    cases b with
    | true => exact k r hr S s
    | false => cases hr; rfl
theorem ex_not {b : Bool} (h : Ex S0 A m env (.va (.bl b))) : Ex S0 A (eNot m) env (.va (.bl (!b))) := xm_not (X := some b) (fun k hk => by cases hk; exact h) _ rfl
theorem ex_andP {a b : Bool} (h : Ex S0 A ma env (.va (.bl a))) (k : Ex S0 A mb env (.va (.bl b))) : Ex S0 A (eAnd ma mb) env (.va (.bl (a && b))) := by
  cases a with
  | true => exact xm_and (X := some true) (Y := some b) (fun k hk => by cases hk; exact h) (fun _ hk => by cases hk; exact k) _ rfl
  | false => exact xm_and (X := some false) (Y := some b) (fun k hk => by cases hk; exact h) (fun _ hk => by cases hk; exact k) _ rfl
theorem bm_of {b : Bool} (h : Ex S0 A m env (.va (.bl b))) : BM S0 A (bB m) env (some b) := bm_val (xm_pure (e := va D.bl) h)
theorem xm_call {X : Option α} {e : α → Rv} {f : FI} {xs : List Rv} {ds dds : List D} (h : ExA S0 A ms env xs) (hu : unva xs = some ds) (hf : ∀ S a, X = some a → f (ds ++ dds) S = .ok (e a) S) : XM S0 A (eCall f ms dds) env X e := fun a ha S s => by
  unfold eCall
  rw [h S s, Rs.bind_ok, hu]
  exact hf S a ha
end
/-- where the typed result is there, the body ends so -/
def Sx {τ : Type} (P : SR → τ → Prop) (S0 : Bs) (A : List Asn) (s : SM) (env : Env) (X : Option τ) : Prop := ∀ t, X = some t → ∀ S, Sat S0 A S → P (s env S) t
/-- to its end, with these slots -/
/- W: the places of lists made anew -/
def PN {W σ : Type} (S0 : Bs) (ks : List Nat) (E : W → σ → Env) (B : W → σ → List Asn) : SR → σ → Prop := fun o s => ∃ w e S, (o = .nx e S ∨ o = .ct e S) ∧ kill ks e = E w s ∧ Sat S0 (B w s) S
inductive Fw (σ ρ : Type) where
  | nx (s : σ)
  | brk (s : σ)
  | ret (r : ρ)
inductive Lo (σ ρ : Type) where
  | nx (s : σ)
  | ret (r : ρ)
def Lo.on {σ ρ τ : Type} (w : Lo σ ρ) (f : σ → Option τ) (g : ρ → τ) : Option τ := match w with
  | .nx s => f s
  | .ret r => some (g r)
@[simp] theorem Lo.on_nx {σ ρ τ : Type} (s : σ) (f : σ → Option τ) (g : ρ → τ) : (Lo.nx s : Lo σ ρ).on f g = f s := rfl
@[simp] theorem Lo.on_ret {σ ρ τ : Type} (r : ρ) (f : σ → Option τ) (g : ρ → τ) : (Lo.ret r : Lo σ ρ).on f g = some (g r) := rfl
def PF {W σ ρ : Type} (S0 : Bs) (ks : List Nat) (E : W → σ → Env) (B : W → σ → List Asn) (Pr : SR → ρ → Prop) : SR → Fw σ ρ → Prop := fun o w => match w with
  | .nx s => PN S0 ks E B o s
  | .brk s => ∃ w e S, o = .brk e S ∧ kill ks e = E w s ∧ Sat S0 (B w s) S
  | .ret r => Pr o r
def PL {W σ ρ : Type} (S0 : Bs) (E : W → σ → Env) (B : W → σ → List Asn) (Pr : SR → ρ → Prop) : SR → Lo σ ρ → Prop := fun o w => match w with
  | .nx s => ∃ w S, o = .nx (E w s) S ∧ Sat S0 (B w s) S
  | .ret r => Pr o r
def PV {ρ : Type} (S0 : Bs) (e : ρ → D) : SR → ρ → Prop := fun o r => ∃ S, o = .ret (.va (e r)) S ∧ Kp S0 S
def PVL {α : Type} (S0 : Bs) (e : α → D) : SR → List α → Prop := fun o r => ∃ S, Kp S0 S ∧ (o = .ret (.fr (.lst (r.map e))) S ∨ ∃ n, S0.S.length ≤ n ∧ o = .ret (.va (.ref n)) S ∧ S[n]? = some (.lst (r.map e)))
/-- an exit passes -/
def Leaves (P : SR → Prop) : Prop := ∀ o, P o → (∃ x S, o = .ret x S) ∨ ∃ e c ds S, o = .err e c ds S
section
variable {env : Env} {α β σ ρ τ : Type} {P : SR → τ → Prop} {m : EX} {s rest : SM} {c : BX}
theorem sx_asg {X : Option α} {e : α → D} {K : α → Option τ} {i : Nat} (h : XM S0 A m env X (va e)) (k : ∀ x, Sx P S0 A rest (env.set i (some (e x))) (K x)) : Sx P S0 A (sSeq (sAsg (.name i) m) rest) env (X.bind K) := fun t ht S hs => by
  cases X with
  | none => cases ht
  | some x =>
    have h1 := ex_to (h x rfl) S hs
    unfold sSeq sAsg
    rw [h1]
    exact k x t ht S hs
/-- one way leaves -/
theorem sx_ifL {X : Option Bool} {Y Z : Option τ} {a : SM} (h : BM S0 A c env X) (ha : Sx P S0 A (sSeq a rest) env Y) (hb : Sx P S0 A rest env Z) : Sx P S0 A (sSeq (sIf c a sNil) rest) env (X.bind fun b => if b = true then Y else Z) := fun t ht S hs => by
  cases X with
  | none => cases ht
  | some b =>
    unfold sSeq sIf
    rw [h b rfl S hs]
    cases b with
    | true => exact ha t ht S hs
    | false => exact hb t ht S hs
theorem sx_assoc {a b : SM} {X : Option τ} (h : Sx P S0 A (sSeq a (sSeq b rest)) env X) : Sx P S0 A (sSeq (sSeq a b) rest) env X := fun t ht S hs => by
  have := h t ht S hs
  unfold sSeq at this ⊢
  cases e : a env S with
  | nx e' S' => rw [e] at this; exact this
  | brk e' S' => rw [e] at this; exact this
  | ct e' S' => rw [e] at this; exact this
  | ret v S' => rw [e] at this; exact this
  | err e' c ds S' => rw [e] at this; exact this
  | bad => rw [e] at this; exact this
/-- the ways come together -/
def PJ {W σ : Type} (S0 : Bs) (ks : List Nat) (E : W → σ → Env) (B : W → σ → List Asn) : SR → σ → Prop := fun o s => ∃ w e S, o = .nx e S ∧ kill ks e = E w s ∧ Sat S0 (B w s) S
theorem sx_endF {W : Type} {ks : List Nat} {E : W → σ → Env} {B : W → σ → List Asn} {Pr : SR → ρ → Prop} {x : σ} (w : W) (he : kill ks env = E w x) (hw : ∀ S, Sat S0 A S → Sat S0 (B w x) S) : Sx (PF S0 ks E B Pr) S0 A sNil env (some (.nx x)) := fun t ht S hs => by
  cases ht
  exact ⟨w, env, S, .inl rfl, he, hw S hs⟩
/-- return -/
theorem sx_ret {X : Option ρ} {e : ρ → D} {ι : ρ → τ} (hι : ∀ o r, PV S0 e o r → P o (ι r)) (h : XM S0 A m env X (va e)) : Sx P S0 A (sSeq (sRet m) rest) env (X.map ι) := fun t ht S hs => by
  cases X with
  | none => cases ht
  | some r =>
    cases ht
    refine hι _ r ⟨S, ?_, hs.pre⟩
    unfold sSeq sRet
    rw [h r rfl S hs]; rfl
theorem sx_retF {X : Option (List α)} {e : α → D} {ι : List α → τ} (hι : ∀ o r, PVL S0 e o r → P o (ι r)) (h : XM S0 A m env X (fl e)) : Sx P S0 A (sSeq (sRet m) rest) env (X.map ι) := fun t ht S hs => by
  cases X with
  | none => cases ht
  | some r =>
    cases ht
    refine hι _ r ⟨S, hs.pre, .inl ?_⟩
    unfold sSeq sRet
    rw [h r rfl S hs]; rfl
/-- as long as Ai stands, these are the items -/
def IxM (S0 : Bs) (A Ai : List Asn) (it : IX) (env : Env) (X : Option (List α)) (e : α → D) : Prop := ∀ xs, X = some xs → ∀ S, Sat S0 A S → ∃ src, it env S = .ok src S ∧ src.len = xs.length ∧ ∀ i S', Sat S0 Ai S' → src.get i S' = some (xs.map e)[i]?
theorem Sat.nil (h : Sat S0 A S) : Sat S0 [] S := ⟨h.pre, [], .nil, by simp, by simp⟩
def loopO (F : σ → α → Option (Fw σ ρ)) : σ → List α → Option (Lo σ ρ)
  | s, [] => some (.nx s)
  | s, x :: r => (F s x).bind fun w => match w with
    | .nx s' => loopO F s' r
    | .brk s' => some (.nx s')
    | .ret v => some (.ret v)
section
variable {t : Tg} {body : SM} {ks : List Nat} {e : α → D} {W : Type} {E : W → σ → Env} {B : W → σ → List Asn} {it : IX}
theorem loop_typed {src : Src} {Ai : List Asn} {all : List α} (hsrc : ∀ i S', Sat S0 Ai S' → src.get i S' = some (all.map e)[i]?) (hAi : ∀ w s S, Sat S0 (B w s) S → Sat S0 Ai S) {Pr : SR → ρ → Prop} (hl : ∀ r, Leaves (Pr · r)) {F : σ → α → Option (Fw σ ρ)} (hb : ∀ w s x, ∃ e', t.bind (e x) (E w s) = some e' ∧ Sx (PF S0 ks E B Pr) S0 (B w s) body e' (F s x)) :
    ∀ (xs pre : List α) (fuel : Nat) (w : W) (s : σ) (r : Lo σ ρ), pre ++ xs = all → xs.length < fuel → loopO F s xs = some r → ∀ S, Sat S0 (B w s) S → PL S0 E B Pr (forGo src t body ks fuel pre.length (E w s) S) r
  | xs, pre, 0, w, s, r, h1, h2, h, S, hs => absurd h2 (Nat.not_lt_zero _)
  | [], pre, fuel + 1, w, s, r, h1, h2, h, S, hs => by
    cases h
    rw [List.append_nil] at h1
    subst h1
    refine ⟨w, S, ?_, hs⟩
    unfold forGo
    rw [hsrc _ _ (hAi _ _ _ hs), List.getElem?_eq_none (by simp)]
  | x :: xs, pre, fuel + 1, w, s, r, h1, h2, h, S, hs => by
    obtain ⟨e', b1, b2⟩ := hb w s x
    have hg : (all.map e)[pre.length]? = some (e x) := by
      rw [← h1, List.getElem?_map, List.getElem?_append_right (Nat.le_refl _)]
      simp
    unfold loopO at h
    cases hF : F s x with
    | none => rw [hF] at h; cases h
    | some z =>
      rw [hF] at h
      have h3 := b2 z hF S hs
      unfold forGo
      rw [hsrc _ _ (hAi _ _ _ hs), hg]
      dsimp only
      rw [b1]
      dsimp only
      cases z with
      | nx s' =>
        obtain ⟨w2, e2, S2, h3, h4, h5⟩ := h3
        have ih := loop_typed hsrc hAi hl hb xs (pre ++ [x]) fuel w2 s' r (by rw [← h1]; simp) (by simpa using h2) h S2 h5
        rw [List.length_append] at ih
        rcases h3 with h3 | h3
        · rw [h3]; dsimp only; rw [h4]; exact ih
        · rw [h3]; dsimp only; rw [h4]; exact ih
      | brk s' =>
        obtain ⟨w2, e2, S2, h3, h4, h5⟩ := h3
        cases h
        rw [h3]
        dsimp only
        exact ⟨w2, S2, by rw [h4], h5⟩
      | ret v =>
        cases h
        have h3 : Pr (body e' S) v := h3
        rcases hl v _ h3 with ⟨x, S2, q⟩ | ⟨e2, c, ds, S2, q⟩
        · rw [q]; rw [q] at h3; exact h3
        · rw [q]; rw [q] at h3; exact h3
/-- a for with exits -/
theorem sx_forF {Ai : List Asn} {X : Option (List α)} {Pr : SR → ρ → Prop} (hl : ∀ r, Leaves (Pr · r)) {ι : ρ → τ} (hι : ∀ o r, Pr o r → P o (ι r)) {F : σ → α → Option (Fw σ ρ)} {s0 : σ} {K : σ → Option τ} (hi : IxM S0 A Ai it env X e) (w0 : W) (h0 : kill ks env = E w0 s0) (hA : ∀ S, Sat S0 A S → Sat S0 (B w0 s0) S) (hAi : ∀ w s S, Sat S0 (B w s) S → Sat S0 Ai S)
    (hb : ∀ w s x, ∃ e', t.bind (e x) (E w s) = some e' ∧ Sx (PF S0 ks E B Pr) S0 (B w s) body e' (F s x)) (k : ∀ w s, Sx P S0 (B w s) rest (E w s) (K s)) :
    Sx P S0 A (sSeq (sFor it t body ks) rest) env (X.bind fun xs => (loopO F s0 xs).bind fun w => w.on K ι) := fun v hv S hs => by
  cases X with
  | none => cases hv
  | some xs =>
    have hv : ((loopO F s0 xs).bind fun w => w.on K ι) = some v := hv
    cases hf : loopO F s0 xs with
    | none => rw [hf] at hv; cases hv
    | some w =>
      rw [hf] at hv
      obtain ⟨src, h1, h2, h3⟩ := hi xs rfl S hs
      have h4 := loop_typed h3 hAi hl hb xs [] (src.len + 1) w0 s0 w rfl (by rw [h2]; exact Nat.lt_succ_self _) hf S (hA S hs)
      unfold sSeq sFor
      rw [h1]
      dsimp only [Rs.on]
      rw [h0]
      rw [show ([] : List α).length = 0 from rfl] at h4
      cases w with
      | nx s =>
        obtain ⟨w', S', h5, h6⟩ := h4
        rw [h5]
        exact k w' s v hv S' h6
      | ret r =>
        have h4 : Pr (forGo src t body ks (src.len + 1) 0 (E w0 s0) S) r := h4
        cases hv
        rcases hl r _ h4 with ⟨x, S2, q⟩ | ⟨e2, c, ds, S2, q⟩
        · rw [q] at h4 ⊢; exact hι _ _ h4
        · rw [q] at h4 ⊢; exact hι _ _ h4
end
def mapO (F : α → Option β) : List α → Option (List β)
  | [] => some []
  | x :: r => (F x).bind fun y => (mapO F r).bind fun ys => some (y :: ys)
def fmapO (C : α → Option Bool) (F : α → Option β) : List α → Option (List β)
  | [] => some []
  | x :: r => (C x).bind fun b => if b = true then (F x).bind fun y => (fmapO C F r).bind fun ys => some (y :: ys) else fmapO C F r
theorem lc_typed {src : Src} {t : Tg} {env : Env} {c : BX} {m : EX} {e : α → D} {g : β → D} {C : α → Option Bool} {F : α → Option β} {xs : List α} (hsrc : ∀ i S', Sat S0 A S' → src.get i S' = some (xs.map e)[i]?) (hl : xs.length ≤ sizeLine)
    (hb : ∀ x, ∃ e', t.bind (e x) env = some e' ∧ BM S0 A c e' (C x) ∧ XM S0 A m e' (F x) (va g)) : ∀ (suf pre : List α) (acc : List D) (ys : List β) (fuel : Nat), pre ++ suf = xs → suf.length < fuel → acc.length ≤ pre.length → fmapO C F suf = some ys → ∀ S, Sat S0 A S →
      lcGo src t c m fuel pre.length env S acc = .ok (.fr (.lst (acc ++ ys.map g))) S
  | suf, pre, acc, ys, 0, h1, h2, h3, h4, S, hs => absurd h2 (Nat.not_lt_zero _)
  | [], pre, acc, ys, fuel + 1, h1, h2, h3, h4, S, hs => by
    rw [List.append_nil] at h1
    subst h1
    cases h4
    unfold lcGo
    rw [hsrc _ _ hs, List.getElem?_eq_none (by simp)]
    simp
  | x :: suf, pre, acc, ys, fuel + 1, h1, h2, h3, h4, S, hs => by
    obtain ⟨e', b1, b2, b3⟩ := hb x
    have hg : (xs.map e)[pre.length]? = some (e x) := by
      rw [← h1, List.getElem?_map, List.getElem?_append_right (Nat.le_refl _)]
      simp
    have hlen : pre.length < xs.length := by rw [← h1]; simp
    unfold fmapO at h4
    cases hC : C x with
    | none => rw [hC] at h4; cases h4
    | some b =>
      rw [hC] at h4
      have h4 : (if b = true then (F x).bind fun y => (fmapO C F suf).bind fun ys => some (y :: ys) else fmapO C F suf) = some ys := h4
      unfold lcGo
      rw [hsrc _ _ hs, hg]
      dsimp only
      rw [b1]
      dsimp only
      rw [b2 b hC S hs]
      have h2' : suf.length < fuel := by simpa using h2
      cases b with
      | false =>
        have ih := lc_typed hsrc hl hb suf (pre ++ [x]) acc ys fuel (by rw [← h1]; simp) h2' (by rw [List.length_append]; exact Nat.le_trans h3 (Nat.le_add_right _ _)) h4 S hs
        rw [List.length_append] at ih
        exact ih
      | true =>
        rw [if_pos rfl] at h4
        cases hF : F x with
        | none => rw [hF] at h4; cases h4
        | some y =>
          rw [hF] at h4
          have h4 : ((fmapO C F suf).bind fun ys => some (y :: ys)) = some ys := h4
          cases hR : fmapO C F suf with
          | none => rw [hR] at h4; cases h4
          | some zs =>
            rw [hR] at h4
            cases h4
            have ih := lc_typed hsrc hl hb suf (pre ++ [x]) (acc ++ [g y]) zs fuel (by rw [← h1]; simp) h2' (by rw [List.length_append, List.length_append]; exact Nat.add_le_add_right h3 _) hR S hs
            rw [List.length_append] at ih
            have := ex_to (b3 y hF) S hs
            dsimp only
            rw [this]
            dsimp only
            rw [if_pos (Nat.lt_of_le_of_lt h3 (Nat.lt_of_lt_of_le hlen hl))]
            rw [List.append_assoc] at ih
            exact ih
theorem fmap_yes {F : α → Option β} : ∀ xs : List α, fmapO (fun _ => some true) F xs = mapO F xs
  | [] => rfl
  | x :: r => by
    show ((F x).bind fun y => (fmapO (fun _ => some true) F r).bind fun ys => some (y :: ys)) = _
    rw [fmap_yes r]; rfl
theorem fmap_pure {f : α → β} : ∀ xs : List α, mapO (fun x => some (f x)) xs = some (xs.map f)
  | [] => rfl
  | x :: r => by
    show ((mapO (fun x => some (f x)) r).bind fun ys => some (f x :: ys)) = _
    rw [fmap_pure r]; rfl
/-- of so many things -/
def fits (xs : List α) : Option (List α) := if xs.length ≤ sizeLine then some xs else none
theorem fits_inv {xs ys : List α} (h : fits xs = some ys) : ys = xs ∧ xs.length ≤ sizeLine := by
  unfold fits at h
  split at h
  · cases h; exact ⟨rfl, by assumption⟩
  · cases h
theorem xm_lcC {it : IX} {t : Tg} {own : List Nat} {c : BX} {X : Option (List α)} {e : α → D} {g : β → D} {C : α → Option Bool} {F : α → Option β} (hi : IxM S0 A A it env X e)
    (hb : ∀ x, ∃ e', t.bind (e x) (kill own env) = some e' ∧ BM S0 A c e' (C x) ∧ XM S0 A m e' (F x) (va g)) : XM S0 A (eLc it t own c m) env (X.bind fun xs => (fits xs).bind (fmapO C F)) (fl g) := fun ys hy S hs => by
  cases X with
  | none => cases hy
  | some xs =>
    have hy2 : (fits xs).bind (fmapO C F) = some ys := hy
    cases hf : fits xs with
    | none => rw [hf] at hy2; cases hy2
    | some zs =>
      rw [hf] at hy2
      obtain ⟨rfl, hl⟩ := fits_inv hf
      obtain ⟨src, h1, h2, h3⟩ := hi zs rfl S hs
      unfold eLc
      rw [h1]
      have := lc_typed h3 hl hb zs [] [] ys (src.len + 1) rfl (by rw [h2]; exact Nat.lt_succ_self _) (Nat.le_refl _) hy2 S hs
      exact this
theorem bm_yes : BM S0 A bYes env (some true) := fun b hb S _ => by cases hb; rfl
theorem xm_lc {it : IX} {t : Tg} {own : List Nat} {X : Option (List α)} {e : α → D} {g : β → D} {F : α → Option β} (hi : IxM S0 A A it env X e)
    (hb : ∀ x, ∃ e', t.bind (e x) (kill own env) = some e' ∧ XM S0 A m e' (F x) (va g)) : XM S0 A (eLc it t own bYes m) env (X.bind fun xs => (fits xs).bind (mapO F)) (fl g) := by
  have := xm_lcC (c := bYes) (C := fun _ => some true) (F := F) hi (g := g) (m := m) fun x => let ⟨e', h1, h2⟩ := hb x; ⟨e', h1, bm_yes, h2⟩
  have e : (fmapO (fun _ => some true) F) = mapO F := funext fmap_yes
  rw [e] at this
  exact this
theorem xm_lcP {it : IX} {t : Tg} {own : List Nat} {X : Option (List α)} {e : α → D} {g : β → D} {f : α → β} (hi : IxM S0 A A it env X e)
    (hb : ∀ x, ∃ e', t.bind (e x) (kill own env) = some e' ∧ Ex S0 A m e' (.va (g (f x)))) : XM S0 A (eLc it t own bYes m) env (X.bind fun xs => (fits xs).bind fun xs => some (xs.map f)) (fl g) := by
  have := xm_lc (F := fun x => some (f x)) hi (g := g) (m := m) fun x => let ⟨e', h1, h2⟩ := hb x; ⟨e', h1, xm_pure h2⟩
  have e : (mapO fun x => some (f x)) = fun xs => some (xs.map f) := funext fmap_pure
  rw [e] at this
  exact this
end
section
variable {n ar : Nat} {b : SM} {ds : List D} {ρ α : Type}
theorem def_v {S0 : Sto} {e : ρ → D} [c : Cl e] {X : Option ρ} (h : Sx (PV (bs S0) e) (bs S0) [] b (ds.map some ++ List.replicate (n - ar) none) X) {r : ρ} (hr : X = some r) : clean (noErr (fnOf n ar b)) ds S0 = .ok (.va (e r)) S0 := by
  obtain ⟨S, h, k⟩ := h r hr S0 (Sat.start S0)
  obtain ⟨T, rfl⟩ := k.app
  exact fn_va h (c.und _ _)
theorem def_l {S0 : Sto} {e : α → D} [c : Cl e] {X : Option (List α)} (h : Sx (PVL (bs S0) e) (bs S0) [] b (ds.map some ++ List.replicate (n - ar) none) X) {r : List α} (hr : X = some r) : clean (noErr (fnOf n ar b)) ds S0 = .ok (.fr (.lst (r.map e))) S0 := by
  have u : (Ob.lst (r.map e)).und S0.length = true := unds_map _ _
  obtain ⟨S, k, h⟩ := h r hr S0 (Sat.start S0)
  obtain ⟨T, rfl⟩ := k.app
  rcases h with h | ⟨k, hk, h, h2⟩
  · exact fn_fr h u
  · have hk : S0.length ≤ k := hk
    have e1 : k = S0.length + (k - S0.length) := by omega
    rw [e1] at h
    rw [List.getElem?_append_right hk] at h2
    exact fn_ref h h2 u
theorem lv_v {e : ρ → D} (r : ρ) : Leaves (PV S0 e · r) := fun o ⟨T, h, _⟩ => .inl ⟨_, _, h⟩
end
end Cy
set_option Elab.async false
set_option linter.all false
set_option maxRecDepth 100000
set_option maxHeartbeats 2000000
set_option autoImplicit false
namespace Cy
open PySem L2
section
variable {S0 : Bs} {A : List Asn} {env : Env} {α β γ : Type} {m ma mb mc : EX} {ms : List EX} {i j k : Int}
theorem ex_add (h : Ex S0 A ma env (.va (.int i))) (l : Ex S0 A mb env (.va (.int j))) : Ex S0 A (eP (lift pAdd) [ma, mb]) env (.va (.int (i + j))) := ex_p2 h l fun _ _ => rfl
theorem ex_modK (q : 0 < j) (h : Ex S0 A ma env (.va (.int i))) (l : Ex S0 A mb env (.va (.int j))) : Ex S0 A (eP (lift (pII gMod)) [ma, mb]) env (.va (.int (i % j))) := ex_p2 h l fun _ _ => by
  show (gMod i j).map Rv.va = _
  unfold gMod
  rw [if_pos q]; rfl
def modC (i j : Int) : Option Int := if 0 < j then some (i % j) else none
theorem xm_mod (h : Ex S0 A ma env (.va (.int i))) (l : Ex S0 A mb env (.va (.int j))) : XM S0 A (eP (lift (pII gMod)) [ma, mb]) env (modC i j) (va D.int) := xm_if fun q => xm_pure (ex_modK q h l)
theorem ex_powK (q : powOk i j = true) (h : Ex S0 A ma env (.va (.int i))) (l : Ex S0 A mb env (.va (.int j))) : Ex S0 A (eP (lift (pII gPow)) [ma, mb]) env (.va (.int (i ^ j.toNat))) := ex_p2 h l fun _ _ => by
  show (gPow i j).map Rv.va = _
  unfold gPow
  rw [if_pos q]; rfl
/-- a power of written numbers -/
theorem ex_powL {v : Int} (q : powOk i j = true) (e : i ^ j.toNat = v) (h : Ex S0 A ma env (.va (.int i))) (l : Ex S0 A mb env (.va (.int j))) : Ex S0 A (eP (lift (pII gPow)) [ma, mb]) env (.va (.int v)) := e ▸ ex_powK q h l
theorem ex_lt (h : Ex S0 A ma env (.va (.int i))) (l : Ex S0 A mb env (.va (.int j))) : Ex S0 A (eP (lift pLt) [ma, mb]) env (.va (.bl (decide (i < j)))) := ex_p2 h l fun _ _ => rfl
theorem ex_eqI (h : Ex S0 A ma env (.va (.int i))) (l : Ex S0 A mb env (.va (.int j))) : Ex S0 A (eP (lift pEq) [ma, mb]) env (.va (.bl (decide (i = j)))) := ex_p2 h l fun _ _ => rfl
theorem ex_neI (h : Ex S0 A ma env (.va (.int i))) (l : Ex S0 A mb env (.va (.int j))) : Ex S0 A (eP (lift pNe) [ma, mb]) env (.va (.bl (!decide (i = j)))) := ex_p2 h l fun _ _ => rfl
/-- what is compared by its items -/
class EqE (α : Type) (e : α → D) where
  dep : Nat
  ok : α → Bool
  dat : α → PyData
  py : ∀ (a : α) (S : Sto) (f : Nat), dep < f → Cy.py f S (e a) = some (dat a)
  lay : ∀ a, ok a = true → (dat a).canLay0 = true
  depth : ∀ a, (dat a).depth ≤ dep
  inj : ∀ a b, PyData.eqv (dat a) (dat b) = true ↔ a = b
class NoN (α : Type) (e : α → D) [EqE α e] : Prop where
  non : ∀ a, PyData.eqv .none (EqE.dat e a) = false ∧ PyData.eqv (EqE.dat e a) .none = false
instance : EqE Int D.int := ⟨0, fun _ => true, .int, fun a S f h => by cases f with | zero => omega | succ f => rfl, fun _ _ => rfl, fun _ => Nat.le_refl _, fun a b => by show (a == b) = true ↔ _; exact beq_iff_eq⟩
instance : NoN Int D.int := ⟨fun _ => ⟨rfl, rfl⟩⟩
instance : EqE Bool D.bl := ⟨0, fun _ => true, .bool, fun a S f h => by cases f with | zero => omega | succ f => rfl, fun _ _ => rfl, fun _ => Nat.le_refl _, fun a b => by show (a == b) = true ↔ _; exact beq_iff_eq⟩
instance : NoN Bool D.bl := ⟨fun _ => ⟨rfl, rfl⟩⟩
instance : EqE Str D.str := ⟨0, PyData.strOk, .str, fun a S f h => by cases f with | zero => omega | succ f => rfl, fun _ h => h, fun _ => Nat.le_refl _, fun a b => by show (a == b) = true ↔ _; exact beq_iff_eq⟩
instance : NoN Str D.str := ⟨fun _ => ⟨rfl, rfl⟩⟩
instance : EqE Unit eU := ⟨0, fun _ => true, fun _ => .none, fun a S f h => by cases f with | zero => omega | succ f => rfl, fun _ _ => rfl, fun _ => Nat.le_refl _, fun a b => ⟨fun _ => rfl, fun _ => rfl⟩⟩
variable {e : α → D} {f : β → D} {g : γ → D}
instance [q : EqE α e] [n : NoN α e] : EqE (Option α) (eO e) where
  dep := q.dep
  ok := fun o => match o with | none => true | some a => q.ok a
  dat := fun o => match o with | none => .none | some a => q.dat a
  py := fun o S f h => by
    cases o with
    | none => cases f with | zero => omega | succ f => rfl
    | some a => exact q.py a S f h
  lay := fun o h => by
    cases o with
    | none => rfl
    | some a => exact q.lay a h
  depth := fun o => by
    cases o with
    | none => exact Nat.zero_le _
    | some a => exact q.depth a
  inj := fun a b => by
    cases a with
    | none => cases b with
      | none => exact ⟨fun _ => rfl, fun _ => rfl⟩
      | some b => exact ⟨fun h => absurd h (by rw [(n.non b).1]; exact Bool.false_ne_true), fun h => (by cases h)⟩
    | some a => cases b with
      | none => exact ⟨fun h => absurd h (by rw [(n.non a).2]; exact Bool.false_ne_true), fun h => (by cases h)⟩
      | some b => exact (q.inj a b).trans ⟨fun h => by rw [h], fun h => Option.some.inj h⟩
theorem lay_all {q : EqE α e} : ∀ l : List α, l.all q.ok = true → PyData.canLayAll0 (l.map q.dat) = true
  | [], _ => rfl
  | a :: r, h => by
    rw [List.all_cons, Bool.and_eq_true] at h
    show (PyData.canLay0 (q.dat a) && PyData.canLayAll0 (r.map q.dat)) = true
    rw [q.lay a h.1, lay_all r h.2]; rfl
theorem depth_all {q : EqE α e} : ∀ l : List α, PyData.depthAll (l.map q.dat) ≤ q.dep
  | [] => Nat.zero_le _
  | a :: r => by
    show max (PyData.depth (q.dat a)) (PyData.depthAll (r.map q.dat)) ≤ _
    exact Nat.max_le.mpr ⟨q.depth a, depth_all r⟩
theorem py_all {q : EqE α e} {S : Sto} {k : Nat} (h : q.dep < k) : ∀ l : List α, pyAll (Cy.py k S) (l.map e) = some (l.map q.dat)
  | [] => rfl
  | a :: r => by
    unfold pyAll
    rw [List.map_cons]
    dsimp only
    rw [q.py a S k h, py_all h r]; rfl
theorem eqv_all {q : EqE α e} : ∀ l k : List α, PyData.eqvAll (l.map q.dat) (k.map q.dat) = true ↔ l = k
  | [], [] => ⟨fun _ => rfl, fun _ => rfl⟩
  | [], _ :: _ => ⟨fun h => (by cases h), fun h => (by cases h)⟩
  | _ :: _, [] => ⟨fun h => (by cases h), fun h => (by cases h)⟩
  | a :: r, b :: t => by
    show (PyData.eqv (q.dat a) (q.dat b) && PyData.eqvAll (r.map q.dat) (t.map q.dat)) = true ↔ _
    rw [Bool.and_eq_true, q.inj, eqv_all r t]
    exact ⟨fun h => by rw [h.1, h.2], fun h => by cases h; exact ⟨rfl, rfl⟩⟩
instance instEqTL [q : EqE α e] : EqE (List α) (eTL e) where
  dep := q.dep + 1
  ok := fun l => l.all q.ok
  dat := fun l => .tuple (l.map q.dat)
  py := fun l S f h => by
    cases f with
    | zero => omega
    | succ f =>
      show (pyAll (Cy.py f S) (l.map e)).map PyData.tuple = _
      rw [py_all (by omega)]; rfl
  lay := fun l h => lay_all l h
  depth := fun l => Nat.succ_le_succ (depth_all l)
  inj := fun l k => eqv_all l k
instance instEqFL [q : EqE α e] : EqE (List α) (eFL e) where
  dep := q.dep + 1
  ok := fun l => l.all q.ok
  dat := fun l => .list (l.map q.dat)
  py := fun l S f h => by
    cases f with
    | zero => omega
    | succ f =>
      show (pyAll (Cy.py f S) (l.map e)).map PyData.list = _
      rw [py_all (by omega)]; rfl
  lay := fun l h => lay_all l h
  depth := fun l => Nat.succ_le_succ (depth_all l)
  inj := fun l k => eqv_all l k
instance [q : EqE α e] : NoN (List α) (eTL e) := ⟨fun _ => ⟨rfl, rfl⟩⟩
instance [q : EqE α e] : NoN (List α) (eFL e) := ⟨fun _ => ⟨rfl, rfl⟩⟩
instance [q : EqE α e] : EqE α (eP1 e) where
  dep := q.dep + 1
  ok := q.ok
  dat := fun p => .tuple [q.dat p]
  py := fun l S f h => by
    cases f with
    | zero => omega
    | succ k =>
      show (pyAll (Cy.py k S) [e l]).map PyData.tuple = _
      unfold pyAll pyAll
      rw [q.py l S k (by omega)]; rfl
  lay := fun p h => by show (PyData.canLay0 (q.dat p) && true) = true; rw [q.lay p h]; rfl
  depth := fun p => by show max (PyData.depth (q.dat p)) 0 + 1 ≤ _; have := q.depth p; omega
  inj := fun a b => by
    show (PyData.eqv (q.dat a) (q.dat b) && true) = true ↔ _
    rw [Bool.and_true]; exact q.inj a b
instance [q : EqE α e] [r : EqE β f] : EqE (α × β) (eP2 e f) where
  dep := max q.dep r.dep + 1
  ok := fun p => q.ok p.1 && r.ok p.2
  dat := fun p => .tuple [q.dat p.1, r.dat p.2]
  py := fun l S f' h => by
    cases f' with
    | zero => omega
    | succ k =>
      show (pyAll (Cy.py k S) [e l.1, f l.2]).map PyData.tuple = _
      unfold pyAll pyAll pyAll
      rw [q.py l.1 S k (by omega), r.py l.2 S k (by omega)]; rfl
  lay := fun p h => by
    rw [Bool.and_eq_true] at h
    show (PyData.canLay0 (q.dat p.1) && (PyData.canLay0 (r.dat p.2) && true)) = true
    rw [q.lay _ h.1, r.lay _ h.2]; rfl
  depth := fun p => by
    show max (PyData.depth (q.dat p.1)) (max (PyData.depth (r.dat p.2)) 0) + 1 ≤ _
    have := q.depth p.1; have := r.depth p.2; omega
  inj := fun a b => by
    show (PyData.eqv (q.dat a.1) (q.dat b.1) && (PyData.eqv (r.dat a.2) (r.dat b.2) && true)) = true ↔ _
    rw [Bool.and_true, Bool.and_eq_true, q.inj, r.inj]
    exact ⟨fun h => Prod.ext h.1 h.2, fun h => by rw [h]; exact ⟨rfl, rfl⟩⟩
instance [q : EqE α e] [r : EqE β f] [s : EqE γ g] : EqE (α × β × γ) (eP3 e f g) where
  dep := max q.dep (max r.dep s.dep) + 1
  ok := fun p => q.ok p.1 && (r.ok p.2.1 && s.ok p.2.2)
  dat := fun p => .tuple [q.dat p.1, r.dat p.2.1, s.dat p.2.2]
  py := fun l S f' h => by
    cases f' with
    | zero => omega
    | succ k =>
      show (pyAll (Cy.py k S) [e l.1, f l.2.1, g l.2.2]).map PyData.tuple = _
      unfold pyAll pyAll pyAll pyAll
      rw [q.py l.1 S k (by omega), r.py l.2.1 S k (by omega), s.py l.2.2 S k (by omega)]; rfl
  lay := fun p h => by
    rw [Bool.and_eq_true, Bool.and_eq_true] at h
    show (PyData.canLay0 (q.dat p.1) && (PyData.canLay0 (r.dat p.2.1) && (PyData.canLay0 (s.dat p.2.2) && true))) = true
    rw [q.lay _ h.1, r.lay _ h.2.1, s.lay _ h.2.2]; rfl
  depth := fun p => by
    show max (PyData.depth (q.dat p.1)) (max (PyData.depth (r.dat p.2.1)) (max (PyData.depth (s.dat p.2.2)) 0)) + 1 ≤ _
    have := q.depth p.1; have := r.depth p.2.1; have := s.depth p.2.2; omega
  inj := fun a b => by
    show (PyData.eqv (q.dat a.1) (q.dat b.1) && (PyData.eqv (r.dat a.2.1) (r.dat b.2.1) && (PyData.eqv (s.dat a.2.2) (s.dat b.2.2) && true))) = true ↔ _
    rw [Bool.and_true, Bool.and_eq_true, Bool.and_eq_true, q.inj, r.inj, s.inj]
    exact ⟨fun h => Prod.ext h.1 (Prod.ext h.2.1 h.2.2), fun h => by rw [h]; exact ⟨rfl, rfl, rfl⟩⟩
instance [q : EqE α e] [r : EqE β f] : NoN (α × β) (eP2 e f) := ⟨fun _ => ⟨rfl, rfl⟩⟩
instance [q : EqE α e] : NoN α (eP1 e) := ⟨fun _ => ⟨rfl, rfl⟩⟩
instance [q : EqE α e] [r : EqE β f] [s : EqE γ g] : NoN (α × β × γ) (eP3 e f g) := ⟨fun _ => ⟨rfl, rfl⟩⟩
theorem eqD_typed [q : EqE α e] [DecidableEq α] (hd : q.dep < 12) {a b : α} (ha : q.ok a = true) (hb : q.ok b = true) (S : Sto) : eqD S (.va (e a)) (.va (e b)) = some (decide (a = b)) := by
  unfold eqD pyR
  dsimp only
  rw [q.py a S 40 (by omega), q.py b S 40 (by omega)]
  dsimp only
  have s1 : SeqAt.shaped (q.dat a) = true := by
    unfold SeqAt.shaped
    rw [q.lay a ha, decide_eq_true (show (q.dat a).depth ≤ 64 by have := q.depth a; omega)]; rfl
  have s2 : SeqAt.shaped (q.dat b) = true := by
    unfold SeqAt.shaped
    rw [q.lay b hb, decide_eq_true (show (q.dat b).depth ≤ 64 by have := q.depth b; omega)]; rfl
  rw [s1, s2]
  show some _ = some _
  congr 1
  rw [Bool.eq_iff_iff, q.inj, decide_eq_true_iff]
theorem eqS_py {d d' : D} {b : Bool} {p p' : PyData} {S : Sto} (h : eqS d d' = some b) (hp : Cy.py 40 S d = some p) (hp' : Cy.py 40 S d' = some p') : PyData.eqv p p' = b := by
  cases d <;> cases d' <;> first
    | (cases h; done)
    | (cases h; cases hp; cases hp'; first | rfl | (rw [Bool.eq_iff_iff]; show (_ == _) = true ↔ _; rw [beq_iff_eq, decide_eq_true_iff]))
theorem eqB_typed [q : EqE α e] [DecidableEq α] (hd : q.dep < 12) {a b : α} (ha : q.ok a = true) (hb : q.ok b = true) (S : Sto) : eqB S (.va (e a)) (.va (e b)) = some (decide (a = b)) := by
  unfold eqB
  dsimp only
  cases h : eqS (e a) (e b) with
  | none => exact eqD_typed hd ha hb S
  | some c =>
    dsimp only
    have := eqS_py h (q.py a S 40 (by omega)) (q.py b S 40 (by omega))
    congr 1
    rw [← this, Bool.eq_iff_iff, q.inj, decide_eq_true_iff]
/-- .. of what has no texts -/
class OkE (α : Type) (e : α → D) [q : EqE α e] : Prop where
  all : ∀ a, q.ok a = true
instance : OkE Int D.int := ⟨fun _ => rfl⟩
instance : OkE Bool D.bl := ⟨fun _ => rfl⟩
instance : OkE Unit eU := ⟨fun _ => rfl⟩
instance [q : EqE α e] [n : NoN α e] [o : OkE α e] : OkE (Option α) (eO e) := ⟨fun a => by cases a with | none => rfl | some a => exact o.all a⟩
instance [q : EqE α e] [o : OkE α e] : OkE (List α) (eTL e) := ⟨fun l => List.all_eq_true.mpr fun a _ => o.all a⟩
instance [q : EqE α e] [o : OkE α e] : OkE (List α) (eFL e) := ⟨fun l => List.all_eq_true.mpr fun a _ => o.all a⟩
instance [q : EqE α e] [o : OkE α e] : OkE α (eP1 e) := ⟨fun a => o.all a⟩
instance [q : EqE α e] [r : EqE β f] [o : OkE α e] [p : OkE β f] : OkE (α × β) (eP2 e f) := ⟨fun a => by show (q.ok a.1 && r.ok a.2) = true; rw [o.all, p.all]; rfl⟩
instance [q : EqE α e] [r : EqE β f] [s : EqE γ g] [o : OkE α e] [p : OkE β f] [u : OkE γ g] : OkE (α × β × γ) (eP3 e f g) := ⟨fun a => by show (q.ok a.1 && (r.ok a.2.1 && s.ok a.2.2)) = true; rw [o.all, p.all, u.all]; rfl⟩
theorem ex_ne [q : EqE α e] [o : OkE α e] [DecidableEq α] {a b : α} (hd : q.dep < 12) (h : Ex S0 A ma env (.va (e a))) (l : Ex S0 A mb env (.va (e b))) : Ex S0 A (eP (lift pNe) [ma, mb]) env (.va (.bl (!decide (a = b)))) := ex_p2 h l fun S _ => by
  unfold pNe
  dsimp only
  rw [eqB_typed hd (o.all a) (o.all b)]; rfl
class NonE (α : Type) (e : α → D) : Prop where
  not : ∀ a, e a ≠ .non
instance : NonE Int D.int := ⟨fun _ h => by cases h⟩
instance : NonE Bool D.bl := ⟨fun _ h => by cases h⟩
instance : NonE Str D.str := ⟨fun _ h => by cases h⟩
instance : NonE (List α) (eTL e) := ⟨fun _ h => by cases h⟩
instance : NonE (List α) (eFL e) := ⟨fun _ h => by cases h⟩
instance : NonE α (eP1 e) := ⟨fun _ h => by cases h⟩
instance : NonE (α × β) (eP2 e f) := ⟨fun _ h => by cases h⟩
instance : NonE (α × β × γ) (eP3 e f g) := ⟨fun _ h => by cases h⟩
end
end Cy
set_option Elab.async false
set_option linter.all false
set_option maxRecDepth 100000
set_option maxHeartbeats 2000000
set_option autoImplicit false
namespace Cy
open PySem L2
theorem atI_map {α β : Type} (f : α → β) (l : List α) (i : Int) : atI (l.map f) i = (atI l i).map f := by
  unfold atI
  rw [List.length_map]
  cases ixN l.length i with
  | none => rfl
  | some j => exact List.getElem?_map ..
abbrev idx {α : Type} (l : List α) (i : Int) : Option α := atI l i
def cutT {α : Type} (l : List α) (lo hi : Option Int) : List α := (l.drop (HT.sIx l.length 0 lo)).take (HT.sIx l.length l.length hi - HT.sIx l.length 0 lo)
theorem cutD_map {α : Type} (e : α → D) (l : List α) (lo hi : Option Int) : cutD (l.map e) lo hi = (cutT l lo hi).map e := by
  unfold cutD cutT
  rw [List.length_map, List.map_take, List.map_drop]
section
variable {S0 : Bs} {A : List Asn} {env : Env} {α β γ δ : Type} {m ma mb mc : EX} {ms : List EX} {i j k : Int} {e : α → D} {f : β → D} {g : γ → D} {x y : Rv}
/-- a row's items -/
def Ls (S0 : Bs) (A : List Asn) (x : Rv) (ds : List D) : Prop := ∀ S, Sat S0 A S → vL S x = some ds
def Qs (S0 : Bs) (A : List Asn) (x : Rv) (ds : List D) : Prop := ∀ S, Sat S0 A S → vQ S x = some ds
theorem ls_fr {l : List α} : Ls S0 A (fl e l) (l.map e) := fun _ _ => rfl
theorem ls_frl {l : List α} : Ls S0 A (.va (eFL e l)) (l.map e) := fun _ _ => rfl
theorem vT_none {S : Sto} {ds : List D} (h : vL S x = some ds) : vT x = none := by
  cases x with
  | fr o => rfl
  | va d => cases d <;> first | rfl | cases h
theorem qs_l {ds : List D} (h : Ls S0 A x ds) : Qs S0 A x ds := fun S s => by
  unfold vQ
  rw [vT_none (h S s)]
  exact h S s
theorem ex_lst {xs : List Rv} {ds : List D} (h : ExA S0 A ms env xs) (hu : unva xs = some ds) (hl : ds.length ≤ 100) : Ex S0 A (eLst ms) env (.fr (.lst ds)) := fun S s => by
  unfold eLst
  rw [h S s, Rs.bind_ok, hu]
  exact if_pos (Nat.le_trans hl (by decide +kernel))
theorem ix_ne {S : Sto} (ds : List D) (hq : vQ S x = some ds) : pIx S [x, .va (.int i)] = (atI ds i).map .va := by
  unfold pIx
  cases x with
  | fr o => dsimp only; rw [hq]
  | va d =>
    cases d with
    | str z => cases hq
    | _ => dsimp only; rw [hq]
theorem xm_ix {l : List α} (h : Ex S0 A ma env x) (q : Qs S0 A x (l.map e)) (k : Ex S0 A mb env (.va (.int i))) : XM S0 A (eP (lift pIx) [ma, mb]) env (idx l i) (va e) := fun a ha => ex_p2 h k fun S s => by
  rw [ix_ne _ (q S s), atI_map, show atI l i = some a from ha]; rfl
def ExO (S0 : Bs) (A : List Asn) (o : OX) (env : Env) (v : Option Int) : Prop := ∀ S, Sat S0 A S → o env S = .ok v S
theorem exo_some (h : Ex S0 A m env (.va (.int i))) : ExO S0 A (oSome m) env (some i) := fun S s => by
  unfold oSome
  rw [h S s]; rfl
theorem ex_sl {lo hi : OX} {a b : Option Int} {z : Rv} (h : Ex S0 A m env x) (h1 : ExO S0 A lo env a) (h2 : ExO S0 A hi env b) (hz : ∀ S, Sat S0 A S → cutR S x a b = some z) : Ex S0 A (eSl m lo hi) env z := fun S s => by
  unfold eSl
  rw [h S s, Rs.bind_ok, h1 S s, Rs.bind_ok, h2 S s, Rs.bind_ok, hz S s]
theorem ex_slL {lo hi : OX} {a b : Option Int} {l : List α} (h : Ex S0 A m env x) (q : Ls S0 A x (l.map e)) (h1 : ExO S0 A lo env a) (h2 : ExO S0 A hi env b) : Ex S0 A (eSl m lo hi) env (fl e (cutT l a b)) := ex_sl h h1 h2 fun S s => by
  have hq := q S s
  have : cutR S x a b = (vL S x).map fun ds => .fr (.lst (cutD ds a b)) := by
    cases x with
    | fr o => rfl
    | va d => cases d <;> first | rfl | cases hq
  rw [this, hq]
  show some (Rv.fr (.lst (cutD (l.map e) a b))) = _
  rw [cutD_map]; rfl
theorem ex_len {l : List α} (h : Ex S0 A m env x) (q : Qs S0 A x (l.map e)) : Ex S0 A (eP (lift pLen) [m]) env (.va (.int l.length)) := ex_p1 h fun S s => by
  have hq := q S s
  have : pLen S [x] = (vQ S x).map fun ds => .va (.int ds.length) := by
    cases x with
    | fr o => rfl
    | va d => cases d <;> first | rfl | cases hq
  rw [this, hq]
  show some (Rv.va (.int ((l.map e).length : Nat))) = _
  rw [List.length_map]
def catC (l k : List α) : Option (List α) := if l.length + k.length ≤ sizeLine then some (l ++ k) else none
theorem xm_catL {l k : List α} (h : Ex S0 A ma env x) (q1 : Ls S0 A x (l.map e)) (h2 : Ex S0 A mb env y) (q2 : Ls S0 A y (k.map e)) : XM S0 A (eP (lift pAdd) [ma, mb]) env (catC l k) (fl e) := xm_if fun q => xm_pure (ex_p2 h h2 fun S s => by
  have a1 := q1 S s
  have a2 := q2 S s
  have : pAdd S [x, y] = match vL S x, vL S y with
    | some a, some b => if a.length + b.length ≤ sizeLine then some (.fr (.lst (a ++ b))) else none
    | _, _ => none := by
    cases x with
    | fr o => cases y <;> rfl
    | va d => cases d <;> first | rfl | cases a1
  rw [this, a1, a2]
  dsimp only
  rw [List.length_map, List.length_map, if_pos q, ← List.map_append]; rfl)
theorem rep_map (l : List α) (n : Nat) : (List.replicate n (l.map e)).flatten = ((List.replicate n l).flatten).map e := by
  rw [List.map_flatten, List.map_replicate]
def repL (l : List α) (k : Int) : Option (List α) := if (decide (k.natAbs < 9223372036854775808) && decide (l.length * k.toNat ≤ sizeLine)) = true then some (List.replicate k.toNat l).flatten else none
theorem xm_repL {l : List α} {k : Int} (h : Ex S0 A ma env (fl e l)) (h2 : Ex S0 A mb env (.va (.int k))) : XM S0 A (eP (lift pMul) [ma, mb]) env (repL l k) (fl e) := xm_if fun q => xm_pure (ex_p2 h h2 fun S s => by
  show (if (decide (k.natAbs < 9223372036854775808) && decide ((l.map e).length * k.toNat ≤ sizeLine)) = true then some (Rv.fr (.lst (List.replicate k.toNat (l.map e)).flatten)) else none) = _
  rw [List.length_map, if_pos q, rep_map]; rfl)
def rangeI (lo hi : Int) : List Int := (List.range (hi - lo).toNat).map fun (i : Nat) => lo + (i : Int)
theorem range_map (lo hi : Int) : rangeD lo hi = (rangeI lo hi).map D.int := by
  unfold rangeD rangeI
  rw [List.map_map]; rfl
theorem pyR_ls {S : Sto} {l : List α} [q : EqE α e] (hd : q.dep < 11) (h : vL S x = some (l.map e)) : pyR S x = some (.list (l.map q.dat)) := by
  cases x with
  | fr o =>
    cases o with
    | lst ds => cases h; show (pyAll (py 40 S) (l.map e)).map PyData.list = _; rw [py_all (by omega)]; rfl
    | _ => cases h
  | va d =>
    cases d with
    | ref n =>
      unfold vL at h
      dsimp only at h
      show py 40 S (.ref n) = _
      unfold py
      cases hn : S[n]? with
      | none => rw [hn] at h; cases h
      | some o =>
        rw [hn] at h
        cases o with
        | lst ds => cases h; dsimp only; rw [py_all (by omega)]; rfl
        | _ => cases h
    | frl ds => cases h; show (pyAll (py 39 S) (l.map e)).map PyData.list = _; rw [py_all (k := 39) (by omega)]; rfl
    | _ => cases h
theorem shaped_all [q : EqE α e] (hd : q.dep < 11) {l : List α} (h : l.all q.ok = true) : SeqAt.shaped (.list (l.map q.dat)) = true := by
  unfold SeqAt.shaped
  rw [show PyData.canLay0 (.list (l.map q.dat)) = true from lay_all l h, decide_eq_true (show PyData.depth (.list (l.map q.dat)) ≤ 64 by show PyData.depthAll _ + 1 ≤ 64; have := depth_all (q := q) l; omega)]; rfl
theorem dBls_map (l : List Bool) : dBls (l.map D.bl) = some l := by
  induction l with
  | nil => rfl
  | cons a r ih => show (dBls (r.map D.bl)).map (a :: ·) = _; rw [ih]; rfl
theorem ex_all {l : List Bool} (h : Ex S0 A m env x) (q : Ls S0 A x (l.map D.bl)) : Ex S0 A (eP (lift pAll) [m]) env (.va (.bl (l.all id))) := ex_p1 h fun S s => by
  unfold pAll
  dsimp only
  rw [q S s]
  dsimp only
  rw [dBls_map]; rfl
theorem ex_isi {T C : String} {b : Bool} (h : Ex S0 A m env x) (ht : ∀ S, Sat S0 A S → tyN S x = some T) (hb : isiB T C = some b) : Ex S0 A (eP (lift (pIsi C)) [m]) env (.va (.bl b)) := ex_p1 h fun S s => by
  unfold pIsi
  dsimp only
  rw [ht S s]
  dsimp only
  rw [hb]; rfl
variable {Ai : List Asn} {it : IX}
theorem ix_frl {l : List α} (h : Ex S0 A m env (.va (eFL e l))) : IxM S0 A Ai (ixL m) env (some l) e := fun xs hx S s => by
  cases hx
  refine ⟨.fix (l.map e), ?_, List.length_map .., fun i S' _ => rfl⟩
  unfold ixL
  rw [h S s]; rfl
def rngC (i j : Int) : Option (List Int) := if (small62 i && small62 j) = true then some (rangeI i j) else none
theorem rng_is (lo hi : Int) (i : Nat) (S : Sto) : Src.get (.fix (rangeD lo hi)) i S = some ((rangeI lo hi).map D.int)[i]? := by rw [← range_map]; rfl
theorem ix_r1 (h : Ex S0 A m env (.va (.int i))) : IxM S0 A Ai (ixR1 m) env (rngC 0 i) D.int := fun xs hx S s => by
  unfold rngC at hx
  by_cases q : (small62 0 && small62 i) = true
  · rw [if_pos q] at hx
    cases hx
    have q2 := (Bool.and_eq_true_iff.mp q).2
    refine ⟨.fix (rangeD 0 i), ?_, by rw [show Src.len (.fix (rangeD 0 i)) = (rangeD 0 i).length from rfl, range_map, List.length_map], fun i' S' _ => rng_is _ _ _ _⟩
    unfold ixR1
    rw [h S s]
    dsimp only [Rs.bind]
    rw [if_pos q2]
  · rw [if_neg q] at hx; cases hx
/-- a row by its source: fixed, or a list that stays -/
def SrcOf (S0 : Bs) (A Ai : List Asn) (x : Rv) (ds : List D) : Prop := ∀ S, Sat S0 A S → ∃ src, seqSrc S x = some src ∧ src.len = ds.length ∧ ∀ i S', Sat S0 Ai S' → src.get i S' = some ds[i]?
theorem so_frl {l : List α} : SrcOf S0 A Ai (.va (eFL e l)) (l.map e) := fun S s => ⟨.fix (l.map e), rfl, rfl, fun _ _ _ => rfl⟩
def enumI (l : List α) : List (Int × α) := l.zipIdx.map fun p => ((p.2 : Int), p.1)
theorem enum_get (l : List α) (i : Nat) : ((enumI l).map (eP2 D.int e))[i]? = ((l.map e)[i]?).map fun d => .tup [.int (i : Nat), d] := by
  unfold enumI
  rw [List.map_map, List.getElem?_map, List.getElem?_zipIdx, List.getElem?_map]
  cases l[i]? with
  | none => rfl
  | some a => simp [eP2]
theorem enum_len (l : List α) : (enumI l).length = l.length := by unfold enumI; rw [List.length_map, List.length_zipIdx]
theorem en_get {src : Src} {l : List α} {S : Sto} {i : Nat} (h : src.get i S = some (l.map e)[i]?) : (enSrc src).get i S = some ((enumI l).map (eP2 D.int e))[i]? := by
  show enGet src i S = _
  unfold enGet
  rw [h, enum_get]
  cases (l.map e)[i]? <;> rfl
theorem ix_en {l : List α} (h : Ex S0 A m env x) (q : SrcOf S0 A Ai x (l.map e)) : IxM S0 A Ai (ixE m) env (some (enumI l)) (eP2 D.int e) := fun xs hx S s => by
  cases hx
  obtain ⟨src, h1, h2, h3⟩ := q S s
  refine ⟨enSrc src, ?_, by show src.len = _; rw [h2, enum_len, List.length_map], fun i S' s' => en_get (h3 i S' s')⟩
  unfold ixE
  rw [h S s]
  dsimp only [Rs.bind]
  rw [h1]
theorem tg_1 {n : Nat} {d : D} : (Tg.name n).bind d env = some (env.set n (some d)) := rfl
theorem tg_2 {n n2 : Nat} {p : α × β} : (Tg.names [n, n2]).bind (eP2 e f p) env = some ((env.set n (some (e p.1))).set n2 (some (f p.2))) := rfl
end
end Cy
set_option Elab.async false
set_option linter.all false
set_option maxRecDepth 100000
set_option maxHeartbeats 2000000
set_option autoImplicit false
namespace Cy
open PySem L2
section
variable {S0 : Bs} {A : List Asn} {env : Env} {α β γ δ τ κ : Type} {m ma mb mc : EX} {ms : List EX} {i j k : Int} {e : α → D} {f : β → D} {g : γ → D} {x y : Rv} {P : SR → τ → Prop} {rest : SM}
class KeyE (κ : Type) [DecidableEq κ] (e : κ → D) : Prop where
  key : ∀ a, isKey (e a) = true
  inj : ∀ a b, keyEq (e a) (e b) = decide (a = b)
  same : ∀ a b, isTK (e a) = isTK (e b)
instance : KeyE Int D.int := ⟨fun _ => rfl, fun _ _ => rfl, fun _ _ => rfl⟩
instance : KeyE Str D.str := ⟨fun _ => rfl, fun _ _ => rfl, fun _ _ => rfl⟩
/-- keys that are tuples, to this depth -/
class KN {α : Type} (e : α → D) (n : Nat) : Prop where
  tell : ∃ f : α → NestedKey, (∀ a, keyN (e a) = some (f a)) ∧ (∀ a b, f a = f b → a = b) ∧ ∀ a, (f a).depth ≤ n
instance (n : Nat) : KN D.int n := ⟨fun i => .num i, fun _ => rfl, (fun _ _ h => by cases h; rfl), fun _ => Nat.zero_le _⟩
instance (n : Nat) : KN D.str n := ⟨fun i => .text i, fun _ => rfl, (fun _ _ h => by cases h; rfl), fun _ => Nat.zero_le _⟩
instance (n : Nat) : KN D.bl n := ⟨fun b => .num (if b = true then 1 else 0), fun _ => rfl, (by intro a b h; cases a <;> cases b <;> first | rfl | cases h), fun _ => Nat.zero_le _⟩
theorem keysN_map {α : Type} {e : α → D} {f : α → NestedKey} (h : ∀ a, keyN (e a) = some (f a)) : ∀ l : List α, keysN (l.map e) = some (l.map f)
  | [] => rfl
  | a :: r => by
    show (keyN (e a)).bind (fun k => (keysN (r.map e)).map (k :: ·)) = _
    rw [h, keysN_map h r]; rfl
theorem depth_map {α : Type} {f : α → NestedKey} {n : Nat} (h : ∀ a, (f a).depth ≤ n) : ∀ l : List α, NestedKey.depthAll (l.map f) ≤ n
  | [] => Nat.zero_le _
  | a :: r => by
    show max (f a).depth (NestedKey.depthAll (r.map f)) ≤ n
    have := h a
    have := depth_map h r
    omega
theorem map_injL {α β : Type} {f : α → β} (h : ∀ a b, f a = f b → a = b) : ∀ a b : List α, a.map f = b.map f → a = b
  | [], [], _ => rfl
  | [], _ :: _, e => by simp at e
  | _ :: _, [], e => by simp at e
  | x :: xs, y :: ys, e => by
    rw [List.map_cons, List.map_cons] at e
    injection e with e1 e2
    rw [h _ _ e1, map_injL h _ _ e2]
instance {α : Type} {e : α → D} (n : Nat) [q : KN e n] : KN (eTL e) (n + 1) := by
  obtain ⟨f, h1, h2, h3⟩ := q.tell
  refine ⟨fun l => .tup (l.map f), fun l => ?_, fun a b h => ?_, fun l => Nat.succ_le_succ (depth_map h3 l)⟩
  · show (keysN (l.map e)).map NestedKey.tup = _
    rw [keysN_map h1]; rfl
  · injection h with h
    exact map_injL h2 a b h
instance {α β : Type} {e : α → D} {f : β → D} (n : Nat) [q : KN e n] [p : KN f n] : KN (eP2 e f) (n + 1) := by
  obtain ⟨j, h1, h2, h3⟩ := q.tell
  obtain ⟨k, k1, k2, k3⟩ := p.tell
  refine ⟨fun l => .tup [j l.1, k l.2], fun l => ?_, fun a b h => ?_, fun l => ?_⟩
  · show (keysN [e l.1, f l.2]).map NestedKey.tup = _
    unfold keysN keysN keysN
    rw [h1, k1]; rfl
  · injection h with h
    injection h with e1 h
    injection h with e2 h
    exact Prod.ext (h2 _ _ e1) (k2 _ _ e2)
  · have a1 := h3 l.1
    have a2 := k3 l.2
    show max (j l.1).depth (max (k l.2).depth 0) + 1 ≤ n + 1
    omega
instance {α β γ : Type} {e : α → D} {f : β → D} {g : γ → D} (n : Nat) [q : KN e n] [p : KN f n] [r : KN g n] : KN (eP3 e f g) (n + 1) := by
  obtain ⟨j, h1, h2, h3⟩ := q.tell
  obtain ⟨k, k1, k2, k3⟩ := p.tell
  obtain ⟨m, m1, m2, m3⟩ := r.tell
  refine ⟨fun l => .tup [j l.1, k l.2.1, m l.2.2], fun l => ?_, fun a b h => ?_, fun l => ?_⟩
  · show (keysN [e l.1, f l.2.1, g l.2.2]).map NestedKey.tup = _
    unfold keysN keysN keysN keysN
    rw [h1, k1, m1]; rfl
  · injection h with h
    injection h with e1 h
    injection h with e2 h
    injection h with e3 h
    exact Prod.ext (h2 _ _ e1) (Prod.ext (k2 _ _ e2) (m2 _ _ e3))
  · have a1 := h3 l.1
    have a2 := k3 l.2.1
    have a3 := m3 l.2.2
    show max (j l.1).depth (max (k l.2.1).depth (max (m l.2.2).depth 0)) + 1 ≤ n + 1
    omega
theorem keyE_tup {κ : Type} [DecidableEq κ] {e : κ → D} (h : ∀ a, ∃ ds, e a = .tup ds) (q : KN e 8) : KeyE κ e := by
  obtain ⟨f, h1, h2, h3⟩ := q.tell
  have t : ∀ a, isTK (e a) = true := fun a => by
    obtain ⟨ds, hd⟩ := h a
    have := h1 a
    rw [hd] at this ⊢
    show (match keyN (.tup ds) with | some k => decide (k.depth ≤ 8) | none => false) = true
    rw [this]
    exact decide_eq_true (h3 a)
  refine ⟨fun a => by unfold isKey; rw [t, Bool.or_true], fun a b => ?_, fun a b => by rw [t, t]⟩
  rw [keyEq_n (h1 a) (h1 b) (t a) (t b)]
  by_cases e : a = b
  · subst e; simp
  · rw [decide_eq_false e, decide_eq_false fun z => e (h2 _ _ z)]
instance {α β : Type} [DecidableEq (α × β)] {e : α → D} {f : β → D} [q : KN e 7] [p : KN f 7] : KeyE (α × β) (eP2 e f) := keyE_tup (fun _ => ⟨_, rfl⟩) inferInstance
instance {α β γ : Type} [DecidableEq (α × β × γ)] {e : α → D} {f : β → D} {g : γ → D} [q : KN e 7] [p : KN f 7] [r : KN g 7] : KeyE (α × β × γ) (eP3 e f g) := keyE_tup (fun _ => ⟨_, rfl⟩) inferInstance
instance {α : Type} [DecidableEq (List α)] {e : α → D} [q : KN e 7] : KeyE (List α) (eTL e) := keyE_tup (fun _ => ⟨_, rfl⟩) inferInstance
variable {ek : κ → D} [DecidableEq κ] [q : KeyE κ ek]
end
end Cy
set_option Elab.async false
set_option linter.all false
set_option maxRecDepth 100000
set_option maxHeartbeats 2000000
set_option autoImplicit false
namespace Cy
open PySem L2
section
variable {S0 : Bs} {A : List Asn} {env : Env} {α β γ δ τ κ ρ : Type} {m ma mb mc mo mi : EX} {ms : List EX} {i j k : Int} {e : α → D} {f : β → D} {g : γ → D} {x y : Rv} {P : SR → τ → Prop} {rest : SM}
theorem ex_fzv {d : D} (h : Ex S0 A m env (.va d)) : Ex S0 A (eFz m) env (.va d) := ex_fz h
theorem eqL_typedC [q : EqE α e] [DecidableEq α] {a b : List α} (hd : q.dep < 11) (ka : a.all q.ok = true) (kb : b.all q.ok = true) {S : Sto} (h1 : vL S x = some (a.map e)) (h2 : vL S y = some (b.map e)) : eqB S x y = some (decide (a = b)) := by
  have key : eqD S x y = some (decide (a = b)) := by
    unfold eqD
    rw [pyR_ls hd h1, pyR_ls hd h2]
    dsimp only
    rw [shaped_all hd ka, shaped_all hd kb]
    show some _ = some _
    congr 1
    rw [Bool.eq_iff_iff, decide_eq_true_iff]
    exact eqv_all a b
  unfold eqB
  cases x with
  | fr o => cases y <;> exact key
  | va d =>
    cases y with
    | fr o => exact key
    | va d' =>
      dsimp only
      have : eqS d d' = none := by
        cases d <;> first | (cases h1; done) | (cases d' <;> first | rfl | (cases h2; done))
      rw [this]
      exact key
theorem eqL_typed [q : EqE α e] [o : OkE α e] [DecidableEq α] {a b : List α} (hd : q.dep < 11) {S : Sto} (h1 : vL S x = some (a.map e)) (h2 : vL S y = some (b.map e)) : eqB S x y = some (decide (a = b)) := eqL_typedC hd (List.all_eq_true.mpr fun b _ => o.all b) (List.all_eq_true.mpr fun b _ => o.all b) h1 h2
theorem ex_eqL [q : EqE α e] [o : OkE α e] [DecidableEq α] {a b : List α} (hd : q.dep < 11) (h : Ex S0 A ma env x) (q1 : Ls S0 A x (a.map e)) (l : Ex S0 A mb env y) (q2 : Ls S0 A y (b.map e)) : Ex S0 A (eP (lift pEq) [ma, mb]) env (.va (.bl (decide (a = b)))) := ex_p2 h l fun S s => by
  unfold pEq
  dsimp only
  rw [eqL_typed hd (q1 S s) (q2 S s)]; rfl
theorem ex_neL [q : EqE α e] [o : OkE α e] [DecidableEq α] {a b : List α} (hd : q.dep < 11) (h : Ex S0 A ma env x) (q1 : Ls S0 A x (a.map e)) (l : Ex S0 A mb env y) (q2 : Ls S0 A y (b.map e)) : Ex S0 A (eP (lift pNe) [ma, mb]) env (.va (.bl (!decide (a = b)))) := ex_p2 h l fun S s => by
  unfold pNe
  dsimp only
  rw [eqL_typed hd (q1 S s) (q2 S s)]; rfl
theorem sx_ret0 {X : Option ρ} {e : ρ → D} (h : XM S0 A m env X (va e)) : Sx (PV S0 e) S0 A (sSeq (sRet m) rest) env X := by
  have := sx_ret (P := PV S0 e) (rest := rest) (ι := fun r => r) (fun _ _ h => h) h
  have e1 : X.map (fun r => r) = X := by cases X <;> rfl
  rw [e1] at this
  exact this
theorem sx_retF0 {X : Option (List α)} {e : α → D} (h : XM S0 A m env X (fl e)) : Sx (PVL S0 e) S0 A (sSeq (sRet m) rest) env X := by
  have := sx_retF (P := PVL S0 e) (rest := rest) (ι := fun r => r) (fun _ _ h => h) h
  have e1 : X.map (fun r => r) = X := by cases X <;> rfl
  rw [e1] at this
  exact this
end
end Cy
set_option Elab.async false
set_option linter.all false
set_option maxRecDepth 100000
set_option maxHeartbeats 2000000
set_option autoImplicit false
namespace Cy
open PySem L2
section
variable {B : Bs} {A R : List Asn} {S S' : Sto}
theorem Fit.app {P R : List Asn} {fps : List (List Nat)} (h : Fit (P ++ R) fps S) : ∃ g k, fps = g ++ k ∧ Fit P g S ∧ Fit R k S := by
  induction P generalizing fps with
  | nil => exact ⟨[], fps, rfl, .nil, h⟩
  | cons a P ih =>
    cases h with
    | cons h t =>
      obtain ⟨g, k, e, h1, h2⟩ := ih t
      exact ⟨_ :: g, k, by rw [e]; rfl, .cons h h1, h2⟩
/-- single objects -/
def Pts : List Asn → Prop
  | [] => True
  | a :: A => (∃ n o, a = pt n o) ∧ Pts A
theorem Fit.det {fps gps : List (List Nat)} (hp : Pts A) (h : Fit A fps S) (k : Fit A gps S') : fps = gps ∧ ∀ n ∈ fps.flatten, S'[n]? = S[n]? := by
  induction A generalizing fps gps with
  | nil => cases h; cases k; exact ⟨rfl, by simp⟩
  | cons a A ih =>
    obtain ⟨⟨n, o, rfl⟩, hp⟩ := hp
    cases h with
    | cons h t =>
      cases k with
      | cons k u =>
        obtain ⟨rfl, h2⟩ := h
        obtain ⟨rfl, k2⟩ := k
        obtain ⟨rfl, e⟩ := ih hp t u
        refine ⟨rfl, fun m hm => ?_⟩
        rw [List.flatten_cons, List.mem_append] at hm
        rcases hm with hm | hm
        · rw [List.mem_singleton.mp hm, h2, k2]
        · exact e m hm
/-- these stand as they stood: nothing but new objects -/
theorem Sat.same {P : List Asn} {M : List Nat} (hp : Pts P) (h : Sat ⟨S, M⟩ P S) (hM : ∀ fps, Fit P fps S → ∀ n ∈ M, n ∈ fps.flatten) (h' : Sat ⟨S, M⟩ P S') : ∃ T, S' = S ++ T := by
  obtain ⟨fps, f, nd, lo⟩ := h.own
  obtain ⟨gps, g, _, _⟩ := h'.own
  obtain ⟨_, e⟩ := f.det hp g
  have hl : S.length ≤ S'.length := h'.pre.len
  refine Kp.app (S0 := S) ⟨hl, fun n hn _ => ?_⟩
  by_cases hm : n ∈ M
  · exact e n (hM fps f n hm)
  · exact h'.pre.at_ n hn hm
end
end Cy
set_option Elab.async false
set_option linter.all false
set_option maxRecDepth 100000
set_option maxHeartbeats 2000000
set_option autoImplicit false
set_option Elab.async false
set_option linter.all false
set_option maxRecDepth 100000
set_option maxHeartbeats 2000000
set_option autoImplicit false
set_option Elab.async false
set_option linter.all false
set_option maxRecDepth 100000
set_option maxHeartbeats 2000000
set_option autoImplicit false
set_option Elab.async false
set_option linter.all false
set_option maxRecDepth 100000
set_option maxHeartbeats 2000000
set_option autoImplicit false
namespace Cy
open PySem L2
/-- an exception: its class's number, the numbers it bears -/
structure Exn where
  c : Nat
  fs : List Int
  deriving DecidableEq
def e_E (x : Exn) : D := .exn x.c (x.fs.map D.int)
instance : Cl e_E := ⟨fun x n => unds_map (e := D.int) n x.fs⟩
instance : NonE Exn e_E := ⟨fun _ h => by cases h⟩
/-- an answer, or an exception let out -/
inductive Rq (ρ : Type) where
  | ok (r : ρ)
  | er (x : Exn)
section
variable {ρ α β σ τ : Type}
def Rq.on (z : Rq ρ) (f : Exn → β) (g : ρ → β) : β := match z with
  | .ok r => g r
  | .er x => f x
def Rq.get? (z : Rq ρ) : Option ρ := match z with
  | .ok r => some r
  | .er _ => none
@[simp] theorem Rq.on_ok (r : ρ) (f : Exn → β) (g : ρ → β) : (Rq.ok r).on f g = g r := rfl
@[simp] theorem Rq.on_er (x : Exn) (f : Exn → β) (g : ρ → β) : (Rq.er x : Rq ρ).on f g = f x := rfl
@[simp] theorem Rq.get_ok (r : ρ) : (Rq.ok r).get? = some r := rfl
section
variable {S0 : Bs} {A : List Asn} {env : Env} {m : EX} {ms : List EX} {rest mb mh : SM} {P : SR → τ → Prop}
/-- the body of a try: the ways come together, or an exception with all as it was -/
def PT {W : Type} (S0 : Bs) (A : List Asn) (env0 : Env) (ks : List Nat) (E : W → σ → Env) (B : W → σ → List Asn) : SR → Rq σ → Prop := fun o r => match r with
  | .ok s => PJ S0 ks E B o s
  | .er x => ∃ S, o = .err env0 x.c (x.fs.map D.int) S ∧ Sat S0 A S
def isE (nb : Option Bool) (tb : List (Nat × Bool)) : Option Exn → Option Bool
  | none => nb
  | some x => tb.lookup x.c
theorem xm_isE {x : Exn} {nb : Option Bool} {tb : List (Nat × Bool)} (h : Ex S0 A m env (.va (e_E x))) : XM S0 A (eP (lift (pIsE nb tb)) [m]) env (isE nb tb (some x)) (va D.bl) := fun b hb => ex_p1 h fun S s => by
  show (tb.lookup x.c).map _ = _
  have hb : tb.lookup x.c = some b := hb
  rw [hb]; rfl
end
end
end Cy
set_option Elab.async false
set_option linter.all false
set_option maxRecDepth 100000
set_option maxHeartbeats 2000000
set_option autoImplicit false
namespace Cy
open PySem L2
section
variable {S0 : Bs} {A : List Asn} {env : Env} {m : EX} {ms : List EX} {τ : Type} {P : SR → τ → Prop} {rest : SM}
theorem unva_ints : ∀ is : List Int, unva (is.map fun i => Rv.va (.int i)) = some (is.map D.int)
  | [] => rfl
  | i :: r => by
    show (unva (r.map fun i => Rv.va (.int i))).map (D.int i :: ·) = _
    rw [unva_ints r]; rfl
def fldE (tb : List (Nat × Nat)) (x : Exn) : Option Int := (tb.lookup x.c).bind fun j => x.fs[j]?
theorem xm_fldX {tb : List (Nat × Nat)} {x : Exn} (h : Ex S0 A m env (.va (e_E x))) : XM S0 A (eFldX tb m) env (fldE tb x) (va D.int) := fun i hi S s => by
  unfold eFldX
  rw [h S s]
  dsimp only [Rs.bind]
  have : fldX tb (.va (e_E x)) = some (.int i) := by
    show ((tb.lookup x.c).bind fun j => (x.fs.map D.int)[j]?) = _
    unfold fldE at hi
    cases e : tb.lookup x.c with
    | none => rw [e] at hi; cases hi
    | some j =>
      rw [e] at hi
      have hi : x.fs[j]? = some i := hi
      show (x.fs.map D.int)[j]? = _
      rw [List.getElem?_map, hi]; rfl
  rw [this]; rfl
end
end Cy
set_option Elab.async false
set_option linter.all false
set_option maxRecDepth 100000
set_option maxHeartbeats 2000000
set_option autoImplicit false
namespace Cy
open PySem L2
inductive Vy where
  | non
  | bl (b : Bool)
  | int (z : Int)
  | str (s : Str)
  | tup (l : List Vy)
  | frl (l : List Vy)
mutual
def eV : Vy → D
  | .non => .non
  | .bl b => .bl b
  | .int z => .int z
  | .str s => .str s
  | .tup l => .tup (eVs l)
  | .frl l => .frl (eVs l)
def eVs : List Vy → List D
  | [] => []
  | a :: r => eV a :: eVs r
end
mutual
theorem eV_und (n : Nat) : ∀ v : Vy, (eV v).und n = true
  | .non => rfl
  | .bl _ => rfl
  | .int _ => rfl
  | .str _ => rfl
  | .tup l => eVs_und n l
  | .frl l => eVs_und n l
theorem eVs_und (n : Nat) : ∀ l : List Vy, D.unds n (eVs l) = true
  | [] => rfl
  | a :: r => by
    show ((eV a).und n && D.unds n (eVs r)) = true
    rw [eV_und n a, eVs_und n r]; rfl
end
instance : Cl eV := ⟨fun v n => eV_und n v⟩
end Cy
set_option Elab.async false
set_option linter.all false
set_option maxRecDepth 100000
set_option maxHeartbeats 2000000
set_option autoImplicit false
set_option Elab.async false
set_option linter.all false
set_option maxRecDepth 100000
set_option maxHeartbeats 2000000
set_option autoImplicit false
namespace Cy
open PySem L2
section
variable {α β σ ρ : Type}
@[simp] theorem sbind (a : α) (f : α → Option β) : (some a).bind f = f a := rfl
theorem rngC_ok {i j : Int} (hi : i.natAbs < 4611686018427387904) (hj : j.natAbs < 4611686018427387904) : rngC i j = some (rangeI i j) := if_pos (by unfold small62; rw [decide_eq_true hi, decide_eq_true hj]; rfl)
theorem mem_range' {i j a : Int} (h : a ∈ rangeI i j) : i ≤ a ∧ a < j := by
  unfold rangeI at h
  obtain ⟨n, hn, e⟩ := List.mem_map.mp h
  have := List.mem_range.mp hn
  omega
end
end Cy
set_option Elab.async false
set_option linter.all false
set_option maxRecDepth 100000
set_option maxHeartbeats 2000000
set_option autoImplicit false
namespace Cy
open PySem L2
section
variable {S0 : Bs} {A : List Asn} {env : Env} {m : EX} {ms : List EX}
theorem ex_exc0 {c : Nat} {x : Rv} (h : Ex S0 A m env x) : Ex S0 A (eExc0 c [m]) env (.va (e_E ⟨c, []⟩)) := fun S s => by
  have h1 : eArgs [m] env S = .ok [x] S := by
    have : ExA S0 A [m] env [x] := exa_cons h exa_nil
    exact this S s
  unfold eExc0
  rw [h1]; rfl
theorem ex_excF {c : Nat} {is : List Int} (h : ExA S0 A ms env (is.map fun i => Rv.va (.int i))) : Ex S0 A (eExcF c ms) env (.va (e_E ⟨c, is.reverse⟩)) := fun S s => by
  unfold eExcF
  rw [h S s]
  dsimp only [Rs.bind]
  rw [unva_ints]
  show Rs.ok (Rv.va (D.exn c (is.map D.int).reverse)) S = Rs.ok (Rv.va (D.exn c (is.reverse.map D.int))) S
  rw [List.map_reverse]
end
end Cy
set_option Elab.async false
set_option linter.all false
set_option maxRecDepth 100000
set_option autoImplicit false
namespace Pf
open PySem L2 Cy
/-- _law_cell_at: 0 _law_script 1 _law_k -/
noncomputable def b_L_cell_at : SM := (sSeq (sIf (bB (eP (lift (pLt)) [(eVar 1), (eP (lift pLen) [(eVar 0)])])) (sSeq (sRet (eP (lift pIx) [(eVar 0), (eVar 1)]))
    sNil) sNil)
    (sSeq (sRet (eC (.int 0)))
    sNil))
noncomputable def m_L_cell_at : FI := clean (noErr (fnOf 2 2 b_L_cell_at))
/-- _law_whole: 0 _law_found -/
noncomputable def b_L_whole : SM := (sSeq (sRet (eAnd (eP (lift (pIsi "int")) [(eVar 0)]) (eNot (eP (lift (pIsi "bool")) [(eVar 0)]))))
    sNil)
noncomputable def m_L_whole : FI := clean (noErr (fnOf 1 1 b_L_whole))
/-- _law_kinds: 0 _law_error 1 _law_kinds_here -/
noncomputable def b_L_kinds : SM := (sSeq (sAsg (.name 1) (eFz (eLst [(eFz (eP (lift (pIsE none [(1, true), (2, false), (3, false), (4, false), (5, false), (6, false), (0, false), (7, false), (8, false), (9, false), (10, false)])) [(eVar 0)])), (eFz (eP (lift (pIsE none [(1, false), (2, true), (3, false), (4, false), (5, false), (6, false), (0, false), (7, false), (8, false), (9, false), (10, false)])) [(eVar 0)])), (eFz (eP (lift (pIsE none [(1, false), (2, false), (3, true), (4, false), (5, false), (6, false), (0, false), (7, false), (8, false), (9, false), (10, false)])) [(eVar 0)]))])))
    (sSeq (sAsg (.name 1) (eFz (eP (lift (pAdd)) [(eVar 1), (eLst [(eFz (eP (lift (pIsE none [(1, false), (2, false), (3, false), (4, true), (5, false), (6, false), (0, false), (7, false), (8, false), (9, false), (10, false)])) [(eVar 0)])), (eFz (eP (lift (pIsE none [(1, false), (2, false), (3, false), (4, false), (5, true), (6, false), (0, false), (7, false), (8, false), (9, false), (10, false)])) [(eVar 0)])), (eFz (eP (lift (pIsE none [(1, false), (2, false), (3, false), (4, false), (5, false), (6, true), (0, false), (7, false), (8, false), (9, false), (10, false)])) [(eVar 0)]))])])))
    (sSeq (sAsg (.name 1) (eFz (eP (lift (pAdd)) [(eVar 1), (eLst [(eFz (eP (lift (pIsE none [(1, false), (2, false), (3, false), (4, false), (5, false), (6, false), (0, false), (7, true), (8, false), (9, false), (10, false)])) [(eVar 0)])), (eFz (eP (lift (pIsE none [(1, false), (2, false), (3, false), (4, false), (5, false), (6, false), (0, false), (7, false), (8, false), (9, true), (10, false)])) [(eVar 0)])), (eFz (eP (lift (pIsE none [(1, false), (2, false), (3, false), (4, false), (5, false), (6, false), (0, false), (7, false), (8, false), (9, false), (10, true)])) [(eVar 0)]))])])))
    (sSeq (sRet (eP (lift (pAdd)) [(eVar 1), (eLst [(eFz (eP (lift (pIsE none [(1, false), (2, false), (3, false), (4, false), (5, false), (6, false), (0, false), (7, false), (8, true), (9, true), (10, true)])) [(eVar 0)])), (eFz (eP (lift (pIsE none [(1, true), (2, true), (3, true), (4, true), (5, true), (6, true), (0, true), (7, true), (8, true), (9, true), (10, true)])) [(eVar 0)])), (eFz (eP (lift (pIsE none [(1, true), (2, true), (3, true), (4, true), (5, true), (6, true), (0, true), (7, true), (8, true), (9, true), (10, true)])) [(eVar 0)]))])]))
    sNil))))
noncomputable def m_L_kinds : FI := clean (noErr (fnOf 2 1 b_L_kinds))
/-- _law_plain_kinds: 0 _law_errors 1 _law_k 2 _law_error 3 _law_j -/
noncomputable def lb_L_plain_kinds_0 : SM := (sSeq (sIf (bB (eP (lift (pNe)) [(eCall m_L_kinds [(eVar 2)] []), (eP (lift (pAdd)) [(eLc (ixR1 (eC (.int 9))) (.name 3) [3] bYes (eP (lift (pEq)) [(eVar 3), (eVar 1)])), (eLst [(eC (.bl false)), (eC (.bl true)), (eC (.bl true))])])])) (sSeq (sRet (eC (.bl false)))
    sNil) sNil)
    sNil)
noncomputable def l_L_plain_kinds_0 : SM := (sFor (ixE (eVar 0)) (.names [1, 2]) lb_L_plain_kinds_0 [1, 2])
noncomputable def b_L_plain_kinds : SM := (sSeq (sAsg (.name 0) (eFz (eLst [(eFz (eExc0 1 [(eC (.str "one"))])), (eFz (eExc0 2 [(eC (.str "one"))])), (eFz (eExc0 3 [(eC (.str "one"))])), (eFz (eExc0 4 [(eC (.str "one"))])), (eFz (eExc0 5 [(eC (.str "one"))])), (eFz (eExc0 6 [(eC (.str "one"))]))])))
    (sSeq l_L_plain_kinds_0
    (sSeq (sRet (eP (lift (pEq)) [(eCall m_L_kinds [(eFz (eExc0 0 [(eC (.str "one"))]))] []), (eP (lift (pAdd)) [(eP (lift (pMul)) [(eLst [(eC (.bl false))]), (eC (.int 10))]), (eLst [(eC (.bl true)), (eC (.bl true))])])]))
    sNil)))
noncomputable def m_L_plain_kinds : FI := clean (noErr (fnOf 4 0 b_L_plain_kinds))
/-- _law_numbered: 0 _law_cells 1 _law_k 2 _law_numbers 3 _law_unmet 4 _law_told 5 _law_rows 6 _law_other 7 _law_j 8 _law_error 9 _law_number 10 _law_n -/
noncomputable def lb_L_numbered_0 : SM := (sSeq (sIf (bB (eP (lift (pNe)) [(eCall m_L_kinds [(eVar 8)] []), (eP (lift (pAdd)) [(eLc (ixR1 (eC (.int 9))) (.name 10) [10] bYes (eP (lift (pEq)) [(eVar 10), (eP (lift (pAdd)) [(eC (.int 7)), (eVar 7)])])), (eLst [(eC (.bl true)), (eC (.bl true)), (eC (.bl true))])])])) (sSeq (sRet (eC (.bl false)))
    sNil) sNil)
    (sSeq (sIf (bOr (bNot (bB (eCall m_L_whole [(eFldX [(8, 0), (9, 0), (10, 0)] (eVar 8))] []))) (bB (eP (lift (pNe)) [(eFldX [(8, 0), (9, 0), (10, 0)] (eVar 8)), (eP (lift pIx) [(eVar 2), (eVar 7)])]))) (sSeq (sRet (eC (.bl false)))
    sNil) sNil)
    sNil))
noncomputable def l_L_numbered_0 : SM := (sFor (ixE (eVar 5)) (.names [7, 8]) lb_L_numbered_0 [7, 8])
noncomputable def b_L_numbered : SM := (sSeq (sAsg (.name 2) (eFz (eLc (ixR1 (eC (.int 3))) (.name 7) [7] bYes (eFz (eP (lift (pII gMod)) [(eCall m_L_cell_at [(eVar 0), (eFz (eP (lift (pAdd)) [(eVar 1), (eVar 7)]))] []), (eP (lift (pII gPow)) [(eC (.int 10)), (eC (.int 60))])])))))
    (sSeq (sAsg (.name 3) (eFz (eExcF 7 [(eP (lift pIx) [(eVar 2), (eC (.int 0))]), (eP (lift pIx) [(eVar 2), (eC (.int 1))]), (eP (lift pIx) [(eVar 2), (eC (.int 2))])])))
    (sSeq (sAsg (.name 4) (eFz (eLst [(eFldX [(7, 2)] (eVar 3)), (eFldX [(7, 1)] (eVar 3)), (eFldX [(7, 0)] (eVar 3))])))
    (sSeq (sIf (bOr (bB (eP (lift (pNe)) [(eVar 4), (eVar 2)])) (bNot (bB (eP (lift pAll) [(eLc (ixL (eVar 4)) (.name 9) [9] bYes (eFz (eCall m_L_whole [(eVar 9)] [])))])))) (sSeq (sRet (eC (.bl false)))
    sNil) sNil)
    (sSeq (sIf (bB (eP (lift (pNe)) [(eCall m_L_kinds [(eVar 3)] []), (eP (lift (pAdd)) [(eLc (ixR1 (eC (.int 9))) (.name 7) [7] bYes (eP (lift (pEq)) [(eVar 7), (eC (.int 6))])), (eLst [(eC (.bl false)), (eC (.bl true)), (eC (.bl true))])])])) (sSeq (sRet (eC (.bl false)))
    sNil) sNil)
    (sSeq (sAsg (.name 5) (eFz (eLst [(eFz (eExcF 9 [(eP (lift pIx) [(eVar 2), (eC (.int 0))])])), (eFz (eExcF 10 [(eP (lift pIx) [(eVar 2), (eC (.int 1))])]))])))
    (sSeq l_L_numbered_0
    (sSeq (sAsg (.name 6) (eFz (eExcF 8 [(eP (lift pIx) [(eVar 2), (eC (.int 2))])])))
    (sSeq (sRet (eAnd (eP (lift (pEq)) [(eFldX [(8, 0), (9, 0), (10, 0)] (eVar 6)), (eP (lift pIx) [(eVar 2), (eC (.int 2))])]) (eP (lift (pEq)) [(eCall m_L_kinds [(eVar 6)] []), (eP (lift (pAdd)) [(eP (lift (pMul)) [(eLst [(eC (.bl false))]), (eC (.int 9))]), (eLst [(eC (.bl true)), (eC (.bl true)), (eC (.bl true))])])])))
    sNil)))))))))
noncomputable def m_L_numbered : FI := clean (noErr (fnOf 11 2 b_L_numbered))
/-- law: 0 _law_script 1 _law_cells 2 _law_k -/
noncomputable def lb_L_law_0 : SM := (sSeq (sIf (bNot (bB (eCall m_L_numbered [(eVar 1), (eVar 2)] []))) (sSeq (sRet (eC (.bl false)))
    sNil) sNil)
    sNil)
noncomputable def l_L_law_0 : SM := (sFor (ixR1 (eP (lift (pAdd)) [(eC (.int 1)), (eP (lift pLen) [(eVar 1)])])) (.name 2) lb_L_law_0 [2])
noncomputable def b_L_law : SM := (sSeq (sAsg (.name 1) (eFz (eSl (eVar 0) (oSome (eC (.int 0))) (oSome (eC (.int 60))))))
    (sSeq l_L_law_0
    (sSeq (sRet (eCall m_L_plain_kinds [] []))
    sNil)))
noncomputable def m_L_law : FI := clean (noErr (fnOf 3 1 b_L_law))
end Pf
set_option Elab.async false
set_option linter.all false
set_option maxRecDepth 100000
set_option maxHeartbeats 4000000
set_option autoImplicit false
namespace Pf
open PySem L2 Cy
noncomputable def F_L_cell_at (script : (List Int)) (k_ : Int) : Option Int := ((some (decide (k_ < (script.length : Int)))).bind fun b => if b = true then (idx script k_) else (some 0))
theorem R_L_cell_at (S : Sto) (script : (List Int)) (k_ : Int) (r : Int) (h : F_L_cell_at script k_ = some r) : m_L_cell_at [(eFL D.int) script, D.int k_] S = .ok (.va (D.int r)) S := by
  refine def_v (e := D.int) (b := b_L_cell_at) (n := 2) (ar := 2) (X := F_L_cell_at script k_) ?_ h
  delta F_L_cell_at
  exact (sx_ifL (bm_of (ex_lt (ex_var (d := D.int k_) rfl) (ex_len (e := D.int) (ex_var (d := (eFL D.int) script) rfl) (qs_l (ls_frl (e := D.int) (l := script)))))) (sx_assoc (sx_ret0 (e := D.int) (xm_ix (e := D.int) (ex_var (d := (eFL D.int) script) rfl) (qs_l (ls_frl (e := D.int) (l := script))) (ex_var (d := D.int k_) rfl)))) (sx_ret0 (e := D.int) (xm_pure (e := (va D.int)) ex_c)))
noncomputable def F_L_whole (found : Int) : Option Bool := (some (true && (!false)))
theorem R_L_whole (S : Sto) (found : Int) (r : Bool) (h : F_L_whole found = some r) : m_L_whole [D.int found] S = .ok (.va (D.bl r)) S := by
  refine def_v (e := D.bl) (b := b_L_whole) (n := 1) (ar := 1) (X := F_L_whole found) ?_ h
  delta F_L_whole
  exact (sx_ret0 (e := D.bl) (xm_pure (e := (va D.bl)) (ex_andP (ex_isi (T := "int") (ex_var (d := D.int found) rfl) (fun _ _ => rfl) (by decide +kernel)) (ex_not (ex_isi (T := "int") (ex_var (d := D.int found) rfl) (fun _ _ => rfl) (by decide +kernel))))))
noncomputable def F_L_kinds (error : Exn) : Option (List Bool) := (((isE none [(1, true), (2, false), (3, false), (4, false), (5, false), (6, false), (0, false), (7, false), (8, false), (9, false), (10, false)] (some error)).bind fun t_4 => ((isE none [(1, false), (2, true), (3, false), (4, false), (5, false), (6, false), (0, false), (7, false), (8, false), (9, false), (10, false)] (some error)).bind fun t_6 => ((isE none [(1, false), (2, false), (3, true), (4, false), (5, false), (6, false), (0, false), (7, false), (8, false), (9, false), (10, false)] (some error)).bind fun t_8 => (some [t_4, t_6, t_8])))).bind fun kinds_here_3 => (((isE none [(1, false), (2, false), (3, false), (4, true), (5, false), (6, false), (0, false), (7, false), (8, false), (9, false), (10, false)] (some error)).bind fun t_11 => ((isE none [(1, false), (2, false), (3, false), (4, false), (5, true), (6, false), (0, false), (7, false), (8, false), (9, false), (10, false)] (some error)).bind fun t_13 => ((isE none [(1, false), (2, false), (3, false), (4, false), (5, false), (6, true), (0, false), (7, false), (8, false), (9, false), (10, false)] (some error)).bind fun t_15 => ((catC kinds_here_3 [t_11, t_13, t_15]).bind fun t_17 => (some t_17))))).bind fun kinds_here_10 => (((isE none [(1, false), (2, false), (3, false), (4, false), (5, false), (6, false), (0, false), (7, true), (8, false), (9, false), (10, false)] (some error)).bind fun t_20 => ((isE none [(1, false), (2, false), (3, false), (4, false), (5, false), (6, false), (0, false), (7, false), (8, false), (9, true), (10, false)] (some error)).bind fun t_22 => ((isE none [(1, false), (2, false), (3, false), (4, false), (5, false), (6, false), (0, false), (7, false), (8, false), (9, false), (10, true)] (some error)).bind fun t_24 => ((catC kinds_here_10 [t_20, t_22, t_24]).bind fun t_26 => (some t_26))))).bind fun kinds_here_19 => ((isE none [(1, false), (2, false), (3, false), (4, false), (5, false), (6, false), (0, false), (7, false), (8, true), (9, true), (10, true)] (some error)).bind fun t_28 => ((isE none [(1, true), (2, true), (3, true), (4, true), (5, true), (6, true), (0, true), (7, true), (8, true), (9, true), (10, true)] (some error)).bind fun t_30 => ((isE none [(1, true), (2, true), (3, true), (4, true), (5, true), (6, true), (0, true), (7, true), (8, true), (9, true), (10, true)] (some error)).bind fun t_32 => catC kinds_here_19 [t_28, t_30, t_32]))))))
theorem R_L_kinds (S : Sto) (error : Exn) (r : (List Bool)) (h : F_L_kinds error = some r) : m_L_kinds [e_E error] S = .ok (.fr (.lst (r.map D.bl))) S := by
  refine def_l (e := D.bl) (b := b_L_kinds) (n := 2) (ar := 1) (X := F_L_kinds error) ?_ h
  delta F_L_kinds
  exact (sx_asg (e := (eFL D.bl)) (xm_sub (e := (va D.bl)) (xm_isE (ex_var (d := e_E error) rfl)) fun t_4 h_5 => (xm_sub (e := (va D.bl)) (xm_isE (ex_var (d := e_E error) rfl)) fun t_6 h_7 => (xm_sub (e := (va D.bl)) (xm_isE (ex_var (d := e_E error) rfl)) fun t_8 h_9 => (xm_pure (e := (va (eFL D.bl))) (ex_fzl (ex_lst (exa_cons (ex_fzv h_5) (exa_cons (ex_fzv h_7) (exa_cons (ex_fzv h_9) exa_nil))) rfl (Nat.le_of_ble_eq_true rfl))))))) fun kinds_here_3 => (sx_asg (e := (eFL D.bl)) (xm_sub (e := (va D.bl)) (xm_isE (ex_var (d := e_E error) rfl)) fun t_11 h_12 => (xm_sub (e := (va D.bl)) (xm_isE (ex_var (d := e_E error) rfl)) fun t_13 h_14 => (xm_sub (e := (va D.bl)) (xm_isE (ex_var (d := e_E error) rfl)) fun t_15 h_16 => (xm_sub (e := (fl D.bl)) (xm_catL (ex_var (d := (eFL D.bl) kinds_here_3) rfl) (ls_frl (e := D.bl) (l := kinds_here_3)) (ex_lst (exa_cons (ex_fzv h_12) (exa_cons (ex_fzv h_14) (exa_cons (ex_fzv h_16) exa_nil))) rfl (Nat.le_of_ble_eq_true rfl)) (ls_fr (e := D.bl) (l := [t_11, t_13, t_15]))) fun t_17 h_18 => (xm_pure (e := (va (eFL D.bl))) (ex_fzl h_18)))))) fun kinds_here_10 => (sx_asg (e := (eFL D.bl)) (xm_sub (e := (va D.bl)) (xm_isE (ex_var (d := e_E error) rfl)) fun t_20 h_21 => (xm_sub (e := (va D.bl)) (xm_isE (ex_var (d := e_E error) rfl)) fun t_22 h_23 => (xm_sub (e := (va D.bl)) (xm_isE (ex_var (d := e_E error) rfl)) fun t_24 h_25 => (xm_sub (e := (fl D.bl)) (xm_catL (ex_var (d := (eFL D.bl) kinds_here_10) rfl) (ls_frl (e := D.bl) (l := kinds_here_10)) (ex_lst (exa_cons (ex_fzv h_21) (exa_cons (ex_fzv h_23) (exa_cons (ex_fzv h_25) exa_nil))) rfl (Nat.le_of_ble_eq_true rfl)) (ls_fr (e := D.bl) (l := [t_20, t_22, t_24]))) fun t_26 h_27 => (xm_pure (e := (va (eFL D.bl))) (ex_fzl h_27)))))) fun kinds_here_19 => (sx_retF0 (e := D.bl) (xm_sub (e := (va D.bl)) (xm_isE (ex_var (d := e_E error) rfl)) fun t_28 h_29 => (xm_sub (e := (va D.bl)) (xm_isE (ex_var (d := e_E error) rfl)) fun t_30 h_31 => (xm_sub (e := (va D.bl)) (xm_isE (ex_var (d := e_E error) rfl)) fun t_32 h_33 => (xm_catL (ex_var (d := (eFL D.bl) kinds_here_19) rfl) (ls_frl (e := D.bl) (l := kinds_here_19)) (ex_lst (exa_cons (ex_fzv h_29) (exa_cons (ex_fzv h_31) (exa_cons (ex_fzv h_33) exa_nil))) rfl (Nat.le_of_ble_eq_true rfl)) (ls_fr (e := D.bl) (l := [t_28, t_30, t_32]))))))))))
noncomputable def G_L_plain_kinds_0  (s_39 : Unit) (x_37 : (Int × Exn)) : Option (Fw Unit Bool) := (((F_L_kinds x_37.2).bind fun t_42 => (((rngC 0 9).bind fun xs => (fits xs).bind fun xs => some (xs.map fun (x_44 : Int) => (decide (x_44 = x_37.1)))).bind fun t_45 => ((catC t_45 [false, true, true]).bind fun t_47 => (some (!decide (t_42 = t_47)))))).bind fun b => if b = true then (some (.ret false)) else (some (.nx ())))
noncomputable def F_L_plain_kinds  : Option Bool := ((some [(⟨1, []⟩ : Exn), (⟨2, []⟩ : Exn), (⟨3, []⟩ : Exn), (⟨4, []⟩ : Exn), (⟨5, []⟩ : Exn), (⟨6, []⟩ : Exn)]).bind fun errors_36 => ((some (enumI errors_36)).bind fun xs => (loopO (ρ := Bool) (G_L_plain_kinds_0) () xs).bind fun w => w.on (fun s_38 => ((F_L_kinds (⟨0, []⟩ : Exn)).bind fun t_49 => ((repL [false] 10).bind fun t_51 => ((catC t_51 [true, true]).bind fun t_53 => (some (decide (t_49 = t_53))))))) fun r => r))
theorem R_L_plain_kinds (S : Sto)  (r : Bool) (h : F_L_plain_kinds  = some r) : m_L_plain_kinds [] S = .ok (.va (D.bl r)) S := by
  refine def_v (e := D.bl) (b := b_L_plain_kinds) (n := 4) (ar := 0) (X := F_L_plain_kinds ) ?_ h
  delta F_L_plain_kinds
  exact (sx_asg (e := (eFL e_E)) (xm_pure (e := (va (eFL e_E))) (ex_fzl (ex_lst (exa_cons (ex_fzv (ex_exc0 ex_c)) (exa_cons (ex_fzv (ex_exc0 ex_c)) (exa_cons (ex_fzv (ex_exc0 ex_c)) (exa_cons (ex_fzv (ex_exc0 ex_c)) (exa_cons (ex_fzv (ex_exc0 ex_c)) (exa_cons (ex_fzv (ex_exc0 ex_c)) exa_nil)))))) rfl (Nat.le_of_ble_eq_true rfl)))) fun errors_36 => (sx_forF (e := (eP2 D.int e_E)) (E := (fun (w : Unit) (s : Unit) => [some ((eFL e_E) errors_36), none, none, none])) (B := (fun (w : Unit) (s : Unit) => [])) (Ai := []) (s0 := ()) (Pr := (PV (bs S) D.bl)) lv_v (ι := fun r => r) (fun _ _ h => h) (ix_en (e := e_E) (ex_var (d := (eFL e_E) errors_36) rfl) so_frl) () rfl (fun _ h => h) (fun _ _ _ h => h.nil) (fun w_40 s_39 x_37 => ⟨_, tg_2, (sx_ifL (bm_sub (e := (fl D.bl)) (xm_call (e := (fl D.bl)) (exa_cons (ex_var (d := e_E x_37.2) rfl) exa_nil) rfl fun S a h => R_L_kinds S x_37.2  a h) fun t_42 h_43 => (bm_sub (e := (fl D.bl)) (xm_lcP (e := D.int) (g := D.bl) (f := fun (x_44 : Int) => (decide (x_44 = x_37.1))) (ix_r1 ex_c) fun x_44 => ⟨_, tg_1, (ex_eqI (ex_var (d := D.int x_44) rfl) (ex_var (d := D.int x_37.1) rfl))⟩) fun t_45 h_46 => (bm_sub (e := (fl D.bl)) (xm_catL h_46 (ls_fr (e := D.bl) (l := t_45)) (ex_lst (exa_cons ex_c (exa_cons ex_c (exa_cons ex_c exa_nil))) rfl (Nat.le_of_ble_eq_true rfl)) (ls_fr (e := D.bl) (l := [false, true, true]))) fun t_47 h_48 => (bm_of (ex_neL (e := D.bl) (by decide) h_43 (ls_fr (e := D.bl) (l := t_42)) h_48 (ls_fr (e := D.bl) (l := t_47))))))) (sx_assoc (sx_ret (e := D.bl) (ι := Fw.ret) (fun _ _ h => h) (xm_pure (e := (va D.bl)) ex_c))) (sx_endF (x := ()) () rfl (fun _ h => h)))⟩) fun w_41 s_38 => (sx_ret0 (e := D.bl) (xm_sub (e := (fl D.bl)) (xm_call (e := (fl D.bl)) (exa_cons (ex_fzv (ex_exc0 ex_c)) exa_nil) rfl fun S a h => R_L_kinds S (⟨0, []⟩ : Exn)  a h) fun t_49 h_50 => (xm_sub (e := (fl D.bl)) (xm_repL (ex_lst (exa_cons ex_c exa_nil) rfl (Nat.le_of_ble_eq_true rfl)) ex_c) fun t_51 h_52 => (xm_sub (e := (fl D.bl)) (xm_catL h_52 (ls_fr (e := D.bl) (l := t_51)) (ex_lst (exa_cons ex_c (exa_cons ex_c exa_nil)) rfl (Nat.le_of_ble_eq_true rfl)) (ls_fr (e := D.bl) (l := [true, true]))) fun t_53 h_54 => (xm_pure (e := (va D.bl)) (ex_eqL (e := D.bl) (by decide) h_50 (ls_fr (e := D.bl) (l := t_49)) h_54 (ls_fr (e := D.bl) (l := t_53))))))))))
noncomputable def G_L_numbered_0 (numbers_55 : (List Int)) (s_96 : Unit) (x_94 : (Int × Exn)) : Option (Fw Unit Bool) := (((F_L_kinds x_94.2).bind fun t_99 => (((rngC 0 9).bind fun xs => (fits xs).bind fun xs => some (xs.map fun (x_101 : Int) => (decide (x_101 = (7 + x_94.1))))).bind fun t_102 => ((catC t_102 [true, true, true]).bind fun t_104 => (some (!decide (t_99 = t_104)))))).bind fun b => if b = true then (some (.ret false)) else ((((fldE [(8, 0), (9, 0), (10, 0)] x_94.2).bind fun t_106 => ((F_L_whole t_106).bind fun t_108 => (some (!t_108)))).bind fun b => if b = true then some true else ((fldE [(8, 0), (9, 0), (10, 0)] x_94.2).bind fun t_110 => ((idx numbers_55 x_94.1).bind fun t_112 => (some (!decide (t_110 = t_112)))))).bind fun b => if b = true then (some (.ret false)) else (some (.nx ()))))
noncomputable def F_L_numbered (cells : (List Int)) (k_ : Int) : Option Bool := ((((rngC 0 3).bind fun xs => (fits xs).bind (mapO fun (x_56 : Int) => ((F_L_cell_at cells (k_ + x_56)).bind fun t_57 => ((modC t_57 1000000000000000000000000000000000000000000000000000000000000).bind fun t_59 => (some t_59))))).bind fun t_61 => (some t_61)).bind fun numbers_55 => (((idx numbers_55 0).bind fun t_64 => ((idx numbers_55 1).bind fun t_66 => ((idx numbers_55 2).bind fun t_68 => (some (⟨7, [t_68, t_66, t_64]⟩ : Exn))))).bind fun unmet_63 => (((fldE [(7, 2)] unmet_63).bind fun t_71 => ((fldE [(7, 1)] unmet_63).bind fun t_73 => ((fldE [(7, 0)] unmet_63).bind fun t_75 => (some [t_71, t_73, t_75])))).bind fun told_70 => (((some (!decide (told_70 = numbers_55))).bind fun b => if b = true then some true else (((some told_70).bind fun xs => (fits xs).bind (mapO fun (x_77 : Int) => ((F_L_whole x_77).bind fun t_78 => (some t_78)))).bind fun t_80 => (some (!(t_80.all id))))).bind fun b => if b = true then (some false) else (((F_L_kinds unmet_63).bind fun t_82 => (((rngC 0 9).bind fun xs => (fits xs).bind fun xs => some (xs.map fun (x_84 : Int) => (decide (x_84 = 6)))).bind fun t_85 => ((catC t_85 [false, true, true]).bind fun t_87 => (some (!decide (t_82 = t_87)))))).bind fun b => if b = true then (some false) else (((idx numbers_55 0).bind fun t_90 => ((idx numbers_55 1).bind fun t_92 => (some [(⟨9, [t_90]⟩ : Exn), (⟨10, [t_92]⟩ : Exn)]))).bind fun rows_89 => ((some (enumI rows_89)).bind fun xs => (loopO (ρ := Bool) (G_L_numbered_0 numbers_55) () xs).bind fun w => w.on (fun s_95 => (((idx numbers_55 2).bind fun t_115 => (some (⟨8, [t_115]⟩ : Exn))).bind fun other_114 => (((fldE [(8, 0), (9, 0), (10, 0)] other_114).bind fun t_117 => ((idx numbers_55 2).bind fun t_119 => (some (decide (t_117 = t_119))))).bind fun b => if b = true then ((F_L_kinds other_114).bind fun t_121 => ((repL [false] 9).bind fun t_123 => ((catC t_123 [true, true, true]).bind fun t_125 => (some (decide (t_121 = t_125)))))) else some false))) fun r => r)))))))
theorem R_L_numbered (S : Sto) (cells : (List Int)) (k_ : Int) (r : Bool) (h : F_L_numbered cells k_ = some r) : m_L_numbered [(eFL D.int) cells, D.int k_] S = .ok (.va (D.bl r)) S := by
  refine def_v (e := D.bl) (b := b_L_numbered) (n := 11) (ar := 2) (X := F_L_numbered cells k_) ?_ h
  delta F_L_numbered
  exact (sx_asg (e := (eFL D.int)) (xm_sub (e := (fl D.int)) (xm_lc (e := D.int) (g := D.int) (ix_r1 ex_c) fun x_56 => ⟨_, tg_1, (xm_sub (e := (va D.int)) (xm_call (e := (va D.int)) (exa_cons (ex_var (d := (eFL D.int) cells) rfl) (exa_cons (ex_fzv (ex_add (ex_var (d := D.int k_) rfl) (ex_var (d := D.int x_56) rfl))) exa_nil)) rfl fun S a h => R_L_cell_at S cells (k_ + x_56)  a h) fun t_57 h_58 => (xm_sub (e := (va D.int)) (xm_mod h_58 (ex_powL (i := 10) (j := 60) (by decide +kernel) (by decide +kernel) ex_c ex_c)) fun t_59 h_60 => (xm_pure (e := (va D.int)) (ex_fzv h_60))))⟩) fun t_61 h_62 => (xm_pure (e := (va (eFL D.int))) (ex_fzl h_62))) fun numbers_55 => (sx_asg (e := e_E) (xm_sub (e := (va D.int)) (xm_ix (e := D.int) (ex_var (d := (eFL D.int) numbers_55) rfl) (qs_l (ls_frl (e := D.int) (l := numbers_55))) ex_c) fun t_64 h_65 => (xm_sub (e := (va D.int)) (xm_ix (e := D.int) (ex_var (d := (eFL D.int) numbers_55) rfl) (qs_l (ls_frl (e := D.int) (l := numbers_55))) ex_c) fun t_66 h_67 => (xm_sub (e := (va D.int)) (xm_ix (e := D.int) (ex_var (d := (eFL D.int) numbers_55) rfl) (qs_l (ls_frl (e := D.int) (l := numbers_55))) ex_c) fun t_68 h_69 => (xm_pure (e := (va e_E)) (ex_fzv (ex_excF (is := [t_64, t_66, t_68]) (exa_cons h_65 (exa_cons h_67 (exa_cons h_69 exa_nil))))))))) fun unmet_63 => (sx_asg (e := (eFL D.int)) (xm_sub (e := (va D.int)) (xm_fldX (tb := [(7, 2)]) (ex_var (d := e_E unmet_63) rfl)) fun t_71 h_72 => (xm_sub (e := (va D.int)) (xm_fldX (tb := [(7, 1)]) (ex_var (d := e_E unmet_63) rfl)) fun t_73 h_74 => (xm_sub (e := (va D.int)) (xm_fldX (tb := [(7, 0)]) (ex_var (d := e_E unmet_63) rfl)) fun t_75 h_76 => (xm_pure (e := (va (eFL D.int))) (ex_fzl (ex_lst (exa_cons h_72 (exa_cons h_74 (exa_cons h_76 exa_nil))) rfl (Nat.le_of_ble_eq_true rfl))))))) fun told_70 => (sx_ifL (bm_or (bm_of (ex_ne (e := (eFL D.int)) (by decide) (ex_var (d := (eFL D.int) told_70) rfl) (ex_var (d := (eFL D.int) numbers_55) rfl))) (bm_sub (e := (fl D.bl)) (xm_lc (e := D.int) (g := D.bl) (ix_frl (e := D.int) (ex_var (d := (eFL D.int) told_70) rfl)) fun x_77 => ⟨_, tg_1, (xm_sub (e := (va D.bl)) (xm_call (e := (va D.bl)) (exa_cons (ex_var (d := D.int x_77) rfl) exa_nil) rfl fun S a h => R_L_whole S x_77  a h) fun t_78 h_79 => (xm_pure (e := (va D.bl)) (ex_fzv h_79)))⟩) fun t_80 h_81 => (bm_not (bm_of (ex_all h_81 (ls_fr (e := D.bl) (l := t_80))))))) (sx_assoc (sx_ret0 (e := D.bl) (xm_pure (e := (va D.bl)) ex_c))) (sx_ifL (bm_sub (e := (fl D.bl)) (xm_call (e := (fl D.bl)) (exa_cons (ex_var (d := e_E unmet_63) rfl) exa_nil) rfl fun S a h => R_L_kinds S unmet_63  a h) fun t_82 h_83 => (bm_sub (e := (fl D.bl)) (xm_lcP (e := D.int) (g := D.bl) (f := fun (x_84 : Int) => (decide (x_84 = 6))) (ix_r1 ex_c) fun x_84 => ⟨_, tg_1, (ex_eqI (ex_var (d := D.int x_84) rfl) ex_c)⟩) fun t_85 h_86 => (bm_sub (e := (fl D.bl)) (xm_catL h_86 (ls_fr (e := D.bl) (l := t_85)) (ex_lst (exa_cons ex_c (exa_cons ex_c (exa_cons ex_c exa_nil))) rfl (Nat.le_of_ble_eq_true rfl)) (ls_fr (e := D.bl) (l := [false, true, true]))) fun t_87 h_88 => (bm_of (ex_neL (e := D.bl) (by decide) h_83 (ls_fr (e := D.bl) (l := t_82)) h_88 (ls_fr (e := D.bl) (l := t_87))))))) (sx_assoc (sx_ret0 (e := D.bl) (xm_pure (e := (va D.bl)) ex_c))) (sx_asg (e := (eFL e_E)) (xm_sub (e := (va D.int)) (xm_ix (e := D.int) (ex_var (d := (eFL D.int) numbers_55) rfl) (qs_l (ls_frl (e := D.int) (l := numbers_55))) ex_c) fun t_90 h_91 => (xm_sub (e := (va D.int)) (xm_ix (e := D.int) (ex_var (d := (eFL D.int) numbers_55) rfl) (qs_l (ls_frl (e := D.int) (l := numbers_55))) ex_c) fun t_92 h_93 => (xm_pure (e := (va (eFL e_E))) (ex_fzl (ex_lst (exa_cons (ex_fzv (ex_excF (is := [t_90]) (exa_cons h_91 exa_nil))) (exa_cons (ex_fzv (ex_excF (is := [t_92]) (exa_cons h_93 exa_nil))) exa_nil)) rfl (Nat.le_of_ble_eq_true rfl)))))) fun rows_89 => (sx_forF (e := (eP2 D.int e_E)) (E := (fun (w : Unit) (s : Unit) => [some ((eFL D.int) cells), some (D.int k_), some ((eFL D.int) numbers_55), some (e_E unmet_63), some ((eFL D.int) told_70), some ((eFL e_E) rows_89), none, none, none, none, none])) (B := (fun (w : Unit) (s : Unit) => [])) (Ai := []) (s0 := ()) (Pr := (PV (bs S) D.bl)) lv_v (ι := fun r => r) (fun _ _ h => h) (ix_en (e := e_E) (ex_var (d := (eFL e_E) rows_89) rfl) so_frl) () rfl (fun _ h => h) (fun _ _ _ h => h.nil) (fun w_97 s_96 x_94 => ⟨_, tg_2, (sx_ifL (bm_sub (e := (fl D.bl)) (xm_call (e := (fl D.bl)) (exa_cons (ex_var (d := e_E x_94.2) rfl) exa_nil) rfl fun S a h => R_L_kinds S x_94.2  a h) fun t_99 h_100 => (bm_sub (e := (fl D.bl)) (xm_lcP (e := D.int) (g := D.bl) (f := fun (x_101 : Int) => (decide (x_101 = (7 + x_94.1)))) (ix_r1 ex_c) fun x_101 => ⟨_, tg_1, (ex_eqI (ex_var (d := D.int x_101) rfl) (ex_add ex_c (ex_var (d := D.int x_94.1) rfl)))⟩) fun t_102 h_103 => (bm_sub (e := (fl D.bl)) (xm_catL h_103 (ls_fr (e := D.bl) (l := t_102)) (ex_lst (exa_cons ex_c (exa_cons ex_c (exa_cons ex_c exa_nil))) rfl (Nat.le_of_ble_eq_true rfl)) (ls_fr (e := D.bl) (l := [true, true, true]))) fun t_104 h_105 => (bm_of (ex_neL (e := D.bl) (by decide) h_100 (ls_fr (e := D.bl) (l := t_99)) h_105 (ls_fr (e := D.bl) (l := t_104))))))) (sx_assoc (sx_ret (e := D.bl) (ι := Fw.ret) (fun _ _ h => h) (xm_pure (e := (va D.bl)) ex_c))) (sx_ifL (bm_or (bm_sub (e := (va D.int)) (xm_fldX (tb := [(8, 0), (9, 0), (10, 0)]) (ex_var (d := e_E x_94.2) rfl)) fun t_106 h_107 => (bm_sub (e := (va D.bl)) (xm_call (e := (va D.bl)) (exa_cons h_107 exa_nil) rfl fun S a h => R_L_whole S t_106  a h) fun t_108 h_109 => (bm_not (bm_of h_109)))) (bm_sub (e := (va D.int)) (xm_fldX (tb := [(8, 0), (9, 0), (10, 0)]) (ex_var (d := e_E x_94.2) rfl)) fun t_110 h_111 => (bm_sub (e := (va D.int)) (xm_ix (e := D.int) (ex_var (d := (eFL D.int) numbers_55) rfl) (qs_l (ls_frl (e := D.int) (l := numbers_55))) (ex_var (d := D.int x_94.1) rfl)) fun t_112 h_113 => (bm_of (ex_neI h_111 h_113))))) (sx_assoc (sx_ret (e := D.bl) (ι := Fw.ret) (fun _ _ h => h) (xm_pure (e := (va D.bl)) ex_c))) (sx_endF (x := ()) () rfl (fun _ h => h))))⟩) fun w_98 s_95 => (sx_asg (e := e_E) (xm_sub (e := (va D.int)) (xm_ix (e := D.int) (ex_var (d := (eFL D.int) numbers_55) rfl) (qs_l (ls_frl (e := D.int) (l := numbers_55))) ex_c) fun t_115 h_116 => (xm_pure (e := (va e_E)) (ex_fzv (ex_excF (is := [t_115]) (exa_cons h_116 exa_nil))))) fun other_114 => (sx_ret0 (e := D.bl) (xm_and (xm_sub (e := (va D.int)) (xm_fldX (tb := [(8, 0), (9, 0), (10, 0)]) (ex_var (d := e_E other_114) rfl)) fun t_117 h_118 => (xm_sub (e := (va D.int)) (xm_ix (e := D.int) (ex_var (d := (eFL D.int) numbers_55) rfl) (qs_l (ls_frl (e := D.int) (l := numbers_55))) ex_c) fun t_119 h_120 => (xm_pure (e := (va D.bl)) (ex_eqI h_118 h_120)))) (xm_sub (e := (fl D.bl)) (xm_call (e := (fl D.bl)) (exa_cons (ex_var (d := e_E other_114) rfl) exa_nil) rfl fun S a h => R_L_kinds S other_114  a h) fun t_121 h_122 => (xm_sub (e := (fl D.bl)) (xm_repL (ex_lst (exa_cons ex_c exa_nil) rfl (Nat.le_of_ble_eq_true rfl)) ex_c) fun t_123 h_124 => (xm_sub (e := (fl D.bl)) (xm_catL h_124 (ls_fr (e := D.bl) (l := t_123)) (ex_lst (exa_cons ex_c (exa_cons ex_c (exa_cons ex_c exa_nil))) rfl (Nat.le_of_ble_eq_true rfl)) (ls_fr (e := D.bl) (l := [true, true, true]))) fun t_125 h_126 => (xm_pure (e := (va D.bl)) (ex_eqL (e := D.bl) (by decide) h_122 (ls_fr (e := D.bl) (l := t_121)) h_126 (ls_fr (e := D.bl) (l := t_125)))))))))))))))))
noncomputable def G_L_law_0 (cells_129 : (List Int)) (s_132 : Unit) (x_130 : Int) : Option (Fw Unit Bool) := (((F_L_numbered cells_129 x_130).bind fun t_135 => (some (!t_135))).bind fun b => if b = true then (some (.ret false)) else (some (.nx ())))
noncomputable def F_L_law (script : (List Int)) : Option Bool := ((some (cutT script (some 0) (some 60))).bind fun cells_129 => ((rngC 0 (1 + (cells_129.length : Int))).bind fun xs => (loopO (ρ := Bool) (G_L_law_0 cells_129) () xs).bind fun w => w.on (fun s_131 => F_L_plain_kinds) fun r => r))
theorem R_L_law (S : Sto) (script : (List Int)) (r : Bool) (h : F_L_law script = some r) : m_L_law [(eFL D.int) script] S = .ok (.va (D.bl r)) S := by
  refine def_v (e := D.bl) (b := b_L_law) (n := 3) (ar := 1) (X := F_L_law script) ?_ h
  delta F_L_law
  exact (sx_asg (e := (eFL D.int)) (xm_pure (e := (va (eFL D.int))) (ex_fzl (ex_slL (ex_var (d := (eFL D.int) script) rfl) (ls_frl (e := D.int) (l := script)) (exo_some ex_c) (exo_some ex_c)))) fun cells_129 => (sx_forF (e := D.int) (E := (fun (w : Unit) (s : Unit) => [some ((eFL D.int) script), some ((eFL D.int) cells_129), none])) (B := (fun (w : Unit) (s : Unit) => [])) (Ai := []) (s0 := ()) (Pr := (PV (bs S) D.bl)) lv_v (ι := fun r => r) (fun _ _ h => h) (ix_r1 (ex_add ex_c (ex_len (e := D.int) (ex_var (d := (eFL D.int) cells_129) rfl) (qs_l (ls_frl (e := D.int) (l := cells_129)))))) () rfl (fun _ h => h) (fun _ _ _ h => h.nil) (fun w_133 s_132 x_130 => ⟨_, tg_1, (sx_ifL (bm_sub (e := (va D.bl)) (xm_call (e := (va D.bl)) (exa_cons (ex_var (d := (eFL D.int) cells_129) rfl) (exa_cons (ex_var (d := D.int x_130) rfl) exa_nil)) rfl fun S a h => R_L_numbered S cells_129 x_130  a h) fun t_135 h_136 => (bm_not (bm_of h_136))) (sx_assoc (sx_ret (e := D.bl) (ι := Fw.ret) (fun _ _ h => h) (xm_pure (e := (va D.bl)) ex_c))) (sx_endF (x := ()) () rfl (fun _ h => h)))⟩) fun w_134 s_131 => (sx_ret0 (e := D.bl) (xm_call (e := (va D.bl)) exa_nil rfl fun S a h => R_L_plain_kinds S   a h))))
end Pf
set_option Elab.async false
set_option linter.all false
set_option maxRecDepth 100000
set_option maxHeartbeats 2000000
set_option autoImplicit false
namespace Pf
open PySem Cy
theorem rng9m (f : Int → Bool) : ((rngC 0 9).bind fun xs => (fits xs).bind fun xs => some (xs.map f)) = some ([0, 1, 2, 3, 4, 5, 6, 7, 8].map f) := by
  have h : rngC 0 9 = some [0, 1, 2, 3, 4, 5, 6, 7, 8] := by decide +kernel
  have h2 : fits ([0, 1, 2, 3, 4, 5, 6, 7, 8] : List Int) = some [0, 1, 2, 3, 4, 5, 6, 7, 8] := by decide +kernel
  rw [h, Option.bind_some, h2, Option.bind_some]
def k7 : List Bool := [false, false, false, false, false, false, true, false, false, false, true, true]
def k8 : List Bool := [false, false, false, false, false, false, false, false, false, true, true, true]
def k9 : List Bool := [false, false, false, false, false, false, false, true, false, true, true, true]
def k10 : List Bool := [false, false, false, false, false, false, false, false, true, true, true, true]
theorem kinds7 (fs : List Int) : F_L_kinds ⟨7, fs⟩ = some k7 := by rfl
theorem kinds8 (fs : List Int) : F_L_kinds ⟨8, fs⟩ = some k8 := by rfl
theorem kinds9 (fs : List Int) : F_L_kinds ⟨9, fs⟩ = some k9 := by rfl
theorem kinds10 (fs : List Int) : F_L_kinds ⟨10, fs⟩ = some k10 := by rfl
theorem cell_at_ok (cells : List Int) (k : Int) (h0 : 0 ≤ k) : ∃ c, F_L_cell_at cells k = some c := by
  unfold F_L_cell_at
  rw [Option.bind_some]
  by_cases h : k < (cells.length : Int)
  · rw [decide_eq_true h, if_pos rfl]
    obtain ⟨j, rfl⟩ := Int.eq_ofNat_of_zero_le h0
    have hj : j < cells.length := by omega
    exact ⟨cells[j], by
      unfold idx
      exact L2.atI_nat (List.getElem?_eq_getElem hj)⟩
  · rw [decide_eq_false h, if_neg (by decide)]
    exact ⟨0, rfl⟩
theorem rows_ok (a b c : Int) : loopO (ρ := Bool) (G_L_numbered_0 [a, b, c]) () (enumI [(⟨9, [a]⟩ : Exn), (⟨10, [b]⟩ : Exn)]) = some (.nx ()) := by
  have e : enumI [(⟨9, [a]⟩ : Exn), (⟨10, [b]⟩ : Exn)] = [((0 : Int), (⟨9, [a]⟩ : Exn)), ((1 : Int), (⟨10, [b]⟩ : Exn))] := rfl
  have c1 : catC ([0, 1, 2, 3, 4, 5, 6, 7, 8].map fun (x : Int) => decide (x = 7 + 0)) [true, true, true] = some k9 := by decide +kernel
  have c2 : catC ([0, 1, 2, 3, 4, 5, 6, 7, 8].map fun (x : Int) => decide (x = 7 + 1)) [true, true, true] = some k10 := by decide +kernel
  have f1 : fldE [(8, 0), (9, 0), (10, 0)] (⟨9, [a]⟩ : Exn) = some a := rfl
  have f2 : fldE [(8, 0), (9, 0), (10, 0)] (⟨10, [b]⟩ : Exn) = some b := rfl
  have w : ∀ x, F_L_whole x = some true := fun _ => rfl
  have i0 : idx [a, b, c] 0 = some a := rfl
  have i1 : idx [a, b, c] 1 = some b := rfl
  have g1 : G_L_numbered_0 [a, b, c] () ((0 : Int), (⟨9, [a]⟩ : Exn)) = some (.nx ()) := by
    unfold G_L_numbered_0
    dsimp only
    rw [rng9m, kinds9, Option.bind_some, Option.bind_some, c1, Option.bind_some, decide_eq_true rfl, Option.bind_some, if_neg (by decide), f1, Option.bind_some, w, Option.bind_some, Option.bind_some, if_neg (by decide), Option.bind_some, i0, Option.bind_some, decide_eq_true rfl, Option.bind_some, if_neg (by decide)]
  have g2 : G_L_numbered_0 [a, b, c] () ((1 : Int), (⟨10, [b]⟩ : Exn)) = some (.nx ()) := by
    unfold G_L_numbered_0
    dsimp only
    rw [rng9m, kinds10, Option.bind_some, Option.bind_some, c2, Option.bind_some, decide_eq_true rfl, Option.bind_some, if_neg (by decide), f2, Option.bind_some, w, Option.bind_some, Option.bind_some, if_neg (by decide), Option.bind_some, i1, Option.bind_some, decide_eq_true rfl, Option.bind_some, if_neg (by decide)]
  rw [e]
  unfold loopO
  rw [g1, Option.bind_some]
  dsimp only
  unfold loopO
  rw [g2, Option.bind_some]
  rfl
theorem numbered_ok (cells : List Int) (k : Int) (h0 : 0 ≤ k) : F_L_numbered cells k = some true := by
  obtain ⟨a0, ha⟩ := cell_at_ok cells (k + 0) (by omega)
  obtain ⟨b0, hb⟩ := cell_at_ok cells (k + 1) (by omega)
  obtain ⟨c0, hc⟩ := cell_at_ok cells (k + 2) (by omega)
  have m : ∀ x : Int, modC x 1000000000000000000000000000000000000000000000000000000000000 = some (x % 1000000000000000000000000000000000000000000000000000000000000) := fun x => if_pos (by decide)
  obtain ⟨a, ea⟩ : ∃ a, a = a0 % 1000000000000000000000000000000000000000000000000000000000000 := ⟨_, rfl⟩
  obtain ⟨b, eb⟩ : ∃ a, a = b0 % 1000000000000000000000000000000000000000000000000000000000000 := ⟨_, rfl⟩
  obtain ⟨c, ec⟩ : ∃ a, a = c0 % 1000000000000000000000000000000000000000000000000000000000000 := ⟨_, rfl⟩
  have hm : ((rngC 0 3).bind fun xs => (fits xs).bind (mapO fun (x : Int) => ((F_L_cell_at cells (k + x)).bind fun t => ((modC t 1000000000000000000000000000000000000000000000000000000000000).bind fun t => (some t))))) = some [a, b, c] := by
    have h : rngC 0 3 = some [0, 1, 2] := by decide +kernel
    have h2 : fits ([0, 1, 2] : List Int) = some [0, 1, 2] := by decide +kernel
    rw [h, Option.bind_some, h2, Option.bind_some]
    unfold mapO
    rw [ha, Option.bind_some, m, Option.bind_some, Option.bind_some]
    unfold mapO
    rw [hb, Option.bind_some, m, Option.bind_some, Option.bind_some]
    unfold mapO
    rw [hc, Option.bind_some, m, Option.bind_some, Option.bind_some]
    unfold mapO
    rw [Option.bind_some, Option.bind_some, Option.bind_some, ea, eb, ec]
  have i0 : idx [a, b, c] 0 = some a := rfl
  have i1 : idx [a, b, c] 1 = some b := rfl
  have i2 : idx [a, b, c] 2 = some c := rfl
  have f0 : fldE [(7, 2)] (⟨7, [c, b, a]⟩ : Exn) = some a := rfl
  have f1 : fldE [(7, 1)] (⟨7, [c, b, a]⟩ : Exn) = some b := rfl
  have f2 : fldE [(7, 0)] (⟨7, [c, b, a]⟩ : Exn) = some c := rfl
  have f3 : fldE [(8, 0), (9, 0), (10, 0)] (⟨8, [c]⟩ : Exn) = some c := rfl
  have w : ∀ x, F_L_whole x = some true := fun _ => rfl
  have hw : ((some [a, b, c]).bind fun xs => (fits xs).bind (mapO fun (x : Int) => ((F_L_whole x).bind fun t => (some t)))) = some [true, true, true] := by
    have h2 : fits [a, b, c] = some [a, b, c] := if_pos (show 3 ≤ sizeLine by decide +kernel)
    rw [Option.bind_some, h2, Option.bind_some]
    unfold mapO
    rw [w, Option.bind_some, Option.bind_some]
    unfold mapO
    rw [w, Option.bind_some, Option.bind_some]
    unfold mapO
    rw [w, Option.bind_some, Option.bind_some]
    rfl
  have c7 : catC ([0, 1, 2, 3, 4, 5, 6, 7, 8].map fun (x : Int) => decide (x = 6)) [false, true, true] = some k7 := by decide +kernel
  have r9 : repL [false] 9 = some [false, false, false, false, false, false, false, false, false] := by decide +kernel
  have c8 : catC [false, false, false, false, false, false, false, false, false] [true, true, true] = some k8 := by decide +kernel
  unfold F_L_numbered
  rw [hm, Option.bind_some, Option.bind_some, i0, Option.bind_some, i1, Option.bind_some, i2, Option.bind_some, Option.bind_some, f0, Option.bind_some, f1, Option.bind_some, f2, Option.bind_some, Option.bind_some, decide_eq_true rfl, Option.bind_some, if_neg (by decide), hw, Option.bind_some]
  rw [Option.bind_some, if_neg (by decide), kinds7, Option.bind_some, rng9m, Option.bind_some, c7, Option.bind_some, decide_eq_true rfl, Option.bind_some, if_neg (by decide), Option.bind_some, Option.bind_some, Option.bind_some, Option.bind_some, rows_ok, Option.bind_some]
  dsimp only [Lo.on]
  rw [Option.bind_some, Option.bind_some, f3, Option.bind_some, Option.bind_some, decide_eq_true rfl, Option.bind_some, if_pos rfl, kinds8, Option.bind_some, r9, Option.bind_some, c8, Option.bind_some, decide_eq_true rfl]
theorem plain_ok : F_L_plain_kinds = some true := by decide +kernel
theorem law_ok (ns : List Int) (hl : ns.length ≤ 63) : F_L_law ns = some true := by
  unfold F_L_law
  rw [Option.bind_some]
  have hc : (cutT ns (some 0) (some 60)).length ≤ 63 := by
    unfold cutT
    rw [List.length_take, List.length_drop]
    omega
  generalize cutT ns (some 0) (some 60) = cells at hc ⊢
  have hr : rngC 0 (1 + (cells.length : Int)) = some (rangeI 0 (1 + (cells.length : Int))) := by
    exact rngC_ok (by omega) (by omega)
  rw [hr, Option.bind_some]
  have lp : ∀ xs : List Int, (∀ x ∈ xs, 0 ≤ x) → loopO (ρ := Bool) (G_L_law_0 cells) () xs = some (.nx ()) := by
    intro xs
    induction xs with
    | nil => intro _; rfl
    | cons x r ih =>
      intro h
      unfold loopO
      have g : G_L_law_0 cells () x = some (.nx ()) := by
        unfold G_L_law_0
        rw [numbered_ok cells x (h x (List.mem_cons_self ..)), Option.bind_some, Option.bind_some, if_neg (by decide)]
      rw [g, Option.bind_some]
      exact ih fun y hy => h y (List.mem_cons_of_mem _ hy)
  rw [lp _ (fun x hx => by
    have := mem_range' hx
    omega), Option.bind_some]
  show F_L_plain_kinds = some true
  exact plain_ok
theorem law_true (ns : List Int) (hl : ns.length ≤ 63) : ∃ S', m_L_law [.frl (ns.map .int)] [] = .ok (.va (.bl true)) S' := ⟨[], R_L_law [] ns true (law_ok ns hl)⟩
end Pf
set_option Elab.async false
set_option linter.all false
set_option maxRecDepth 100000
set_option maxHeartbeats 0
set_option autoImplicit false
namespace Pf
open PySem PySem.Spec PyProof.Rows L2 Cy
abbrev N_L_cell_at : List Str := ["_law_script", "_law_k"]
theorem sc_L_cell_at : FnScope N_L_cell_at ["_law_script", "_law_k"] (defScope s_L_cell_at) := ⟨rfl, rfl, rfl, by decide +kernel, rfl, by decide +kernel, by decide +kernel⟩
abbrev N_L_whole : List Str := ["_law_found"]
theorem sc_L_whole : FnScope N_L_whole ["_law_found"] (defScope s_L_whole) := ⟨rfl, rfl, rfl, by decide +kernel, rfl, by decide +kernel, by decide +kernel⟩
abbrev N_L_kinds : List Str := ["_law_error", "_law_kinds_here"]
theorem sc_L_kinds : FnScope N_L_kinds ["_law_error"] (defScope s_L_kinds) := ⟨rfl, rfl, rfl, by decide +kernel, rfl, by decide +kernel, by decide +kernel⟩
abbrev N_L_plain_kinds : List Str := ["_law_errors", "_law_k", "_law_error", "_law_j"]
theorem sc_L_plain_kinds : FnScope N_L_plain_kinds [] (defScope s_L_plain_kinds) := ⟨rfl, rfl, rfl, by decide +kernel, rfl, by decide +kernel, by decide +kernel⟩
abbrev N_L_numbered : List Str := ["_law_cells", "_law_k", "_law_numbers", "_law_unmet", "_law_told", "_law_rows", "_law_other", "_law_j", "_law_error", "_law_number", "_law_n"]
theorem sc_L_numbered : FnScope N_L_numbered ["_law_cells", "_law_k"] (defScope s_L_numbered) := ⟨rfl, rfl, rfl, by decide +kernel, rfl, by decide +kernel, by decide +kernel⟩
abbrev N_L_law : List Str := ["_law_script", "_law_cells", "_law_k"]
theorem sc_L_law : FnScope N_L_law ["_law_script"] (defScope s_L_law) := ⟨rfl, rfl, rfl, by decide +kernel, rfl, by decide +kernel, by decide +kernel⟩
abbrev N_p_TextError_init : List Str := ["self", "row"]
theorem sc_p_TextError_init : FnScope N_p_TextError_init ["self", "row"] (defScope s_p_TextError_init) := ⟨rfl, rfl, rfl, by decide +kernel, rfl, by decide +kernel, by decide +kernel⟩
abbrev N_p_Unmet_init : List Str := ["self", "first", "second", "level"]
theorem sc_p_Unmet_init : FnScope N_p_Unmet_init ["self", "first", "second", "level"] (defScope s_p_Unmet_init) := ⟨rfl, rfl, rfl, by decide +kernel, rfl, by decide +kernel, by decide +kernel⟩
section
variable {P : Program} {w : World} {K : PySem.W.Frag} {mg : Str → Option Value} {base hp : Heap}
theorem fldx_row (hy : (fx.all fun f => f.ok K) = true) : FldX ⟨K, cA K, fN, P, w⟩ "row" [(8, 0), (9, 0), (10, 0)] := (.cons rfl (Fx.xf_ok (x := "TextError") (f := "row") (fxOk hy 143)).1 (Fx.xf_ok (x := "TextError") (f := "row") (fxOk hy 143)).2 rfl (show (fN 8).Nodup by decide +kernel) (.cons rfl (Fx.xf_ok (x := "BadRow") (f := "row") (fxOk hy 149)).1 (Fx.xf_ok (x := "BadRow") (f := "row") (fxOk hy 149)).2 rfl (show (fN 9).Nodup by decide +kernel) (.cons rfl (Fx.xf_ok (x := "CornerTwice") (f := "row") (fxOk hy 146)).1 (Fx.xf_ok (x := "CornerTwice") (f := "row") (fxOk hy 146)).2 rfl (show (fN 10).Nodup by decide +kernel) .nil)))
theorem fldx_level (hy : (fx.all fun f => f.ok K) = true) : FldX ⟨K, cA K, fN, P, w⟩ "level" [(7, 0)] := (.cons rfl (Fx.xf_ok (x := "Unmet") (f := "level") (fxOk hy 152)).1 (Fx.xf_ok (x := "Unmet") (f := "level") (fxOk hy 152)).2 rfl (show (fN 7).Nodup by decide +kernel) .nil)
theorem fldx_second (hy : (fx.all fun f => f.ok K) = true) : FldX ⟨K, cA K, fN, P, w⟩ "second" [(7, 1)] := (.cons rfl (Fx.xf_ok (x := "Unmet") (f := "second") (fxOk hy 153)).1 (Fx.xf_ok (x := "Unmet") (f := "second") (fxOk hy 153)).2 rfl (show (fN 7).Nodup by decide +kernel) .nil)
theorem fldx_first (hy : (fx.all fun f => f.ok K) = true) : FldX ⟨K, cA K, fN, P, w⟩ "first" [(7, 2)] := (.cons rfl (Fx.xf_ok (x := "Unmet") (f := "first") (fxOk hy 154)).1 (Fx.xf_ok (x := "Unmet") (f := "first") (fxOk hy 154)).2 rfl (show (fN 7).Nodup by decide +kernel) .nil)
theorem ok_p_TextError_init (hX : K.In hp) (hG : hp.Ns mainGlobals mg) (hc : He.SaysD fa fn K) (hy : (fx.all fun f => f.ok K) = true) {fd : FuncData} (F : FunD K "__init__" "TextError.__init__" (defArgs s_p_TextError_init) (defBody s_p_TextError_init) (defScope s_p_TextError_init) [] [] (He.fAd K ("TextError", some "__init__")) fd) : FnOk P w K mg base CX0 1 (He.fAd K ("TextError", some "__init__")) fd ["self", "row"] (spXi K ["row"]) := by
  refine fn_xi F sc_p_TextError_init rfl rfl fun cdv A outer s H E hr => ?_
  exact pss_xi1 (ps_expr (pe_veinitC (mc := .type "type") rfl (He.glo_ok hX hG (hc.fact 5)) (Fx.sup_ok (x := "YardError") (fxOk hy 157)).1 (Fx.sup_ok (x := "YardError") (fxOk hy 157)).2.1 (Fx.sup_ok (x := "YardError") (fxOk hy 157)).2.2 (pa_cons (pe_var (i := 0) rfl (.inl rfl)) (pa_cons pe_str pa_nil)))) (ps_ost (pe_var (i := 0) rfl (.inl rfl)) (pe_var (i := 1) rfl (.inl rfl)))
theorem ok_p_Unmet_init (hX : K.In hp) (hG : hp.Ns mainGlobals mg) (hc : He.SaysD fa fn K) (hy : (fx.all fun f => f.ok K) = true) {fd : FuncData} (F : FunD K "__init__" "Unmet.__init__" (defArgs s_p_Unmet_init) (defBody s_p_Unmet_init) (defScope s_p_Unmet_init) [] [] (He.fAd K ("Unmet", some "__init__")) fd) : FnOk P w K mg base CX0 1 (He.fAd K ("Unmet", some "__init__")) fd ["self", "first", "second", "level"] (spXi K ["first", "second", "level"]) := by
  refine fn_xi F sc_p_Unmet_init rfl rfl fun cdv A outer s H E hr => ?_
  exact pss_xi3 (ps_expr (pe_veinitC (mc := .type "type") rfl (He.glo_ok hX hG (hc.fact 5)) (Fx.sup_ok (x := "YardError") (fxOk hy 157)).1 (Fx.sup_ok (x := "YardError") (fxOk hy 157)).2.1 (Fx.sup_ok (x := "YardError") (fxOk hy 157)).2.2 (pa_cons (pe_var (i := 0) rfl (.inl rfl)) (pa_cons pe_str pa_nil)))) (ps_ost (pe_var (i := 0) rfl (.inl rfl)) (pe_var (i := 1) rfl (.inl rfl))) (ps_ost (pe_var (i := 0) rfl (.inl rfl)) (pe_var (i := 2) rfl (.inl rfl))) (ps_ost (pe_var (i := 0) rfl (.inl rfl)) (pe_var (i := 3) rfl (.inl rfl)))
theorem ok_L_cell_at (hX : K.In hp) (hG : hp.Ns mainGlobals mg) (hc : He.SaysD fa fn K) (hy : (fx.all fun f => f.ok K) = true) {fd : FuncData} (F : FunD K "_law_cell_at" "_law_cell_at" (defArgs s_L_cell_at) (defBody s_L_cell_at) (defScope s_L_cell_at) [] [] (He.fAd K ("_law_cell_at", none)) fd) : FnOk P w K mg base CX0 1 (He.fAd K ("_law_cell_at", none)) fd ["_law_script", "_law_k"] (spI ⟨K, cA K, fN, P, w⟩ 2 m_L_cell_at) := by
  refine fn0 F sc_L_cell_at fun cdv A outer s H E hr => ?_
  exact (ss_cons (s_if (t_cmp op_ltA ok_ltA.ok (iv 1) (i_cb call_len ok_len.ok (He.free_ok hX hG (hc.fact 0)) (by decide +kernel) (ia_cons (iv 0) ia_nil)) (nomark _)) (ss_cons (s_ret (i_ix ix_seq ok_ix.ok (iv 0) (iv 1)))
    ss_nil) ss_nil)
    (ss_cons (s_ret ic_int)
    ss_nil))
theorem ok_L_whole (hX : K.In hp) (hG : hp.Ns mainGlobals mg) (hc : He.SaysD fa fn K) (hy : (fx.all fun f => f.ok K) = true) {fd : FuncData} (F : FunD K "_law_whole" "_law_whole" (defArgs s_L_whole) (defBody s_L_whole) (defScope s_L_whole) [] [] (He.fAd K ("_law_whole", none)) fd) : FnOk P w K mg base CX0 1 (He.fAd K ("_law_whole", none)) fd ["_law_found"] (spI ⟨K, cA K, fN, P, w⟩ 1 m_L_whole) := by
  refine fn0 F sc_L_whole fun cdv A outer s H E hr => ?_
  exact (ss_cons (s_ret (i_and (i_isi (He.free_ok hX hG (hc.fact 1)) (He.free_ok hX hG (hc.fact 2)) (by decide +kernel) (iv 0)) (i_one (i_not (i_isi (He.free_ok hX hG (hc.fact 1)) (He.free_ok hX hG (hc.fact 3)) (by decide +kernel) (iv 0))))))
    ss_nil)
theorem ok_L_kinds (hX : K.In hp) (hG : hp.Ns mainGlobals mg) (hc : He.SaysD fa fn K) (hy : (fx.all fun f => f.ok K) = true) {fd : FuncData} (F : FunD K "_law_kinds" "_law_kinds" (defArgs s_L_kinds) (defBody s_L_kinds) (defScope s_L_kinds) [] [] (He.fAd K ("_law_kinds", none)) fd) : FnOk P w K mg base CX0 1 (He.fAd K ("_law_kinds", none)) fd ["_law_error"] (spI ⟨K, cA K, fN, P, w⟩ 1 m_L_kinds) := by
  refine fn0 F sc_L_kinds fun cdv A outer s H E hr => ?_
  exact (ss_cons (s_set 1 sc_L_kinds.nd (i_fz (i_lst (ia_cons (i_fz (i_isE1 (c := .ref (He.ga K "OffFloor")) (u := .ref (He.ga K "OffFloor")) (nb := none) (tb := [(1, true), (2, false), (3, false), (4, false), (5, false), (6, false), (0, false), (7, false), (8, false), (9, false), (10, false)]) (He.free_ok hX hG (hc.fact 1)) (IsTb.cons rfl (Fx.is1_ok (x := "OffFloor") (y := .own "OffFloor") (b := true) (fxOk hy 142)) (Fx.excC (x := "OffFloor") (fxOk hy 21)) (IsTb.cons rfl (Fx.is1_ok (x := "TooWide") (y := .own "OffFloor") (b := false) (fxOk hy 141)) (Fx.excC (x := "TooWide") (fxOk hy 19)) (IsTb.cons rfl (Fx.is1_ok (x := "BadBox") (y := .own "OffFloor") (b := false) (fxOk hy 140)) (Fx.excC (x := "BadBox") (fxOk hy 17)) (IsTb.cons rfl (Fx.is1_ok (x := "Twice") (y := .own "OffFloor") (b := false) (fxOk hy 139)) (Fx.excC (x := "Twice") (fxOk hy 15)) (IsTb.cons rfl (Fx.is1_ok (x := "NoThing") (y := .own "OffFloor") (b := false) (fxOk hy 138)) (Fx.excC (x := "NoThing") (fxOk hy 13)) (IsTb.cons rfl (Fx.is1_ok (x := "NoEntry") (y := .own "OffFloor") (b := false) (fxOk hy 137)) (Fx.excC (x := "NoEntry") (fxOk hy 11)) (IsTb.cons rfl (Fx.is1_ok (x := "YardError") (y := .own "OffFloor") (b := false) (fxOk hy 136)) (Fx.excC (x := "YardError") (fxOk hy 9)) (IsTb.cons rfl (Fx.is1_ok (x := "Unmet") (y := .own "OffFloor") (b := false) (fxOk hy 135)) (Fx.excC (x := "Unmet") (fxOk hy 7)) (IsTb.cons rfl (Fx.is1_ok (x := "TextError") (y := .own "OffFloor") (b := false) (fxOk hy 134)) (Fx.excC (x := "TextError") (fxOk hy 5)) (IsTb.cons rfl (Fx.is1_ok (x := "BadRow") (y := .own "OffFloor") (b := false) (fxOk hy 133)) (Fx.excC (x := "BadRow") (fxOk hy 3)) (IsTb.cons rfl (Fx.is1_ok (x := "CornerTwice") (y := .own "OffFloor") (b := false) (fxOk hy 132)) (Fx.excC (x := "CornerTwice") (fxOk hy 1)) (IsTb.nil (fun b e => by cases e))))))))))))) (pe_glob (v := .ref (He.ga K "OffFloor")) rfl (He.glo_ok hX hG (hc.fact 15)) rfl) (.own _) (iv 0))) (ia_cons (i_fz (i_isE1 (c := .ref (He.ga K "TooWide")) (u := .ref (He.ga K "TooWide")) (nb := none) (tb := [(1, false), (2, true), (3, false), (4, false), (5, false), (6, false), (0, false), (7, false), (8, false), (9, false), (10, false)]) (He.free_ok hX hG (hc.fact 1)) (IsTb.cons rfl (Fx.is1_ok (x := "OffFloor") (y := .own "TooWide") (b := false) (fxOk hy 131)) (Fx.excC (x := "OffFloor") (fxOk hy 21)) (IsTb.cons rfl (Fx.is1_ok (x := "TooWide") (y := .own "TooWide") (b := true) (fxOk hy 130)) (Fx.excC (x := "TooWide") (fxOk hy 19)) (IsTb.cons rfl (Fx.is1_ok (x := "BadBox") (y := .own "TooWide") (b := false) (fxOk hy 129)) (Fx.excC (x := "BadBox") (fxOk hy 17)) (IsTb.cons rfl (Fx.is1_ok (x := "Twice") (y := .own "TooWide") (b := false) (fxOk hy 128)) (Fx.excC (x := "Twice") (fxOk hy 15)) (IsTb.cons rfl (Fx.is1_ok (x := "NoThing") (y := .own "TooWide") (b := false) (fxOk hy 127)) (Fx.excC (x := "NoThing") (fxOk hy 13)) (IsTb.cons rfl (Fx.is1_ok (x := "NoEntry") (y := .own "TooWide") (b := false) (fxOk hy 126)) (Fx.excC (x := "NoEntry") (fxOk hy 11)) (IsTb.cons rfl (Fx.is1_ok (x := "YardError") (y := .own "TooWide") (b := false) (fxOk hy 125)) (Fx.excC (x := "YardError") (fxOk hy 9)) (IsTb.cons rfl (Fx.is1_ok (x := "Unmet") (y := .own "TooWide") (b := false) (fxOk hy 124)) (Fx.excC (x := "Unmet") (fxOk hy 7)) (IsTb.cons rfl (Fx.is1_ok (x := "TextError") (y := .own "TooWide") (b := false) (fxOk hy 123)) (Fx.excC (x := "TextError") (fxOk hy 5)) (IsTb.cons rfl (Fx.is1_ok (x := "BadRow") (y := .own "TooWide") (b := false) (fxOk hy 122)) (Fx.excC (x := "BadRow") (fxOk hy 3)) (IsTb.cons rfl (Fx.is1_ok (x := "CornerTwice") (y := .own "TooWide") (b := false) (fxOk hy 121)) (Fx.excC (x := "CornerTwice") (fxOk hy 1)) (IsTb.nil (fun b e => by cases e))))))))))))) (pe_glob (v := .ref (He.ga K "TooWide")) rfl (He.glo_ok hX hG (hc.fact 14)) rfl) (.own _) (iv 0))) (ia_cons (i_fz (i_isE1 (c := .ref (He.ga K "BadBox")) (u := .ref (He.ga K "BadBox")) (nb := none) (tb := [(1, false), (2, false), (3, true), (4, false), (5, false), (6, false), (0, false), (7, false), (8, false), (9, false), (10, false)]) (He.free_ok hX hG (hc.fact 1)) (IsTb.cons rfl (Fx.is1_ok (x := "OffFloor") (y := .own "BadBox") (b := false) (fxOk hy 120)) (Fx.excC (x := "OffFloor") (fxOk hy 21)) (IsTb.cons rfl (Fx.is1_ok (x := "TooWide") (y := .own "BadBox") (b := false) (fxOk hy 119)) (Fx.excC (x := "TooWide") (fxOk hy 19)) (IsTb.cons rfl (Fx.is1_ok (x := "BadBox") (y := .own "BadBox") (b := true) (fxOk hy 118)) (Fx.excC (x := "BadBox") (fxOk hy 17)) (IsTb.cons rfl (Fx.is1_ok (x := "Twice") (y := .own "BadBox") (b := false) (fxOk hy 117)) (Fx.excC (x := "Twice") (fxOk hy 15)) (IsTb.cons rfl (Fx.is1_ok (x := "NoThing") (y := .own "BadBox") (b := false) (fxOk hy 116)) (Fx.excC (x := "NoThing") (fxOk hy 13)) (IsTb.cons rfl (Fx.is1_ok (x := "NoEntry") (y := .own "BadBox") (b := false) (fxOk hy 115)) (Fx.excC (x := "NoEntry") (fxOk hy 11)) (IsTb.cons rfl (Fx.is1_ok (x := "YardError") (y := .own "BadBox") (b := false) (fxOk hy 114)) (Fx.excC (x := "YardError") (fxOk hy 9)) (IsTb.cons rfl (Fx.is1_ok (x := "Unmet") (y := .own "BadBox") (b := false) (fxOk hy 113)) (Fx.excC (x := "Unmet") (fxOk hy 7)) (IsTb.cons rfl (Fx.is1_ok (x := "TextError") (y := .own "BadBox") (b := false) (fxOk hy 112)) (Fx.excC (x := "TextError") (fxOk hy 5)) (IsTb.cons rfl (Fx.is1_ok (x := "BadRow") (y := .own "BadBox") (b := false) (fxOk hy 111)) (Fx.excC (x := "BadRow") (fxOk hy 3)) (IsTb.cons rfl (Fx.is1_ok (x := "CornerTwice") (y := .own "BadBox") (b := false) (fxOk hy 110)) (Fx.excC (x := "CornerTwice") (fxOk hy 1)) (IsTb.nil (fun b e => by cases e))))))))))))) (pe_glob (v := .ref (He.ga K "BadBox")) rfl (He.glo_ok hX hG (hc.fact 13)) rfl) (.own _) (iv 0))) ia_nil))))))
    (ss_cons (s_set 1 sc_L_kinds.nd (i_fz (i_op op_addA ok_add.ok (iv 1) (i_lst (ia_cons (i_fz (i_isE1 (c := .ref (He.ga K "Twice")) (u := .ref (He.ga K "Twice")) (nb := none) (tb := [(1, false), (2, false), (3, false), (4, true), (5, false), (6, false), (0, false), (7, false), (8, false), (9, false), (10, false)]) (He.free_ok hX hG (hc.fact 1)) (IsTb.cons rfl (Fx.is1_ok (x := "OffFloor") (y := .own "Twice") (b := false) (fxOk hy 109)) (Fx.excC (x := "OffFloor") (fxOk hy 21)) (IsTb.cons rfl (Fx.is1_ok (x := "TooWide") (y := .own "Twice") (b := false) (fxOk hy 108)) (Fx.excC (x := "TooWide") (fxOk hy 19)) (IsTb.cons rfl (Fx.is1_ok (x := "BadBox") (y := .own "Twice") (b := false) (fxOk hy 107)) (Fx.excC (x := "BadBox") (fxOk hy 17)) (IsTb.cons rfl (Fx.is1_ok (x := "Twice") (y := .own "Twice") (b := true) (fxOk hy 106)) (Fx.excC (x := "Twice") (fxOk hy 15)) (IsTb.cons rfl (Fx.is1_ok (x := "NoThing") (y := .own "Twice") (b := false) (fxOk hy 105)) (Fx.excC (x := "NoThing") (fxOk hy 13)) (IsTb.cons rfl (Fx.is1_ok (x := "NoEntry") (y := .own "Twice") (b := false) (fxOk hy 104)) (Fx.excC (x := "NoEntry") (fxOk hy 11)) (IsTb.cons rfl (Fx.is1_ok (x := "YardError") (y := .own "Twice") (b := false) (fxOk hy 103)) (Fx.excC (x := "YardError") (fxOk hy 9)) (IsTb.cons rfl (Fx.is1_ok (x := "Unmet") (y := .own "Twice") (b := false) (fxOk hy 102)) (Fx.excC (x := "Unmet") (fxOk hy 7)) (IsTb.cons rfl (Fx.is1_ok (x := "TextError") (y := .own "Twice") (b := false) (fxOk hy 101)) (Fx.excC (x := "TextError") (fxOk hy 5)) (IsTb.cons rfl (Fx.is1_ok (x := "BadRow") (y := .own "Twice") (b := false) (fxOk hy 100)) (Fx.excC (x := "BadRow") (fxOk hy 3)) (IsTb.cons rfl (Fx.is1_ok (x := "CornerTwice") (y := .own "Twice") (b := false) (fxOk hy 99)) (Fx.excC (x := "CornerTwice") (fxOk hy 1)) (IsTb.nil (fun b e => by cases e))))))))))))) (pe_glob (v := .ref (He.ga K "Twice")) rfl (He.glo_ok hX hG (hc.fact 12)) rfl) (.own _) (iv 0))) (ia_cons (i_fz (i_isE1 (c := .ref (He.ga K "NoThing")) (u := .ref (He.ga K "NoThing")) (nb := none) (tb := [(1, false), (2, false), (3, false), (4, false), (5, true), (6, false), (0, false), (7, false), (8, false), (9, false), (10, false)]) (He.free_ok hX hG (hc.fact 1)) (IsTb.cons rfl (Fx.is1_ok (x := "OffFloor") (y := .own "NoThing") (b := false) (fxOk hy 98)) (Fx.excC (x := "OffFloor") (fxOk hy 21)) (IsTb.cons rfl (Fx.is1_ok (x := "TooWide") (y := .own "NoThing") (b := false) (fxOk hy 97)) (Fx.excC (x := "TooWide") (fxOk hy 19)) (IsTb.cons rfl (Fx.is1_ok (x := "BadBox") (y := .own "NoThing") (b := false) (fxOk hy 96)) (Fx.excC (x := "BadBox") (fxOk hy 17)) (IsTb.cons rfl (Fx.is1_ok (x := "Twice") (y := .own "NoThing") (b := false) (fxOk hy 95)) (Fx.excC (x := "Twice") (fxOk hy 15)) (IsTb.cons rfl (Fx.is1_ok (x := "NoThing") (y := .own "NoThing") (b := true) (fxOk hy 94)) (Fx.excC (x := "NoThing") (fxOk hy 13)) (IsTb.cons rfl (Fx.is1_ok (x := "NoEntry") (y := .own "NoThing") (b := false) (fxOk hy 93)) (Fx.excC (x := "NoEntry") (fxOk hy 11)) (IsTb.cons rfl (Fx.is1_ok (x := "YardError") (y := .own "NoThing") (b := false) (fxOk hy 92)) (Fx.excC (x := "YardError") (fxOk hy 9)) (IsTb.cons rfl (Fx.is1_ok (x := "Unmet") (y := .own "NoThing") (b := false) (fxOk hy 91)) (Fx.excC (x := "Unmet") (fxOk hy 7)) (IsTb.cons rfl (Fx.is1_ok (x := "TextError") (y := .own "NoThing") (b := false) (fxOk hy 90)) (Fx.excC (x := "TextError") (fxOk hy 5)) (IsTb.cons rfl (Fx.is1_ok (x := "BadRow") (y := .own "NoThing") (b := false) (fxOk hy 89)) (Fx.excC (x := "BadRow") (fxOk hy 3)) (IsTb.cons rfl (Fx.is1_ok (x := "CornerTwice") (y := .own "NoThing") (b := false) (fxOk hy 88)) (Fx.excC (x := "CornerTwice") (fxOk hy 1)) (IsTb.nil (fun b e => by cases e))))))))))))) (pe_glob (v := .ref (He.ga K "NoThing")) rfl (He.glo_ok hX hG (hc.fact 11)) rfl) (.own _) (iv 0))) (ia_cons (i_fz (i_isE1 (c := .ref (He.ga K "NoEntry")) (u := .ref (He.ga K "NoEntry")) (nb := none) (tb := [(1, false), (2, false), (3, false), (4, false), (5, false), (6, true), (0, false), (7, false), (8, false), (9, false), (10, false)]) (He.free_ok hX hG (hc.fact 1)) (IsTb.cons rfl (Fx.is1_ok (x := "OffFloor") (y := .own "NoEntry") (b := false) (fxOk hy 87)) (Fx.excC (x := "OffFloor") (fxOk hy 21)) (IsTb.cons rfl (Fx.is1_ok (x := "TooWide") (y := .own "NoEntry") (b := false) (fxOk hy 86)) (Fx.excC (x := "TooWide") (fxOk hy 19)) (IsTb.cons rfl (Fx.is1_ok (x := "BadBox") (y := .own "NoEntry") (b := false) (fxOk hy 85)) (Fx.excC (x := "BadBox") (fxOk hy 17)) (IsTb.cons rfl (Fx.is1_ok (x := "Twice") (y := .own "NoEntry") (b := false) (fxOk hy 84)) (Fx.excC (x := "Twice") (fxOk hy 15)) (IsTb.cons rfl (Fx.is1_ok (x := "NoThing") (y := .own "NoEntry") (b := false) (fxOk hy 83)) (Fx.excC (x := "NoThing") (fxOk hy 13)) (IsTb.cons rfl (Fx.is1_ok (x := "NoEntry") (y := .own "NoEntry") (b := true) (fxOk hy 82)) (Fx.excC (x := "NoEntry") (fxOk hy 11)) (IsTb.cons rfl (Fx.is1_ok (x := "YardError") (y := .own "NoEntry") (b := false) (fxOk hy 81)) (Fx.excC (x := "YardError") (fxOk hy 9)) (IsTb.cons rfl (Fx.is1_ok (x := "Unmet") (y := .own "NoEntry") (b := false) (fxOk hy 80)) (Fx.excC (x := "Unmet") (fxOk hy 7)) (IsTb.cons rfl (Fx.is1_ok (x := "TextError") (y := .own "NoEntry") (b := false) (fxOk hy 79)) (Fx.excC (x := "TextError") (fxOk hy 5)) (IsTb.cons rfl (Fx.is1_ok (x := "BadRow") (y := .own "NoEntry") (b := false) (fxOk hy 78)) (Fx.excC (x := "BadRow") (fxOk hy 3)) (IsTb.cons rfl (Fx.is1_ok (x := "CornerTwice") (y := .own "NoEntry") (b := false) (fxOk hy 77)) (Fx.excC (x := "CornerTwice") (fxOk hy 1)) (IsTb.nil (fun b e => by cases e))))))))))))) (pe_glob (v := .ref (He.ga K "NoEntry")) rfl (He.glo_ok hX hG (hc.fact 10)) rfl) (.own _) (iv 0))) ia_nil)))))))
    (ss_cons (s_set 1 sc_L_kinds.nd (i_fz (i_op op_addA ok_add.ok (iv 1) (i_lst (ia_cons (i_fz (i_isE1 (c := .ref (He.ga K "Unmet")) (u := .ref (He.ga K "Unmet")) (nb := none) (tb := [(1, false), (2, false), (3, false), (4, false), (5, false), (6, false), (0, false), (7, true), (8, false), (9, false), (10, false)]) (He.free_ok hX hG (hc.fact 1)) (IsTb.cons rfl (Fx.is1_ok (x := "OffFloor") (y := .own "Unmet") (b := false) (fxOk hy 76)) (Fx.excC (x := "OffFloor") (fxOk hy 21)) (IsTb.cons rfl (Fx.is1_ok (x := "TooWide") (y := .own "Unmet") (b := false) (fxOk hy 75)) (Fx.excC (x := "TooWide") (fxOk hy 19)) (IsTb.cons rfl (Fx.is1_ok (x := "BadBox") (y := .own "Unmet") (b := false) (fxOk hy 74)) (Fx.excC (x := "BadBox") (fxOk hy 17)) (IsTb.cons rfl (Fx.is1_ok (x := "Twice") (y := .own "Unmet") (b := false) (fxOk hy 73)) (Fx.excC (x := "Twice") (fxOk hy 15)) (IsTb.cons rfl (Fx.is1_ok (x := "NoThing") (y := .own "Unmet") (b := false) (fxOk hy 72)) (Fx.excC (x := "NoThing") (fxOk hy 13)) (IsTb.cons rfl (Fx.is1_ok (x := "NoEntry") (y := .own "Unmet") (b := false) (fxOk hy 71)) (Fx.excC (x := "NoEntry") (fxOk hy 11)) (IsTb.cons rfl (Fx.is1_ok (x := "YardError") (y := .own "Unmet") (b := false) (fxOk hy 70)) (Fx.excC (x := "YardError") (fxOk hy 9)) (IsTb.cons rfl (Fx.is1_ok (x := "Unmet") (y := .own "Unmet") (b := true) (fxOk hy 69)) (Fx.excC (x := "Unmet") (fxOk hy 7)) (IsTb.cons rfl (Fx.is1_ok (x := "TextError") (y := .own "Unmet") (b := false) (fxOk hy 68)) (Fx.excC (x := "TextError") (fxOk hy 5)) (IsTb.cons rfl (Fx.is1_ok (x := "BadRow") (y := .own "Unmet") (b := false) (fxOk hy 67)) (Fx.excC (x := "BadRow") (fxOk hy 3)) (IsTb.cons rfl (Fx.is1_ok (x := "CornerTwice") (y := .own "Unmet") (b := false) (fxOk hy 66)) (Fx.excC (x := "CornerTwice") (fxOk hy 1)) (IsTb.nil (fun b e => by cases e))))))))))))) (pe_glob (v := .ref (He.ga K "Unmet")) rfl (He.glo_ok hX hG (hc.fact 9)) rfl) (.own _) (iv 0))) (ia_cons (i_fz (i_isE1 (c := .ref (He.ga K "BadRow")) (u := .ref (He.ga K "BadRow")) (nb := none) (tb := [(1, false), (2, false), (3, false), (4, false), (5, false), (6, false), (0, false), (7, false), (8, false), (9, true), (10, false)]) (He.free_ok hX hG (hc.fact 1)) (IsTb.cons rfl (Fx.is1_ok (x := "OffFloor") (y := .own "BadRow") (b := false) (fxOk hy 65)) (Fx.excC (x := "OffFloor") (fxOk hy 21)) (IsTb.cons rfl (Fx.is1_ok (x := "TooWide") (y := .own "BadRow") (b := false) (fxOk hy 64)) (Fx.excC (x := "TooWide") (fxOk hy 19)) (IsTb.cons rfl (Fx.is1_ok (x := "BadBox") (y := .own "BadRow") (b := false) (fxOk hy 63)) (Fx.excC (x := "BadBox") (fxOk hy 17)) (IsTb.cons rfl (Fx.is1_ok (x := "Twice") (y := .own "BadRow") (b := false) (fxOk hy 62)) (Fx.excC (x := "Twice") (fxOk hy 15)) (IsTb.cons rfl (Fx.is1_ok (x := "NoThing") (y := .own "BadRow") (b := false) (fxOk hy 61)) (Fx.excC (x := "NoThing") (fxOk hy 13)) (IsTb.cons rfl (Fx.is1_ok (x := "NoEntry") (y := .own "BadRow") (b := false) (fxOk hy 60)) (Fx.excC (x := "NoEntry") (fxOk hy 11)) (IsTb.cons rfl (Fx.is1_ok (x := "YardError") (y := .own "BadRow") (b := false) (fxOk hy 59)) (Fx.excC (x := "YardError") (fxOk hy 9)) (IsTb.cons rfl (Fx.is1_ok (x := "Unmet") (y := .own "BadRow") (b := false) (fxOk hy 58)) (Fx.excC (x := "Unmet") (fxOk hy 7)) (IsTb.cons rfl (Fx.is1_ok (x := "TextError") (y := .own "BadRow") (b := false) (fxOk hy 57)) (Fx.excC (x := "TextError") (fxOk hy 5)) (IsTb.cons rfl (Fx.is1_ok (x := "BadRow") (y := .own "BadRow") (b := true) (fxOk hy 56)) (Fx.excC (x := "BadRow") (fxOk hy 3)) (IsTb.cons rfl (Fx.is1_ok (x := "CornerTwice") (y := .own "BadRow") (b := false) (fxOk hy 55)) (Fx.excC (x := "CornerTwice") (fxOk hy 1)) (IsTb.nil (fun b e => by cases e))))))))))))) (pe_glob (v := .ref (He.ga K "BadRow")) rfl (He.glo_ok hX hG (hc.fact 8)) rfl) (.own _) (iv 0))) (ia_cons (i_fz (i_isE1 (c := .ref (He.ga K "CornerTwice")) (u := .ref (He.ga K "CornerTwice")) (nb := none) (tb := [(1, false), (2, false), (3, false), (4, false), (5, false), (6, false), (0, false), (7, false), (8, false), (9, false), (10, true)]) (He.free_ok hX hG (hc.fact 1)) (IsTb.cons rfl (Fx.is1_ok (x := "OffFloor") (y := .own "CornerTwice") (b := false) (fxOk hy 54)) (Fx.excC (x := "OffFloor") (fxOk hy 21)) (IsTb.cons rfl (Fx.is1_ok (x := "TooWide") (y := .own "CornerTwice") (b := false) (fxOk hy 53)) (Fx.excC (x := "TooWide") (fxOk hy 19)) (IsTb.cons rfl (Fx.is1_ok (x := "BadBox") (y := .own "CornerTwice") (b := false) (fxOk hy 52)) (Fx.excC (x := "BadBox") (fxOk hy 17)) (IsTb.cons rfl (Fx.is1_ok (x := "Twice") (y := .own "CornerTwice") (b := false) (fxOk hy 51)) (Fx.excC (x := "Twice") (fxOk hy 15)) (IsTb.cons rfl (Fx.is1_ok (x := "NoThing") (y := .own "CornerTwice") (b := false) (fxOk hy 50)) (Fx.excC (x := "NoThing") (fxOk hy 13)) (IsTb.cons rfl (Fx.is1_ok (x := "NoEntry") (y := .own "CornerTwice") (b := false) (fxOk hy 49)) (Fx.excC (x := "NoEntry") (fxOk hy 11)) (IsTb.cons rfl (Fx.is1_ok (x := "YardError") (y := .own "CornerTwice") (b := false) (fxOk hy 48)) (Fx.excC (x := "YardError") (fxOk hy 9)) (IsTb.cons rfl (Fx.is1_ok (x := "Unmet") (y := .own "CornerTwice") (b := false) (fxOk hy 47)) (Fx.excC (x := "Unmet") (fxOk hy 7)) (IsTb.cons rfl (Fx.is1_ok (x := "TextError") (y := .own "CornerTwice") (b := false) (fxOk hy 46)) (Fx.excC (x := "TextError") (fxOk hy 5)) (IsTb.cons rfl (Fx.is1_ok (x := "BadRow") (y := .own "CornerTwice") (b := false) (fxOk hy 45)) (Fx.excC (x := "BadRow") (fxOk hy 3)) (IsTb.cons rfl (Fx.is1_ok (x := "CornerTwice") (y := .own "CornerTwice") (b := true) (fxOk hy 44)) (Fx.excC (x := "CornerTwice") (fxOk hy 1)) (IsTb.nil (fun b e => by cases e))))))))))))) (pe_glob (v := .ref (He.ga K "CornerTwice")) rfl (He.glo_ok hX hG (hc.fact 7)) rfl) (.own _) (iv 0))) ia_nil)))))))
    (ss_cons (s_ret (i_op op_addA ok_add.ok (iv 1) (i_lst (ia_cons (i_fz (i_isE1 (c := .ref (He.ga K "TextError")) (u := .ref (He.ga K "TextError")) (nb := none) (tb := [(1, false), (2, false), (3, false), (4, false), (5, false), (6, false), (0, false), (7, false), (8, true), (9, true), (10, true)]) (He.free_ok hX hG (hc.fact 1)) (IsTb.cons rfl (Fx.is1_ok (x := "OffFloor") (y := .own "TextError") (b := false) (fxOk hy 43)) (Fx.excC (x := "OffFloor") (fxOk hy 21)) (IsTb.cons rfl (Fx.is1_ok (x := "TooWide") (y := .own "TextError") (b := false) (fxOk hy 42)) (Fx.excC (x := "TooWide") (fxOk hy 19)) (IsTb.cons rfl (Fx.is1_ok (x := "BadBox") (y := .own "TextError") (b := false) (fxOk hy 41)) (Fx.excC (x := "BadBox") (fxOk hy 17)) (IsTb.cons rfl (Fx.is1_ok (x := "Twice") (y := .own "TextError") (b := false) (fxOk hy 40)) (Fx.excC (x := "Twice") (fxOk hy 15)) (IsTb.cons rfl (Fx.is1_ok (x := "NoThing") (y := .own "TextError") (b := false) (fxOk hy 39)) (Fx.excC (x := "NoThing") (fxOk hy 13)) (IsTb.cons rfl (Fx.is1_ok (x := "NoEntry") (y := .own "TextError") (b := false) (fxOk hy 38)) (Fx.excC (x := "NoEntry") (fxOk hy 11)) (IsTb.cons rfl (Fx.is1_ok (x := "YardError") (y := .own "TextError") (b := false) (fxOk hy 37)) (Fx.excC (x := "YardError") (fxOk hy 9)) (IsTb.cons rfl (Fx.is1_ok (x := "Unmet") (y := .own "TextError") (b := false) (fxOk hy 36)) (Fx.excC (x := "Unmet") (fxOk hy 7)) (IsTb.cons rfl (Fx.is1_ok (x := "TextError") (y := .own "TextError") (b := true) (fxOk hy 35)) (Fx.excC (x := "TextError") (fxOk hy 5)) (IsTb.cons rfl (Fx.is1_ok (x := "BadRow") (y := .own "TextError") (b := true) (fxOk hy 34)) (Fx.excC (x := "BadRow") (fxOk hy 3)) (IsTb.cons rfl (Fx.is1_ok (x := "CornerTwice") (y := .own "TextError") (b := true) (fxOk hy 33)) (Fx.excC (x := "CornerTwice") (fxOk hy 1)) (IsTb.nil (fun b e => by cases e))))))))))))) (pe_glob (v := .ref (He.ga K "TextError")) rfl (He.glo_ok hX hG (hc.fact 6)) rfl) (.own _) (iv 0))) (ia_cons (i_fz (i_isE1 (c := .ref (He.ga K "YardError")) (u := .ref (He.ga K "YardError")) (nb := none) (tb := [(1, true), (2, true), (3, true), (4, true), (5, true), (6, true), (0, true), (7, true), (8, true), (9, true), (10, true)]) (He.free_ok hX hG (hc.fact 1)) (IsTb.cons rfl (Fx.is1_ok (x := "OffFloor") (y := .own "YardError") (b := true) (fxOk hy 32)) (Fx.excC (x := "OffFloor") (fxOk hy 21)) (IsTb.cons rfl (Fx.is1_ok (x := "TooWide") (y := .own "YardError") (b := true) (fxOk hy 31)) (Fx.excC (x := "TooWide") (fxOk hy 19)) (IsTb.cons rfl (Fx.is1_ok (x := "BadBox") (y := .own "YardError") (b := true) (fxOk hy 30)) (Fx.excC (x := "BadBox") (fxOk hy 17)) (IsTb.cons rfl (Fx.is1_ok (x := "Twice") (y := .own "YardError") (b := true) (fxOk hy 29)) (Fx.excC (x := "Twice") (fxOk hy 15)) (IsTb.cons rfl (Fx.is1_ok (x := "NoThing") (y := .own "YardError") (b := true) (fxOk hy 28)) (Fx.excC (x := "NoThing") (fxOk hy 13)) (IsTb.cons rfl (Fx.is1_ok (x := "NoEntry") (y := .own "YardError") (b := true) (fxOk hy 27)) (Fx.excC (x := "NoEntry") (fxOk hy 11)) (IsTb.cons rfl (Fx.is1_ok (x := "YardError") (y := .own "YardError") (b := true) (fxOk hy 26)) (Fx.excC (x := "YardError") (fxOk hy 9)) (IsTb.cons rfl (Fx.is1_ok (x := "Unmet") (y := .own "YardError") (b := true) (fxOk hy 25)) (Fx.excC (x := "Unmet") (fxOk hy 7)) (IsTb.cons rfl (Fx.is1_ok (x := "TextError") (y := .own "YardError") (b := true) (fxOk hy 24)) (Fx.excC (x := "TextError") (fxOk hy 5)) (IsTb.cons rfl (Fx.is1_ok (x := "BadRow") (y := .own "YardError") (b := true) (fxOk hy 23)) (Fx.excC (x := "BadRow") (fxOk hy 3)) (IsTb.cons rfl (Fx.is1_ok (x := "CornerTwice") (y := .own "YardError") (b := true) (fxOk hy 22)) (Fx.excC (x := "CornerTwice") (fxOk hy 1)) (IsTb.nil (fun b e => by cases e))))))))))))) (pe_glob (v := .ref (He.ga K "YardError")) rfl (He.glo_ok hX hG (hc.fact 5)) rfl) (.own _) (iv 0))) (ia_cons (i_fz (i_isE1 (c := .ty "ValueError") (u := .type "ValueError") (nb := none) (tb := [(1, true), (2, true), (3, true), (4, true), (5, true), (6, true), (0, true), (7, true), (8, true), (9, true), (10, true)]) (He.free_ok hX hG (hc.fact 1)) (IsTb.cons rfl (Fx.is1_ok (x := "OffFloor") (y := .ty "ValueError") (b := true) (fxOk hy 20)) (Fx.excC (x := "OffFloor") (fxOk hy 21)) (IsTb.cons rfl (Fx.is1_ok (x := "TooWide") (y := .ty "ValueError") (b := true) (fxOk hy 18)) (Fx.excC (x := "TooWide") (fxOk hy 19)) (IsTb.cons rfl (Fx.is1_ok (x := "BadBox") (y := .ty "ValueError") (b := true) (fxOk hy 16)) (Fx.excC (x := "BadBox") (fxOk hy 17)) (IsTb.cons rfl (Fx.is1_ok (x := "Twice") (y := .ty "ValueError") (b := true) (fxOk hy 14)) (Fx.excC (x := "Twice") (fxOk hy 15)) (IsTb.cons rfl (Fx.is1_ok (x := "NoThing") (y := .ty "ValueError") (b := true) (fxOk hy 12)) (Fx.excC (x := "NoThing") (fxOk hy 13)) (IsTb.cons rfl (Fx.is1_ok (x := "NoEntry") (y := .ty "ValueError") (b := true) (fxOk hy 10)) (Fx.excC (x := "NoEntry") (fxOk hy 11)) (IsTb.cons rfl (Fx.is1_ok (x := "YardError") (y := .ty "ValueError") (b := true) (fxOk hy 8)) (Fx.excC (x := "YardError") (fxOk hy 9)) (IsTb.cons rfl (Fx.is1_ok (x := "Unmet") (y := .ty "ValueError") (b := true) (fxOk hy 6)) (Fx.excC (x := "Unmet") (fxOk hy 7)) (IsTb.cons rfl (Fx.is1_ok (x := "TextError") (y := .ty "ValueError") (b := true) (fxOk hy 4)) (Fx.excC (x := "TextError") (fxOk hy 5)) (IsTb.cons rfl (Fx.is1_ok (x := "BadRow") (y := .ty "ValueError") (b := true) (fxOk hy 2)) (Fx.excC (x := "BadRow") (fxOk hy 3)) (IsTb.cons rfl (Fx.is1_ok (x := "CornerTwice") (y := .ty "ValueError") (b := true) (fxOk hy 0)) (Fx.excC (x := "CornerTwice") (fxOk hy 1)) (IsTb.nil (fun b e => by cases e))))))))))))) (pe_bltn (v := .ty "ValueError") rfl (He.free_ok hX hG (hc.fact 4)) (by decide +kernel) rfl) (.ty _) (iv 0))) ia_nil))))))
    ss_nil))))
theorem ok_L_plain_kinds (hX : K.In hp) (hG : hp.Ns mainGlobals mg) (hc : He.SaysD fa fn K) (hy : (fx.all fun f => f.ok K) = true) (C_L_kinds_0 : Callee P w K mg base (cA K) fN 1 "_law_kinds" ["_law_error"] [] m_L_kinds) {fd : FuncData} (F : FunD K "_law_plain_kinds" "_law_plain_kinds" (defArgs s_L_plain_kinds) (defBody s_L_plain_kinds) (defScope s_L_plain_kinds) [] [] (He.fAd K ("_law_plain_kinds", none)) fd) : FnOk P w K mg base CX0 2 (He.fAd K ("_law_plain_kinds", none)) fd [] (spI ⟨K, cA K, fN, P, w⟩ 0 m_L_plain_kinds) := by
  refine fn0 F sc_L_plain_kinds fun cdv A outer s H E hr => ?_
  exact (ss_cons (s_set 0 sc_L_plain_kinds.nd (i_fz (i_lst (ia_cons (i_fz (i_exc0 (c := 1) (C := He.ga K "OffFloor") PySem.F.excBase_ValueError (He.exc_ok (hc.fact 24)).1 (He.glo_ok hX hG (hc.fact 15)) (He.exc_ok (hc.fact 24)).2.1 (ia_cons ic_str ia_nil))) (ia_cons (i_fz (i_exc0 (c := 2) (C := He.ga K "TooWide") PySem.F.excBase_ValueError (He.exc_ok (hc.fact 23)).1 (He.glo_ok hX hG (hc.fact 14)) (He.exc_ok (hc.fact 23)).2.1 (ia_cons ic_str ia_nil))) (ia_cons (i_fz (i_exc0 (c := 3) (C := He.ga K "BadBox") PySem.F.excBase_ValueError (He.exc_ok (hc.fact 22)).1 (He.glo_ok hX hG (hc.fact 13)) (He.exc_ok (hc.fact 22)).2.1 (ia_cons ic_str ia_nil))) (ia_cons (i_fz (i_exc0 (c := 4) (C := He.ga K "Twice") PySem.F.excBase_ValueError (He.exc_ok (hc.fact 21)).1 (He.glo_ok hX hG (hc.fact 12)) (He.exc_ok (hc.fact 21)).2.1 (ia_cons ic_str ia_nil))) (ia_cons (i_fz (i_exc0 (c := 5) (C := He.ga K "NoThing") PySem.F.excBase_ValueError (He.exc_ok (hc.fact 20)).1 (He.glo_ok hX hG (hc.fact 11)) (He.exc_ok (hc.fact 20)).2.1 (ia_cons ic_str ia_nil))) (ia_cons (i_fz (i_exc0 (c := 6) (C := He.ga K "NoEntry") PySem.F.excBase_ValueError (He.exc_ok (hc.fact 19)).1 (He.glo_ok hX hG (hc.fact 10)) (He.exc_ok (hc.fact 19)).2.1 (ia_cons ic_str ia_nil))) ia_nil)))))))))
    (ss_cons (s_for [1, 2] PassesOwn.never rfl (tg_names [1, 2]) (x_enum (He.free_ok hX hG (hc.fact 17)) (iv 0)) (pg_tup rfl (pgs_cons (g_name 1 sc_L_plain_kinds.nd) (pgs_cons (g_name 2 sc_L_plain_kinds.nd) pgs_nil))) (ss_cons (s_if (t_cmp (op_neA hr.units) ok_ne.ok (i_callC (hr.mono (by omega)) C_L_kinds_0 (ia_cons (iv 2) ia_nil)) (i_op op_addA ok_add.ok (i_lc (own := [("_law_j", 3)]) (tg_name 3) (by decide) rfl sc_L_plain_kinds.nd (x_range1 (He.free_ok hX hG (hc.fact 18)) ic_int) (blkOk_by (N := N_L_plain_kinds) (sc := defScope s_L_plain_kinds) (by decide +kernel)) (fun _ _ _ _ _ => (g_name 3 sc_L_plain_kinds.nd)) (fun _ _ _ _ _ => cs_nil) (fun _ _ _ _ _ => (i_cmp (op_eqA hr.units) ok_eq.ok (iv 3) (iv 1) (nomark _)))) (i_lst (ia_cons ic_bl (ia_cons ic_bl (ia_cons ic_bl ia_nil))))) (nomark _)) (ss_cons (s_ret ic_bl)
    ss_nil) ss_nil)
    ss_nil))
    (ss_cons (s_ret (i_cmp (op_eqA hr.units) ok_eq.ok (i_callC (hr.mono (by omega)) C_L_kinds_0 (ia_cons (i_fz (i_exc0 (c := 0) (C := He.ga K "YardError") PySem.F.excBase_ValueError (He.exc_ok (hc.fact 16)).1 (He.glo_ok hX hG (hc.fact 5)) (He.exc_ok (hc.fact 16)).2.1 (ia_cons ic_str ia_nil))) ia_nil)) (i_op op_addA ok_add.ok (i_op op_mulA ok_mulA.ok (i_lst (ia_cons ic_bl ia_nil)) ic_int) (i_lst (ia_cons ic_bl (ia_cons ic_bl ia_nil)))) (nomark _)))
    ss_nil)))
theorem ok_L_numbered (hX : K.In hp) (hG : hp.Ns mainGlobals mg) (hc : He.SaysD fa fn K) (hy : (fx.all fun f => f.ok K) = true) (C_L_kinds_0 : Callee P w K mg base (cA K) fN 1 "_law_kinds" ["_law_error"] [] m_L_kinds) (C_L_whole_0 : Callee P w K mg base (cA K) fN 1 "_law_whole" ["_law_found"] [] m_L_whole) (C_L_cell_at_0 : Callee P w K mg base (cA K) fN 1 "_law_cell_at" ["_law_script", "_law_k"] [] m_L_cell_at) (X_TextError : XIni P w K mg base 1 "TextError" ["row"]) (X_Unmet : XIni P w K mg base 1 "Unmet" ["first", "second", "level"]) {fd : FuncData} (F : FunD K "_law_numbered" "_law_numbered" (defArgs s_L_numbered) (defBody s_L_numbered) (defScope s_L_numbered) [] [] (He.fAd K ("_law_numbered", none)) fd) : FnOk P w K mg base CX0 3 (He.fAd K ("_law_numbered", none)) fd ["_law_cells", "_law_k"] (spI ⟨K, cA K, fN, P, w⟩ 2 m_L_numbered) := by
  refine fn0 F sc_L_numbered fun cdv A outer s H E hr => ?_
  exact (ss_cons (s_setLcF (i := 2) (own := [("_law_j", 7)]) (tg_name 7) (by decide) rfl sc_L_numbered.nd rfl rfl (sw_true rfl rfl rfl (by decide +kernel)) (x_range1 (He.free_ok hX hG (hc.fact 18)) ic_int) (blkOk_by (N := N_L_numbered) (sc := defScope s_L_numbered) (by decide +kernel)) (fun _ _ _ _ _ => (g_name 7 sc_L_numbered.nd)) (fun _ _ _ _ _ => cs_nil) (fun _ _ _ _ _ => (i_fz (i_op op_mod ok_mod.ok (i_callC (hr.mono (by omega)) C_L_cell_at_0 (ia_cons (iv 0) (ia_cons (i_fz (i_op op_addA ok_add.ok (iv 1) (iv 7))) ia_nil))) (i_op op_pow ok_pow.ok ic_int ic_int)))))
    (ss_cons (s_set 3 sc_L_numbered.nd (i_fz (i_excF (x := "Unmet") (b := "Unmet") (names := ["first", "second", "level"]) X_Unmet (hr.mono (by omega)) rfl (Fx.oex_ok (x := "Unmet") (fxOk hy 155)) (Fx.ini_ok (x := "Unmet") (c := "Unmet") (fxOk hy 156)) (List.forall_mem_cons.mpr ⟨(Fx.xf_ok (x := "Unmet") (f := "first") (fxOk hy 154)).2, (List.forall_mem_cons.mpr ⟨(Fx.xf_ok (x := "Unmet") (f := "second") (fxOk hy 153)).2, (List.forall_mem_singleton.mpr (Fx.xf_ok (x := "Unmet") (f := "level") (fxOk hy 152)).2)⟩)⟩) rfl (He.glo_ok hX hG (hc.fact 9)) (ia_cons (i_ix ix_seq ok_ix.ok (iv 2) ic_int) (ia_cons (i_ix ix_seq ok_ix.ok (iv 2) ic_int) (ia_cons (i_ix ix_seq ok_ix.ok (iv 2) ic_int) ia_nil))) rfl (by decide))))
    (ss_cons (s_set 4 sc_L_numbered.nd (i_fz (i_lst (ia_cons (i_fldX (fldx_first hy) (iv 3)) (ia_cons (i_fldX (fldx_second hy) (iv 3)) (ia_cons (i_fldX (fldx_level hy) (iv 3)) ia_nil))))))
    (ss_cons (s_if (PW.pt (w_or (t_cmp (op_neA hr.units) ok_ne.ok (iv 4) (iv 2) (nomark _)) (w_or1 (t_not (t_val (i_cb (cr_all rfl) ok_all.ok (He.free_ok hX hG (hc.fact 25)) (by decide +kernel) (ia_cons (i_lc (own := [("_law_number", 9)]) (tg_name 9) (by decide) rfl sc_L_numbered.nd (x_list (iv 4)) (blkOk_by (N := N_L_numbered) (sc := defScope s_L_numbered) (by decide +kernel)) (fun _ _ _ _ _ => (g_name 9 sc_L_numbered.nd)) (fun _ _ _ _ _ => cs_nil) (fun _ _ _ _ _ => (i_fz (i_callC (hr.mono (by omega)) C_L_whole_0 (ia_cons (iv 9) ia_nil))))) ia_nil))))))) (ss_cons (s_ret ic_bl)
    ss_nil) ss_nil)
    (ss_cons (s_if (t_cmp (op_neA hr.units) ok_ne.ok (i_callC (hr.mono (by omega)) C_L_kinds_0 (ia_cons (iv 3) ia_nil)) (i_op op_addA ok_add.ok (i_lc (own := [("_law_j", 7)]) (tg_name 7) (by decide) rfl sc_L_numbered.nd (x_range1 (He.free_ok hX hG (hc.fact 18)) ic_int) (blkOk_by (N := N_L_numbered) (sc := defScope s_L_numbered) (by decide +kernel)) (fun _ _ _ _ _ => (g_name 7 sc_L_numbered.nd)) (fun _ _ _ _ _ => cs_nil) (fun _ _ _ _ _ => (i_cmp (op_eqA hr.units) ok_eq.ok (iv 7) ic_int (nomark _)))) (i_lst (ia_cons ic_bl (ia_cons ic_bl (ia_cons ic_bl ia_nil))))) (nomark _)) (ss_cons (s_ret ic_bl)
    ss_nil) ss_nil)
    (ss_cons (s_set 5 sc_L_numbered.nd (i_fz (i_lst (ia_cons (i_fz (i_excF (x := "BadRow") (b := "TextError") (names := ["row"]) X_TextError (hr.mono (by omega)) rfl (Fx.oex_ok (x := "BadRow") (fxOk hy 150)) (Fx.ini_ok (x := "BadRow") (c := "TextError") (fxOk hy 151)) (List.forall_mem_singleton.mpr (Fx.xf_ok (x := "BadRow") (f := "row") (fxOk hy 149)).2) rfl (He.glo_ok hX hG (hc.fact 8)) (ia_cons (i_ix ix_seq ok_ix.ok (iv 2) ic_int) ia_nil) rfl (by decide))) (ia_cons (i_fz (i_excF (x := "CornerTwice") (b := "TextError") (names := ["row"]) X_TextError (hr.mono (by omega)) rfl (Fx.oex_ok (x := "CornerTwice") (fxOk hy 147)) (Fx.ini_ok (x := "CornerTwice") (c := "TextError") (fxOk hy 148)) (List.forall_mem_singleton.mpr (Fx.xf_ok (x := "CornerTwice") (f := "row") (fxOk hy 146)).2) rfl (He.glo_ok hX hG (hc.fact 7)) (ia_cons (i_ix ix_seq ok_ix.ok (iv 2) ic_int) ia_nil) rfl (by decide))) ia_nil)))))
    (ss_cons (s_for [7, 8] PassesOwn.never rfl (tg_names [7, 8]) (x_enum (He.free_ok hX hG (hc.fact 17)) (iv 5)) (pg_tup rfl (pgs_cons (g_name 7 sc_L_numbered.nd) (pgs_cons (g_name 8 sc_L_numbered.nd) pgs_nil))) (ss_cons (s_if (t_cmp (op_neA hr.units) ok_ne.ok (i_callC (hr.mono (by omega)) C_L_kinds_0 (ia_cons (iv 8) ia_nil)) (i_op op_addA ok_add.ok (i_lc (own := [("_law_n", 10)]) (tg_name 10) (by decide) rfl sc_L_numbered.nd (x_range1 (He.free_ok hX hG (hc.fact 18)) ic_int) (blkOk_by (N := N_L_numbered) (sc := defScope s_L_numbered) (by decide +kernel)) (fun _ _ _ _ _ => (g_name 10 sc_L_numbered.nd)) (fun _ _ _ _ _ => cs_nil) (fun _ _ _ _ _ => (i_cmp (op_eqA hr.units) ok_eq.ok (iv 10) (i_op op_addA ok_add.ok ic_int (iv 7)) (nomark _)))) (i_lst (ia_cons ic_bl (ia_cons ic_bl (ia_cons ic_bl ia_nil))))) (nomark _)) (ss_cons (s_ret ic_bl)
    ss_nil) ss_nil)
    (ss_cons (s_if (PW.pt (w_or (t_not (t_val (i_callC (hr.mono (by omega)) C_L_whole_0 (ia_cons (i_fldX (fldx_row hy) (iv 8)) ia_nil)))) (w_or1 (t_cmp (op_neA hr.units) ok_ne.ok (i_fldX (fldx_row hy) (iv 8)) (i_ix ix_seq ok_ix.ok (iv 2) (iv 7)) (nomark _))))) (ss_cons (s_ret ic_bl)
    ss_nil) ss_nil)
    ss_nil)))
    (ss_cons (s_set 6 sc_L_numbered.nd (i_fz (i_excF (x := "TextError") (b := "TextError") (names := ["row"]) X_TextError (hr.mono (by omega)) rfl (Fx.oex_ok (x := "TextError") (fxOk hy 144)) (Fx.ini_ok (x := "TextError") (c := "TextError") (fxOk hy 145)) (List.forall_mem_singleton.mpr (Fx.xf_ok (x := "TextError") (f := "row") (fxOk hy 143)).2) rfl (He.glo_ok hX hG (hc.fact 6)) (ia_cons (i_ix ix_seq ok_ix.ok (iv 2) ic_int) ia_nil) rfl (by decide))))
    (ss_cons (s_ret (i_and (i_cmp (op_eqA hr.units) ok_eq.ok (i_fldX (fldx_row hy) (iv 6)) (i_ix ix_seq ok_ix.ok (iv 2) ic_int) (nomark _)) (i_one (i_cmp (op_eqA hr.units) ok_eq.ok (i_callC (hr.mono (by omega)) C_L_kinds_0 (ia_cons (iv 6) ia_nil)) (i_op op_addA ok_add.ok (i_op op_mulA ok_mulA.ok (i_lst (ia_cons ic_bl ia_nil)) ic_int) (i_lst (ia_cons ic_bl (ia_cons ic_bl (ia_cons ic_bl ia_nil))))) (nomark _)))))
    ss_nil)))))))))
theorem ok_L_law (hX : K.In hp) (hG : hp.Ns mainGlobals mg) (hc : He.SaysD fa fn K) (hy : (fx.all fun f => f.ok K) = true) (C_L_plain_kinds_0 : Callee P w K mg base (cA K) fN 2 "_law_plain_kinds" [] [] m_L_plain_kinds) (C_L_numbered_0 : Callee P w K mg base (cA K) fN 3 "_law_numbered" ["_law_cells", "_law_k"] [] m_L_numbered) {fd : FuncData} (F : FunD K "law" "law" (defArgs s_L_law) (defBody s_L_law) (defScope s_L_law) [] [] (He.fAd K ("law", none)) fd) : FnOk P w K mg base CX0 4 (He.fAd K ("law", none)) fd ["_law_script"] (spI ⟨K, cA K, fN, P, w⟩ 1 m_L_law) := by
  refine fn0 F sc_L_law fun cdv A outer s H E hr => ?_
  exact (ss_cons (s_set 1 sc_L_law.nd (i_fz (i_slice (iv 0) (o_some ic_int) (o_some ic_int))))
    (ss_cons (s_for [2] PassesOwn.never rfl (tg_name 2) (x_range1 (He.free_ok hX hG (hc.fact 18)) (i_op op_addA ok_add.ok ic_int (i_cb call_len ok_len.ok (He.free_ok hX hG (hc.fact 0)) (by decide +kernel) (ia_cons (iv 1) ia_nil)))) (g_name 2 sc_L_law.nd) (ss_cons (s_if (t_not (t_val (i_callC (hr.mono (by omega)) C_L_numbered_0 (ia_cons (iv 1) (ia_cons (iv 2) ia_nil))))) (ss_cons (s_ret ic_bl)
    ss_nil) ss_nil)
    ss_nil))
    (ss_cons (s_ret (i_callC0 (hr.mono (by omega)) C_L_plain_kinds_0))
    ss_nil)))
theorem all_ok (hX : K.In hp) (hG : hp.Ns mainGlobals mg) (hc : He.SaysD fa fn K) (hy : (fx.all fun f => f.ok K) = true) : ∃ fd : FuncData, (∀ (s : Shared) (v : Value), BindsTo s fd ⟨[v], []⟩ [("_law_script", v)]) ∧ ∀ base : Heap, FnOk P w K mg base CX0 4 (He.fAd K ("law", none)) fd ["_law_script"] (spI ⟨K, cA K, fN, P, w⟩ 1 m_L_law) := by
  obtain ⟨fd_L_cell_at, F_L_cell_at⟩ := hc.def_ 0 (d := fn[0]) rfl
  obtain ⟨fd_L_whole, F_L_whole⟩ := hc.def_ 1 (d := fn[1]) rfl
  obtain ⟨fd_L_kinds, F_L_kinds⟩ := hc.def_ 2 (d := fn[2]) rfl
  obtain ⟨fd_L_plain_kinds, F_L_plain_kinds⟩ := hc.def_ 3 (d := fn[3]) rfl
  obtain ⟨fd_L_numbered, F_L_numbered⟩ := hc.def_ 4 (d := fn[4]) rfl
  obtain ⟨fd_L_law, F_L_law⟩ := hc.def_ 5 (d := fn[5]) rfl
  obtain ⟨fd_p_TextError_init, F_p_TextError_init⟩ := hc.def_ 6 (d := fn[6]) rfl
  obtain ⟨fd_p_Unmet_init, F_p_Unmet_init⟩ := hc.def_ 7 (d := fn[7]) rfl
  refine ⟨fd_L_law, fun s v => FunD.bindsA (ps := ["_law_script"]) F_L_law (fun _ _ _ _ _ _ us hl => match us, hl with | [_], _ => rfl) s [v] rfl, fun base => ?_⟩
  have X_TextError : XIni P w K mg base 1 "TextError" ["row"] := ⟨fd_p_TextError_init, ["self", "row"], ok_p_TextError_init (P := P) (w := w) (base := base) hX hG hc hy F_p_TextError_init, F_p_TextError_init.bindsN fun _ _ _ _ _ _ us hl => match us, hl with | [_, _], _ => rfl⟩
  have X_Unmet : XIni P w K mg base 1 "Unmet" ["first", "second", "level"] := ⟨fd_p_Unmet_init, ["self", "first", "second", "level"], ok_p_Unmet_init (P := P) (w := w) (base := base) hX hG hc hy F_p_Unmet_init, F_p_Unmet_init.bindsN fun _ _ _ _ _ _ us hl => match us, hl with | [_, _, _, _], _ => rfl⟩
  have O_L_cell_at := ok_L_cell_at (P := P) (w := w) (base := base) hX hG hc hy  F_L_cell_at
  have C_L_cell_at_0 := Callee.mkN (x := "_law_cell_at") (ne_clean _) (He.glo_ok hX hG (hc.fact 26)) F_L_cell_at.kp (F_L_cell_at.bindsN fun _ _ _ _ _ _ us hl => match us, hl with | [_, _], _ => rfl) .nil (fun _ _ => .nil) O_L_cell_at
  have O_L_whole := ok_L_whole (P := P) (w := w) (base := base) hX hG hc hy  F_L_whole
  have C_L_whole_0 := Callee.mkN (x := "_law_whole") (ne_clean _) (He.glo_ok hX hG (hc.fact 27)) F_L_whole.kp (F_L_whole.bindsN fun _ _ _ _ _ _ us hl => match us, hl with | [_], _ => rfl) .nil (fun _ _ => .nil) O_L_whole
  have O_L_kinds := ok_L_kinds (P := P) (w := w) (base := base) hX hG hc hy  F_L_kinds
  have C_L_kinds_0 := Callee.mkN (x := "_law_kinds") (ne_clean _) (He.glo_ok hX hG (hc.fact 28)) F_L_kinds.kp (F_L_kinds.bindsN fun _ _ _ _ _ _ us hl => match us, hl with | [_], _ => rfl) .nil (fun _ _ => .nil) O_L_kinds
  have O_L_plain_kinds := ok_L_plain_kinds (P := P) (w := w) (base := base) hX hG hc hy C_L_kinds_0 F_L_plain_kinds
  have C_L_plain_kinds_0 := Callee.mkN (x := "_law_plain_kinds") (ne_clean _) (He.glo_ok hX hG (hc.fact 29)) F_L_plain_kinds.kp (F_L_plain_kinds.bindsN fun _ _ _ _ _ _ us hl => match us, hl with | [], _ => rfl) .nil (fun _ _ => .nil) O_L_plain_kinds
  have O_L_numbered := ok_L_numbered (P := P) (w := w) (base := base) hX hG hc hy C_L_kinds_0 C_L_whole_0 C_L_cell_at_0 X_TextError X_Unmet F_L_numbered
  have C_L_numbered_0 := Callee.mkN (x := "_law_numbered") (ne_clean _) (He.glo_ok hX hG (hc.fact 30)) F_L_numbered.kp (F_L_numbered.bindsN fun _ _ _ _ _ _ us hl => match us, hl with | [_, _], _ => rfl) .nil (fun _ _ => .nil) O_L_numbered
  exact ok_L_law hX hG hc hy C_L_plain_kinds_0 C_L_numbered_0 F_L_law
end
theorem ob_eq (s : PySem.W.SharedT) : ob s = hk.obs s.abs := Cy.obsXG_eq (HandSHeadRun.getT_eq s)
end Pf
theorem Pf.law_trueB (ns : List Int) (hl : ns.length ≤ 63) (hb : ∀ z ∈ ns, PySem.Builtin.Int.intBits z ≤ 1048576) : ∃ S', Pf.m_L_law [.frl (ns.map .int)] [] = .ok (.va (.bl true)) S' := Pf.law_true ns hl
open PySem PySem.W PySem.Calls PyProof.Rows
theorem PySem.Challenge.cw_curveyard_k06_refusals_stand_apart_holds : PySem.Challenge.rw_curveyard_k06_refusals_stand_apart.Holds := by
  w_on; o_law
  refine HandSHeadRun.head_any (r := OpenLaw.row PySem.Challenge.rw_curveyard_k06_refusals_stand_apart) (q := view (OpenLaw.row PySem.Challenge.rw_curveyard_k06_refusals_stand_apart).prog [18]) (H := Pf.hk) (ob := Pf.ob) (M := 10140) (loose := Pf.looseN) (d := HandSHeadRun.topDef (OpenLaw.row PySem.Challenge.rw_curveyard_k06_refusals_stand_apart).prog 18) (kwd := []) Pf.ob_eq
    (by kernel_rfl) (fun s => by kernel_rfl) Pf.run (by kernel_rfl) (by kernel_rfl) (by kernel_rfl) (by rfl) (by first | assumption | decide +kernel) (by decide +kernel) ⟨rfl, rfl, rfl, rfl, rfl, by decide +kernel⟩ ?hw ?hc
  case hw => w_witness2
  case hc =>
    refine L2.walk_ofEB (l := PySem.Challenge.rw_curveyard_k06_refusals_stand_apart) (n := 63) (k := 4) (x := "_law_script") (CX := L2.CX0) rfl (by decide) (by kernel_rfl) ⟨rfl, by decide, by decide⟩ ?F (fun _ _ _ _ z => z)
    intro w mg fa h Y G hmg0
    obtain ⟨K, KX, c⟩ := Y
    have hmg : mg ("law" : PySem.Str) = some (.ref fa) := by
      have e : (HandSHeadRun.topDef (OpenLaw.row PySem.Challenge.rw_curveyard_k06_refusals_stand_apart).prog 18).name = ("law" : PySem.Str) := by kernel_rfl
      rw [← e]
      exact hmg0
    obtain ⟨fd, hb, hF⟩ := Pf.all_ok (P := (PySem.Challenge.rw_curveyard_k06_refusals_stand_apart).prog) (w := w) KX G c.1 c.2
    have e := hmg.symm.trans (He.glo_ok KX G (c.1.fact 31))
    cases e
    exact ⟨K, fd, Cy.spI ⟨K, Pf.cA K, Pf.fN, (PySem.Challenge.rw_curveyard_k06_refusals_stand_apart).prog, w⟩ 1 Pf.m_L_law, KX, hb, fun H a ns hl hb hO hS => Cy.law_sp hO hS (Pf.law_trueB ns hl hb), fun base _ _ => hF base⟩
