import PyProof.Rows.All
import Wide.All
import OpenK.AllK
import Wide.FinOn
import PySem.Challenge.RW_everyfont_k00_numbers_and_errors
import HandS.ForMost
import HandS.ForExc
import HandS.Lambda
import HandS.Conv
import HandS.ExcInit
import HandS.ExcIs
import HandS.ExcField
import HandS.HeadHook1
import HandS.HeadHook2
import HandS.TupAny
import HandS.TupMul
import HandS.Wide
import HandS.Gcd
import HandS.CallSlots
import HandS.IsInst
import HandS.SortOrd
import HandS.SortRule
import KE.KDictPairs
import KE.KDictSum
import HandS.Sort
import HandS.TupLe
import HandS.Defaults
import KE.KExcSuper
import KE.KSuper
import HandS.TryMany
import KE.KDflt
import HandS.ExcValue
import KE.GoesMore
import KE.GoesZip
import KE.GoesEnum
import HandS.DictComp
import HandS.Style
import HandS.ExcCtx
import HandS.EndTab
import HandS.EndBits
import HandS.Head0
import HandS.Head1
import HandS.Head2
import HandS.Head3
import PyProof.ReprBulk
set_option Elab.async false
set_option linter.all false
set_option maxRecDepth 100000
set_option maxHeartbeats 2000000
/-! Fx1: data, worlds, how data lies in the heap. -/
namespace Fx
open PySem PySem.Spec PyProof.Rows L2

/-- data, without addresses -/
inductive D where
  | non | bl (b : Bool) | int (i : Int) | str (x : Str) | ty (n : String)
  | tup (xs : List D) | lst (xs : List D) | ref (n : Nat) | clo

/-- a cell of the store -/
inductive Cell where
  | dct (kvs : List (Key × D))
  | dctT (kvs : List (List Key × D))
  | exc (ln : List Str) (fs : List (Str × D))
abbrev Store := List Cell
/-- an own exception class as a value's: its name, its line's names, its fields -/
structure Xc where
  c : Str
  ln : List Str
  fs : List Str
/-- what isinstance and the look at a field ask of such a class -/
def xcB (K : PySem.W.Frag) (xi : List Str) (q : Xc) : Bool :=
  decide (PySem.W.findIn K (.ref (He.ga K q.c)) "__getattribute__" = some (some (.builtin "BaseException.__getattribute__"))) && decide (PySem.W.findIn K (.ref (He.ga K q.c)) "__getattr__" = some none) && decide (PySem.W.subIn K (.ref (He.ga K q.c)) (.type "BaseException") = some true) &&
  PySem.W.hasDictIn K (He.ga K q.c) && decide (PySem.W.findIn K (.ref (He.ga K q.c)) "__class__" = some (some (.builtin "object.__class__"))) && decide (PySem.W.specialIn K (.builtin "object.__class__") "__get__" = some (some (.builtin "getset_descriptor.__get__"))) &&
  decide (PySem.W.takesIn K (.builtin "object.__class__") = some true) && decide (PySem.W.mroIn K (He.ga K q.c) (.type "object") = some true) && (xi.all fun x => decide (PySem.W.kitOne K (.ref (He.ga K q.c)) (.ref (He.ga K x)) = some (q.ln.contains x))) &&
  decide (PySem.W.kitOne K (.ref (He.ga K q.c)) (.type "ValueError") = some true) && q.ln.contains "ValueError" && q.fs.all fun f => decide (PySem.W.findIn K (.ref (He.ga K q.c)) f = some none)
structure XcOk (K : PySem.W.Frag) (xi : List Str) (q : Xc) : Prop where
  c : ExcC K (He.ga K q.c)
  f : XfC K (He.ga K q.c)
  i : ∀ x ∈ xi, PySem.W.kitOne K (.ref (He.ga K q.c)) (.ref (He.ga K x)) = some (q.ln.contains x)
  v : PySem.W.kitOne K (.ref (He.ga K q.c)) (.type "ValueError") = some true
  vl : q.ln.contains "ValueError" = true
  n : ∀ f ∈ q.fs, PySem.W.findIn K (.ref (He.ga K q.c)) f = some none
theorem xcB_ok {K : PySem.W.Frag} {xi : List Str} {q : Xc} (h : xcB K xi q = true) : XcOk K xi q := by
  unfold xcB at h
  simp only [Bool.and_eq_true, decide_eq_true_eq, List.all_eq_true] at h
  obtain ⟨⟨⟨⟨⟨⟨⟨⟨⟨⟨⟨h1, h2⟩, h3⟩, h4⟩, h5⟩, h6⟩, h7⟩, h8⟩, h9⟩, h10⟩, h12⟩, h11⟩ := h
  exact ⟨⟨h1, h2, h3, h4, h5, h6, h7, h8⟩, ⟨h1, h2, h3, h4⟩, fun x hx => h9 x hx, h10, h12, h11⟩

structure G where
  K : PySem.W.Frag
  mg : Str → Option Value
  fld : Str → Option Str
  P : Program
  wd : World
  T : List (Addr × Str) := []
  xi : List Str := []

/-- how the store lies: the cells' addresses; the lists that never change again -/
structure Wd where
  mu : List Addr
  fz : Addr → Prop

/-- a list that never changes again -/
def LstAt (K : PySem.W.Frag) (H : Hp) (w : Wd) (a : Addr) (vs : List V) : Prop :=
  (H a = some (.lst vs) ∧ w.fz a) ∨ ∃ o, H a = some (.frz o (.lst vs))
theorem LstAt.rd {K : PySem.W.Frag} {H : Hp} {w : Wd} {a : Addr} {vs : List V} (h : LstAt K H w a vs) : Rd H a (.lst vs) := by
  rcases h with ⟨h, _⟩ | ⟨o, h⟩
  · exact .inl h
  · exact .inr ⟨o, h⟩
theorem LstAt.sql {K : PySem.W.Frag} {H : Hp} {w : Wd} {a : Addr} {vs : List V} (h : LstAt K H w a vs) : SqL K H a vs := .inl h.rd

mutual
inductive Rep (g : G) (H : Hp) (w : Wd) : D → V → Prop
  | non : Rep g H w .non .non
  | bl (b : Bool) : Rep g H w (.bl b) (.bl b)
  | int (i : Int) : Rep g H w (.int i) (.int i)
  | str (x : Str) : Rep g H w (.str x) (.str x)
  | ty (n : String) : Rep g H w (.ty n) (.ty n)
  | tup {xs : List D} {a : Addr} {vs : List V} (h : SqT g.K H a vs) (r : Reps g H w xs vs) : Rep g H w (.tup xs) (.ref a)
  | lst {xs : List D} {a : Addr} {vs : List V} (h : LstAt g.K H w a vs) (r : Reps g H w xs vs) : Rep g H w (.lst xs) (.ref a)
  | ref {n : Nat} {a : Addr} (h : w.mu[n]? = some a) : Rep g H w (.ref n) (.ref a)
inductive Reps (g : G) (H : Hp) (w : Wd) : List D → List V → Prop
  | nil : Reps g H w [] []
  | cons {d : D} {v : V} {ds : List D} {vs : List V} (h : Rep g H w d v) (t : Reps g H w ds vs) : Reps g H w (d :: ds) (v :: vs)
end

section
variable {g : G} {H H' : Hp} {w w' : Wd} {ds es : List D} {vs us : List V}
theorem Reps.length : ∀ {ds : List D} {vs : List V}, Reps g H w ds vs → ds.length = vs.length
  | _, _, .nil => rfl
  | _, _, .cons _ t => by rw [List.length_cons, List.length_cons, t.length]
theorem Reps.get : ∀ {ds : List D} {vs : List V} {i : Nat} {d : D}, Reps g H w ds vs → ds[i]? = some d → ∃ v, vs[i]? = some v ∧ Rep g H w d v
  | _, _, _, _, .nil, e => by simp at e
  | _, _, 0, _, .cons r _, e => by simp at e; subst e; exact ⟨_, rfl, r⟩
  | _, _, i + 1, d, .cons _ t, e => by
    obtain ⟨u, h1, h2⟩ := Reps.get (i := i) (d := d) t (by simpa using e)
    exact ⟨u, by simpa using h1, h2⟩
theorem Reps.getV : ∀ {ds : List D} {vs : List V} {i : Nat} {v : V}, Reps g H w ds vs → vs[i]? = some v → ∃ d, ds[i]? = some d ∧ Rep g H w d v
  | _, _, _, _, .nil, e => by simp at e
  | _, _, 0, _, .cons r _, e => by simp at e; subst e; exact ⟨_, rfl, r⟩
  | _, _, i + 1, d, .cons _ t, e => by
    obtain ⟨u, h1, h2⟩ := Reps.getV (i := i) (v := d) t (by simpa using e)
    exact ⟨u, by simpa using h1, h2⟩
theorem Reps.append : ∀ {ds es : List D} {vs us : List V}, Reps g H w ds vs → Reps g H w es us → Reps g H w (ds ++ es) (vs ++ us)
  | _, _, _, _, .nil, s => s
  | _, _, _, _, .cons r t, s => .cons r (Reps.append t s)
theorem Reps.take : ∀ {ds : List D} {vs : List V} (n : Nat), Reps g H w ds vs → Reps g H w (ds.take n) (vs.take n)
  | _, _, 0, _ => by simp; exact .nil
  | _, _, _ + 1, .nil => .nil
  | _, _, n + 1, .cons r t => .cons r (Reps.take n t)
theorem Reps.drop : ∀ {ds : List D} {vs : List V} (n : Nat), Reps g H w ds vs → Reps g H w (ds.drop n) (vs.drop n)
  | _, _, 0, r => r
  | _, _, _ + 1, .nil => .nil
  | _, _, n + 1, .cons _ t => Reps.drop n t
theorem Reps.set {d : D} {v : V} (r : Rep g H w d v) : ∀ {ds : List D} {vs : List V} (i : Nat), Reps g H w ds vs → Reps g H w (ds.set i d) (vs.set i v)
  | _, _, _, .nil => .nil
  | _, _, 0, .cons _ t => .cons r t
  | _, _, i + 1, .cons q t => .cons q (Reps.set r i t)
theorem Reps.rep (h : Reps g H w ds vs) : ∀ k : Nat, Reps g H w (List.replicate k ds).flatten (List.replicate k vs).flatten
  | 0 => .nil
  | k + 1 => by
    rw [List.replicate_succ, List.replicate_succ, List.flatten_cons, List.flatten_cons]
    exact h.append (h.rep k)
theorem Reps.snoc {d : D} {v : V} (h : Reps g H w ds vs) (r : Rep g H w d v) : Reps g H w (ds ++ [d]) (vs ++ [v]) := h.append (.cons r .nil)
theorem Reps.ints : ∀ {ns : List Int}, Reps g H w (ns.map D.int) (ns.map V.int)
  | [] => .nil
  | n :: ns => .cons (.int n) (Reps.ints (ns := ns))
theorem Reps.flatten2 : ∀ {ds : List D} {vs : List V}, Reps g H w ds vs → ds = [] → vs = []
  | _, _, .nil, _ => rfl
end

/-- what stands behind an expression or a call: all tracked objects but the cells are kept; what is new is new -/
structure Ext (w : Wd) (H : Hp) (w' : Wd) (H' : Hp) : Prop where
  keep : ∀ a o, H a = some o → a ∉ w.mu → (∀ ps, o ≠ .tbl ps) → H' a = some o
  dom : ∀ a, H' a = none → H a = none
  fz : ∀ a, w.fz a → w'.fz a
  fzn : ∀ a, w'.fz a → w.fz a ∨ H a = none
  mu : ∀ (n : Nat) (a : Addr), w.mu[n]? = some a → w'.mu[n]? = some a
  mun : ∀ a, a ∈ w'.mu → a ∈ w.mu ∨ H a = none

/-- what stands behind a statement: the lists that never change, the tuples -/
structure Per (w : Wd) (H : Hp) (w' : Wd) (H' : Hp) : Prop where
  tup : ∀ a xs, H a = some (.tup xs) → H' a = some (.tup xs)
  frz : ∀ a o u, H a = some (.frz o u) → H' a = some (.frz o u)
  lst : ∀ a xs, H a = some (.lst xs) → w.fz a → H' a = some (.lst xs) ∧ w'.fz a
  mu : ∀ (n : Nat) (a : Addr), w.mu[n]? = some a → w'.mu[n]? = some a
  xd : ∀ a fs, H a = some (.xd fs) → H' a = some (.xd fs)

theorem Ext.refl {w : Wd} {H : Hp} : Ext w H w H := ⟨fun _ _ h _ _ => h, fun _ h => h, fun _ h => h, fun _ h => .inl h, fun _ _ h => h, fun _ h => .inl h⟩
theorem Ext.trans {w w1 w2 : Wd} {H H1 H2 : Hp} (a : Ext w H w1 H1) (b : Ext w1 H1 w2 H2) : Ext w H w2 H2 where
  keep := fun c o h n t => b.keep c o (a.keep c o h n t) (fun z => (a.mun c z).elim n fun q => by rw [q] at h; cases h) t
  dom := fun c h => a.dom c (b.dom c h)
  fz := fun c h => b.fz c (a.fz c h)
  fzn := fun c h => (b.fzn c h).elim (a.fzn c) fun q => .inr (a.dom c q)
  mu := fun n c h => b.mu n c (a.mu n c h)
  mun := fun c h => (b.mun c h).elim (a.mun c) fun q => .inr (a.dom c q)
theorem Per.refl {w : Wd} {H : Hp} : Per w H w H := ⟨fun _ _ h => h, fun _ _ _ h => h, fun _ _ h z => ⟨h, z⟩, fun _ _ h => h, fun _ _ h => h⟩
theorem Per.trans {w w1 w2 : Wd} {H H1 H2 : Hp} (a : Per w H w1 H1) (b : Per w1 H1 w2 H2) : Per w H w2 H2 where
  tup := fun c xs h => b.tup c xs (a.tup c xs h)
  frz := fun c o u h => b.frz c o u (a.frz c o u h)
  lst := fun c xs h z => b.lst c xs (a.lst c xs h z).1 (a.lst c xs h z).2
  mu := fun n c h => b.mu n c (a.mu n c h)
  xd := fun c fs h => b.xd c fs (a.xd c fs h)

theorem LstAt.per {K : PySem.W.Frag} {w w' : Wd} {H H' : Hp} (p : Per w H w' H') {a : Addr} {vs : List V} (h : LstAt K H w a vs) : LstAt K H' w' a vs := by
  rcases h with ⟨h, z⟩ | ⟨o, h⟩
  · exact .inl (p.lst a vs h z)
  · exact .inr ⟨o, p.frz a o _ h⟩
theorem SqT.per {K : PySem.W.Frag} {w w' : Wd} {H H' : Hp} (p : Per w H w' H') {a : Addr} {vs : List V} (h : SqT K H a vs) : SqT K H' a vs := by
  rcases h with (h | ⟨o, h⟩) | h
  · exact .inl (.inl (p.tup a vs h))
  · exact .inl (.inr ⟨o, p.frz a o _ h⟩)
  · exact .inr h

section
variable {g : G} {H H' : Hp} {w w' : Wd}
mutual
theorem Rep.per (p : Per w H w' H') : ∀ {d : D} {v : V}, Rep g H w d v → Rep g H' w' d v
  | _, _, .non => .non
  | _, _, .bl b => .bl b
  | _, _, .int i => .int i
  | _, _, .str x => .str x
  | _, _, .ty n => .ty n
  | _, _, .tup h r => .tup (SqT.per p h) (Reps.per p r)
  | _, _, .lst h r => .lst (h.per p) (Reps.per p r)
  | _, _, .ref h => .ref (p.mu _ _ h)
theorem Reps.per (p : Per w H w' H') : ∀ {ds : List D} {vs : List V}, Reps g H w ds vs → Reps g H' w' ds vs
  | _, _, .nil => .nil
  | _, _, .cons h t => .cons (Rep.per p h) (Reps.per p t)
end
end

/-- a dict whose keys are tuples: its entries, with the places where the keys lie -/
def DtO (P : Program) (w : World) (a : Addr) (xs : List (List Key × Addr × Value)) : HO := .ext fun h => ∃ o es ep, h.get? a = some o ∧ o.ExactDict ∧ o.data = .dict es ep ∧ es.toList = xs.map (entryOfKey (tupleKind (mixKind P w)))
/-- an object that stands for a cell -/
def CellO (o : HO) : Prop := (∃ kus, o = .dK kus) ∨ (∃ P w a xs, o = DtO P w a xs) ∨ ∃ a C d, o = exo a C d
theorem CellO.k {kus : List (Key × V)} : CellO (.dK kus) := .inl ⟨kus, rfl⟩
theorem CellO.t {P : Program} {w : World} {a : Addr} {xs : List (List Key × Addr × Value)} : CellO (DtO P w a xs) := .inr (.inl ⟨P, w, a, xs, rfl⟩)
theorem CellO.x {a C : Addr} {d : Option Addr} : CellO (exo a C d) := .inr (.inr ⟨a, C, d, rfl⟩)
theorem CellO.tup {xs : List V} (h : CellO (.tup xs)) : False := by
  rcases h with ⟨_, h⟩ | ⟨_, _, _, _, h⟩ | ⟨_, _, _, h⟩
  · cases h
  · unfold DtO at h; cases h
  · unfold exo at h; cases h
theorem CellO.lst {xs : List V} (h : CellO (.lst xs)) : False := by
  rcases h with ⟨_, h⟩ | ⟨_, _, _, _, h⟩ | ⟨_, _, _, h⟩
  · cases h
  · unfold DtO at h; cases h
  · unfold exo at h; cases h
theorem CellO.frz {o : Obj} {u : HO} (h : CellO (.frz o u)) : False := by
  rcases h with ⟨_, h⟩ | ⟨_, _, _, _, h⟩ | ⟨_, _, _, h⟩
  · cases h
  · unfold DtO at h; cases h
  · unfold exo at h; cases h
theorem CellO.tbl {ps : Array Value} (h : CellO (.tbl ps)) : False := by
  rcases h with ⟨_, h⟩ | ⟨_, _, _, _, h⟩ | ⟨_, _, _, h⟩
  · cases h
  · unfold DtO at h; cases h
  · unfold exo at h; cases h
theorem CellO.code {c : Addr} {q : Str} (h : CellO (LamX.CodeO c q)) : False := by
  rcases h with ⟨_, h⟩ | ⟨P, w, a, xs, h⟩ | ⟨a, C, d, h⟩
  · unfold LamX.CodeO at h; cases h
  · unfold LamX.CodeO DtO at h
    injection h with h
    let ob : Obj := { cls := .type "dict", data := .dict (xs.map (entryOfKey (tupleKind (mixKind P w)))).toArray }
    let hp : Heap := { objs := Array.replicate (a + 1 + c + 1) ob }
    have e : ∀ b, b < a + 1 + c + 1 → hp.get? b = some ob := fun b hb => by
      have e1 : hp.objs[b]? = some ob := by
        show (Array.replicate (a + 1 + c + 1) ob)[b]? = some ob
        rw [Array.getElem?_replicate, if_pos hb]
      unfold Heap.get?
      rw [e1]
    have q := congrFun h hp
    have l : ∃ o es ep, hp.get? a = some o ∧ o.ExactDict ∧ o.data = .dict es ep ∧ es.toList = xs.map (entryOfKey (tupleKind (mixKind P w))) :=
      ⟨ob, _, 0, e a (by show a < a + 1 + c + 1; exact Nat.lt_of_lt_of_le (Nat.lt_succ_self a) (Nat.le_trans (Nat.le_add_right (a + 1) c) (Nat.le_succ _))), ⟨rfl, rfl, rfl⟩, rfl, by simp⟩
    rw [← q] at l
    obtain ⟨oc, vs, t, h1, h2, _⟩ := l
    rw [e c (Nat.lt_succ_of_le (Nat.le_add_left c (a + 1)))] at h1
    cases h1
    cases h2
  · unfold LamX.CodeO exo at h
    injection h with h
    let ob : Obj := { cls := .ref C, dict := d, data := .fields #[.ref 0, .none, .none, .none, .bool false, .none] }
    let hp : Heap := { objs := Array.replicate (a + 1 + c + 1) ob }
    have e : ∀ b, b < a + 1 + c + 1 → hp.get? b = some ob := fun b hb => by
      have e1 : hp.objs[b]? = some ob := by
        show (Array.replicate (a + 1 + c + 1) ob)[b]? = some ob
        rw [Array.getElem?_replicate, if_pos hb]
      unfold Heap.get?
      rw [e1]
    have q := congrFun h hp
    have l : ∃ t1 : Addr, hp.get? a = some ({ cls := .ref C, dict := d, data := .fields #[.ref t1, .none, .none, .none, .bool false, .none] } : Obj) :=
      ⟨0, e a (by show a < a + 1 + c + 1; exact Nat.lt_of_lt_of_le (Nat.lt_succ_self a) (Nat.le_trans (Nat.le_add_right (a + 1) c) (Nat.le_succ _)))⟩
    rw [← q] at l
    obtain ⟨oc, vs, t, h1, h2, h3⟩ := l
    rw [e c (Nat.lt_succ_of_le (Nat.le_add_left c (a + 1)))] at h1
    cases h1
    cases h2
    cases h3
/-- a cell as it lies -/
inductive CellAt (g : G) (H : Hp) (w : Wd) : Cell → Addr → Prop
  | dT {kvs : List (List Key × D)} {xs : List (List Key × Addr × Value)} {us : List V} {a : Addr} (h : H a = some (DtO g.P g.wd a xs)) (n : kvs.length ≤ sizeLine) (sy : (a == sysModules) = false) (nd : (xs.map (·.1)).Nodup)
      (k : kvs.map (·.1) = xs.map (·.1)) (at_ : ∀ x ∈ xs, SqT g.K H x.2.1 (x.1.map kV)) (vr : Vals us (xs.map (·.2.2))) (r : Reps g H w (kvs.map (·.2)) us) : CellAt g H w (.dctT kvs) a
  | ex {ln : List Str} {fs : List (Str × D)} {q : Xc} {d : Option Addr} {kus : List (Str × V)} {a : Addr} (h : H a = some (exo a (He.ga g.K q.c) d)) (dd : ∀ x, d = some x → H x = some (.xd kus)) (d0 : d = none → kus = []) (ok : XcOk g.K g.xi q) (l : ln = q.ln) (n : ∀ p ∈ fs, p.1 ∈ q.fs)
      (k : fs.map (·.1) = kus.map (·.1)) (r : Reps g H w (fs.map (·.2)) (kus.map (·.2))) : CellAt g H w (.exc ln fs) a
  | dct {kvs : List (Key × D)} {kus : List (Key × V)} {a : Addr} (h : H a = some (.dK kus)) (k : kvs.map (·.1) = kus.map (·.1)) (r : Reps g H w (kvs.map (·.2)) (kus.map (·.2))) : CellAt g H w (.dct kvs) a

/-- the tables of code objects stay where another object is written -/
theorem tabs_keep {T : List (Addr × Str)} {H H' : Hp} (t : LamX.Tabs T H) (e : ∀ b o, H b = some o → (∀ xs, o ≠ .lst xs) → ¬ CellO o → H' b = some o) : LamX.Tabs T H' := fun p hp => by
  obtain ⟨ps, h1, h2, h3⟩ := t p hp
  refine ⟨ps, e _ _ h1 (fun _ z => by cases z) CellO.tbl, h2, fun pos cv hc => ?_⟩
  obtain ⟨c, e1, e2⟩ := h3 pos cv hc
  exact ⟨c, e1, e _ _ e2 (fun _ z => by unfold LamX.CodeO at z; cases z) CellO.code⟩
theorem tabs_new {T : List (Addr × Str)} {H : Hp} {p : Addr} {o : HO} (t : LamX.Tabs T H) (h : H p = none) : LamX.Tabs T (upd H p o) := tabs_keep t fun b u q _ _ => by rw [upd_ne (ne_of_none q h)]; exact q
theorem tabs_dct {T : List (Addr × Str)} {H : Hp} {p : Addr} {o u : HO} (t : LamX.Tabs T H) (h : H p = some u) (hu : CellO u) : LamX.Tabs T (upd H p o) := tabs_keep t fun b u q _ n => by
  by_cases hb : b = p
  · rw [hb, h] at q
    cases q
    exact absurd hu n
  · rw [upd_ne hb]; exact q
theorem tabs_lst {T : List (Addr × Str)} {H : Hp} {p : Addr} {o : HO} {vs : List V} (t : LamX.Tabs T H) (h : H p = some (.lst vs)) : LamX.Tabs T (upd H p o) := tabs_keep t fun b u q n _ => by
  by_cases hb : b = p
  · rw [hb, h] at q
    exact absurd (Option.some.inj q).symm (n vs)
  · rw [upd_ne hb]; exact q
structure WOk (g : G) (w : Wd) (H : Hp) (S : Store) : Prop where
  len : w.mu.length = S.length
  nd : w.mu.Nodup
  cell : ∀ (n : Nat) (a : Addr) (c : Cell), w.mu[n]? = some a → S[n]? = some c → CellAt g H w c a
  fz : ∀ a, w.fz a → a ∉ w.mu ∧ ∃ xs, H a = some (.lst xs)
  tab : LamX.Tabs g.T H

theorem WOk.dict {g : G} {w : Wd} {H : Hp} {S : Store} (k : WOk g w H S) {a : Addr} (h : a ∈ w.mu) : ∃ o, H a = some o ∧ CellO o := by
  obtain ⟨n, hn, e⟩ := List.getElem_of_mem h
  have e1 : w.mu[n]? = some a := by rw [List.getElem?_eq_getElem hn, e]
  have hS : n < S.length := by rw [← k.len]; exact hn
  obtain ⟨c, hc⟩ : ∃ c, S[n]? = some c := ⟨_, List.getElem?_eq_getElem hS⟩
  cases k.cell n a c e1 hc with
  | dct h k r => exact ⟨_, h, .k⟩
  | dT h => exact ⟨_, h, .t⟩
  | ex h => exact ⟨_, h, .x⟩
theorem CellO.xd {fs : List (Str × V)} (h : CellO (.xd fs)) : False := by
  rcases h with ⟨_, h⟩ | ⟨_, _, _, _, h⟩ | ⟨_, _, _, h⟩
  · cases h
  · unfold DtO at h; cases h
  · unfold exo at h; cases h
theorem Ext.per {g : G} {w w' : Wd} {H H' : Hp} {S : Store} (e : Ext w H w' H') (k : WOk g w H S) : Per w H w' H' where
  tup := fun a xs h => e.keep a _ h (fun z => by obtain ⟨u, q, c⟩ := k.dict z; rw [q] at h; cases h; exact c.tup) (fun _ z => by cases z)
  frz := fun a o u h => e.keep a _ h (fun z => by obtain ⟨u, q, c⟩ := k.dict z; rw [q] at h; cases h; exact c.frz) (fun _ z => by cases z)
  lst := fun a xs h z => ⟨e.keep a _ h (k.fz a z).1 (fun _ z => by cases z), e.fz a z⟩
  mu := e.mu
  xd := fun a fs h => e.keep a _ h (fun z => by obtain ⟨u, q, c⟩ := k.dict z; rw [q] at h; cases h; exact c.xd) (fun _ z => by cases z)

/-- a new tuple -/
theorem Ext.newT {w : Wd} {H : Hp} {p : Addr} {o : HO} (h : H p = none) : Ext w H w (upd H p o) where
  keep := fun a u q _ _ => by rw [upd_ne (ne_of_none q h)]; exact q
  dom := fun a q => by
    by_cases e : a = p
    · rw [e]; exact h
    · rw [upd_ne e] at q; exact q
  fz := fun _ z => z
  fzn := fun _ z => .inl z
  mu := fun _ _ z => z
  mun := fun _ z => .inl z
/-- a new list that never changes -/
theorem Ext.newL {w : Wd} {H : Hp} {p : Addr} {o : HO} (h : H p = none) : Ext w H { w with fz := fun a => w.fz a ∨ a = p } (upd H p o) where
  keep := fun a u q _ _ => by rw [upd_ne (ne_of_none q h)]; exact q
  dom := fun a q => by
    by_cases e : a = p
    · rw [e]; exact h
    · rw [upd_ne e] at q; exact q
  fz := fun _ z => .inl z
  fzn := fun a z => z.elim .inl fun e => .inr (by rw [e]; exact h)
  mu := fun _ _ z => z
  mun := fun _ z => .inl z
/-- a new cell -/
theorem Ext.newC {w : Wd} {H : Hp} {p : Addr} {o : HO} (h : H p = none) : Ext w H { w with mu := w.mu ++ [p] } (upd H p o) where
  keep := fun a u q _ _ => by rw [upd_ne (ne_of_none q h)]; exact q
  dom := fun a q => by
    by_cases e : a = p
    · rw [e]; exact h
    · rw [upd_ne e] at q; exact q
  fz := fun _ z => z
  fzn := fun _ z => .inl z
  mu := fun n a z => by
    have := (List.getElem?_eq_some_iff.mp z).1
    show (w.mu ++ [p])[n]? = some a
    rw [List.getElem?_append_left this]; exact z
  mun := fun a z => (List.mem_append.mp z).elim .inl fun e => .inr (by rw [List.mem_singleton.mp e]; exact h)
/-- a cell written -/
theorem Ext.put {w : Wd} {H : Hp} {p : Addr} {o : HO} (h : p ∈ w.mu) : Ext w H w (upd H p o) where
  keep := fun a u q n _ => by rw [upd_ne (fun e => n (by rw [e]; exact h))]; exact q
  dom := fun a q => by
    by_cases e : a = p
    · rw [e, upd_same] at q; cases q
    · rw [upd_ne e] at q; exact q
  fz := fun _ z => z
  fzn := fun _ z => .inl z
  mu := fun _ _ z => z
  mun := fun _ z => .inl z

section
variable {g : G} {H H' : Hp} {w w' : Wd} {S S' : Store}
theorem CellAt.per {c : Cell} {a : Addr} (p : Per w H w' H') (k : ∀ o, CellO o → H a = some o → H' a = some o) (h : CellAt g H w c a) : CellAt g H' w' c a := by
  cases h with
  | dct h e r => exact .dct (k _ .k h) e (r.per p)
  | dT h n sy nd e at_ vr r => exact .dT (k _ .t h) n sy nd e (fun x hx => SqT.per p (at_ x hx)) vr (r.per p)
  | ex h dd d0 ok l n e r => exact .ex (k _ .x h) (fun x hx => p.xd _ _ (dd x hx)) d0 ok l n e (r.per p)
theorem WOk.newT {p : Addr} {o : HO} (k : WOk g w H S) (h : H p = none) : WOk g w (upd H p o) S := by
  have P := (Ext.newT (w := w) (o := o) h).per k
  refine ⟨k.len, k.nd, fun n a c e1 e2 => (k.cell n a c e1 e2).per P fun kus _ q => by rw [upd_ne (ne_of_none q h)]; exact q, fun a z => ?_, tabs_new k.tab h⟩
  obtain ⟨h1, xs, h2⟩ := k.fz a z
  exact ⟨h1, xs, by rw [upd_ne (ne_of_none h2 h)]; exact h2⟩
theorem WOk.nmu {p : Addr} (k : WOk g w H S) (h : H p = none) : p ∉ w.mu := fun z => by
  obtain ⟨u, q, _⟩ := k.dict z
  rw [q] at h; cases h
theorem WOk.newL {p : Addr} {vs : List V} (k : WOk g w H S) (h : H p = none) : WOk g { w with fz := fun a => w.fz a ∨ a = p } (upd H p (.lst vs)) S := by
  have P := (Ext.newL (w := w) (o := .lst vs) h).per k
  refine ⟨k.len, k.nd, fun n a c e1 e2 => (k.cell n a c e1 e2).per P fun kus _ q => by rw [upd_ne (ne_of_none q h)]; exact q, fun a z => ?_, tabs_new k.tab h⟩
  rcases z with z | z
  · obtain ⟨h1, xs, h2⟩ := k.fz a z
    exact ⟨h1, xs, by rw [upd_ne (ne_of_none h2 h)]; exact h2⟩
  · rw [z]; exact ⟨k.nmu h, vs, upd_same⟩
theorem WOk.newX {p : Addr} {c0 : Cell} {o : HO} (k : WOk g w H S) (h : H p = none) (r : CellAt g (upd H p o) { w with mu := w.mu ++ [p] } c0 p) :
    WOk g { w with mu := w.mu ++ [p] } (upd H p o) (S ++ [c0]) := by
  have P := (Ext.newC (w := w) (o := o) h).per k
  refine ⟨?_, ?_, fun n a c e1 e2 => ?_, fun a z => ?_, tabs_new k.tab h⟩
  · simp [k.len]
  · exact List.nodup_append.mpr ⟨k.nd, by simp, fun a ha b hb => by
      rw [List.mem_singleton.mp hb]; exact fun q => k.nmu h (by rw [← q]; exact ha)⟩
  · by_cases hn : n < w.mu.length
    · have e1' : w.mu[n]? = some a := by rw [← e1]; exact (List.getElem?_append_left hn).symm
      have e2' : S[n]? = some c := by rw [← e2]; exact (List.getElem?_append_left (by rw [← k.len]; exact hn)).symm
      exact (k.cell n a c e1' e2').per P fun kus _ q => by rw [upd_ne (ne_of_none q h)]; exact q
    · have hn2 : w.mu.length ≤ n := Nat.le_of_not_lt hn
      have e1' : [p][n - w.mu.length]? = some a := by rw [← e1]; exact (List.getElem?_append_right hn2).symm
      have e2' : [c0][n - S.length]? = some c := by rw [← e2]; exact (List.getElem?_append_right (by rw [← k.len]; exact hn2)).symm
      have e0 : n - w.mu.length = 0 := by
        have := (List.getElem?_eq_some_iff.mp e1').1
        simp at this; omega
      rw [e0] at e1'
      rw [← k.len, e0] at e2'
      cases e1'; cases e2'
      exact r
  · obtain ⟨h1, xs, h2⟩ := k.fz a z
    refine ⟨fun z => ?_, xs, by rw [upd_ne (ne_of_none h2 h)]; exact h2⟩
    rcases List.mem_append.mp z with z | z
    · exact h1 z
    · rw [List.mem_singleton.mp z, h] at h2; cases h2
theorem WOk.newC {p : Addr} {kvs : List (Key × D)} {kus : List (Key × V)} (k : WOk g w H S) (h : H p = none) (e : kvs.map (·.1) = kus.map (·.1)) (r : Reps g H w (kvs.map (·.2)) (kus.map (·.2))) :
    WOk g { w with mu := w.mu ++ [p] } (upd H p (.dK kus)) (S ++ [.dct kvs]) := k.newX h (.dct upd_same e (r.per ((Ext.newC (w := w) (o := .dK kus) h).per k)))
theorem WOk.putX {n : Nat} {p : Addr} {c0 : Cell} {o : HO} (k : WOk g w H S) (h : w.mu[n]? = some p) (r : CellAt g (upd H p o) w c0 p) :
    WOk g w (upd H p o) (S.set n c0) := by
  have hm : p ∈ w.mu := List.mem_of_getElem? h
  have P := (Ext.put (H := H) (o := o) hm).per k
  refine ⟨by simp [k.len], k.nd, fun m a c e1 e2 => ?_, fun a z => ?_, by obtain ⟨u, q, c⟩ := k.dict hm; exact tabs_dct k.tab q c⟩
  · by_cases hn : n = m
    · subst hn
      rw [h] at e1; cases e1
      have := (List.getElem?_eq_some_iff.mp e2).1
      rw [List.getElem?_set_self (by simpa using this)] at e2
      cases e2
      exact r
    · rw [List.getElem?_set_ne hn] at e2
      have ne : a ≠ p := fun q => by
        subst q
        exact hn ((List.getElem?_inj (List.getElem?_eq_some_iff.mp h).1 k.nd).mp (h.trans e1.symm))
      exact (k.cell m a c e1 e2).per P fun kus _ q => by rw [upd_ne ne]; exact q
  · obtain ⟨h1, xs, h2⟩ := k.fz a z
    exact ⟨h1, xs, by rw [upd_ne (fun q => h1 (by rw [q]; exact hm))]; exact h2⟩
theorem WOk.put {n : Nat} {p : Addr} {kvs : List (Key × D)} {kus : List (Key × V)} (k : WOk g w H S) (h : w.mu[n]? = some p) (e : kvs.map (·.1) = kus.map (·.1)) (r : Reps g H w (kvs.map (·.2)) (kus.map (·.2))) :
    WOk g w (upd H p (.dK kus)) (S.set n (.dct kvs)) := k.putX h (.dct upd_same e (r.per ((Ext.put (H := H) (o := .dK kus) (List.mem_of_getElem? h)).per k)))
end
end Fx

set_option maxHeartbeats 2000000
/-! Fx2: the small language and what it computes. -/
namespace Fx
open PySem PySem.Spec PyProof.Rows L2

inductive Op where | add | sub | mul | fdiv | mod | pow
  deriving DecidableEq
inductive Cp where | eq | ne | lt | le | gt | ge | is | isn | mem | nin
  deriving DecidableEq
inductive Bi where | len | abs | int | tuple | list | sum | min | max | repr | gcd | all | any | sorted | str
  deriving DecidableEq

/-- expressions, their lists, iterables, targets, statements, blocks -/
inductive N where
  | nil | cons (a b : N)
  | var (i : Nat) | pk (i : Nat) | gl (x : Str)
  | cI (i : Int) | cS (x : Str) | cT (xs : List Str) | cB (b : Bool) | cN
  | tup (es : N) | lst (es : N) | dct (ks : List Str) (vs : N)
  | bin (op : Op) (a b : N) | neg (a : N)
  | cmp (op : Cp) (a b : N) | chn (o o' : Cp) (a b c : N)
  | vand (a b : N) | vor (a b : N) | vnot (a : N)
  | ite (c a b : N)
  | idx (a i : N) | slc (a lo hi : N) | dget (d : N) (k : Str)
  | call (f : Str) (es ks : N) (ix : List Nat) | hear (f : Str) (hs : List (Str × Str)) (e : N) | bi (b : Bi) (es : N) | isi (a : N) (t : String) | callB (f : Str) (es : N)
  | comp (own : List (Str × Nat)) (elt tg it cond : N) | comp2 (own own1 : List (Str × Nat)) (elt tg it cond tg1 it1 cond1 : N) | lrng (a b : N) | dgetE (d k : N) | dhas (neg : Bool) (k d : N) | dnT | dgetT (d k : N) | dhasT (neg : Bool) (k d : N) | dictT (es : N) | sortT (es : N) | rev (a : N) | dcmpT (own : List (Str × Nat)) (k v tg it cond : N) | mkx (c : Str) (ln fs : List Str) (sw : Bool) (es ks : N) | isx (a : N) (c : Str) | fld (a : N) (f : Str)
  -- tests
  | tv (a : N) | tand (a b : N) | tor (a b : N) | tnot (a : N)
  -- iterables
  | seq (a : N) | seqT (a : N) | rng1 (a : N) | rng2 (a b : N) | enum (a : N) | zip (a b : N)
  -- targets
  | tn (i : Nat) | tt (es : N)
  -- statements
  | set (i : Nat) (e : N) | setO (i : Nat) (e : N) | unp (tg e : N) | par (i j : Nat) (a b : N) | par3 (i j l : Nat) (a b c : N)
  | app (i : Nat) (e : N) | dput (d : N) (k : Str) (e : N) | frz (i : Nat)
  | expr (e : N) | ret (e : N) | retN | ifs (c a b : N) | for_ (tg it body : N) | whl (c body : N) | brk | cnt | pass | raise_ (c : Str) (e : N) | tryB (body : N) (c : Str) (b : Bool) | tryA (body : N) (cs : List Str) (b : Bool) | lput (i : Nat) (e v : N) | tryE (i : Nat) (e : N) (c w : Str) (n : Nat) | dputT (d k e : N) | extL (i : Nat) (e : N)

inductive Sl where
  | un | val (d : D) | own (xs : List D) | bor (xs : List D)
abbrev Env := List Sl

inductive Res (α : Type) where
  | ok (a : α) (S : Store)
  | ex (c : Str) (p : D) (S : Store)
  | st
def Res.bind {α β : Type} (r : Res α) (f : α → Store → Res β) : Res β :=
  match r with
  | .ok a S => f a S
  | .ex c p S => .ex c p S
  | .st => .st
@[simp] theorem Res.bind_ok {α β : Type} (a : α) (S : Store) (f : α → Store → Res β) : (Res.ok a S).bind f = f a S := id rfl
@[simp] theorem Res.bind_ex {α β : Type} (c : Str) (p : D) (S : Store) (f : α → Store → Res β) : (Res.ex c p S).bind f = .ex c p S := id rfl
@[simp] theorem Res.bind_st {α β : Type} (f : α → Store → Res β) : (Res.st : Res α).bind f = .st := id rfl
def ofO {α : Type} (o : Option α) (S : Store) : Res α :=
  match o with
  | some a => .ok a S
  | none => .st
@[simp] theorem ofO_some {α : Type} (a : α) (S : Store) : ofO (some a) S = .ok a S := id rfl
@[simp] theorem ofO_none {α : Type} (S : Store) : ofO (none : Option α) S = .st := id rfl

inductive Fl where
  | nx (e : Env) | rt (d : D) | bk (e : Env) | ct (e : Env)

def lim : Nat := 16777216

/-! ### plain data -/
mutual
def D.py : D → Option PyData
  | .non => some .none
  | .bl b => some (.bool b)
  | .int i => some (.int i)
  | .str x => some (.str x)
  | .tup xs => (D.pys xs).map .tuple
  | .lst xs => (D.pys xs).map .list
  | _ => none
def D.pys : List D → Option (List PyData)
  | [] => some []
  | d :: ds => match d.py, D.pys ds with
    | some p, some ps => some (p :: ps)
    | _, _ => none
end

/-! ### operators -/
def mulOk (i j : Int) : Bool := decide (i.natAbs < 2 ^ 64) || decide (j.natAbs < 2 ^ 64) || decide (i.natAbs.log2 + j.natAbs.log2 < 1000000)
def divOk (j : Int) : Bool := decide (j ≠ 0) && decide (j.natAbs.log2 < 9000)
def powOk (i j : Int) : Bool := decide (0 ≤ j) && decide (j ≤ 1000000) && decide (i.natAbs < 2 ^ 64)
def binOp : Op → D → D → Option D
  | .add, .int i, .int j => some (.int (i + j))
  | .add, .lst xs, .lst ys => if xs.length + ys.length ≤ lim then some (.lst (xs ++ ys)) else none
  | .add, .tup xs, .tup ys => if xs.length + ys.length ≤ lim then some (.tup (xs ++ ys)) else none
  | .add, .str x, .str y => if x.length + y.length ≤ lim then some (.str (x ++ y)) else none
  | .sub, .int i, .int j => some (.int (i - j))
  | .mul, .int i, .int j => if mulOk i j then some (.int (i * j)) else none
  | .mul, .int i, .bl b => some (.int (i * (if b = true then 1 else 0)))
  | .mul, .lst xs, .int j => if -(2 ^ 63) ≤ j ∧ j < 2 ^ 63 ∧ xs.length * j.toNat ≤ lim then some (.lst (List.replicate j.toNat xs).flatten) else none
  | .mul, .tup xs, .int 1 => some (.tup xs)
  | .mul, .tup xs, .int 0 => if xs.isEmpty = false ∧ xs.length ≤ 1000 then some (.tup []) else none
  | .mul, .tup xs, .int j => if xs.isEmpty = false ∧ 2 ≤ j ∧ j ≤ 1000 ∧ xs.length ≤ 1000 then some (.tup (List.replicate j.toNat xs).flatten) else none
  | .fdiv, .int i, .int j => if divOk j then some (.int (i.fdiv j)) else none
  | .mod, .int i, .int j => if j ≠ 0 then some (.int (i.fmod j)) else none
  | .pow, .int i, .int j => if powOk i j then some (.int (i ^ j.toNat)) else none
  | _, _, _ => none
def eqD (a b : D) : Option Bool :=
  match a.py, b.py with
  | some x, some y => if SeqAt.shaped x && SeqAt.shaped y then some (PyData.eqv x y) else none
  | _, _ => none
def isNone : D → Bool
  | .non => true
  | _ => false
def strsD : List D → Option (List Str)
  | [] => some []
  | .str x :: ds => (strsD ds).map (x :: ·)
  | _ => none
/-- is it one of them -/
def memD (a : D) (ys : List D) : Option Bool :=
  match a.py, D.pys ys with
  | some p, some ps => if SeqAt.shaped p && SeqAt.shaped (.tuple ps) then some (ps.any fun z => PyData.eqv z p) else none
  | _, _ => none
/-- a letter within a text -/
def hasT (x y : Str) : Option Bool := match x.cps.toList with
  | [c] => some (decide (c ∈ y.cps.toList))
  | _ => none
def intsD : List D → Option (List Int)
  | [] => some []
  | .int i :: ds => (intsD ds).map (i :: ·)
  | _ => none
/-- int tuples: from the first place where they differ on -/
def leI : List Int → List Int → Bool
  | [], _ => true
  | _ :: _, [] => false
  | a :: as, b :: bs => if a = b then leI as bs else decide (a ≤ b)
def cmpOp : Cp → D → D → Option Bool
  | .eq, a, b => eqD a b
  | .ne, a, b => (eqD a b).map (!·)
  | .lt, .int i, .int j => some (decide (i < j))
  | .le, .int i, .int j => some (decide (i ≤ j))
  | .le, .tup xs, .tup ys => (intsD xs).bind fun ns => (intsD ys).map fun ms => leI ns ms
  | .gt, .int i, .int j => some (decide (j < i))
  | .ge, .int i, .int j => some (decide (j ≤ i))
  | .is, a, .non => some (isNone a)
  | .isn, a, .non => some (!isNone a)
  | .mem, .str x, .tup ys => (strsD ys).map fun l => l.any (· == x)
  | .nin, .str x, .tup ys => (strsD ys).map fun l => !l.any (· == x)
  | .mem, .str x, .str y => hasT x y
  | .nin, .str x, .str y => (hasT x y).map (!·)
  | .mem, .tup xs, .tup ys => memD (.tup xs) ys
  | .mem, .int x, .tup ys => memD (.int x) ys
  | .nin, .tup xs, .tup ys => (memD (.tup xs) ys).map (!·)
  | _, _, _ => none
def truthy : D → Option Bool
  | .non => some false
  | .bl b => some b
  | .int i => some (i != 0)
  | .str x => if x.length ≤ lim then some ((x.length : Int) != 0) else none
  | .tup xs => some (!xs.isEmpty)
  | .lst xs => some (!xs.isEmpty)
  | _ => none

/-! ### indexes and slices -/
def ixD (a i : D) : Option D :=
  match a, i with
  | .tup xs, .int k => atI xs k
  | .lst xs, .int k => atI xs k
  | _, _ => none
def cutD (xs : List D) (lo hi : Option Int) : List D := (xs.drop (HT.sIx xs.length 0 lo)).take (HT.sIx xs.length xs.length hi - HT.sIx xs.length 0 lo)
def slD (a : D) (lo hi : Option Int) : Option D :=
  match a with
  | .tup xs => some (.tup (cutD xs lo hi))
  | .lst xs => some (.lst (cutD xs lo hi))
  | _ => none

def keyD : D → Option Key
  | .str x => some (.inr x)
  | .int i => some (.inl i)
  | _ => none
/-! ### dicts whose keys are tuples -/
def getT {α : Type} (kvs : List (List Key × α)) (k : List Key) : Option α := (kvs.find? fun kv => decide (kv.1 = k)).map (·.2)
def setT {α : Type} (kvs : List (List Key × α)) (k : List Key) (d : α) : List (List Key × α) :=
  if (getT kvs k).isSome = true then kvs.map (fun kv => if kv.1 = k then (kv.1, d) else kv) else kvs ++ [(k, d)]
def keysD : List D → Option (List Key)
  | [] => some []
  | d :: ds => match keyD d, keysD ds with
    | some k, some ks => some (k :: ks)
    | _, _ => none
def tkeyD : D → Option (List Key)
  | .tup xs => keysD xs
  | _ => none
def dKey : Key → D
  | .inl i => .int i
  | .inr x => .str x
def dCellT (d : D) (S : Store) : Option (List (List Key × D)) :=
  match d with
  | .ref n => match S[n]? with
    | some (.dctT kvs) => some kvs
    | _ => none
  | _ => none
def dPutT (d k v : D) (S : Store) : Option Store :=
  match d, tkeyD k with
  | .ref n, some ky => match S[n]? with
    | some (.dctT kvs) => if kvs.length < 100000 then some (S.set n (.dctT (setT kvs ky v))) else none
    | _ => none
  | _, _ => none
/-- pairs of a key and a value -/
def pairsT : List D → Option (List (List Key × D))
  | [] => some []
  | .tup [k, v] :: ds => match tkeyD k, pairsT ds with
    | some ky, some ps => some ((ky, v) :: ps)
    | _, _ => none
  | _ => none
def allT {α : Type} (ps : List (List Key × α)) : List (List Key × α) := ps.foldl (fun acc p => setT acc p.1 p.2) []
/-- tuples of ints, by their first, then by what follows -/
def ltI : List Int → List Int → Bool
  | [], [] => false
  | [], _ :: _ => true
  | _ :: _, [] => false
  | a :: as, b :: bs => if a = b then ltI as bs else decide (a < b)
def intsK : List Key → Option (List Int)
  | [] => some []
  | .inl i :: ks => (intsK ks).map (i :: ·)
  | _ => none
/-- keys that are tuples of ints, none empty -/
def keysI {α : Type} : List (List Key × α) → Option (List (List Int))
  | [] => some []
  | p :: ps => match intsK p.1, keysI ps with
    | some (n :: ns), some kk => some ((n :: ns) :: kk)
    | _, _ => none
/-- tuples of ints, none empty -/
def tupsI : List D → Option (List (List Int))
  | [] => some []
  | .tup xs :: ds => match intsD xs, tupsI ds with
    | some (n :: ns), some kk => some ((n :: ns) :: kk)
    | _, _ => none
  | _ => none
def insI (x : List Int) : List (List Int) → List (List Int)
  | [] => [x]
  | y :: ys => if ltI y x then y :: insI x ys else x :: y :: ys
/-- sorted -/
def sortI (xs : List (List Int)) : List (List Int) := xs.foldr insI []

/-! ### own exceptions as values -/
/-- what is stored: the later field ahead -/
def mkF : Bool → List Str → List D → Option (List (Str × D))
  | _, [], [] => some []
  | _, [f], [d] => some [(f, d)]
  | false, [f, f2], [d, d2] => some [(f2, d2), (f, d)]
  | true, [f, f2], [d2, d] => some [(f2, d2), (f, d)]
  | _, _, _ => none
def excOf (d : D) (S : Store) : Option (List Str × List (Str × D)) := match d with
  | .ref n => (match S[n]? with
    | some (.exc ln fs) => some (ln, fs)
    | _ => none)
  | _ => none

/-! ### built-in functions -/
def sumD : Int → List D → Option Int
  | a, [] => some a
  | a, .int i :: ds => sumD (a + i) ds
  | _, _ => none
def reprD (d : D) : Option D :=
  match d.py with
  | some p => if p.showable && decide (p.depth ≤ 64) && decide (p.shown.length ≤ lim) then some (.str p.shown) else none
  | none => none
def allD : List D → Option Bool
  | [] => some true
  | .bl b :: ds => (allD ds).map (b && ·)
  | _ => none
def maxD : List D → Option Int
  | [.int i] => some i
  | .int i :: ds => (maxD ds).map fun j => if j > i then j else i
  | _ => none
def biOp : Bi → List D → Option D
  | .len, [.tup xs] => some (.int xs.length)
  | .len, [.lst xs] => some (.int xs.length)
  | .len, [.str x] => if x.length ≤ lim then some (.int x.length) else none
  | .abs, [.int i] => some (.int (if i < 0 then -i else i))
  | .int, [.int i] => some (.int i)
  | .int, [.bl b] => some (.int (if b then 1 else 0))
  | .tuple, [.tup xs] => some (.tup xs)
  | .tuple, [.lst xs] => some (.tup xs)
  | .list, [.tup xs] => some (.lst xs)
  | .list, [.lst xs] => some (.lst xs)
  | .all, [.lst xs] => (allD xs).map .bl
  | .sum, [.lst xs] => (sumD 0 xs).map .int
  | .min, [.int i, .int j] => some (.int (if j < i then j else i))
  | .max, [.lst xs] => (maxD xs).map .int
  | .max, [.int i, .int j] => some (.int (if j > i then j else i))
  | .gcd, [.int i, .int j] => some (.int ((Nat.gcd i.natAbs j.natAbs : Nat) : Int))
  | .repr, [d] => reprD d
  | .sorted, [.lst xs] => (tupsI xs).map fun ks => .lst ((sortI ks).map fun k => .tup (k.map .int))
  | _, _ => none
def isTy : D → String → Option Bool
  | .non, t => some (t == "NoneType")
  | .bl _, t => some (t == "bool" || t == "int")
  | .int _, t => some (t == "int")
  | .str _, t => some (t == "str")
  | .tup _, t => some (t == "tuple")
  | .lst _, t => some (t == "list")
  | _, _ => none

/-! ### targets -/
def bindT : N → D → Env → Option Env
  | .tn i, d, env => if i < env.length then some (env.set i (.val d)) else none
  | .tt es, .tup ds, env => bindTs es ds env
  | _, _, _ => none
where bindTs : N → List D → Env → Option Env
  | .nil, [], env => some env
  | .cons t r, d :: ds, env => (bindT t d env).bind (bindTs r ds)
  | _, _, _ => none
/-- what a target writes -/
def asgT : N → Nat → Bool
  | .tn i, j => i == j
  | .tt es, j => asgT es j
  | .cons a b, j => asgT a j || asgT b j
  | _, _ => false
def wipeE (env : Env) : List (Str × Nat) → Env
  | [] => env
  | v :: vs => (wipeE env vs).set v.2 .un

/-! ### the store -/
def keyStr (k : Str) : Key := .inr k
def getK {α : Type} (kvs : List (Key × α)) (k : Key) : Option α := (kvs.find? fun kv => decide (kv.1 = k)).map (·.2)
def setK {α : Type} (kvs : List (Key × α)) (k : Key) (d : α) : List (Key × α) :=
  if (kvs.any fun kv => decide (kv.1 = k)) = true then kvs.map (fun kv => if kv.1 = k then (kv.1, d) else kv) else kvs ++ [(k, d)]
def dGet (d : D) (k : Str) (S : Store) : Option D :=
  match d with
  | .ref n => match S[n]? with
    | some (.dct kvs) => getK kvs (keyStr k)
    | _ => none
  | _ => none
def dCell (d : D) (S : Store) : Option (List (Key × D)) :=
  match d with
  | .ref n => match S[n]? with
    | some (.dct kvs) => some kvs
    | _ => none
  | _ => none
def dPut (d : D) (k : Str) (v : D) (S : Store) : Option Store :=
  match d with
  | .ref n => match S[n]? with
    | some (.dct kvs) => if kvs.length < 1000 then some (S.set n (.dct (setK kvs (keyStr k) v))) else none
    | _ => none
  | _ => none

/-- xs[i] = d -/
def putI (xs : List D) (i : Int) (d : D) : Option (List D) := (ixN xs.length i).map fun j => xs.set j d

structure Ev where
  call : Str → List D → Store → Res D
  act : Str → List D → Store → Res D
  wf : Nat

def Res.noex {α : Type} : Res α → Res α
  | .ok a S => .ok a S
  | _ => .st
def compL (f : D → Store → Res (Option D)) : List D → List D → Store → Res (List D)
  | [], acc, S => .ok acc S
  | d :: ds, acc, S => (f d S).noex.bind fun o S => match o with
    | some y => if acc.length < lim then compL f ds (acc ++ [y]) S else .st
    | none => compL f ds acc S
def comp2L (f : D → List D → Store → Res (List D)) : List D → List D → Store → Res (List D)
  | [], acc, S => .ok acc S
  | d :: ds, acc, S => (f d acc S).noex.bind fun acc S => comp2L f ds acc S
def forL (f : D → Env → Store → Res Fl) : List D → Env → Store → Res Fl
  | [], env, S => .ok (.nx env) S
  | d :: ds, env, S => (f d env S).bind fun fl S => match fl with
    | .nx e => forL f ds e S
    | .ct e => forL f ds e S
    | .bk e => .ok (.nx e) S
    | .rt v => .ok (.rt v) S
def whileL (t : Env → Store → Res Bool) (f : Env → Store → Res Fl) : Nat → Env → Store → Res Fl
  | 0, _, _ => .st
  | n + 1, env, S => (t env S).bind fun b S => if b then (f env S).bind fun fl S => match fl with
      | .nx e => whileL t f n e S
      | .ct e => whileL t f n e S
      | .bk e => .ok (.nx e) S
      | .rt v => .ok (.rt v) S
    else .ok (.nx env) S
def pickIx (ix : List Nat) (ds : List D) : Option (List D) := ix.mapM fun i => ds[i]?
def rangeD (a b : Int) : List D := (List.range (b - a).toNat).map fun i => D.int (a + (i : Nat))
def enumD (xs : List D) : List D := (List.range xs.length).zipWith (fun i d => D.tup [.int (i : Nat), d]) xs
def zipD (xs ys : List D) : List D := xs.zipWith (fun x y => D.tup [x, y]) ys
/-- the letters of a text -/
def lettersD : D → Option (List D)
  | .str x => some (x.cps.toList.map fun c => .str ⟨#[c]⟩)
  | _ => none
def seqD : D → Option (List D)
  | .tup xs => some xs
  | .lst xs => some xs
  | _ => none
def rgOk (a b : Int) : Bool := decide (-(2 ^ 62) ≤ a) && decide (a < 2 ^ 62) && decide (-(2 ^ 62) ≤ b) && decide (b < 2 ^ 62) && decide ((b - a).toNat ≤ lim)

section
variable (C : Ev)
mutual
/-- an expression's value -/
def ev : N → Env → Store → Res D
  | .var i, env, S => match env[i]? with
    | some (.val d) => .ok d S
    | _ => .st
  | .pk i, env, S => match env[i]? with
    | some (.val d) => .ok d S
    | some (.own xs) => .ok (.lst xs) S
    | some (.bor xs) => .ok (.lst xs) S
    | _ => .st
  | .cI z, _, S => .ok (.int z) S
  | .cS x, _, S => .ok (.str x) S
  | .cB b, _, S => .ok (.bl b) S
  | .cT xs, _, S => .ok (.tup (xs.map .str)) S
  | .cN, _, S => .ok .non S
  | .tup es, env, S => (evs es env S).bind fun ds S => .ok (.tup ds) S
  | .lst es, env, S => (evs es env S).bind fun ds S => .ok (.lst ds) S
  | .dct ks vs, env, S => (evs vs env S).bind fun ds S => if ks.length = ds.length then .ok (.ref S.length) (S ++ [.dct ((ks.map keyStr).zip ds)]) else .st
  | .bin op a b, env, S => (ev a env S).bind fun x S => (ev b env S).bind fun y S => ofO (binOp op x y) S
  | .neg a, env, S => (ev a env S).bind fun x S => match x with
    | .int i => .ok (.int (-i)) S
    | _ => .st
  | .cmp op a b, env, S => (ev a env S).bind fun x S => (ev b env S).bind fun y S => ofO ((cmpOp op x y).map .bl) S
  | .chn o o' a b c, env, S => (ev a env S).bind fun x S => (ev b env S).bind fun y S => (ofO (cmpOp o x y) S).bind fun k S =>
      if k then (ev c env S).bind fun z S => ofO ((cmpOp o' y z).map .bl) S else .ok (.bl false) S
  | .vand a b, env, S => (ev a env S).bind fun x S => match x with
    | .bl true => ev b env S
    | .bl false => .ok (.bl false) S
    | _ => .st
  | .vor a b, env, S => (ev a env S).bind fun x S => match x with
    | .bl true => .ok (.bl true) S
    | .bl false => ev b env S
    | _ => .st
  | .vnot a, env, S => (ev a env S).bind fun x S => match x with
    | .bl k => .ok (.bl (!k)) S
    | _ => .st
  | .ite c a b, env, S => (evT c env S).bind fun k S => if k then ev a env S else ev b env S
  | .idx a i, env, S => (ev a env S).bind fun x S => (ev i env S).bind fun y S => ofO (ixD x y) S
  | .slc a lo hi, env, S => (ev a env S).bind fun x S => (evO lo env S).bind fun l S => (evO hi env S).bind fun h S => ofO (slD x l h) S
  | .dget d k, env, S => (ev d env S).bind fun x S => ofO (dGet x k S) S
  | .call f es ks ix, env, S => (evs es env S).bind fun ds S => (evs ks env S).bind fun dk S => match pickIx ix (ds ++ dk) with
    | some ds => C.call f ds S
    | none => .st
  | .callB f es, env, S => (evs es env S).bind fun ds S => C.act f ds S
  | .hear _ hs e, env, S => match ev e env S with
    | .ok d S => .ok (.lst [d]) S
    | .ex c p S => match hs.lookup c with
      | some w => .ok (.tup [.str w, p]) S
      | none => .st
    | .st => .st
  | .bi b es, env, S => (evs es env S).bind fun ds S => ofO (biOp b ds) S
  | .isi a t, env, S => (ev a env S).bind fun x S => ofO ((isTy x t).map .bl) S
  | .comp own elt tg it cond, env, S => (evI it env S).bind fun ds S =>
      (compL (fun d S => match bindT tg d (wipeE env own) with
        | none => .st
        | some e => (evT cond e S).bind fun k S => if k then (ev elt e S).bind fun y S => .ok (some y) S else .ok none S) ds [] S).bind fun xs S => .ok (.lst xs) S
  | .comp2 own own1 elt tg it cond tg1 it1 cond1, env, S => (evI it env S).bind fun ds S =>
      (comp2L (fun d acc S => match bindT tg d (wipeE env own) with
        | none => .st
        | some e => (evT cond e S).bind fun k S => if k then (evI it1 e S).bind fun ds1 S =>
            compL (fun d1 S => match bindT tg1 d1 (wipeE e own1) with
              | none => .st
              | some e1 => (evT cond1 e1 S).bind fun k S => if k then (ev elt e1 S).bind fun y S => .ok (some y) S else .ok none S) ds1 acc S
          else .ok acc S) ds [] S).bind fun xs S => .ok (.lst xs) S
  | .lrng a b, env, S => (ev a env S).bind fun x S => (ev b env S).bind fun y S => match x, y with
    | .int i, .int j => if rgOk i j then .ok (.lst (rangeD i j)) S else .st
    | _, _ => .st
  | .dgetE d k, env, S => (ev d env S).bind fun x S => (ev k env S).bind fun y S => ofO ((keyD y).bind fun ky => (dCell x S).bind fun kvs => getK kvs ky) S
  | .dhas neg k d, env, S => (ev k env S).bind fun y S => (ev d env S).bind fun x S => ofO ((keyD y).bind fun ky => (dCell x S).map fun kvs => .bl ((getK kvs ky).isSome != neg)) S
  | .rev a, env, S => (ev a env S).bind fun x S => match x with
    | .tup xs => .ok (.tup xs.reverse) S
    | _ => .st
  | .dcmpT own nk nv tg it cond, env, S => (evI it env S).bind fun ds S =>
      (compL (fun d S2 => match bindT tg d (wipeE env own) with
        | none => .st
        | some e => (evT cond e S2).bind fun k S2 => if k then (ev nk e S2).bind fun y S2 => (ev nv e S2).bind fun v S2 => match dPutT (.ref S.length) y v S2 with
          | some S' => .ok none S'
          | none => .st else .ok none S2) ds [] (S ++ [.dctT []])).bind fun _ S' => .ok (.ref S.length) S'
  | .dnT, _, S => .ok (.ref S.length) (S ++ [.dctT []])
  | .dgetT d k, env, S => (ev d env S).bind fun x S => (ev k env S).bind fun y S => ofO ((tkeyD y).bind fun ky => (dCellT x S).bind fun kvs => getT kvs ky) S
  | .dhasT neg k d, env, S => (ev k env S).bind fun y S => (ev d env S).bind fun x S => ofO ((tkeyD y).bind fun ky => (dCellT x S).map fun kvs => .bl ((getT kvs ky).isSome != neg)) S
  | .dictT es, env, S => (evs es env S).bind fun ds S => match ds with
    | [.lst xs] => match pairsT xs with
      | some ps => if xs.length < 100000 then .ok (.ref S.length) (S ++ [.dctT (allT ps)]) else .st
      | none => .st
    | _ => .st
  | .sortT es, env, S => (evs es env S).bind fun ds S => match ds with
    | [x] => ofO ((dCellT x S).bind fun kvs => (keysI kvs).map fun ks => .lst ((sortI ks).map fun k => .tup (k.map .int))) S
    | _ => .st
  | .mkx _ ln fs sw es ks, env, S => (evs es env S).bind fun ds S => (evs ks env S).bind fun dk S => match mkF sw fs (ds ++ dk) with
    | some l => .ok (.ref S.length) (S ++ [.exc ln l])
    | none => .st
  | .isx a c, env, S => (ev a env S).bind fun x S => ofO ((excOf x S).map fun p => .bl (p.1.contains c)) S
  | .fld a f, env, S => (ev a env S).bind fun x S => ofO ((excOf x S).bind fun p => p.2.lookup f) S
  | _, _, _ => .st
/-- an argument list -/
def evs : N → Env → Store → Res (List D)
  | .nil, _, S => .ok [] S
  | .cons a b, env, S => (ev a env S).bind fun x S => (evs b env S).bind fun xs S => .ok (x :: xs) S
  | _, _, _ => .st
/-- a part of a slice -/
def evO : N → Env → Store → Res (Option Int)
  | .nil, _, S => .ok none S
  | .cons a .nil, env, S => (ev a env S).bind fun x S => match x with
    | .int i => .ok (some i) S
    | _ => .st
  | _, _, _ => .st
/-- a test -/
def evT : N → Env → Store → Res Bool
  | .nil, _, S => .ok true S
  | .cons a _, env, S => evT a env S
  | .tv a, env, S => (ev a env S).bind fun x S => ofO (truthy x) S
  | .tand a b, env, S => (evT a env S).bind fun k S => if k then evT b env S else .ok false S
  | .tor a b, env, S => (evT a env S).bind fun k S => if k then .ok true S else evT b env S
  | .dhas neg k d, env, S => (ev k env S).bind fun y S => (ev d env S).bind fun x S => ofO ((keyD y).bind fun ky => (dCell x S).map fun kvs => (getK kvs ky).isSome != neg) S
  | .tnot a, env, S => (evT a env S).bind fun k S => .ok (!k) S
  | .cmp op a b, env, S => (ev a env S).bind fun x S => (ev b env S).bind fun y S => ofO (cmpOp op x y) S
  | .chn o o' a b c, env, S => (ev a env S).bind fun x S => (ev b env S).bind fun y S => (ofO (cmpOp o x y) S).bind fun k S =>
      if k then (ev c env S).bind fun z S => ofO (cmpOp o' y z) S else .ok false S
  | _, _, _ => .st
/-- what is walked -/
def evI : N → Env → Store → Res (List D)
  | .seq a, env, S => (ev a env S).bind fun x S => ofO (seqD x) S
  | .seqT a, env, S => (ev a env S).bind fun x S => ofO (lettersD x) S
  | .rng1 a, env, S => (ev a env S).bind fun x S => match x with
    | .int n => if rgOk 0 n then .ok (rangeD 0 n) S else .st
    | _ => .st
  | .rng2 a b, env, S => (ev a env S).bind fun x S => (ev b env S).bind fun y S => match x, y with
    | .int i, .int j => if rgOk i j then .ok (rangeD i j) S else .st
    | _, _ => .st
  | .enum a, env, S => (ev a env S).bind fun x S => ofO ((seqD x).map enumD) S
  | .zip a b, env, S => (ev a env S).bind fun x S => (ev b env S).bind fun y S => match seqD x, seqD y with
    | some xs, some ys => .ok (zipD xs ys) S
    | _, _ => .st
  | _, _, _ => .st
end
/-- a statement, a block -/
def exec : N → Env → Store → Res Fl
  | .nil, env, S => .ok (.nx env) S
  | .cons a b, env, S => (exec a env S).bind fun fl S => match fl with
    | .nx e => exec b e S
    | fl => .ok fl S
  | .set i e, env, S => (ev C e env S).bind fun x S => if i < env.length then .ok (.nx (env.set i (.val x))) S else .st
  | .setO i e, env, S => (ev C e env S).bind fun x S => match x with
    | .lst xs => if i < env.length then .ok (.nx (env.set i (.own xs))) S else .st
    | _ => .st
  | .unp tg e, env, S => (ev C e env S).bind fun x S => match bindT tg x env with
    | some e => .ok (.nx e) S
    | none => .st
  | .extL i e, env, S => match env[i]? with
    | some (.own xs) => (ev C e env S).bind fun d S => match d with
      | .lst ys => if xs.length + ys.length ≤ lim then .ok (.nx (env.set i (.own (xs ++ ys)))) S else .st
      | _ => .st
    | _ => .st
  | .par3 i j l a b c, env, S => (ev C a env S).bind fun x S => (ev C b env S).bind fun y S => (ev C c env S).bind fun z S => if i < env.length ∧ j < env.length ∧ l < env.length then .ok (.nx (((env.set i (.val x)).set j (.val y)).set l (.val z))) S else .st
  | .par i j a b, env, S => (ev C a env S).bind fun x S => (ev C b env S).bind fun y S => if i < env.length ∧ j < env.length then .ok (.nx ((env.set i (.val x)).set j (.val y))) S else .st
  | .app i e, env, S => match env[i]? with
    | some (.own xs) => (ev C e env S).bind fun x S => if xs.length < lim then .ok (.nx (env.set i (.own (xs ++ [x])))) S else .st
    | _ => .st
  | .dput d k e, env, S => (ev C e env S).bind fun x S => (ev C d env S).bind fun y S => match dPut y k x S with
    | some S => .ok (.nx env) S
    | none => .st
  | .dputT d k e, env, S => (ev C e env S).bind fun x S => (ev C d env S).bind fun y S => (ev C k env S).bind fun z S => match dPutT y z x S with
    | some S => .ok (.nx env) S
    | none => .st
  | .frz i, env, S => match env[i]? with
    | some (.own xs) => .ok (.nx (env.set i (.val (.lst xs)))) S
    | _ => .ok (.nx env) S
  | .tryB body c b, env, S => match exec body env S with
    | .ok fl S => .ok fl S
    | .ex c' p S => if c' = c then .ok (.rt (.bl b)) S else .st
    | .st => .st
  | .tryA body cs b, env, S => match exec body env S with
    | .ok fl S => .ok fl S
    | .ex c' p S => if c' ∈ cs then .ok (.rt (.bl b)) S else .st
    | .st => .st
  | .tryE i e c w n, env, S => match ev C e env S with
    | .ok d S => if i < env.length then .ok (.nx (env.set i (.val d))) S else .st
    | .ex c' p S => if c' = c ∧ i < env.length ∧ n < env.length ∧ i ≠ n then .ok (.nx ((env.set i (.val (.tup [.str w, p]))).set n .un)) S else .st
    | .st => .st
  | .lput i e v, env, S => (ev C v env S).bind fun x S => match env[i]? with
    | some (.own xs) => (ev C e env S).bind fun y S => match y with
      | .int k => match putI xs k x with
        | some ys => .ok (.nx (env.set i (.own ys))) S
        | none => .st
      | _ => .st
    | _ => .st
  | .raise_ c e, env, S => (ev C e env S).bind fun x S => .ex c x S
  | .expr e, env, S => (ev C e env S).bind fun _ S => .ok (.nx env) S
  | .ret e, env, S => (ev C e env S).bind fun x S => .ok (.rt x) S
  | .retN, _, S => .ok (.rt .non) S
  | .ifs c a b, env, S => (evT C c env S).bind fun k S => if k then exec a env S else exec b env S
  | .for_ tg it body, env, S => (evI C it env S).bind fun ds S => forL (fun d e S => match bindT tg d e with
      | some e => exec body e S
      | none => .st) ds env S
  | .whl c body, env, S => whileL (evT C c) (exec body) C.wf env S
  | .brk, env, S => .ok (.bk env) S
  | .cnt, env, S => .ok (.ct env) S
  | .pass, env, S => .ok (.nx env) S
  | _, _, _ => .st
end
/-- a def: how many parameters, how many names, its body -/
structure Fn where
  np : Nat
  nn : Nat
  body : N
abbrev Tab := Str → Option Fn
def startE (nn : Nat) (ds : List D) : Env := ds.map .val ++ List.replicate (nn - ds.length) .un
def ofFl : Fl → Store → Res D
  | .nx _, S => .ok .non S
  | .rt d, S => .ok d S
  | _, _ => .st
/-- lists that are lent are read, and no more -/
def lent : D → Sl
  | .lst xs => .bor xs
  | d => .val d
def startM (b : Bool) (nn : Nat) (ds : List D) : Env := if b then ds.map lent ++ List.replicate (nn - ds.length) .un else startE nn ds
def callM (T : Tab) (wf : Nat) : Nat → Bool → Str → List D → Store → Res D
  | 0, _, _, _, _ => .st
  | k + 1, b, f, ds, S => match T f with
    | some F => if ds.length = F.np then (exec ⟨callM T wf k false, callM T wf k true, wf⟩ F.body (startM b F.nn ds) S).bind ofFl else .st
    | none => .st
def callF (T : Tab) (wf : Nat) (k : Nat) : Str → List D → Store → Res D := callM T wf k false
end Fx

set_option maxHeartbeats 2000000
/-! Fx3: the state of a body; readings by what the language computes. -/
namespace Fx
open PySem PySem.Spec PyProof.Rows L2

/-- a value that may be read now: data, or a list that its name still owns -/
inductive RepT (g : G) (H : Hp) (w : Wd) : D → V → Prop
  | rep {d : D} {v : V} (h : Rep g H w d v) : RepT g H w d v
  | own {xs : List D} {a : Addr} {vs : List V} (h : H a = some (.lst vs)) (r : Reps g H w xs vs) : RepT g H w (.lst xs) (.ref a)
inductive RepTs (g : G) (H : Hp) (w : Wd) : List D → List V → Prop
  | nil : RepTs g H w [] []
  | cons {d : D} {v : V} {ds : List D} {vs : List V} (h : RepT g H w d v) (t : RepTs g H w ds vs) : RepTs g H w (d :: ds) (v :: vs)
section
variable {g : G} {H H' : Hp} {w w' : Wd} {S : Store}
theorem RepT.ext (k : WOk g w H S) (e : Ext w H w' H') {d : D} {v : V} (h : RepT g H w d v) : RepT g H' w' d v := by
  cases h with
  | rep h => exact .rep (h.per (e.per k))
  | @own xs a vs h r => exact .own (e.keep a _ h (fun z => by obtain ⟨u, q, c⟩ := k.dict z; rw [q] at h; cases h; exact c.lst) (fun _ z => by cases z)) (r.per (e.per k))
theorem RepTs.ext (k : WOk g w H S) (e : Ext w H w' H') : ∀ {ds : List D} {vs : List V}, RepTs g H w ds vs → RepTs g H' w' ds vs
  | _, _, .nil => .nil
  | _, _, .cons h t => .cons (h.ext k e) (RepTs.ext k e t)
theorem Reps.ts : ∀ {ds : List D} {vs : List V}, Reps g H w ds vs → RepTs g H w ds vs
  | _, _, .nil => .nil
  | _, _, .cons h t => .cons (.rep h) (Reps.ts t)
theorem RepT.lst {xs : List D} {v : V} (h : RepT g H w (.lst xs) v) : ∃ a vs, v = .ref a ∧ Rd H a (.lst vs) ∧ Reps g H w xs vs := by
  cases h with
  | rep h => cases h with
    | lst h r => exact ⟨_, _, rfl, h.rd, r⟩
  | own h r => exact ⟨_, _, rfl, .inl h, r⟩
theorem RepT.tup {xs : List D} {v : V} (h : RepT g H w (.tup xs) v) : ∃ a vs, v = .ref a ∧ SqT g.K H a vs ∧ Reps g H w xs vs := by
  cases h with
  | rep h => cases h with
    | tup h r => exact ⟨_, _, rfl, h, r⟩
theorem RepT.int {i : Int} {v : V} (h : RepT g H w (.int i) v) : v = .int i := by
  cases h with
  | rep h => cases h; rfl
theorem RepT.bl {i : Bool} {v : V} (h : RepT g H w (.bl i) v) : v = .bl i := by
  cases h with
  | rep h => cases h; rfl
theorem RepT.str {i : Str} {v : V} (h : RepT g H w (.str i) v) : v = .str i := by
  cases h with
  | rep h => cases h; rfl
theorem RepT.non {v : V} (h : RepT g H w .non v) : v = .non := by
  cases h with
  | rep h => cases h; rfl
theorem Rep.int_ {i : Int} {v : V} (h : Rep g H w (.int i) v) : v = .int i := by cases h; rfl
theorem Rep.bl_ {i : Bool} {v : V} (h : Rep g H w (.bl i) v) : v = .bl i := by cases h; rfl
theorem Rep.non_ {v : V} (h : Rep g H w .non v) : v = .non := by cases h; rfl
theorem Rep.ref_ {n : Nat} {v : V} (h : RepT g H w (.ref n) v) : ∃ a, v = .ref a ∧ w.mu[n]? = some a := by
  cases h with
  | rep h => cases h with
    | ref h => exact ⟨_, rfl, h⟩

/-! ### plain data -/
mutual
theorem Rep.dp : ∀ {d : D} {v : V} {p : PyData}, Rep g H w d v → d.py = some p → Dp g.K H v p
  | .non, _, p, h, e => by cases h; cases e; exact .non
  | .bl b, _, p, h, e => by cases h; cases e; exact .bl b
  | .int i, _, p, h, e => by cases h; cases e; exact .int i
  | .str x, _, p, h, e => by cases h; cases e; exact .str x
  | .tup xs, _, p, h, e => by
    cases h with
    | tup h r =>
      have e' : (D.pys xs).map PyData.tuple = some p := by rw [← e]; rfl
      cases q : D.pys xs with
      | none => rw [q] at e'; cases e'
      | some ps => rw [q] at e'; cases e'; exact .tup h (Reps.dp r q)
  | .lst xs, _, p, h, e => by
    cases h with
    | lst h r =>
      have e' : (D.pys xs).map PyData.list = some p := by rw [← e]; rfl
      cases q : D.pys xs with
      | none => rw [q] at e'; cases e'
      | some ps => rw [q] at e'; cases e'; exact .lst h.sql (Reps.dp r q)
  | .ty _, _, p, h, e => by cases e
  | .ref _, _, p, h, e => by cases e
  | .clo, _, p, h, e => by cases e
theorem Reps.dp : ∀ {ds : List D} {vs : List V} {ps : List PyData}, Reps g H w ds vs → D.pys ds = some ps → DpAll g.K H vs ps
  | [], _, ps, h, e => by cases h; cases e; exact .nil
  | d :: ds, _, ps, h, e => by
    cases h with
    | cons h t =>
      have e' : (match d.py, D.pys ds with | some p, some ps => some (p :: ps) | _, _ => none) = some ps := by rw [← e]; rfl
      cases q : d.py with
      | none => rw [q] at e'; cases e'
      | some p =>
        cases q2 : D.pys ds with
        | none => rw [q, q2] at e'; cases e'
        | some qs => rw [q, q2] at e'; cases e'; exact .cons (Rep.dp h q) (Reps.dp t q2)
end
theorem RepT.dp {d : D} {v : V} {p : PyData} (h : RepT g H w d v) (e : d.py = some p) : Dp g.K H v p := by
  cases h with
  | rep h => exact h.dp e
  | @own xs a vs h r =>
    have e' : (D.pys xs).map PyData.list = some p := by rw [← e]; rfl
    cases q : D.pys xs with
    | none => rw [q] at e'; cases e'
    | some ps => rw [q] at e'; cases e'; exact .lst (SqL.of h) (Reps.dp r q)
end

theorem RepTs.length {g : G} {H : Hp} {w : Wd} : ∀ {ds : List D} {vs : List V}, RepTs g H w ds vs → ds.length = vs.length
  | _, _, .nil => rfl
  | _, _, .cons _ t => congrArg (· + 1) (RepTs.length t)
theorem RepTs.get {g : G} {H : Hp} {w : Wd} : ∀ {ds : List D} {vs : List V} {i : Nat} {d : D}, RepTs g H w ds vs → ds[i]? = some d → ∃ v, vs[i]? = some v ∧ RepT g H w d v
  | _, _, 0, _, .cons r _, h => by
    cases h
    exact ⟨_, rfl, r⟩
  | _, _, i + 1, _, .cons _ t, h => RepTs.get (i := i) t h

/-! ### a body's state -/
/-- the entry of a body -/
structure Frm where
  w0 : Wd
  H0 : Hp
inductive SlAt (g : G) (fr : Frm) (H : Hp) (w : Wd) : Sl → Option V → Prop
  | un {o : Option V} : SlAt g fr H w .un o
  | val {d : D} {v : V} (h : Rep g H w d v) : SlAt g fr H w (.val d) (some v)
  | own {xs : List D} {a : Addr} {vs : List V} (h : H a = some (.lst vs)) (r : Reps g H w xs vs) (nz : ¬ w.fz a) (n0 : fr.H0 a = none) : SlAt g fr H w (.own xs) (some (.ref a))
  | bor {xs : List D} {v : V} (h : RepT g H w (.lst xs) v) (n0 : ∀ a, v = .ref a → fr.H0 a ≠ none) : SlAt g fr H w (.bor xs) (some v)
structure Good (g : G) (fr : Frm) (σ : L2.St) (H : Hp) (w : Wd) (env : Env) (S : Store) : Prop where
  wok : WOk g w H S
  ext : Ext fr.w0 fr.H0 w H
  len : env.length = σ.length
  sl : ∀ (i : Nat) s o, env[i]? = some s → σ[i]? = some o → SlAt g fr H w s o
  sep : ∀ (i j : Nat) (a : Addr) xs ys, i ≠ j → env[i]? = some (.own xs) → env[j]? = some (.own ys) → σ[i]? = some (some (.ref a)) → σ[j]? ≠ some (some (.ref a))
section
variable {g : G} {fr : Frm} {σ : L2.St} {H H' : Hp} {w w' : Wd} {env : Env} {S S' : Store}
theorem SlAt.ext (k : WOk g w H S) (e : Ext w H w' H') {s : Sl} {o : Option V} (h : SlAt g fr H w s o) : SlAt g fr H' w' s o := by
  cases h with
  | un => exact .un
  | val h => exact .val (h.per (e.per k))
  | @own xs a vs h r nz n0 =>
    refine .own (e.keep a _ h (fun z => by obtain ⟨u, q, c⟩ := k.dict z; rw [q] at h; cases h; exact c.lst) (fun _ z => by cases z)) (r.per (e.per k)) (fun z => ?_) n0
    rcases e.fzn a z with z | z
    · exact nz z
    · rw [z] at h; cases h
  | bor h n0 => exact .bor (h.ext k e) n0
theorem Good.step (G : Good g fr σ H w env S) (e : Ext w H w' H') (k : WOk g w' H' S') : Good g fr σ H' w' env S' :=
  ⟨k, G.ext.trans e, G.len, fun i s o e1 e2 => (G.sl i s o e1 e2).ext G.wok e, G.sep⟩
theorem Good.at_ (G : Good g fr σ H w env S) {i : Nat} {s : Sl} (h : env[i]? = some s) : ∃ o, σ[i]? = some o ∧ SlAt g fr H w s o := by
  have hi : i < σ.length := by rw [← G.len]; exact (List.getElem?_eq_some_iff.mp h).1
  exact ⟨σ[i], List.getElem?_eq_getElem hi, G.sl i s _ h (List.getElem?_eq_getElem hi)⟩
theorem Good.val (G : Good g fr σ H w env S) {i : Nat} {d : D} (h : env[i]? = some (.val d)) : ∃ v, σ[i]? = some (some v) ∧ Rep g H w d v := by
  obtain ⟨o, e, q⟩ := G.at_ h
  cases q with
  | val q => exact ⟨_, e, q⟩
theorem Good.own (G : Good g fr σ H w env S) {i : Nat} {xs : List D} (h : env[i]? = some (.own xs)) : ∃ a vs, σ[i]? = some (some (.ref a)) ∧ H a = some (.lst vs) ∧ Reps g H w xs vs ∧ ¬ w.fz a ∧ fr.H0 a = none := by
  obtain ⟨o, e, q⟩ := G.at_ h
  cases q with
  | own h r nz n0 => exact ⟨_, _, e, h, r, nz, n0⟩
theorem Good.readB (G : Good g fr σ H w env S) {i : Nat} {xs : List D} (h : env[i]? = some (.bor xs)) : ∃ v, σ[i]? = some (some v) ∧ RepT g H w (.lst xs) v := by
  obtain ⟨o, e, q⟩ := G.at_ h
  cases q with
  | bor h n0 => exact ⟨_, e, h⟩
theorem Good.readT (G : Good g fr σ H w env S) {i : Nat} {xs : List D} (h : env[i]? = some (.own xs)) : ∃ v, σ[i]? = some (some v) ∧ RepT g H w (.lst xs) v := by
  obtain ⟨a, vs, e, h1, h2, _⟩ := G.own h
  exact ⟨_, e, .own h1 h2⟩
end

/-! ### results -/
def Post {α : Type} (r : Res α) (K : α → Store → Prop) (E : Str → D → Store → Prop) : Prop :=
  match r with
  | .ok a S => K a S
  | .ex c p S => E c p S
  | .st => False
theorem Post.bind {α β : Type} {r : Res α} {f : α → Store → Res β} {K : β → Store → Prop} {E : Str → D → Store → Prop} (h : Post (r.bind f) K E) : Post r (fun a S => Post (f a S) K E) E := by
  cases r <;> exact h
theorem Post.imp {α : Type} {r : Res α} {K K' : α → Store → Prop} {E E' : Str → D → Store → Prop} (h : Post r K E) (k : ∀ a S, K a S → K' a S) (e : ∀ c p S, E c p S → E' c p S) : Post r K' E' := by
  cases r with
  | ok a S => exact k a S h
  | ex c p S => exact e c p S h
  | st => exact h
theorem Post.ofO {α : Type} {o : Option α} {S : Store} {K : α → Store → Prop} {E : Str → D → Store → Prop} (h : Post (ofO o S) K E) : ∃ a, o = some a ∧ K a S := by
  cases o with
  | none => exact h.elim
  | some a => exact ⟨a, rfl, h⟩

/-- an exception as it lies: its class, its own dict -/
def ExcAt (g : G) (H : Hp) (w : Wd) (c : Str) (p : D) (cc : Value) (dd : Option Addr) : Prop :=
  ∃ a, g.mg c = some (.ref a) ∧ cc = .ref a ∧ match g.fld c with
    | some f => ∃ d v, dd = some d ∧ H d = some (.xd [(f, v)]) ∧ Rep g H w p v
    | none => p = .non
def Agree (As : Nat → Bool) (σ σ' : L2.St) (env env' : Env) : Prop := ∀ i, As i = false → env'[i]? = env[i]? ∧ σ'[i]? = σ[i]?
/-- what is wanted of an exception -/
def XP (g : G) (fr : Frm) (W : WX) (σ : L2.St) (env : Env) (As : Nat → Bool) (w : Wd) (H : Hp) : Str → D → Store → Prop := fun c p S =>
  ∀ (w' : Wd) (H' : Hp) (σ' : L2.St) (env' : Env) (cc : Value) (dd : Option Addr), Good g fr σ' H' w' env' S → Per w H w' H' → Agree As σ σ' env env' → ExcAt g H' w' c p cc dd → W cc dd σ' H'
abbrev no : Nat → Bool := fun _ => false
section
variable {g : G} {fr : Frm} {W : WX} {σ : L2.St} {H H1 : Hp} {w w1 : Wd} {env : Env} {S S' : Store} {As : Nat → Bool}
theorem XP.per (p : Per w H w1 H1) {c : Str} {d : D} {S : Store} (h : XP g fr W σ env As w H c d S) : XP g fr W σ env As w1 H1 c d S :=
  fun w' H' σ' env' cc dd G q a x => h w' H' σ' env' cc dd G (p.trans q) a x
end

/-- what is wanted of an exception out of an expression -/
def XX (g : G) (fr : Frm) (W : WX) (σ : L2.St) (env : Env) (w : Wd) (H : Hp) : Str → D → Store → Prop := fun c p S =>
  ∀ (w' : Wd) (H' : Hp) (cc : Value) (dd : Option Addr), Good g fr σ H' w' env S → Ext w H w' H' → ExcAt g H' w' c p cc dd → W cc dd σ H'
section
variable {g : G} {fr : Frm} {W : WX} {σ : L2.St} {H H1 : Hp} {w w1 : Wd} {env : Env} {S S' : Store} {As : Nat → Bool}
theorem XX.ext (e : Ext w H w1 H1) {c : Str} {d : D} {S : Store} (h : XX g fr W σ env w H c d S) : XX g fr W σ env w1 H1 c d S := fun w' H' cc dd G q x => h w' H' cc dd G (e.trans q) x
theorem XP.xx (k : WOk g w H S') {c : Str} {d : D} {S : Store} (h : XP g fr W σ env As w H c d S) : XX g fr W σ env w H c d S := fun w' H' cc dd G q x => h w' H' σ env cc dd G (q.per k) (fun _ _ => ⟨rfl, rfl⟩) x
end

/-- a reading by what is computed -/
def tG {α β : Type} (g : G) (fr : Frm) (W : WX) (r : Env → Store → Res α) (R : Hp → Wd → α → β → Prop) : L2.St → Hp → (β → Hp → Prop) → Prop := fun σ H Q =>
  ∃ w env S, Good g fr σ H w env S ∧ Post (r env S) (fun a S' => ∀ w' H' b, Good g fr σ H' w' env S' → Ext w H w' H' → R H' w' a b → Q b H') (XX g fr W σ env w H)
/-- what goes with a relation that later steps keep -/
def Keeps {α β : Type} (g : G) (R : Hp → Wd → α → β → Prop) : Prop := ∀ (w w' : Wd) (H H' : Hp) (S : Store) a b, WOk g w H S → Ext w H w' H' → R H w a b → R H' w' a b
section
variable {g : G} {fr : Frm} {W : WX} {σ : L2.St} {H : Hp} {α β α' β' γ δ : Type}
theorem tG.imp {r : Env → Store → Res α} {R R' : Hp → Wd → α → β → Prop} {Q : β → Hp → Prop} (h : ∀ H w a b, R' H w a b → R H w a b) (q : tG g fr W r R σ H Q) : tG g fr W r R' σ H Q := by
  obtain ⟨w, env, S, G, P⟩ := q
  exact ⟨w, env, S, G, P.imp (fun a S k w' H' b G' E' r' => k w' H' b G' E' (h _ _ _ _ r')) fun _ _ _ x => x⟩
/-- one part, then the rest -/
theorem tG.one {r1 : Env → Store → Res α} {R1 : Hp → Wd → α → β → Prop} {r2 : α → Store → Res γ} {K : γ → Store → Prop} {w : Wd} {env : Env} {S : Store} {Q : β → Hp → Prop}
    (G0 : Good g fr σ H w env S) (P : Post ((r1 env S).bind r2) K (XX g fr W σ env w H))
    (h : ∀ a S1 w1 H1 b, Good g fr σ H1 w1 env S1 → Ext w H w1 H1 → R1 H1 w1 a b → Post (r2 a S1) K (XX g fr W σ env w1 H1) → Q b H1) : tG g fr W r1 R1 σ H Q :=
  ⟨w, env, S, G0, P.bind.imp (fun a S1 p w1 H1 b G1 E1 R1 => h a S1 w1 H1 b G1 E1 R1 (p.imp (fun _ _ k => k) fun _ _ _ x => x.ext E1)) fun _ _ _ x => x⟩
end
abbrev tE (g : G) (fr : Frm) (W : WX) (C : Ev) (n : N) : TE := tG g fr W (ev C n) (Rep g)
abbrev tP (g : G) (fr : Frm) (W : WX) (C : Ev) (n : N) : TE := tG g fr W (ev C n) (RepT g)
abbrev tAs (g : G) (fr : Frm) (W : WX) (C : Ev) (n : N) : TA := tG g fr W (evs C n) (Reps g)
abbrev tAp (g : G) (fr : Frm) (W : WX) (C : Ev) (n : N) : TA := tG g fr W (evs C n) (RepTs g)
abbrev tOp' (g : G) (fr : Frm) (W : WX) (C : Ev) (n : N) : TO := tG g fr W (evO C n) fun _ _ a b => a = b
abbrev tTs (g : G) (fr : Frm) (W : WX) (C : Ev) (n : N) : TT := tG g fr W (evT C n) fun _ _ a b => a = b
end Fx

set_option maxHeartbeats 2000000
/-! Fx4: does a piece of the small language stand for a piece of the text? -/
namespace Fx
open PySem PySem.Spec PyProof.Rows L2

/-- what is known of the code around: the names by slot, the scope as it is run, the scope as it is written, the module's defs with their parameters, the names that the module does not bind -/
structure Sc where
  N : List Str
  sc : Scope
  own : Scope
  fns : List (Str × List Str)
  free : List Str
  gcd : Bool
  def_ : Bool
  excs : List (Str × Str) := []
  hrs : List (Str × List (Str × Str)) := []
  lam : Bool := false
  cints : List (Str × Int) := []
  cstrs : List (Str × Str) := []
  ctups : List (Str × List Str) := []
  bases : List Str := []
  xcs : List Xc := []
  xis : List Str := []

def visB (s : Sc) (x : Str) : Bool := decide (s.sc.names.lookup x = some .local) || decide (s.sc.names.lookup x = some .cell) || decide (s.sc.names.lookup x = some .free)
def glB (s : Sc) (x : Str) : Bool := decide (s.sc.names.lookup x = some .globalImplicit)
def stB (s : Sc) (x : Str) : Bool := decide (s.own.names.lookup x = some .local) || decide (s.own.names.lookup x = some .cell)
def okN (x : Str) : Bool := !(x == ("__debug__" : Str)) && !(x == ("__classdict__" : Str)) && !decide (x = ("__name__" : Str))
def nmB (s : Sc) (i : Nat) (x : Str) : Bool := decide (s.N[i]? = some x) && visB s x && okN x
def opOf : Op → Operator
  | .add => .Add | .sub => .Sub | .mul => .Mult | .fdiv => .FloorDiv | .mod => .Mod | .pow => .Pow
def cpOf : Cp → CmpOp
  | .eq => .Eq | .ne => .NotEq | .lt => .Lt | .le => .LtE | .gt => .Gt | .ge => .GtE | .is => .Is | .isn => .IsNot | .mem => .In | .nin => .NotIn
def biOf : Bi → Str
  | .len => "len" | .abs => "abs" | .int => "int" | .tuple => "tuple" | .list => "list" | .sum => "sum" | .min => "min" | .max => "max" | .repr => "repr" | .gcd => "gcd"
  | .all => "all" | .any => "any" | .sorted => "sorted" | .str => "str"
def cpPlain : Cp → Bool
  | .mem => false | .nin => false | _ => true
def tyB (t : String) : Bool := ["int", "bool", "str", "tuple", "list"].contains t
def reord (ix : List Nat) (us : List Value) : List Value := ix.filterMap fun i => us[i]?
/-- where each parameter's value stands among the values as they are reckoned -/
def ixOf (ps : List Str) (n : Nat) (ks : List Str) : List Nat := (List.range ps.length).map fun i => if i < n then i else n + ks.findIdx fun k => decide (ps[i]? = some k)
def bindB (ps : List Str) (n : Nat) (ks : List Str) : Bool := decide (n + ks.length = ps.length) && decide ks.Nodup && decide ps.Nodup && (ks.all fun k => (ps.drop n).contains k) && (ps.drop n).all fun z => ks.contains z
def noSlB : Expr → Bool
  | .Slice .. => false
  | _ => true
def notStar : Expr → Bool
  | .Starred .. => false
  | _ => true

/-- the slots that a target writes -/
def tgL : N → List Nat
  | .tn i => [i]
  | .tt es => tgL es
  | .cons a b => tgL a ++ tgL b
  | _ => []
/-- written keys -/
def chkK (ks : List Str) (es : List (Option Expr)) : Bool :=
  match ks, es with
  | [], [] => true
  | k :: ks, some (.Constant (.str y) _ _) :: es => decide (k = y) && chkK ks es
  | _, _ => false

/-- the parameters of a lambda: none, or one whose value is written -/
def lamPs (params : Arguments) : Option (List Str) :=
  if params.posonlyargs.isEmpty && params.vararg.isNone && params.kwonlyargs.isEmpty && params.kwarg.isNone && params.kw_defaults.isEmpty then
    match params.args, params.defaults with
    | [], [] => some []
    | [a], [.Constant (.int _) _ _] => some [a.arg]
    | _, _ => none
  else none
/-- a lambda's names: its parameter, captured ones, globals -/
def lamB (N : List Str) (sc scope : Scope) (params : Arguments) : Bool :=
  (match scope.kind with
    | .function => true
    | _ => false) && !scope.isCoroutine && !scope.isGenerator && (match lamPs params with
    | some ps => (ps.all fun y => decide (scope.names.lookup y = some .local)) && scope.names.all fun y => !decide (y.2 = .cell) && (!decide (y.2 = .local) || !N.contains y.1) && (!decide (y.2 = .free) || decide (sc.names.lookup y.1 = some .cell) || decide (sc.names.lookup y.1 = some .free))
    | none => false)

mutual
/-- an expression; p: it is only read now -/
def chk (s : Sc) (p : Bool) (n : N) (e : Expr) : Bool :=
  match n with
  | .var i => match e with
    | .Name x _ => nmB s i x
    | _ => false
  | .pk i => match e with
    | .Name x _ => p && nmB s i x
    | _ => false
  | .cI z => match e with
    | .Constant (.int y) _ _ => decide (z = y)
    | .Name x _ => glB s x && okN x && decide (s.cints.lookup x = some z)
    | _ => false
  | .cT xs => match e with
    | .Name x _ => glB s x && okN x && decide (s.ctups.lookup x = some xs)
    | _ => false
  | .cS z => match e with
    | .Constant (.str y) _ _ => decide (z = y)
    | .Name x _ => glB s x && okN x && decide (s.cstrs.lookup x = some z)
    | _ => false
  | .cB z => match e with
    | .Constant (.bool y) _ _ => decide (z = y)
    | _ => false
  | .cN => match e with
    | .Constant .none _ _ => true
    | _ => false
  | .tup es => match e with
    | .Tuple xs _ _ => chks s false es xs && decide (xs.length ≤ 1000)
    | _ => false
  | .lst es => match e with
    | .List xs _ => chks s false es xs && decide (xs.length ≤ 1000)
    | _ => false
  | .dct ks vs => match e with
    | .Dict keys xs _ => (ks.isEmpty && keys.isEmpty && xs.isEmpty && chks s false vs xs) || (decide (keys.length = ks.length) && decide (xs.length = ks.length) && chkK ks keys && chks s false vs xs && !ks.isEmpty && decide (ks.length ≤ 15) && decide ks.Nodup)
    | _ => false
  | .bin op a b => match e with
    | .BinOp x o y _ => decide (opOf op = o) && chk s true a x && chk s true b y
    | _ => false
  | .neg a => match e with
    | .UnaryOp .USub x _ => chk s true a x
    | _ => false
  | .cmp op a b => match e with
    | .Compare x [o] [y] _ => decide (cpOf op = o) && !behindInMarks (cpOf op) y && chk s true a x && chk s true b y
    | _ => false
  | .chn o o' a b c => match e with
    | .Compare x [q, q'] [y, z] _ => decide (cpOf o = q) && decide (cpOf o' = q') && cpPlain o && cpPlain o' && chk s true a x && chk s true b y && chk s true c z
    | _ => false
  | .vand a b => match e with
    | .BoolOp .And (x :: y :: r) pos => chk s true a x && (match r with
      | [] => chk s false b y
      | z :: r => chk s false b (.BoolOp .And (y :: z :: r) pos))
    | _ => false
  | .vor a b => match e with
    | .BoolOp .Or (x :: y :: r) pos => chk s true a x && (match r with
      | [] => chk s false b y
      | z :: r => chk s false b (.BoolOp .Or (y :: z :: r) pos))
    | _ => false
  | .vnot a => match e with
    | .UnaryOp .Not x _ => chk s true a x
    | _ => false
  | .ite c a b => match e with
    | .IfExp t x y _ => chkT s c t && chk s false a x && chk s false b y
    | _ => false
  | .idx a i => match e with
    | .Subscript x y _ => noSlB y && chk s true a x && chk s true i y
    | _ => false
  | .slc a lo hi => match e with
    | .Subscript x (.Slice l h none _) _ => chk s true a x && chkO s lo l && chkO s hi h
    | _ => false
  | .dget d k => match e with
    | .Subscript x (.Constant (.str y) _ _) _ => decide (k = y) && chk s true d x
    | _ => false
  | .call f es ks ix => match e with
    | .Call (.Name x _) xs kws _ => decide (f = x) && glB s x && okN x && (match s.fns.lookup x with
      | some ps => chks s false es xs && chkw s ks kws && bindB ps xs.length (kws.filterMap (·.arg)) && decide (ix = ixOf ps xs.length (kws.filterMap (·.arg)))
      | none => false)
    | _ => false
  | .callB f es => match e with
    | .Call (.Name x _) (y :: xs) [] _ => decide (f = x) && glB s x && okN x && (match s.fns.lookup x with
      | some ps => chks s true es (y :: xs) && bindB ps (xs.length + 1) [] && decide (ixOf ps (xs.length + 1) [] = List.range (xs.length + 1))
      | none => false)
    | _ => false
  | .hear f hs e0 => match e with
    | .Call (.Name x _) [.Lambda params body scope _] [] _ => decide (f = x) && glB s x && okN x && s.lam && decide (s.hrs.lookup x = some hs) && lamB s.N s.sc scope params && chk { s with sc := scope, own := scope, def_ := false, lam := false } false e0 body
    | _ => false
  | .comp2 own own1 elt tg it cond tg1 it1 cond1 => match e with
    | .ListComp x [⟨g, y, ifs, 0⟩, ⟨g1, y1, ifs1, 0⟩] scope _ => chkI s true g it y && blkC s.N s.sc scope own && (own1.all fun p => (own.map (·.2)).contains p.2) && ((tgL tg1).all fun i => (own1.map (·.2)).contains i) &&
        chkG { s with sc := relS scope s.sc, own := scope, def_ := false } tg g && chkC { s with sc := relS scope s.sc, own := scope, def_ := false } cond ifs &&
        chkI { s with sc := relS scope s.sc, own := scope, def_ := false } false g1 it1 y1 && chkG { s with sc := relS scope s.sc, own := scope, def_ := false } tg1 g1 &&
        chkC { s with sc := relS scope s.sc, own := scope, def_ := false } cond1 ifs1 && chk { s with sc := relS scope s.sc, own := scope, def_ := false } false elt x
    | _ => false
  | .lrng a b => match e with
    | .Call (.Name l _) [.Call (.Name r _) [y, z] [] _] [] _ => decide (l = ("list" : Str)) && decide (r = ("range" : Str)) && glB s l && glB s r && s.free.contains l && s.free.contains r && notStar y && notStar z && chk s true a y && chk s true b z
    | _ => false
  | .dgetE d k => match e with
    | .Subscript x y _ => noSlB y && chk s true d x && chk s true k y
    | _ => false
  | .dhas neg k d => match e with
    | .Compare x [o] [y] _ => decide ((if neg = true then CmpOp.NotIn else CmpOp.In) = o) && !behindInMarks o y && chk s true k x && chk s true d y
    | _ => false
  | .rev a => match e with
    | .Subscript x (.Slice none none (some (.UnaryOp .USub (.Constant (.int 1) _ _) _)) _) _ => chk s true a x
    | _ => false
  | .dcmpT own nk nv tg it cond => match e with
    | .DictComp kx vx [⟨g, y, ifs, 0⟩] scope _ => chkI s true g it y && blkC s.N s.sc scope own && chkG { s with sc := relS scope s.sc, own := scope, def_ := false } tg g &&
        chkC { s with sc := relS scope s.sc, own := scope, def_ := false } cond ifs && chk { s with sc := relS scope s.sc, own := scope, def_ := false } false nk kx && chk { s with sc := relS scope s.sc, own := scope, def_ := false } false nv vx
    | _ => false
  | .dnT => match e with
    | .Dict [] [] _ => true
    | _ => false
  | .dgetT d k => match e with
    | .Subscript x y _ => noSlB y && chk s true d x && chk s true k y
    | _ => false
  | .dhasT neg k d => match e with
    | .Compare x [o] [y] _ => decide ((if neg = true then CmpOp.NotIn else CmpOp.In) = o) && !behindInMarks o y && chk s true k x && chk s true d y
    | _ => false
  | .dictT es => match e with
    | .Call (.Name x _) [y] [] _ => decide (x = ("dict" : Str)) && glB s x && okN x && s.free.contains x && chks s true es [y]
    | _ => false
  | .sortT es => match e with
    | .Call (.Name x _) [y] [] _ => decide (x = ("sorted" : Str)) && glB s x && okN x && s.free.contains x && chks s true es [y]
    | _ => false
  | .bi b es => match e with
    | .Call (.Name x _) (y :: xs) [] _ => decide (biOf b = x) && glB s x && okN x && (if b = .gcd then s.gcd else s.free.contains x) && chks s true es (y :: xs)
    | _ => false
  | .isi a t => match e with
    | .Call (.Name x _) [y, .Name z _] [] _ => decide (x = ("isinstance" : Str)) && glB s x && s.free.contains x && chk s true a y && glB s z && s.free.contains z && okN z && decide (z = Str.ofString t) && tyB t
    | _ => false
  | .comp own elt tg it cond => match e with
    | .ListComp x [⟨g, y, ifs, 0⟩] scope _ => chkI s true g it y && blkC s.N s.sc scope own && chkG { s with sc := relS scope s.sc, own := scope, def_ := false } tg g &&
        chkC { s with sc := relS scope s.sc, own := scope, def_ := false } cond ifs && chk { s with sc := relS scope s.sc, own := scope, def_ := false } false elt x
    | _ => false
  | .mkx c ln fs sw es ks => match e with
    | .Call (.Name x _) xs kws _ => decide (c = x) && glB s x && okN x && !s.excs.isEmpty && (s.xcs.any fun q => decide (q.c = x) && decide (q.ln = ln) && decide (q.fs = fs)) && chks s false es xs && chkw s ks kws && (match fs, xs, kws with
      | [], [], [] => true
      | [_], [_], [] => true
      | [f], [], [k] => decide (k.arg = some f)
      | [f, f2], [], [k, k2] => if sw then decide (k.arg = some f2) && decide (k2.arg = some f) else decide (k.arg = some f) && decide (k2.arg = some f2)
      | _, _, _ => false)
    | _ => false
  | .isx a c => match e with
    | .Call (.Name x _) [y, .Name z _] [] _ => decide (x = ("isinstance" : Str)) && glB s x && s.free.contains x && chk s true a y && glB s z && okN z && decide (z = c) && (s.xis.contains z || (decide (z = ("ValueError" : Str)) && s.free.contains z))
    | _ => false
  | .fld a f => match e with
    | .Attribute y f' _ => decide (f = f') && chk s true a y && (match y with
      | .Subscript .. => true
      | _ => false)
    | _ => false
  | _ => false
/-- an argument list -/
def chks (s : Sc) (p : Bool) (n : N) (es : List Expr) : Bool :=
  match n with
  | .nil => match es with
    | [] => true
    | _ => false
  | .cons a b => match es with
    | e :: es => notStar e && chk s p a e && chks s p b es
    | _ => false
  | _ => false
/-- the keywords' values -/
def chkw (s : Sc) (n : N) (es : List Keyword) : Bool :=
  match n with
  | .nil => match es with
    | [] => true
    | _ => false
  | .cons a b => match es with
    | ⟨some _, e, _⟩ :: es => chk s false a e && chkw s b es
    | _ => false
  | _ => false
/-- a part of a slice -/
def chkO (s : Sc) (n : N) (e : Option Expr) : Bool :=
  match n with
  | .nil => match e with
    | none => true
    | _ => false
  | .cons a .nil => match e with
    | some e => chk s true a e
    | none => false
  | _ => false
/-- a test -/
def chkT (s : Sc) (n : N) (e : Expr) : Bool :=
  match n with
  | .tv a => (match e with
    | .BoolOp .. => false
    | .UnaryOp .Not _ _ => false
    | .Compare .. => false
    | .IfExp .. => false
    | _ => true) && chk s true a e
  | .tand a b => match e with
    | .BoolOp .And (x :: y :: r) pos => chkT s a x && (match r with
      | [] => chkT s b y
      | z :: r => chkT s b (.BoolOp .And (y :: z :: r) pos))
    | _ => false
  | .tor a b => match e with
    | .BoolOp .Or (x :: y :: r) pos => chkT s a x && (match r with
      | [] => chkT s b y
      | z :: r => chkT s b (.BoolOp .Or (y :: z :: r) pos))
    | _ => false
  | .tnot a => match e with
    | .UnaryOp .Not x _ => chkT s a x
    | _ => false
  | .cmp op a b => match e with
    | .Compare x [o] [y] _ => decide (cpOf op = o) && !behindInMarks (cpOf op) y && chk s true a x && chk s true b y
    | _ => false
  | .chn o o' a b c => match e with
    | .Compare x [q, q'] [y, z] _ => decide (cpOf o = q) && decide (cpOf o' = q') && cpPlain o && cpPlain o' && chk s true a x && chk s true b y && chk s true c z
    | _ => false
  | .dhas neg k d => match e with
    | .Compare x [o] [y] _ => decide ((if neg = true then CmpOp.NotIn else CmpOp.In) = o) && !behindInMarks o y && chk s true k x && chk s true d y
    | _ => false
  | _ => false
/-- the condition of a comprehension -/
def chkC (s : Sc) (n : N) (es : List Expr) : Bool :=
  match n with
  | .nil => match es with
    | [] => true
    | _ => false
  | .cons a .nil => match es with
    | [e] => chkT s a e
    | _ => false
  | _ => false
/-- what is walked, for a target -/
def chkI (s : Sc) (p : Bool) (tg : Expr) (n : N) (e : Expr) : Bool :=
  match n with
  | .seq a => (match e with
    | .Set .. => false
    | _ => true) && chk s p a e
  | .seqT a => (match e with
    | .Set .. => false
    | _ => true) && chk s p a e
  | .rng1 a => match e with
    | .Call (.Name x _) [y] [] _ => decide (x = ("range" : Str)) && glB s x && s.free.contains x && notStar y && chk s true a y
    | _ => false
  | .rng2 a b => match e with
    | .Call (.Name x _) [y, z] [] _ => decide (x = ("range" : Str)) && glB s x && s.free.contains x && notStar y && notStar z && chk s true a y && chk s true b z
    | _ => false
  | .enum a => match e with
    | .Call (.Name x _) [y] [] _ => decide (x = ("enumerate" : Str)) && glB s x && s.free.contains x && notStar y && chk s p a y && (match tg with
      | .Tuple .. => true
      | _ => false)
    | _ => false
  | .zip a b => match e with
    | .Call (.Name x _) [y, z] [] _ => decide (x = ("zip" : Str)) && glB s x && s.free.contains x && notStar y && notStar z && chk s p a y && chk s p b z && (match tg with
      | .Tuple .. => true
      | _ => false)
    | _ => false
  | _ => false
/-- a target -/
def chkG (s : Sc) (n : N) (e : Expr) : Bool :=
  match n with
  | .tn i => match e with
    | .Name x _ => decide (s.N[i]? = some x) && stB s x
    | _ => false
  | .tt es => match e with
    | .Tuple xs _ _ => chkGs s es xs
    | _ => false
  | _ => false
def chkGs (s : Sc) (n : N) (es : List Expr) : Bool :=
  match n with
  | .nil => match es with
    | [] => true
    | _ => false
  | .cons a b => match es with
    | e :: es => (match e with
      | .Name .. => true
      | .Tuple .. => true
      | _ => false) && chkG s a e && chkGs s b es
    | _ => false
  | _ => false
end
end Fx

set_option maxHeartbeats 2000000
/-! Fd1: dicts whose keys are tuples of ints and texts: {}, d[k], k in d, d[k] = v. -/
namespace Fx
open PySem PySem.Spec PyProof.Rows L2
abbrev TK (P : Program) (w : World) := tupleKind (mixKind P w)
abbrev Ent := List Key × Addr × Value
section
variable {X : Cx} {pins : List (Addr × Obj)} {σ : L2.St} {H : Hp} {s : Shared} {a b : Addr} {xs : List Ent} {k : List Key} {E : Value → Shared → Prop} {A : Around}
/-- a tuple that may be read is a key -/
theorem tkey_is (I : Inv X pins σ H s) (h : SqT X.K H b (k.map kV)) : (TK X.prog X.w).is s.heap k b := by
  rcases h with h | ⟨o, its, n, h1, h2, h3, h4, h5⟩
  · obtain ⟨_, its, r, o, h1, h2, n, h3⟩ := (show ObjOk X.prog X.w H s.heap b (.tup (k.map kV)) from h.ok I.hok)
    exact ⟨o, its.toArray, n, h1, h2, h3, by simpa using items_are r⟩
  · exact ⟨o, its, n, I.kIn b o h1, h2, h3, items_are h5⟩
theorem dt_heapH (I : Inv X pins σ H s) (e : H a = some (DtO X.prog X.w a xs)) (nd : (xs.map (·.1)).Nodup) (at_ : ∀ x ∈ xs, SqT X.K H x.2.1 (x.1.map kV)) : s.heap.DictOfH (TK X.prog X.w) a xs := by
  obtain ⟨⟨o, es, ep, h1, h2, h3, h4⟩, _, _⟩ := (show ObjOk X.prog X.w H s.heap a (DtO X.prog X.w a xs) from I.hok a _ e)
  exact ⟨o, es, ep, h1, h2, h3, h4, fun x hx => tkey_is I (at_ x hx), nd⟩
theorem dt_ok {P : Program} {w : World} {h : Heap} {o : Obj} {es : Array DictEntry} {ep : Nat} (h1 : h.get? a = some o) (h2 : o.ExactDict) (h3 : o.data = .dict es ep) (h4 : es.toList = xs.map (entryOfKey (TK P w))) : ObjOk P w H h a (DtO P w a xs) :=
  ⟨⟨o, es, ep, h1, h2, h3, h4⟩, ⟨o, h1⟩, fun g1 g2 ⟨o, es, ep, q1, q2, q3, q4⟩ k => ⟨o, es, ep, k o q1, q2, q3, q4⟩⟩
/-- what a T-dict is where it is used -/
structure DtAt (X : Cx) (H : Hp) (a : Addr) (xs : List Ent) : Prop where
  h : H a = some (DtO X.prog X.w a xs)
  nd : (xs.map (·.1)).Nodup
  at_ : ∀ x ∈ xs, SqT X.K H x.2.1 (x.1.map kV)
  sy : (a == sysModules) = false
  n : xs.length ≤ sizeLine
theorem dt_typeIs (I : Inv X pins σ H s) (d : DtAt X H a xs) : s.TypeIs (.ref a) "dict" := (dt_heapH I d.h d.nd d.at_).typeIs
/-- d[k] -/
def tDGetT (X : Cx) (td ty : TE) : TE := fun σ H Q => td σ H fun x H1 => ty σ H1 fun y H2 => ∃ a b xs k p v, x = .ref a ∧ y = .ref b ∧ DtAt X H2 a xs ∧ SqT X.K H2 b (k.map kV) ∧ atKey xs k = some p ∧ RelV v p.2 ∧ Q v H2
def tDInT (X : Cx) (neg : Bool) (ty td : TE) : TE := fun σ H Q => ty σ H fun y H1 => td σ H1 fun x H2 => ∃ a b xs k, x = .ref a ∧ y = .ref b ∧ DtAt X H2 a xs ∧ SqT X.K H2 b (k.map kV) ∧ Q (.bl ((atKey xs k).isSome != neg)) H2
/-- d[k] = v -/
def sDPutT (X : Cx) (td ty tv : TE) : TS := fun D σ H => tv σ H fun v H1 => td σ H1 fun x H2 => ty σ H2 fun y H3 => ∃ a b xs k, x = .ref a ∧ y = .ref b ∧ DtAt X H3 a xs ∧ SqT X.K H3 b (k.map kV) ∧ ∀ u, RelV v u → D.nx σ (upd H3 a (DtO X.prog X.w a (storedH xs k b u)))
end
section
variable {X : Cx} {o i e value : Expr} {pos pos' tpos : Pos} {td ty tv : TE}
theorem pe_dgetT (hu : X.A.units + 1 < cLine) (ho : PE X o td) (hi : PE X i ty) (hs : NoSl i) : PE X (.Subscript o i pos) (tDGetT X td ty) := by
  refine ⟨fun pins s σ H Q I h => ?_⟩
  refine subD_of PySem.F.slot_dict_getitem.lookup hs (thn (ho.run pins s σ H _ I h) fun u s1 ⟨x, H1, I1, rx, q1⟩ => thn (hi.run pins s1 σ H1 _ I1 q1) fun iv s2 ⟨y, H2, I2, ry, a, b, xs, k, p, v, ex, ey, g, hk, hp, rv, q2⟩ => ?_)
  subst ex ey
  obtain rfl : u = Value.ref a := rx
  obtain rfl : iv = Value.ref b := ry
  exact ⟨dt_typeIs I2 g, wpAny_getItem_heap (tupleKind_room_in1 hu) (tkey_is I2 hk) (dt_heapH I2 g.h g.nd g.at_) hp ⟨v, H2, I2.tok _, rv, q2⟩⟩
theorem pc_dinT (hu : X.A.units + 1 < cLine) (hi : PE X i ty) (ho : PE X o td) (neg : Bool) : PC X (if neg = true then CmpOp.NotIn else CmpOp.In) i o (tDInT X neg ty td) := by
  refine ⟨fun pins s σ H Q I h => ?_⟩
  refine thn (hi.run pins s σ H _ I h) fun iv s1 ⟨y, H1, I1, ry, q1⟩ => thn (ho.run pins s1 σ H1 _ I1 q1) fun u s2 ⟨x, H2, I2, rx, a, b, xs, k, ex, ey, g, hk, q2⟩ => ?_
  subst ex ey
  obtain rfl : u = Value.ref a := rx
  obtain rfl : iv = Value.ref b := ry
  cases neg with
  | true =>
    refine wpAny_notIn_heap (tupleKind_room_in1 hu) (tkey_is I2 hk) g.sy (dt_heapH I2 g.h g.nd g.at_) ⟨.bl (!(atKey xs k).isSome), H2, I2.tok _, rfl, ?_⟩
    have e : ((atKey xs k).isSome != true) = !(atKey xs k).isSome := by cases (atKey xs k).isSome <;> rfl
    rw [e] at q2
    exact q2
  | false =>
    refine wpAny_in_heap (tupleKind_room_in1 hu) (tkey_is I2 hk) g.sy (dt_heapH I2 g.h g.nd g.at_) ⟨.bl (atKey xs k).isSome, H2, I2.tok _, rfl, ?_⟩
    have e : ((atKey xs k).isSome != false) = (atKey xs k).isSome := by cases (atKey xs k).isSome <;> rfl
    rw [e] at q2
    exact q2
theorem ps_dputT (hu : X.A.units + 1 < cLine) (ho : PE X o td) (hi : PE X i ty) (hv : PE X value tv) (hs : swapsWith value (some (.Subscript o i pos')) pos.line X.env = pure false) :
    PS X (.Assign [.Subscript o i pos'] value pos) (sDPutT X td ty tv) := by
  refine ⟨fun pins s σ H D I h => ?_⟩
  refine wpAny_Assign_Subscript (thn (hv.run pins s σ H _ I h) fun r s1 ⟨v, H1, I1, rv, q1⟩ => thn (ho.run pins s1 σ H1 _ I1 q1) fun u s2 ⟨x, H2, I2, rx, q2⟩ => thn (hi.run pins s2 σ H2 _ I2 q2) fun iv s3 ⟨y, H3, I3, ry, a, b, xs, k, ex, ey, g, hk, q3⟩ => ?_) hs
  subst ex ey
  obtain rfl : u = Value.ref a := rx
  obtain rfl : iv = Value.ref b := ry
  refine wpAny_setItem_heap (hsz := g.n) (tupleKind_room_in1 hu) (tkey_is I3 hk) (dt_heapH I3 g.h g.nd g.at_) fun h' dd' hs => ?_
  obtain ⟨q, es, ep, hq, h2, h3, h4, _, h5⟩ := dd'
  exact ⟨σ, _, d_write I3 (by rw [g.h]; exact True.intro) hs ⟨q, hq⟩ (dt_ok hq h2 h3 h4), q3 r rv⟩
/-- {} -/
def tDNewTT (X : Cx) : TE := fun _ H Q => ∀ p, H p = none → (p == sysModules) = false → Q (.ref p) (upd H p (DtO X.prog X.w p []))
theorem pe_dnewTT : PE X (.Dict [] [] pos) (tDNewTT X) := ⟨fun pins s σ H Q I h =>
  wpAny_Dict_empty ⟨.ref s.heap.objs.size, _, I.laid (a := s.heap.objs.size) (o := DtO X.prog X.w s.heap.objs.size []) (t' := s.toks) (fun _ _ q => Heap.get?_push_of_some _ q) (Nat.le_refl _) (dt_ok (es := #[]) (ep := 0) (Heap.get?_push_size _ rfl) ⟨rfl, rfl, rfl⟩ rfl rfl), rfl,
    h _ (I.hok.fresh (Nat.le_refl _)) (beq_eq_false_iff_ne.mpr (Ne.symm (Nat.ne_of_lt I.big)))⟩⟩
end
end Fx

set_option maxHeartbeats 2000000
/-! Fd2: sorted of tuples of ints: a list of them, a dict with such keys. -/
namespace Fx
open PySem PySem.Spec PyProof.Rows L2 SrtO
theorem ltI_irrefl : ∀ x : List Int, ltI x x = false
  | [] => rfl
  | a :: as => by
    show (if a = a then ltI as as else decide (a < a)) = false
    rw [if_pos rfl, ltI_irrefl]
theorem ltI_asym : ∀ x y : List Int, ltI x y = true → ltI y x = false
  | [], [], h => by cases h
  | [], _ :: _, _ => rfl
  | _ :: _, [], h => by cases h
  | a :: as, b :: bs, h => by
    have h : (if a = b then ltI as bs else decide (a < b)) = true := h
    show (if b = a then ltI bs as else decide (b < a)) = false
    by_cases e : a = b
    · rw [if_pos e] at h
      rw [if_pos e.symm]
      exact ltI_asym as bs h
    · rw [if_neg e, decide_eq_true_eq] at h
      rw [if_neg (fun z => e z.symm), decide_eq_false_iff_not]
      omega
theorem ltI_tr : ∀ x y z : List Int, ltI y x = false → ltI z y = false → ltI z x = false
  | [], _, [], _, _ => rfl
  | _ :: _, [], [], h, _ => by cases h
  | _ :: _, _ :: _, [], _, h => by cases h
  | [], _, _ :: _, _, _ => rfl
  | x :: xs, [], _ :: _, h, _ => by cases h
  | x :: xs, y :: ys, z :: zs, h1, h2 => by
    have h1 : (if y = x then ltI ys xs else decide (y < x)) = false := h1
    have h2 : (if z = y then ltI zs ys else decide (z < y)) = false := h2
    show (if z = x then ltI zs xs else decide (z < x)) = false
    by_cases e1 : y = x
    · rw [if_pos e1] at h1
      by_cases e2 : z = y
      · rw [if_pos e2] at h2
        rw [if_pos (e2.trans e1)]
        exact ltI_tr xs ys zs h1 h2
      · rw [if_neg e2, decide_eq_false_iff_not] at h2
        rw [if_neg (by omega), decide_eq_false_iff_not]
        omega
    · rw [if_neg e1, decide_eq_false_iff_not] at h1
      by_cases e2 : z = y
      · rw [if_neg (by omega), decide_eq_false_iff_not]
        omega
      · rw [if_neg e2, decide_eq_false_iff_not] at h2
        rw [if_neg (by omega), decide_eq_false_iff_not]
        omega
theorem ltI_anti : ∀ x y : List Int, ltI x y = false → ltI y x = false → x = y
  | [], [], _, _ => rfl
  | [], _ :: _, h, _ => by cases h
  | _ :: _, [], _, h => by cases h
  | a :: as, b :: bs, h1, h2 => by
    have h1 : (if a = b then ltI as bs else decide (a < b)) = false := h1
    have h2 : (if b = a then ltI bs as else decide (b < a)) = false := h2
    by_cases e : a = b
    · rw [if_pos e] at h1
      rw [if_pos e.symm] at h2
      rw [e, ltI_anti as bs h1 h2]
    · rw [if_neg e, decide_eq_false_iff_not] at h1
      rw [if_neg (fun z => e z.symm), decide_eq_false_iff_not] at h2
      omega
abbrev LeI (x y : List Int) : Prop := ltI y x = false
theorem insI_perm (x : List Int) : ∀ l : List (List Int), (insI x l).Perm (x :: l)
  | [] => List.Perm.refl _
  | y :: ys => by
    unfold insI
    split
    · exact ((insI_perm x ys).cons y).trans (List.Perm.swap x y ys)
    · exact List.Perm.refl _
theorem sortI_perm : ∀ l : List (List Int), (sortI l).Perm l
  | [] => List.Perm.refl _
  | x :: l => (insI_perm x (sortI l)).trans ((sortI_perm l).cons x)
theorem insI_sorted (x : List Int) : ∀ l : List (List Int), l.Pairwise LeI → (insI x l).Pairwise LeI
  | [], _ => List.pairwise_singleton _ _
  | y :: ys, h => by
    obtain ⟨h1, h2⟩ := List.pairwise_cons.mp h
    unfold insI
    cases hy : ltI y x with
    | true =>
      simp only [if_true]
      refine List.pairwise_cons.mpr ⟨fun z hz => ?_, insI_sorted x ys h2⟩
      rcases List.mem_cons.mp ((insI_perm x ys).mem_iff.mp hz) with rfl | hz
      · exact ltI_asym _ _ hy
      · exact h1 z hz
    | false =>
      simp only [Bool.false_eq_true, if_false]
      refine List.pairwise_cons.mpr ⟨fun z hz => ?_, h⟩
      rcases List.mem_cons.mp hz with rfl | hz
      · exact hy
      · exact ltI_tr x y z hy (h1 z hz)
theorem sortI_sorted : ∀ l : List (List Int), (sortI l).Pairwise LeI
  | [] => List.Pairwise.nil
  | x :: l => insI_sorted x _ (sortI_sorted l)
theorem sorted_uniq : ∀ {l m : List (List Int)}, l.Pairwise LeI → m.Pairwise LeI → l.Perm m → l = m
  | [], m, _, _, h => (List.nil_perm.mp h).symm ▸ rfl
  | x :: l, [], _, _, h => absurd h.length_eq (by simp)
  | x :: l, y :: m, h1, h2, h => by
    obtain ⟨a1, a2⟩ := List.pairwise_cons.mp h1
    obtain ⟨b1, b2⟩ := List.pairwise_cons.mp h2
    have e : x = y := by
      rcases List.mem_cons.mp (h.mem_iff.mp List.mem_cons_self) with e | hx
      · exact e
      · rcases List.mem_cons.mp (h.mem_iff.mpr List.mem_cons_self) with e | hy
        · exact e.symm
        · exact ltI_anti x y (b1 x hx) (a1 y hy)
    subst e
    rw [sorted_uniq a2 b2 (List.perm_cons x |>.mp h)]
theorem sortI_of {l m : List (List Int)} (h1 : l.Pairwise LeI) (h : l.Perm m) : l = sortI m := sorted_uniq h1 (sortI_sorted m) (h.trans (sortI_perm m).symm)
theorem sortI_congr {l m : List (List Int)} (h : l.Perm m) : sortI l = sortI m := sortI_of (sortI_sorted l) ((sortI_perm l).trans h)
/-! ### on the heap -/
def TupI (h : Heap) (v : Value) (ns : List Int) : Prop := ∃ b o its n, v = .ref b ∧ h.get? b = some o ∧ o.cls = .type "tuple" ∧ o.data = .seq its n ∧ Vals (ns.map V.int) its.toList
theorem TupI.keeps {h h' : Heap} {v : Value} {ns : List Int} (p : TupI h v ns) (k : ∀ b o, h.get? b = some o → o.cls = .type "tuple" → h'.get? b = some o) : TupI h' v ns := by
  obtain ⟨b, o, its, n, e, ho, hc, hd, hv⟩ := p
  exact ⟨b, o, its, n, e, k b o ho hc, hc, hd, hv⟩
section
variable {prog : Program} {w : World} {A : Around} {s : Shared} {E : Value → Shared → Prop}
theorem lex_ints {fin : Bool} : ∀ {xs ys : List Int} {us vs : List Value} (i : Nat), Vals (xs.map V.int) us → Vals (ys.map V.int) vs → (∀ m : Nat, xs.length ≤ m → ys.length ≤ m → True) → fin = decide (us.length + i < vs.length + i) →
    PySem.W.KatLex prog w A true fin (fun r s' => s' = s ∧ r = ltI xs ys) (us.zip vs) i s
  | [], [], _, _, i, .nil, .nil, _, hf => PySem.W.kat_nil ⟨rfl, by rw [hf]; simp; rfl⟩
  | [], y :: ys, _, _, i, .nil, .cons r t, _, hf => PySem.W.kat_nil ⟨rfl, by rw [hf]; simp; rfl⟩
  | x :: xs, [], _, _, i, .cons r t, .nil, _, hf => PySem.W.kat_nil ⟨rfl, by rw [hf]; exact decide_eq_false (by simp only [List.length_cons, List.length_nil]; omega)⟩
  | x :: xs, y :: ys, _, _, i, .cons (b := u) r t, .cons (b := v) r' t', _, hf => by
    obtain ⟨a, rfl⟩ := (show ∃ t, u = Value.int x t from r)
    obtain ⟨b, rfl⟩ := (show ∃ t, v = Value.int y t from r')
    rw [List.zip_cons_cons]
    have ih := fun e : x = y => lex_ints (fin := fin) (i + 1) t t' (fun _ _ _ => trivial) (by rw [hf]; simp only [List.length_cons]; congr 1; rw [eq_iff_iff]; omega)
    refine PySem.W.kat_cons (SeqAt.EqAt.int_int x a y b prog w _ _ ?_)
    refine PySem.W.kat_go (fun e1 => ?_) (fun e1 => ?_)
    · have ex : x = y := by simpa using e1
      have e2 : ltI (x :: xs) (y :: ys) = ltI xs ys := if_pos ex
      rw [e2]
      exact PySem.W.kat_yes (ih ex)
    · have ex : ¬ x = y := by simpa using e1
      have e2 : ltI (x :: xs) (y :: ys) = decide (x < y) := if_neg ex
      rw [e2]
      exact PySem.W.kat_no (TS.oneLt_ints _ ⟨rfl, rfl⟩)
theorem tups_firsts {h : Heap} : ∀ {vs : List Value} {k : Value → List Int}, (∀ v ∈ vs, TupI h v (k v) ∧ k v ≠ []) → ∃ fs : List Value, PySem.W.KatTups h vs fs ∧ fs.length = vs.length ∧ ∀ f ∈ fs, ∃ x t, f = Value.int x t
  | [], _, _ => ⟨[], PySem.W.KatTups.nil, rfl, fun _ hm => by cases hm⟩
  | v :: vs, k, hp => by
    obtain ⟨fs, h1, h2, h3⟩ := tups_firsts (vs := vs) (k := k) fun u hm => hp u (List.mem_cons_of_mem _ hm)
    obtain ⟨⟨b, o, its, n, e, ho, hc, hd, hv⟩, ne⟩ := hp v List.mem_cons_self
    generalize k v = ns at hv ne
    cases ns with
    | nil => exact absurd rfl ne
    | cons x xs =>
      subst e
      obtain ⟨ls⟩ := its
      cases hv with
      | @cons _ f _ us r t =>
        obtain ⟨tk, rfl⟩ := (show ∃ t, f = Value.int x t from r)
        refine ⟨.int x tk :: fs, PySem.W.KatTups.cons ho hc hd rfl h1, by rw [List.length_cons, List.length_cons, h2], fun g hm => ?_⟩
        rcases List.mem_cons.mp hm with rfl | hm
        · exact ⟨x, tk, rfl⟩
        · exact h3 g hm
theorem swo_ltI (k : Value → List Int) : Swo fun v u => ltI (k v) (k u) := ⟨fun x y h => ltI_asym _ _ h, fun x y z h1 h2 => ltI_tr _ _ _ h1 h2⟩
theorem vals_len : ∀ {ns : List Int} {us : List Value}, Vals (ns.map V.int) us → us.length = ns.length
  | [], _, .nil => rfl
  | n :: ns, _, .cons r t => by rw [List.length_cons, List.length_cons, vals_len t]
theorem tups_cmp {vs : List Value} {k : Value → List Int} (hp : ∀ v ∈ vs, TupI s.heap v (k v)) : Cmp prog w A s (tuples' true) (fun p => p.1 ∈ vs) (lt2 fun v u => ltI (k v) (k u)) := by
  intro p q hm hm'
  obtain ⟨b, o, its, n, e, ho, hc, hd, hv⟩ := hp _ hm
  obtain ⟨b', o', its', n', e', ho', hc', hd', hv'⟩ := hp _ hm'
  show wpAny (model prog w) A (keyLt' (tuples' true) p.1 q.1) (fun r s' => s' = s ∧ r = ltI (k p.1) (k q.1)) (fun _ _ => False) s
  generalize k p.1 = ns at hv ⊢
  generalize k q.1 = ms at hv' ⊢
  rw [e, e']
  refine PySem.W.kat_lt ho hd ho' hd' (lex_ints 0 hv hv' (fun _ _ _ => trivial) ?_)
  rw [Array.length_toList, Array.length_toList]
  rfl
theorem tups_sortable {a : Addr} {vs : List Value} {k : Value → List Int} (h0 : 0 < vs.length) (hp : ∀ v ∈ vs, TupI s.heap v (k v) ∧ k v ≠ []) (ha : ∀ o, s.heap.get? a = some o → o.cls ≠ .type "tuple") : SortableO prog w A s a vs fun v u => ltI (k v) (k u) := by
  intro h' keep
  have hp' : ∀ v ∈ vs, TupI h' v (k v) ∧ k v ≠ [] := fun v hm => ⟨(hp v hm).1.keeps fun b o e c => keep b o (fun z => by subst z; exact ha o e c) e, (hp v hm).2⟩
  obtain ⟨fs, h1, h2, h3⟩ := tups_firsts hp'
  refine ⟨tuples' true, fun Q E hq => ?_, tups_cmp fun v hm => (hp' v hm).1⟩
  refine PySem.W.kat_kind (T := .type "int") h1 (by omega) (fun f hm => ?_) (by rfl) ?_
  · obtain ⟨x, t, rfl⟩ := h3 f hm
    exact PySem.W.Looks.now
  · have e : (Value.type "int" != Value.type "tuple") = true := by first | decide +kernel | rfl | decide
    rw [e]
    exact hq
end
section
variable {X : Cx}
theorem tupI_of {pins : List (Addr × Obj)} {σ : L2.St} {H : Hp} {s : Shared} {b : Addr} {ns : List Int} (I : Inv X pins σ H s) (h : SqT X.K H b (ns.map V.int)) : TupI s.heap (.ref b) ns := by
  rcases h with h | ⟨o, its, n, h1, h2, h3, h4, h5⟩
  · obtain ⟨_, its, r, o, h1, h2, n, h3⟩ := (show ObjOk X.prog X.w H s.heap b (.tup (ns.map V.int)) from h.ok I.hok)
    exact ⟨b, o, its.toArray, n, rfl, h1, h2, h3, by simpa using r⟩
  · exact ⟨b, o, its, n, rfl, I.kIn b o h1, h2, h3, h5⟩
/-- what sorting leaves -/
theorem sorted_bs {K : PySem.W.Frag} {H : Hp} {bs : List Addr} {k : Value → List Int} (hb : ∀ b ∈ bs, SqT K H b ((k (.ref b)).map V.int)) {out : List Value} (hs : Srtd (fun v u => ltI (k v) (k u)) out) (hp : out.Perm (bs.map Value.ref)) :
    ∃ cs : List Addr, out = cs.map Value.ref ∧ Paired (fun ns c => SqT K H c (ns.map V.int)) (sortI (bs.map fun b => k (.ref b))) cs := by
  have all : ∀ (l : List Value), (∀ v ∈ l, ∃ b ∈ bs, v = .ref b) → ∃ cs : List Addr, l = cs.map Value.ref ∧ (∀ c ∈ cs, c ∈ bs) := by
    intro l
    induction l with
    | nil => exact fun _ => ⟨[], rfl, fun c h => by cases h⟩
    | cons v l ih =>
      intro h
      obtain ⟨b, hb, rfl⟩ := h v List.mem_cons_self
      obtain ⟨cs, rfl, hc⟩ := ih fun u hu => h u (List.mem_cons_of_mem _ hu)
      refine ⟨b :: cs, rfl, fun c hc' => ?_⟩
      rcases List.mem_cons.mp hc' with rfl | hc'
      · exact hb
      · exact hc c hc'
  obtain ⟨cs, rfl, hc⟩ := all out fun v hv => by
    obtain ⟨b, hb, rfl⟩ := List.mem_map.mp (hp.mem_iff.mp hv)
    exact ⟨b, hb, rfl⟩
  refine ⟨cs, rfl, ?_⟩
  have e : cs.map (fun c => k (.ref c)) = sortI (bs.map fun b => k (.ref b)) := by
    refine sortI_of ?_ ?_
    · have h : (cs.map Value.ref).Pairwise (fun x y => ltI (k y) (k x) = false) := hs
      rw [List.pairwise_map] at h
      rw [List.pairwise_map]
      exact h
    · have := hp.map k
      rw [List.map_map, List.map_map] at this
      exact this
  rw [← e]
  have hc' : ∀ c ∈ cs, SqT K H c ((k (.ref c)).map V.int) := fun c h => hb c (hc c h)
  clear e hp hs hc
  induction cs with
  | nil => exact .nil
  | cons c cs ih => exact .cons (hc' c List.mem_cons_self) (ih fun d hd => hc' d (List.mem_cons_of_mem _ hd))
theorem pick_k {h : Heap} (bs : List Addr) (kk : List (List Int)) (hp : Paired (fun ns b => TupI h (.ref b) ns) kk bs) : ∃ k : Value → List Int, bs.map (fun b => k (.ref b)) = kk := by
  classical
  refine ⟨fun v => if h' : ∃ ns, TupI h v ns then Classical.choose h' else [], ?_⟩
  have inj : ∀ v ns ms, TupI h v ns → TupI h v ms → ns = ms := by
    intro v ns ms ⟨b, o, its, n, e, ho, hc, hd, hv⟩ ⟨b', o', its', n', e', ho', hc', hd', hv'⟩
    subst e
    cases e'
    rw [ho] at ho'; cases ho'
    rw [hd] at hd'; cases hd'
    generalize its.toList = us at hv hv'
    clear ho hc hd
    induction ns generalizing ms us with
    | nil => cases hv; cases ms with
      | nil => rfl
      | cons m ms => cases hv'
    | cons x xs ih =>
      cases hv with
      | cons r t => cases ms with
        | nil => cases hv'
        | cons m ms => cases hv' with
          | cons r' t' =>
            rename_i u us
            obtain ⟨t1, e1⟩ := (show ∃ t, u = Value.int x t from r)
            obtain ⟨t2, e2⟩ := (show ∃ t, u = Value.int m t from r')
            rw [e1] at e2
            cases e2
            rw [ih ms us t t']
  induction hp with
  | nil => rfl
  | @cons ns b kk bs hh t ih =>
    rw [List.map_cons, ih]
    congr 1
    have ex : ∃ ns, TupI h (.ref b) ns := ⟨ns, hh⟩
    show (if h' : ∃ ns, TupI h (.ref b) ns then Classical.choose h' else []) = ns
    rw [dif_pos ex]
    exact inj _ _ _ (Classical.choose_spec ex) hh
theorem paired_mem {α β : Type} {F : α → β → Prop} {l : List α} {m : List β} (h : Paired F l m) : ∀ b ∈ m, ∃ a ∈ l, F a b := by
  induction h with
  | nil => intro b hb; cases hb
  | cons r t ih =>
    intro b hb
    rcases List.mem_cons.mp hb with rfl | hb
    · exact ⟨_, List.mem_cons_self, r⟩
    · obtain ⟨a, ha, q⟩ := ih b hb
      exact ⟨a, List.mem_cons_of_mem _ ha, q⟩
theorem paired_map {α β : Type} {F G : α → β → Prop} {l : List α} {m : List β} (h : Paired F l m) (k : ∀ a ∈ l, ∀ b ∈ m, F a b → G a b) : Paired G l m := by
  induction h with
  | nil => exact .nil
  | cons r t ih => exact .cons (k _ List.mem_cons_self _ List.mem_cons_self r) (ih fun a ha b hb => k a (List.mem_cons_of_mem _ ha) b (List.mem_cons_of_mem _ hb))
/-- what all sorting needs -/
theorem sort_keys {pins : List (Addr × Obj)} {σ : L2.St} {H : Hp} {s : Shared} {bs : List Addr} {kk : List (List Int)} (I : Inv X pins σ H s) (hb : Paired (fun ns b => SqT X.K H b (ns.map V.int)) kk bs) (hn : ∀ ns ∈ kk, ns ≠ []) :
    ∃ k : Value → List Int, bs.map (fun b => k (.ref b)) = kk ∧ (∀ v ∈ bs.map Value.ref, TupI s.heap v (k v) ∧ k v ≠ []) ∧ ∀ b ∈ bs, SqT X.K H b ((k (.ref b)).map V.int) := by
  obtain ⟨k, hk⟩ := pick_k (h := s.heap) bs kk (paired_map hb fun ns _ b _ q => tupI_of I q)
  have at_ : ∀ b ∈ bs, SqT X.K H b ((k (.ref b)).map V.int) ∧ k (.ref b) ≠ [] := by
    subst hk
    generalize hm : bs.map (fun b => k (.ref b)) = kk at hb hn
    clear I
    intro b hbm
    induction hb with
    | nil => cases hbm
    | @cons ns c kk cs r t ih =>
      rw [List.map_cons] at hm
      injection hm with e1 e2
      rcases List.mem_cons.mp hbm with rfl | hbm
      · rw [e1]; exact ⟨r, hn _ List.mem_cons_self⟩
      · exact ih e2 (fun ms hms => hn ms (List.mem_cons_of_mem _ hms)) hbm
  refine ⟨k, hk, fun v hv => ?_, fun b hb => (at_ b hb).1⟩
  obtain ⟨b, hb', rfl⟩ := List.mem_map.mp hv
  exact ⟨tupI_of I (at_ b hb').1, (at_ b hb').2⟩
theorem vals_refs' : ∀ bs : List Addr, Vals (bs.map V.ref) (bs.map Value.ref)
  | [] => .nil
  | _ :: r => .cons rfl (vals_refs' r)
theorem refs_vals : ∀ {bs : List Addr} {its : List Value}, Vals (bs.map V.ref) its → its = bs.map Value.ref
  | [], _, .nil => rfl
  | b :: bs, _, .cons r t => by cases r; rw [List.map_cons, ← refs_vals t]
theorem paired_len {α β : Type} {F : α → β → Prop} {l : List α} {m : List β} (h : Paired F l m) : l.length = m.length := by
  induction h with
  | nil => rfl
  | cons r t ih => rw [List.length_cons, List.length_cons, ih]
/-- sorted(l) of a list of tuples of ints -/
theorem call_sortedL : CallR X (.builtin "sorted") (fun zs H Q => ∃ (l : Addr) (bs : List Addr) (kk : List (List Int)), zs = [V.ref l] ∧ Rd H l (.lst (bs.map V.ref)) ∧ Paired (fun ns b => SqT X.K H b (ns.map V.int)) kk bs ∧ (∀ ns ∈ kk, ns ≠ []) ∧
    ∀ p cs, H p = none → Paired (fun ns b => SqT X.K H b (ns.map V.int)) (sortI kk) cs → Q (.ref p) (upd H p (.lst (cs.map V.ref)))) := by
  intro pins s σ H zs us Q I r q
  obtain ⟨l, bs, kk, rfl, hl, hb, hn, q⟩ := q
  obtain ⟨u, rfl, rx⟩ := r.one
  cases rx
  obtain ⟨k, hk, hv, hs⟩ := sort_keys I hb hn
  obtain ⟨z, its, n, rv, ho⟩ := (show ObjOk X.prog X.w H s.heap l (.lst (bs.map V.ref)) from hl.ok I.hok)
  have e : its = bs.map Value.ref := refs_vals rv
  subst e
  rw [List.length_map] at z
  have hz : (bs.map Value.ref).length ≤ sizeLine := by rw [List.length_map]; exact z
  refine sorted_ord (swo_ltI k) ⟨_, ho, rfl, _, rfl⟩ hz (fun h2 h1 a ha kk' => ?_) fun out hs' hb' => ?_
  · refine tups_sortable (s := { s with heap := h1 }) (by omega) (fun v hm => ⟨(hv v hm).1.keeps fun b o e _ => (kk' b o e).2, (hv v hm).2⟩) fun o e => ?_
    have e' : some o = some (seqObj "list" (bs.map Value.ref).toArray 0) := e.symm.trans ha
    cases e'
    intro c
    exact absurd (Value.type.inj c) (by decide)
  · obtain ⟨cs, rfl, hc⟩ := sorted_bs hs hs' hb'.perm
    rw [hk] at hc
    obtain ⟨e, he⟩ := sortedAll_at s.heap (bs.map Value.ref) (cs.map Value.ref).toArray
    refine ⟨.ref (s.heap.objs.size + 1), _, I.laid (a := s.heap.objs.size + 1) (o := .lst (cs.map V.ref)) (t' := s.toks) (fun b o e => sortedAll_old e) (Nat.le_succ _) (show ObjOk X.prog X.w _ _ _ (.lst (cs.map V.ref)) from ⟨?_, cs.map Value.ref, e, vals_refs' cs, he⟩), rfl, q _ cs (I.hok.fresh (Nat.le_succ _)) hc⟩
    have := hb'.perm.length_eq
    rw [List.length_map, List.length_map] at this
    rw [List.length_map]
    omega
end
end Fx

set_option maxHeartbeats 2000000
/-! Fd3: sorted(d), dict(pairs) of dicts with tuple keys; how the cells go with the entries. -/
namespace Fx
open PySem PySem.Spec PyProof.Rows L2 SrtO
section
variable {X : Cx}
theorem isT_of {pins : List (Addr × Obj)} {σ : L2.St} {H : Hp} {s : Shared} {b : Addr} {vs : List V} (I : Inv X pins σ H s) (h : SqT X.K H b vs) : ∃ o its n, s.heap.get? b = some o ∧ o.cls = .type "tuple" ∧ o.data = .seq its n ∧ Vals vs its.toList := by
  rcases h with h | ⟨o, its, n, h1, h2, h3, h4, h5⟩
  · obtain ⟨_, its, r, o, h1, h2, n, h3⟩ := (show ObjOk X.prog X.w H s.heap b (.tup vs) from h.ok I.hok)
    exact ⟨o, its.toArray, n, h1, h2, h3, by simpa using r⟩
  · exact ⟨o, its, n, I.kIn b o h1, h2, h3, h5⟩
/-- sorted(d) where all keys are tuples of ints -/
theorem call_sortedT (hc : X.calm = true) : CallR X (.builtin "sorted") (fun zs H Q => ∃ (a : Addr) (xs : List Ent) (kk : List (List Int)), zs = [V.ref a] ∧ DtAt X H a xs ∧ xs.map (·.1) = kk.map (fun ns => ns.map Sum.inl) ∧ (∀ ns ∈ kk, ns ≠ []) ∧
    ∀ p cs, H p = none → Paired (fun ns b => SqT X.K H b (ns.map V.int)) (sortI kk) cs → Q (.ref p) (upd H p (.lst (cs.map V.ref)))) := by
  intro pins s σ H zs us Q I r q
  obtain ⟨a, xs, kk, rfl, d, hkk, hn, q⟩ := q
  obtain ⟨u, rfl, rx⟩ := r.one
  cases rx
  have hb : Paired (fun ns b => SqT X.K H b (ns.map V.int)) kk (xs.map fun x => x.2.1) := by
    have at_ := d.at_
    clear q hn d
    generalize xs = xs at *
    clear I
    induction xs generalizing kk with
    | nil => cases kk with
      | nil => exact .nil
      | cons k kk => cases hkk
    | cons x xs ih => cases kk with
      | nil => cases hkk
      | cons k kk =>
        rw [List.map_cons, List.map_cons] at hkk
        injection hkk with e1 e2
        refine .cons ?_ (ih kk e2 fun y hy => at_ y (List.mem_cons_of_mem _ hy))
        have := at_ x List.mem_cons_self
        rw [e1, List.map_map] at this
        exact this
  obtain ⟨k, hk, hv, hs⟩ := sort_keys I hb hn
  obtain ⟨⟨o, es, ep, h1, h2, h3, h4⟩, _, _⟩ := (show ObjOk X.prog X.w H s.heap a (DtO X.prog X.w a xs) from I.hok a _ d.h)
  have l1 : es.size = xs.length := size_of_entries h4
  have hn' := d.n
  refine Calls.call_function_entry PyProof.Rows.kind_sorted PyProof.Rows.plain_sorted PyProof.Rows.entry_sorted (PyProof.Rows.args_sorted1 _) ?_
  unfold Builtin.«sorted»
  refine wpAny_bind (m := checkCount "sorted" 1 1 _) (wpAny_pure ?_)
  refine wpAny_bind (PySem.W.kdu_collect (A := X.A.in1) (kdl_raw d.sy h2 h3) (I.ok.hd hc) h1 (by omega) fun h' tk acc keep it => ?_)
  have ea : acc.toList = (xs.map fun x => x.2.1).map Value.ref := by
    have hl : acc.toList.length = xs.length := by rw [Array.length_toList, it.1]; exact l1
    apply List.ext_getElem?
    intro j
    rw [List.getElem?_map, List.getElem?_map]
    cases hj : acc.toList[j]? with
    | none =>
      have := List.getElem?_eq_none_iff.mp hj
      rw [List.getElem?_eq_none (by omega)]
      rfl
    | some v =>
      obtain ⟨en, hen, hv⟩ := it.2 j v (by rw [← Array.getElem?_toList]; exact hj)
      have qe := entry_at h4 j
      rw [hen] at qe
      cases hb' : xs[j]? with
      | none => rw [hb'] at qe; cases qe
      | some x =>
        rw [hb'] at qe
        cases qe
        rw [hv]
        rfl
  have I1 : Inv X pins σ H { s with heap := h', toks := tk } := I.kept keep
  generalize hbs : (xs.map fun x => x.2.1) = bs at *
  have hbl : bs.length = xs.length := by rw [← hbs, List.length_map]
  rw [ea]
  refine wpAny_bind (wpAny_newList ?_ (by rw [List.length_map]; omega))
  have hoL : (h'.push (seqObj "list" (bs.map Value.ref).toArray 0)).get? h'.objs.size = some (seqObj "list" (bs.map Value.ref).toArray 0) := Heap.get?_push_size _ rfl
  show wpAny _ _ _ _ _ { s with heap := h'.push (seqObj "list" (bs.map Value.ref).toArray 0), toks := tk }
  refine wpAny_bind (wpAny_holding (wpAny_call_entry PyProof.Rows.slot_list_sort ⟨_, hoL, rfl⟩ PyProof.Rows.entry_list_sort
    (list_sort_ord (s := { s with heap := h'.push (seqObj "list" (bs.map Value.ref).toArray 0), toks := tk }) (swo_ltI k) hoL (by rw [List.length_map]; omega) (fun h2' => tups_sortable (by omega) (fun v hm => ⟨(hv v hm).1.keeps fun b o e _ => Heap.get?_push_of_some _ (keep b o e), (hv v hm).2⟩) fun o e => ?_) fun out hs' hb' => ⟨_, rfl, ?_⟩)
    (PyProof.Rows.args_list_sort _)))
  · have e' : some o = some (seqObj "list" (bs.map Value.ref).toArray 0) := e.symm.trans hoL
    cases e'
    intro c
    exact absurd (Value.type.inj c) (by decide)
  · obtain ⟨cs, rfl, hc'⟩ := sorted_bs hs hs' hb'.perm
    rw [hk] at hc'
    obtain ⟨e', he'⟩ := PyProof.Rows.sortedHeap_at (vs := bs.map Value.ref) (out := (cs.map Value.ref).toArray) hoL
    refine wpAny_pure ⟨_, rfl, .ref h'.objs.size, upd H h'.objs.size (.lst (cs.map V.ref)), I1.laid (t' := tk) (fun b u e => ?_) (Nat.le_refl _)
      (show ObjOk X.prog X.w _ _ _ (.lst (cs.map V.ref)) from ⟨?_, cs.map Value.ref, e', vals_refs' cs, he'⟩), rfl, q _ cs (I1.hok.fresh (Nat.le_refl _)) hc'⟩
    · have hb : b < h'.objs.size := Heap.lt_size e
      rw [PyProof.Rows.sortedHeap_old (Nat.ne_of_lt hb) (by rw [size_push']; exact Nat.lt_succ_of_lt hb)]
      exact Heap.get?_push_of_some _ e
    · have := hb'.perm.length_eq
      rw [List.length_map, List.length_map] at this
      rw [List.length_map]
      omega
/-- dict(l) of a list of pairs with tuples as keys -/
theorem call_dictT (hc : X.calm = true) (hu : X.A.units + 4 < cLine) : CallR X (.type "dict") (fun zs H Q => ∃ (l : Addr) (ps : List (List Key × Addr × V)) (Ts : List Addr), zs = [V.ref l] ∧ Rd H l (.lst (Ts.map V.ref)) ∧
    Paired (fun p T => SqT X.K H T [.ref p.2.1, p.2.2] ∧ SqT X.K H p.2.1 (p.1.map kV)) ps Ts ∧ ps.length ≤ sizeLine ∧
    ∀ p (rs : List Ent), H p = none → (p == sysModules) = false → Paired (fun p r => p.1 = r.1 ∧ p.2.1 = r.2.1 ∧ RelV p.2.2 r.2.2) ps rs → Q (.ref p) (upd H p (DtO X.prog X.w p (storedAllH [] rs)))) := by
  intro pins s σ H zs us Q I r q
  obtain ⟨l, ps, Ts, rfl, hl, hp, hz, q⟩ := q
  obtain ⟨u, rfl, rx⟩ := r.one
  cases rx
  obtain ⟨z, its, n, rv, ho⟩ := (show ObjOk X.prog X.w H s.heap l (.lst (Ts.map V.ref)) from hl.ok I.hok)
  have e := refs_vals rv
  subst e
  have build : ∃ rs : List Ent, Paired (fun p r => p.1 = r.1 ∧ p.2.1 = r.2.1 ∧ RelV p.2.2 r.2.2) ps rs ∧ Paired (fun r T => PairAt s.heap T (.ref r.2.1) r.2.2 ∧ (TK X.prog X.w).is s.heap r.1 r.2.1) rs Ts := by
    clear q rv ho hz z hl
    induction hp with
    | nil => exact ⟨[], .nil, .nil⟩
    | @cons p T ps Ts h t ih =>
      obtain ⟨rs, h1, h2⟩ := ih
      obtain ⟨o, its, n, g1, g2, g3, g4⟩ := isT_of I h.1
      obtain ⟨ls⟩ := its
      cases g4 with
      | cons r1 t1 => cases t1 with
        | @cons _ u2 _ us2 r2 t2 =>
          cases t2
          cases r1
          refine ⟨(p.1, p.2.1, u2) :: rs, .cons ⟨rfl, rfl, r2⟩ h1, .cons ⟨.inl ⟨o, g1, g2, n, g3⟩, tkey_is I h.2⟩ h2⟩
  obtain ⟨rs, h1, h2⟩ := build
  have hrl : rs.length = ps.length := (paired_len h1).symm
  have hrT : rs.length = Ts.length := paired_len h2
  have P := PairArg.list (prog := X.prog) (w := X.w) l (Ts.map Value.ref).toArray (fun j => Ts.getD j 0) (rs.map fun r => (Value.ref r.2.1, r.2.2))
  have items : PairItems s.heap (Ts.map Value.ref).toArray (fun j => Ts.getD j 0) (rs.map fun r => (Value.ref r.2.1, r.2.2)) := by
    refine ⟨by simp [hrT], fun j k v hj => ?_⟩
    rw [List.getElem?_map] at hj
    cases hr : rs[j]? with
    | none => rw [hr] at hj; cases hj
    | some r =>
      rw [hr] at hj
      cases hj
      have at_ : ∀ {rs : List Ent} {Ts : List Addr} {j : Nat} {r : Ent}, Paired (fun r T => PairAt s.heap T (.ref r.2.1) r.2.2 ∧ (TK X.prog X.w).is s.heap r.1 r.2.1) rs Ts → rs[j]? = some r → ∃ T, Ts[j]? = some T ∧ PairAt s.heap T (.ref r.2.1) r.2.2 := by
        intro rs Ts j r h
        induction h generalizing j with
        | nil => intro hh; simp at hh
        | cons a b ih =>
          intro hh
          cases j with
          | zero => cases hh; exact ⟨_, rfl, a.1⟩
          | succ j => exact ih (by simpa using hh)
      obtain ⟨T, hT, hP⟩ := at_ h2 hr
      have eT : Ts.getD j 0 = T := by rw [List.getD_eq_getElem?_getD, hT]; rfl
      show (Ts.map Value.ref).toArray[j]? = some (.ref (Ts.getD j 0)) ∧ PairAt s.heap (Ts.getD j 0) (.ref r.2.1) r.2.2
      refine ⟨?_, by rw [eT]; exact hP⟩
      rw [eT, List.getElem?_toArray, List.getElem?_map, hT]
      rfl
  have keys : ∀ x ∈ rs, (TK X.prog X.w).is s.heap x.1 x.2.1 := by
    intro x hx
    have : ∀ {rs : List Ent} {Ts : List Addr}, Paired (fun r T => PairAt s.heap T (.ref r.2.1) r.2.2 ∧ (TK X.prog X.w).is s.heap r.1 r.2.1) rs Ts → ∀ x ∈ rs, (TK X.prog X.w).is s.heap x.1 x.2.1 := by
      intro rs Ts h
      induction h with
      | nil => intro x hx; cases hx
      | cons a b ih =>
        intro x hx
        rcases List.mem_cons.mp hx with rfl | hx
        · exact a.2
        · exact ih x hx
    exact this h2 x hx
  refine call_dict_pairsH (A := X.A) (knd := TK X.prog X.w) (ps := rs) P (I.ok.hd hc) ?_ ⟨⟨_, _, ho, rfl, rfl, rfl⟩, items⟩ ⟨by simp, fun i k v hi => ?_⟩ (fun h' hk x hx => ?_) (by simp; omega) fun h' tk dd hk => ?_
  · show X.A.in1.in1.units < cLine
    have : X.A.in1.in1.units ≤ X.A.units + 2 := by simp [Around.units, Around.in1]
    omega
  · have hi : (rs.map fun r => (Value.ref r.2.1, r.2.2))[i]? = some (k, v) := hi
    rw [List.getElem?_map] at hi
    cases hr : rs[i]? with
    | none => rw [hr] at hi; cases hi
    | some r => rw [hr] at hi; cases hi; exact ⟨r.1, r.2.1, rfl, rfl⟩
  · obtain ⟨o, its, n, g1, g2, g3, g4⟩ := keys x hx
    exact ⟨o, its, n, hk _ o (Nat.ne_of_lt (Heap.lt_size g1)) (fun z => by cases z) g1, g2, g3, g4⟩
  · obtain ⟨o, es, ep, g1, g2, g3, g4, g5, g6⟩ := dd
    exact ⟨.ref s.heap.objs.size, _, I.laid (a := s.heap.objs.size) (o := DtO X.prog X.w s.heap.objs.size (storedAllH [] rs)) (t' := tk) (fun b o e => hk b o (fun z => by cases z) e) (Nat.le_refl _) (dt_ok g1 g2 g3 g4), rfl,
      q _ rs (I.hok.fresh (Nat.le_refl _)) (beq_eq_false_iff_ne.mpr (Ne.symm (Nat.ne_of_lt I.big))) h1⟩
end
end Fx

set_option maxHeartbeats 2000000
/-! Fd4: data that lies as keys and entries. -/
namespace Fx
open PySem PySem.Spec PyProof.Rows L2 SrtO
section
variable {g : G} {H : Hp} {w : Wd}
theorem ints_of_reps : ∀ {ds : List D} {vs : List V} {ns : List Int}, Reps g H w ds vs → intsD ds = some ns → vs = ns.map V.int
  | [], _, ns, .nil, h => by cases h; rfl
  | d :: ds, _, ns, .cons r t, h => by
    cases d with
    | int i =>
      have h : (intsD ds).map (i :: ·) = some ns := h
      cases hi : intsD ds with
      | none => rw [hi] at h; cases h
      | some ms =>
        rw [hi] at h
        cases h
        rw [ints_of_reps t hi]
        cases r
        rfl
    | _ => cases h
theorem tups_of : ∀ {ds : List D} {vs : List V} {kk : List (List Int)}, Reps g H w ds vs → tupsI ds = some kk → ∃ bs : List Addr, vs = bs.map V.ref ∧ Paired (fun ns b => SqT g.K H b (ns.map V.int)) kk bs ∧ ∀ ns ∈ kk, ns ≠ []
  | [], _, kk, .nil, h => by cases h; exact ⟨[], rfl, .nil, fun ns h => by cases h⟩
  | d :: ds, _, kk, .cons r t, h => by
    cases d with
    | tup xs =>
      have h : (match intsD xs, tupsI ds with | some (n :: ns), some kk => some ((n :: ns) :: kk) | _, _ => none) = some kk := h
      cases hi : intsD xs with
      | none => rw [hi] at h; cases h
      | some ms =>
        cases ms with
        | nil => rw [hi] at h; cases h
        | cons m ms =>
          cases ht : tupsI ds with
          | none => rw [hi, ht] at h; cases h
          | some ks =>
            rw [hi, ht] at h
            cases h
            obtain ⟨bs, rfl, p, q⟩ := tups_of t ht
            cases r with
            | @tup _ a vs2 h2 r2 =>
              have e := ints_of_reps r2 hi
              subst e
              refine ⟨a :: bs, rfl, .cons h2 p, fun ns hns => ?_⟩
              rcases List.mem_cons.mp hns with rfl | hns
              · exact fun z => by cases z
              · exact q ns hns
    | _ => cases h
theorem reps_tups : ∀ {kk : List (List Int)} {cs : List Addr}, Paired (fun ns b => SqT g.K H b (ns.map V.int)) kk cs → Reps g H w (kk.map fun k => .tup (k.map .int)) (cs.map V.ref)
  | _, _, .nil => .nil
  | _, _, .cons h t => .cons (.tup h .ints) (reps_tups t)
/-! ### keys -/
theorem keyD_kV {d : D} {k : Key} {v : V} (h : keyD d = some k) (r : Rep g H w d v) : v = kV k := by
  cases d with
  | int i => cases h; cases r; rfl
  | str x => cases h; cases r; rfl
  | _ => cases h
theorem keysD_kV : ∀ {ds : List D} {ks : List Key} {vs : List V}, keysD ds = some ks → Reps g H w ds vs → vs = ks.map kV
  | [], ks, _, h, .nil => by cases h; rfl
  | d :: ds, ks, _, h, .cons r t => by
    have h : (match keyD d, keysD ds with | some k, some ks => some (k :: ks) | _, _ => none) = some ks := h
    cases h1 : keyD d with
    | none => rw [h1] at h; cases h
    | some k =>
      cases h2 : keysD ds with
      | none => rw [h1, h2] at h; cases h
      | some ks' =>
        rw [h1, h2] at h
        cases h
        rw [List.map_cons, ← keyD_kV h1 r, ← keysD_kV h2 t]
theorem tkey_sq {d : D} {k : List Key} {v : V} (h : tkeyD d = some k) (r : RepT g H w d v) : ∃ b, v = .ref b ∧ SqT g.K H b (k.map kV) := by
  cases d with
  | tup xs =>
    obtain ⟨a, vs, rfl, hs, rs⟩ := r.tup
    rw [keysD_kV h rs] at hs
    exact ⟨a, rfl, hs⟩
  | _ => cases h
/-! ### entries beside the cell's pairs -/
inductive Par (g : G) (H : Hp) (w : Wd) : List (List Key × D) → List Ent → Prop
  | nil : Par g H w [] []
  | cons {k : List Key} {d : D} {a : Addr} {u : Value} {v : V} {kvs : List (List Key × D)} {xs : List Ent} (r : Rep g H w d v) (ru : RelV v u) (t : Par g H w kvs xs) : Par g H w ((k, d) :: kvs) ((k, a, u) :: xs)
theorem Par.of : ∀ {kvs : List (List Key × D)} {xs : List Ent} {us : List V}, kvs.map (·.1) = xs.map (·.1) → Vals us (xs.map (·.2.2)) → Reps g H w (kvs.map (·.2)) us → Par g H w kvs xs
  | [], [], _, _, _, _ => .nil
  | [], _ :: _, _, h, _, _ => by cases h
  | _ :: _, [], _, h, _, _ => by cases h
  | (k, d) :: kvs, (k', a, u) :: xs, _, h, v, r => by
    rw [List.map_cons, List.map_cons] at h
    injection h with h1 h2
    have h1 : k = k' := h1
    subst h1
    rw [List.map_cons] at v r
    cases r with
    | cons r1 r2 => cases v with
      | cons v1 v2 => exact .cons r1 v1 (Par.of h2 v2 r2)
theorem Par.to {kvs : List (List Key × D)} {xs : List Ent} (h : Par g H w kvs xs) : kvs.map (·.1) = xs.map (·.1) ∧ ∃ us : List V, Vals us (xs.map (·.2.2)) ∧ Reps g H w (kvs.map (·.2)) us := by
  induction h with
  | nil => exact ⟨rfl, [], .nil, .nil⟩
  | cons r ru t ih =>
    obtain ⟨e, us, h1, h2⟩ := ih
    exact ⟨by rw [List.map_cons, List.map_cons, e], _ :: us, .cons ru h1, .cons r h2⟩
theorem Par.get {k : List Key} {kvs : List (List Key × D)} {xs : List Ent} (h : Par g H w kvs xs) : (getT kvs k = none ∧ atKey xs k = none) ∨ ∃ d a u v, getT kvs k = some d ∧ atKey xs k = some (a, u) ∧ Rep g H w d v ∧ RelV v u := by
  induction h with
  | nil => exact .inl ⟨rfl, rfl⟩
  | @cons k' d a u v kvs xs r ru t ih =>
    unfold getT atKey at ih ⊢
    rw [List.find?_cons, List.find?_cons]
    by_cases e : k' = k
    · rw [decide_eq_true e]
      exact .inr ⟨d, a, u, v, rfl, rfl, r, ru⟩
    · rw [decide_eq_false e]
      exact ih
theorem Par.map {k : List Key} {d : D} {u : Value} {v : V} (r : Rep g H w d v) (ru : RelV v u) {kvs : List (List Key × D)} {xs : List Ent} (h : Par g H w kvs xs) : Par g H w (kvs.map fun kv => if kv.1 = k then (kv.1, d) else kv) (xs.map (putAt k u)) := by
  induction h with
  | nil => exact .nil
  | @cons k' d' a' u' v' kvs xs r' ru' t ih =>
    rw [List.map_cons, List.map_cons]
    unfold putAt
    by_cases e : k' = k
    · rw [if_pos e, if_pos e]
      exact .cons r ru ih
    · rw [if_neg e, if_neg e]
      exact .cons r' ru' ih
theorem Par.snoc {k : List Key} {d : D} {a : Addr} {u : Value} {v : V} (r : Rep g H w d v) (ru : RelV v u) {kvs : List (List Key × D)} {xs : List Ent} (h : Par g H w kvs xs) : Par g H w (kvs ++ [(k, d)]) (xs ++ [(k, a, u)]) := by
  induction h with
  | nil => exact .cons r ru .nil
  | cons r' ru' t ih => exact .cons r' ru' ih
theorem Par.put {k : List Key} {d : D} {a : Addr} {u : Value} {v : V} (r : Rep g H w d v) (ru : RelV v u) {kvs : List (List Key × D)} {xs : List Ent} (h : Par g H w kvs xs) : Par g H w (setT kvs k d) (storedH xs k a u) := by
  unfold setT storedH
  rcases h.get (k := k) with ⟨e1, e2⟩ | ⟨d', a', u', v', e1, e2, _⟩
  · rw [e1, e2]
    exact h.snoc r ru
  · rw [e1, e2]
    exact h.map r ru
theorem Par.all {ps : List (List Key × D)} {rs : List Ent} (hp : Par g H w ps rs) : ∀ {kvs : List (List Key × D)} {xs : List Ent}, Par g H w kvs xs → Par g H w (ps.foldl (fun acc p => setT acc p.1 p.2) kvs) (storedAllH xs rs) := by
  induction hp with
  | nil => exact fun h => h
  | cons r ru t ih => exact fun h => ih (h.put r ru)
theorem storedH_nodup {xs : List Ent} {k : List Key} {a : Addr} {u : Value} (h : (xs.map (·.1)).Nodup) : ((storedH xs k a u).map (·.1)).Nodup := by
  unfold storedH
  split
  · have : (xs.map (putAt k u)).map (·.1) = xs.map (·.1) := by
      rw [List.map_map]
      refine List.map_congr_left fun x _ => ?_
      show (putAt k u x).1 = x.1
      unfold putAt
      split <;> rfl
    rw [this]; exact h
  · rename_i hn
    rw [List.map_append, List.map_singleton]
    refine List.nodup_append.mpr ⟨h, by simp, fun x hx y hy => ?_⟩
    rw [List.mem_singleton] at hy
    subst hy
    intro e
    subst e
    obtain ⟨z, hz, e⟩ := List.mem_map.mp hx
    apply hn
    unfold atKey
    rw [Option.isSome_map, List.find?_isSome]
    exact ⟨z, hz, decide_eq_true e⟩
theorem storedAllH_nodup : ∀ {rs xs : List Ent}, (xs.map (·.1)).Nodup → ((storedAllH xs rs).map (·.1)).Nodup
  | [], _, h => h
  | r :: rs, xs, h => storedAllH_nodup (rs := rs) (storedH_nodup h)
theorem Par.len {kvs : List (List Key × D)} {xs : List Ent} (h : Par g H w kvs xs) : kvs.length = xs.length := by
  induction h with
  | nil => rfl
  | cons r ru t ih => rw [List.length_cons, List.length_cons, ih]
/-- the cell of a T-dict -/
theorem cellT_of {S : Store} {x : D} {v : V} {kvs : List (List Key × D)} (k : WOk g w H S) (r : RepT g H w x v) (e : dCellT x S = some kvs) :
    ∃ n a xs, x = .ref n ∧ v = .ref a ∧ w.mu[n]? = some a ∧ S[n]? = some (.dctT kvs) ∧ H a = some (DtO g.P g.wd a xs) ∧ kvs.length ≤ sizeLine ∧ (a == sysModules) = false ∧ (xs.map (·.1)).Nodup ∧ (∀ y ∈ xs, SqT g.K H y.2.1 (y.1.map kV)) ∧ Par g H w kvs xs := by
  unfold dCellT at e
  split at e
  · rename_i n
    split at e
    · rename_i kvs' hS
      cases e
      obtain ⟨a, rfl, ha⟩ := Rep.ref_ r
      cases k.cell n a _ ha hS with
      | dT h n' sy nd e at_ vr rr => exact ⟨n, a, _, rfl, rfl, ha, hS, h, n', sy, nd, at_, .of e vr rr⟩
    · cases e
  · cases e
theorem cellT_mk {a : Addr} {kvs : List (List Key × D)} {xs : List Ent} (h : H a = some (DtO g.P g.wd a xs)) (n : kvs.length ≤ sizeLine) (sy : (a == sysModules) = false) (nd : (xs.map (·.1)).Nodup) (at_ : ∀ y ∈ xs, SqT g.K H y.2.1 (y.1.map kV)) (p : Par g H w kvs xs) : CellAt g H w (.dctT kvs) a := by
  obtain ⟨e, us, h1, h2⟩ := p.to
  exact .dT h n sy nd e at_ h1 h2
theorem Par.per {w' : Wd} {H' : Hp} (q : Per w H w' H') {kvs : List (List Key × D)} {xs : List Ent} (h : Par g H w kvs xs) : Par g H' w' kvs xs := by
  induction h with
  | nil => exact .nil
  | cons r ru t ih => exact .cons (r.per q) ru ih
theorem keysI_of {α : Type} : ∀ {kvs : List (List Key × α)} {kk : List (List Int)}, keysI kvs = some kk → kvs.map (·.1) = kk.map (fun ns => ns.map Sum.inl) ∧ ∀ ns ∈ kk, ns ≠ []
  | [], kk, h => by cases h; exact ⟨rfl, fun ns h => by cases h⟩
  | p :: ps, kk, h => by
    have h : (match intsK p.1, keysI ps with | some (n :: ns), some kk => some ((n :: ns) :: kk) | _, _ => none) = some kk := h
    cases h1 : intsK p.1 with
    | none => rw [h1] at h; cases h
    | some ms => cases ms with
      | nil => rw [h1] at h; cases h
      | cons m ms => cases h2 : keysI ps with
        | none => rw [h1, h2] at h; cases h
        | some ks =>
          rw [h1, h2] at h
          cases h
          obtain ⟨e, q⟩ := keysI_of h2
          have key : ∀ {l : List Key} {ns : List Int}, intsK l = some ns → l = ns.map Sum.inl := by
            intro l
            induction l with
            | nil => intro ns h; cases h; rfl
            | cons a l ih =>
              intro ns h
              cases a with
              | inl i =>
                have h : (intsK l).map (i :: ·) = some ns := h
                cases h3 : intsK l with
                | none => rw [h3] at h; cases h
                | some ms => rw [h3] at h; cases h; rw [ih h3]; rfl
              | inr x => cases h
          refine ⟨by rw [List.map_cons, List.map_cons, e, key h1], fun ns hns => ?_⟩
          rcases List.mem_cons.mp hns with rfl | hns
          · exact fun z => by cases z
          · exact q ns hns
end
end Fx

set_option maxHeartbeats 2000000
/-! Fx5: the operations over the heap. -/
namespace Fx
open PySem PySem.Spec PyProof.Rows L2

theorem PE.imp {X : Cx} {e : Expr} {t t' : TE} (h : PE X e t) (k : ∀ σ H Q, t' σ H Q → t σ H Q) : PE X e t' := ⟨fun pins s σ H Q I q => h.run pins s σ H Q I (k _ _ _ q)⟩
theorem PT.imp {X : Cx} {e : Expr} {t t' : TT} (h : PT X e t) (k : ∀ σ H Q, t' σ H Q → t σ H Q) : PT X e t' := ⟨fun pins s σ H Q I q => h.run pins s σ H Q I (k _ _ _ q)⟩
theorem PW.imp {X : Cx} {e : Expr} {t t' : TT} (h : PW X e t) (k : ∀ σ H Q, t' σ H Q → t σ H Q) : PW X e t' := ⟨fun wh pins s σ H Q I q => h.run wh pins s σ H Q I (k _ _ _ q)⟩
theorem PA.imp {X : Cx} {e : List Expr} {t t' : TA} (h : PA X e t) (k : ∀ σ H Q, t' σ H Q → t σ H Q) : PA X e t' := ⟨fun pos pins s σ H Q I q => h.run pos pins s σ H Q I (k _ _ _ q)⟩
theorem PO.imp {X : Cx} {e : Option Expr} {t t' : TO} (h : PO X e t) (k : ∀ σ H Q, t' σ H Q → t σ H Q) : PO X e t' := ⟨fun pins s σ H Q I q => h.run pins s σ H Q I (k _ _ _ q)⟩
theorem PS.imp {X : Cx} {e : Stmt} {t t' : TS} (h : PS X e t) (k : ∀ D σ H, t' D σ H → t D σ H) : PS X e t' := ⟨fun pins s σ H D I q => h.run pins s σ H D I (k _ _ _ q)⟩
theorem PSs.imp {X : Cx} {e : List Stmt} {t t' : TS} (h : PSs X e t) (k : ∀ D σ H, t' D σ H → t D σ H) : PSs X e t' := ⟨fun pins s σ H D I q => h.run pins s σ H D I (k _ _ _ q)⟩
theorem PG.imp {X : Cx} {e : Expr} {t t' : TG} (h : PG X e t) (k : ∀ v σ H Q, t' v σ H Q → t v σ H Q) : PG X e t' := ⟨fun pins s σ H v u Q I r q => h.run pins s σ H v u Q I r (k _ _ _ _ q)⟩
theorem PGs.imp {X : Cx} {e : List Expr} {t t' : TGs} (h : PGs X e t) (k : ∀ v σ H Q, t' v σ H Q → t v σ H Q) : PGs X e t' := ⟨fun pins s σ H v u Q I r q => h.run pins s σ H v u Q I r (k _ _ _ _ q)⟩
theorem PI.imp {X : Cx} {tg e : Expr} {t t' : TI} (h : PI X tg e t) (k : ∀ σ H Q, t' σ H Q → t σ H Q) : PI X tg e t' := ⟨fun pins s σ H Q I q => h.run pins s σ H Q I (k _ _ _ q)⟩

/-- what comes out: data; a list may be new, not yet anybody's -/
inductive OutN (g : G) (f : Bool) (w : Wd) (H : Hp) (S : Store) : D → Wd → Hp → V → Prop
  | rep {d : D} {w' : Wd} {H' : Hp} {z : V} (hf : f = true → ∀ xs, d ≠ .lst xs) (e : Ext w H w' H') (k : WOk g w' H' S) (r : Rep g H' w' d z) : OutN g f w H S d w' H' z
  | new {xs : List D} {w' : Wd} {H' : Hp} {p : Addr} {vs : List V} (e : Ext w H w' H') (k : WOk g w' H' S) (hp : H p = none) (nf : ¬ w'.fz p) (nm : p ∉ w'.mu) (hl : H' p = some (.lst vs)) (r : Reps g H' w' xs vs) : OutN g f w H S (.lst xs) w' H' (.ref p)

def Wd.frz (w : Wd) (p : Addr) : Wd := { w with fz := fun a => w.fz a ∨ a = p }
theorem Per.frz1 {w : Wd} {H : Hp} {p : Addr} : Per w H (w.frz p) H := ⟨fun _ _ h => h, fun _ _ _ h => h, fun _ _ h z => ⟨h, .inl z⟩, fun _ _ h => h, fun _ _ h => h⟩
theorem WOk.frz1 {g : G} {w : Wd} {H : Hp} {S : Store} {p : Addr} {vs : List V} (k : WOk g w H S) (h : H p = some (.lst vs)) : WOk g (w.frz p) H S := by
  refine ⟨k.len, k.nd, fun n a c e1 e2 => (k.cell n a c e1 e2).per Per.frz1 fun _ _ q => q, fun a z => ?_, k.tab⟩
  rcases z with z | z
  · exact k.fz a z
  · subst z
    exact ⟨fun q => (by obtain ⟨u, q, c⟩ := k.dict q; rw [q] at h; cases h; exact c.lst), vs, h⟩
theorem OutN.frz {g : G} {f : Bool} {w : Wd} {H : Hp} {S : Store} {d : D} {w' : Wd} {H' : Hp} {z : V} (o : OutN g f w H S d w' H' z) : ∃ w2, Ext w H w2 H' ∧ WOk g w2 H' S ∧ Rep g H' w2 d z := by
  cases o with
  | rep hf e k r => exact ⟨_, e, k, r⟩
  | @new xs w' H' p vs e k hp nf nm hl r =>
    refine ⟨w'.frz p, ⟨e.keep, e.dom, fun a q => .inl (e.fz a q), fun a q => ?_, e.mu, e.mun⟩, k.frz1 hl, .lst (.inl ⟨hl, .inr rfl⟩) (r.per Per.frz1)⟩
    rcases q with q | q
    · exact e.fzn a q
    · exact .inr (by rw [q]; exact hp)
/-- the operand's own heap first -/
theorem OutN.trans {g : G} {f : Bool} {w w1 : Wd} {H H1 : Hp} {S : Store} {d : D} {w' : Wd} {H' : Hp} {z : V} (e : Ext w H w1 H1) (o : OutN g f w1 H1 S d w' H' z) : OutN g f w H S d w' H' z := by
  cases o with
  | rep hf e2 k r => exact .rep hf (e.trans e2) k r
  | new e2 k hp nf nm hl r => exact .new (e.trans e2) k (e.dom _ hp) nf nm hl r
theorem OutN.same {g : G} {f : Bool} {w : Wd} {H : Hp} {S : Store} {d : D} {z : V} (k : WOk g w H S) (r : Rep g H w d z) (hf : f = true → ∀ xs, d ≠ .lst xs) : OutN g f w H S d w H z := .rep hf .refl k r
theorem OutN.newL {g : G} {f : Bool} {w : Wd} {H : Hp} {S : Store} {xs : List D} {vs : List V} {p : Addr} (k : WOk g w H S) (h : H p = none) (r : Reps g H w xs vs) : OutN g f w H S (.lst xs) w (upd H p (.lst vs)) (.ref p) := by
  refine .new (.newT h) (k.newT h) h (fun z => ?_) (k.nmu h) upd_same (r.per ((Ext.newT (w := w) h).per k))
  obtain ⟨_, _, q⟩ := k.fz p z
  rw [q] at h; cases h
theorem OutN.newT {g : G} {f : Bool} {w : Wd} {H : Hp} {S : Store} {xs : List D} {vs : List V} {p : Addr} (k : WOk g w H S) (h : H p = none) (r : Reps g H w xs vs) : OutN g f w H S (.tup xs) w (upd H p (.tup vs)) (.ref p) :=
  .rep (fun _ _ z => by cases z) (.newT h) (k.newT h) (.tup (SqT.of upd_same) (r.per ((Ext.newT (w := w) h).per k)))

theorem same_reflected_int_bool_mul : reflectedDiffers (.type "int") (.type "bool") "mul" = pure false := by
  unfold reflectedDiffers
  show (typeLookup (.type "bool") (dunderR "mul") >>= fun rb => typeLookup (.type "int") (dunderR "mul") >>= fun ra => pure (rb.isSome && rb != ra)) = pure false
  rw [typeLookup_type, typeLookup_type, builtinLookup_eq_fast]; kernel_rfl
theorem gives_int_mul_bool (i : Int) (t : Tok) (q : Bool) : Gives (Builtin.«int.__mul__» ⟨[.int i t, .bool q], []⟩) (.int (i * if q = true then (1 : Int) else 0)) := by
  have hm : IntMulOk i (if q = true then (1 : Int) else 0) := .of_right (by cases q <;> decide)
  refine .of_eq ?_
  show (ite _ _ _ : Sem Fin) = _
  rw [if_neg hm]; rfl
theorem op_mul_ib {X : Cx} : OpR X (binaryOp .Mult) (fun x y H Q => ∃ i k, x = .int i ∧ y = .bl k ∧ Q (.int (i * (if k = true then (1 : Int) else 0))) H) := by
  intro pins s σ H x y v u Q I rx ry h
  obtain ⟨i, k, rfl, rfl, q⟩ := h
  obtain ⟨t, rfl⟩ := rx
  cases ry
  exact binaryOp_sub_gives (op := .Mult) (T := "int") (U := "bool") (by decide) (typeIs_int s i t) rfl F.fills_int_mul F.fills_bool_mul isSubtype_bool_int same_reflected_int_bool_mul F.slot_int_mul F.entry_int_mul (F.args_int_mul_2 _ _)
    (gives_int_mul_bool i t k) trivial ⟨.int (i * (if k = true then (1 : Int) else 0)), H, I.tok _, ⟨_, rfl⟩, q⟩

theorem tuple_mul1 (l : Addr) (items : Array Value) (n : Nat) (dd : Option Addr) (sl : Array (Option Value)) (u : Tok) :
    Meets (Builtin.«tuple.__mul__» ⟨[.ref l, .int 1 u], []⟩) (fun _ R s => s.heap.get? l = some { cls := .type "tuple", dict := dd, data := .seq items n, slots := sl } ∧ R (.ok (.ret (Value.ref l))) s) :=
  .of_wp fun prog w A R s h => by
    obtain ⟨hp, g, d, tk, os⟩ := s
    obtain ⟨hl, h⟩ := h
    have f1 := AutoSeq1.idx_int
    have c0 : (decide ((1 : Int) < -(2 ^ 63)) || decide ((1 : Int) ≥ 2 ^ 63)) = false := by decide
    have c1 : (items.isEmpty || (1 : Int) == 1) = true := by simp
    wp_walk using wpAny_loadPart' hl
    repeat (first
      | (refine wpAny_ite_false (decide_eq_false (by rw [c0]; exact Bool.false_ne_true)) ?_; wp_walk using wpAny_loadPart' hl)
      | (refine wpAny_ite_true (decide_eq_true c1) ?_; wp_walk using wpAny_loadPart' hl))
    all_goals first
      | exact ⟨_, rfl, h⟩
      | trace_state
theorem tuple_mul0 (l : Addr) (items : Array Value) (n : Nat) (dd : Option Addr) (sl : Array (Option Value)) (u : Tok) (hne : items.isEmpty = false) :
    Meets (Builtin.«tuple.__mul__» ⟨[.ref l, .int 0 u], []⟩) (fun _ R s => s.heap.get? l = some { cls := .type "tuple", dict := dd, data := .seq items n, slots := sl } ∧
      R (.ok (.ret (Value.ref s.heap.objs.size))) { s with heap := s.heap.push { cls := Value.type "tuple", data := Data.seq #[] }, toks := s.toks }) :=
  .of_wp fun prog w A R s h => by
    obtain ⟨hp, g, d, tk, os⟩ := s
    obtain ⟨hl, h⟩ := h
    have f1 := AutoSeq1.idx_int
    have c0 : (decide ((0 : Int) < -(2 ^ 63)) || decide ((0 : Int) ≥ 2 ^ 63)) = false := by decide
    have c1 : (items.isEmpty || (0 : Int) == 1) = false := by rw [hne]; rfl
    have c2 : (decide ((0 : Int) ≤ 0) || items.isEmpty) = true := rfl
    wp_walk using wpAny_loadPart' hl
    repeat (first
      | (refine wpAny_ite_false (decide_eq_false (by rw [c0]; exact Bool.false_ne_true)) ?_; wp_walk using wpAny_loadPart' hl)
      | (refine wpAny_ite_false (decide_eq_false (by rw [c1]; exact Bool.false_ne_true)) ?_; wp_walk using wpAny_loadPart' hl)
      | (refine wpAny_ite_true (decide_eq_true c2) ?_; wp_walk using wpAny_loadPart' hl))
    all_goals first
      | exact ⟨_, rfl, h⟩
      | trace_state
theorem op_repT0 {X : Cx} : OpR X (binaryOp .Mult) (fun x y H Q => ∃ a vs, x = .ref a ∧ y = .int 0 ∧ SqT X.K H a vs ∧ vs ≠ [] ∧ ∀ p, H p = none → Q (.ref p) (upd H p (.tup []))) := by
  intro pins s σ H x y v u Q I rx ry h
  obtain ⟨l, xs, rfl, rfl, hT, hne, q⟩ := h
  cases rx
  obtain ⟨t, rfl⟩ := ry
  obtain ⟨its, r, ⟨⟨cls, dd, data, sl⟩, ho, hc, n, hd⟩, hs⟩ := I.tuple hT
  simp only at hc hd
  subst hc hd
  have hi : its.toArray.isEmpty = false := by
    cases r with
    | nil => exact absurd rfl hne
    | cons _ _ => rfl
  have hf : H s.heap.objs.size = none := I.hok.fresh (Nat.le_refl _)
  refine wpAny_binaryOp_repeat_ref (T := "tuple") (U := "int") (by decide) ⟨_, ho, rfl⟩ (fun s' => typeIs_int s' 0 t) noFill_tuple_mul F.fills_int_mul F.slot_int_rmul repeat_tuple F.slot_int_index.lookup
    (call_meets F.slot_int_rmul (typeIs_int s 0 t) F.entry_int_rmul (F.args_int_rmul_2 _ _) (int_rmul_tuple 0 t l its.toArray n dd sl)
      ⟨ho, rfl, ⟨_, ho, rfl⟩, call_meets F.slot_tuple_mul ⟨_, ho, rfl⟩ F.entry_tuple_mul (F.args_tuple_mul_2 _ _) (tuple_mul0 l its.toArray n dd sl t hi) ⟨ho, ?_⟩⟩)
  refine ⟨.ref s.heap.objs.size, upd H s.heap.objs.size (.tup []), I.laid (t' := s.toks) (fun b u e => Heap.get?_push_of_some _ e) (Nat.le_refl _) ?_, rfl, q _ hf⟩
  exact ⟨Nat.zero_le _, [], .nil, ⟨_, Heap.get?_push_size _ rfl, rfl, _, rfl⟩⟩
/-- x in a tuple of data of any depth -/
theorem op_inT {X : Cx} (hu : X.A.units + 65 < cLine) : OpR X (compareOp .In) (fun x y H Q => ∃ d ds, Dp X.K H x d ∧ Dp X.K H y (.tuple ds) ∧ SeqAt.shaped d = true ∧ SeqAt.shaped (.tuple ds) = true ∧ Q (.bl (ds.any fun z => PyData.eqv z d)) H) := by
  intro pins s σ H x y v u Q I rx ry h
  obtain ⟨d, ds, hd, he, sd, se, q⟩ := h
  obtain ⟨as, r1⟩ := Dp.reads I d x v hd rx
  obtain ⟨bs, r2⟩ := Dp.reads I (.tuple ds) y u he ry
  have cl : PyData.canLayAll0 ds = true := SeqAt.canLay_of_shaped se
  cases r2 with
  | tuple h1 h2 h3 h4 => exact SeqAt.in_tupleAt _ ⟨_, h1, h2, _, h3⟩ (SeqAt.items_eqAt h4 r1 cl (SeqAt.canLay_of_shaped sd) (room_in_shaped sd hu)) (by rw [SeqAt.any_by_data h4 cl]; exact ⟨.bl _, H, I, rfl, q⟩)
theorem op_notInT {X : Cx} (hu : X.A.units + 65 < cLine) : OpR X (compareOp .NotIn) (fun x y H Q => ∃ d ds, Dp X.K H x d ∧ Dp X.K H y (.tuple ds) ∧ SeqAt.shaped d = true ∧ SeqAt.shaped (.tuple ds) = true ∧ Q (.bl (!ds.any fun z => PyData.eqv z d)) H) := by
  intro pins s σ H x y v u Q I rx ry h
  obtain ⟨d, ds, hd, he, sd, se, q⟩ := h
  obtain ⟨as, r1⟩ := Dp.reads I d x v hd rx
  obtain ⟨bs, r2⟩ := Dp.reads I (.tuple ds) y u he ry
  have cl : PyData.canLayAll0 ds = true := SeqAt.canLay_of_shaped se
  cases r2 with
  | tuple h1 h2 h3 h4 => exact SeqAt.notIn_tupleAt _ ⟨_, h1, h2, _, h3⟩ (SeqAt.items_eqAt h4 r1 cl (SeqAt.canLay_of_shaped sd) (room_in_shaped sd hu)) (by rw [SeqAt.any_by_data h4 cl]; exact ⟨.bl _, H, I, rfl, q⟩)
theorem op_repT1 {X : Cx} : OpR X (binaryOp .Mult) (fun x y H Q => ∃ a vs, x = .ref a ∧ y = .int 1 ∧ SqT X.K H a vs ∧ Q (.ref a) H) := by
  intro pins s σ H x y v u Q I rx ry h
  obtain ⟨l, xs, rfl, rfl, hT, q⟩ := h
  cases rx
  obtain ⟨t, rfl⟩ := ry
  obtain ⟨its, r, ⟨⟨cls, dd, data, sl⟩, ho, hc, n, hd⟩, hs⟩ := I.tuple hT
  simp only at hc hd
  subst hc hd
  refine wpAny_binaryOp_repeat_ref (T := "tuple") (U := "int") (by decide) ⟨_, ho, rfl⟩ (fun s' => typeIs_int s' 1 t) noFill_tuple_mul F.fills_int_mul F.slot_int_rmul repeat_tuple F.slot_int_index.lookup
    (call_meets F.slot_int_rmul (typeIs_int s 1 t) F.entry_int_rmul (F.args_int_rmul_2 _ _) (int_rmul_tuple 1 t l its.toArray n dd sl)
      ⟨ho, rfl, ⟨_, ho, rfl⟩, call_meets F.slot_tuple_mul ⟨_, ho, rfl⟩ F.entry_tuple_mul (F.args_tuple_mul_2 _ _) (tuple_mul1 l its.toArray n dd sl t) ⟨ho, ?_⟩⟩)
  exact ⟨.ref l, H, I, rfl, q⟩
theorem all_bls {g : G} {H : Hp} {w : Wd} : ∀ {ds : List D} {vs : List V} {b : Bool}, Reps g H w ds vs → allD ds = some b → ∃ bs : List Bool, vs = bs.map V.bl ∧ b = bs.all id
  | [], _, _, r, e => by cases r; cases e; exact ⟨[], rfl, rfl⟩
  | d :: ds, _, b, r, e => by
    cases r with
    | cons h t =>
      cases h with
      | bl x =>
        have e' : (allD ds).map (x && ·) = some b := e
        cases q : allD ds with
        | none => rw [q] at e'; cases e'
        | some c =>
          rw [q] at e'
          cases e'
          obtain ⟨bs, rfl, rfl⟩ := all_bls t q
          exact ⟨x :: bs, rfl, rfl⟩
      | _ => cases e
theorem strs_flat {g : G} {H : Hp} {w : Wd} : ∀ {ds : List D} {vs : List V} {l : List Str}, Reps g H w ds vs → strsD ds = some l → vs = l.map V.str
  | [], _, _, r, e => by cases r; cases e; rfl
  | d :: ds, _, l, r, e => by
    cases r with
    | cons h t =>
      cases h with
      | str x =>
        have e' : (strsD ds).map (x :: ·) = some l := e
        cases q : strsD ds with
        | none => rw [q] at e'; cases e'
        | some l' =>
          rw [q] at e'
          cases e'
          rw [strs_flat t q]
          rfl
      | _ => cases e
theorem inV_strs {x : Str} : ∀ {l : List Str}, inV (.str x) (l.map V.str) = l.any (· == x)
  | [] => rfl
  | y :: l => by
    show (eqV (.str y) (.str x) || inV (.str x) (l.map V.str)) = _
    rw [inV_strs, List.any_cons]
    rfl
theorem flat_strs : ∀ {l : List Str}, (l.map V.str).all flatV = true
  | [] => rfl
  | y :: l => by rw [List.map_cons, List.all_cons, flat_strs]; rfl
/-! ### binary operators -/
def rB (g : G) (op : Op) : R2 := fun v u H Q => ∃ w S x y d, WOk g w H S ∧ RepT g H w x v ∧ RepT g H w y u ∧ binOp op x y = some d ∧ ∀ w' H' z, OutN g true w H S d w' H' z → Q z H'
section
variable {g : G} {X : Cx}
theorem limE : lim = sizeLine := by rw [sizeLine_eq]; rfl
theorem log2_64 {i : Int} (h : i.natAbs < 2 ^ 64) : -(2 ^ 64) < i ∧ i < 2 ^ 64 := by omega
theorem divOk_ok {j : Int} (h : divOk j = true) : j ≠ 0 ∧ j.natAbs.log2 < 9000 := by
  unfold divOk at h
  simpa using h
theorem mulOk_ok {i j : Int} (h : mulOk i j = true) : CMul i j ∨ CMulW i j := by
  unfold mulOk at h
  unfold CMulW CMul
  simp only [Bool.or_eq_true, decide_eq_true_eq] at h
  rcases h with (h | h) | h
  · exact .inl (.inl (log2_64 h))
  · exact .inl (.inr (log2_64 h))
  · exact .inr h
theorem powOk_ok {i j : Int} (h : powOk i j = true) : CPow i j := by
  unfold powOk at h
  simp only [Bool.and_eq_true, decide_eq_true_eq] at h
  exact ⟨h.1.1, h.1.2, h.2⟩
theorem intOut {w : Wd} {H : Hp} {S : Store} {i : Int} {f : Bool} (k : WOk g w H S) : OutN g f w H S (.int i) w H (.int i) := .same k (.int i) fun _ _ z => by cases z
theorem strOut {w : Wd} {H : Hp} {S : Store} {i : Str} {f : Bool} (k : WOk g w H S) : OutN g f w H S (.str i) w H (.str i) := .same k (.str i) fun _ _ z => by cases z
theorem blOut {w : Wd} {H : Hp} {S : Store} {i : Bool} {f : Bool} (k : WOk g w H S) : OutN g f w H S (.bl i) w H (.bl i) := .same k (.bl i) fun _ _ z => by cases z
theorem fdivW : OpR X (binaryOp .FloorDiv) (rI (fun _ j => j ≠ 0 ∧ j.natAbs.log2 < 9000) fun i j => .int (i.fdiv j)) := opI fun i j _ _ _ _ _ hc q => floordiv_int hc.1 q (.inl (PyProof.noPylong_of_log2 hc.2))
/-- list + list, whoever holds them -/
theorem op_catX : OpR X (binaryOp .Add) (fun x y H Q => ∃ l b xs zs, x = .ref l ∧ y = .ref b ∧ Rd H l (.lst xs) ∧ Rd H b (.lst zs) ∧ xs.length + zs.length ≤ sizeLine ∧ ∀ p, H p = none → Q (.ref p) (upd H p (.lst (xs ++ zs)))) := by
  intro pins s σ H x y v u Q I rx ry h
  obtain ⟨l, b, xs, zs, rfl, rfl, h1, h2, hz, q⟩ := h
  cases rx; cases ry
  obtain ⟨_, its1, n1, r1, e1⟩ := h1.ok I.hok
  obtain ⟨_, its2, n2, r2, e2⟩ := h2.ok I.hok
  have l1 := r1.length
  have l2 := r2.length
  have hs : its1.toArray.size + its2.toArray.size ≤ sizeLine := by simp only [List.size_toArray]; omega
  refine PySem.P.add_list e1 e2 ?_ hs
  rw [show its1.toArray ++ its2.toArray = (its1 ++ its2).toArray by simp]
  have hl : (xs ++ zs).length ≤ sizeLine := by rw [List.length_append]; exact hz
  exact ⟨.ref _, _, I.lnew (t' := s.toks) (r1.append r2) hl, rfl, q _ I.fresh⟩
theorem foldRep (its : List Value) (m : Nat) : List.foldl (fun a b => a ++ b) #[] (List.replicate m its.toArray) = (List.replicate m its).flatten.toArray := by
  simpa using foldl_rep its m []
/-- list * int -/
theorem op_repX : OpR X (binaryOp .Mult) (fun x y H Q => ∃ l k xs, x = .ref l ∧ y = .int k ∧ Rd H l (.lst xs) ∧ -(2 ^ 63) ≤ k ∧ k < 2 ^ 63 ∧ xs.length * k.toNat ≤ sizeLine ∧ ∀ p, H p = none → Q (.ref p) (upd H p (.lst (List.replicate k.toNat xs).flatten))) := by
  intro pins s σ H x y v u Q I rx ry h
  obtain ⟨l, k, xs, rfl, rfl, h0, h1, h2, hz, q⟩ := h
  cases rx
  obtain ⟨tk, rfl⟩ := ry
  obtain ⟨_, its, n, r, e⟩ := h0.ok I.hok
  have hl := r.length
  have a0 : its.toArray.size * k.toNat ≤ sizeLine := by simp only [List.size_toArray]; rw [← hl]; exact hz
  have a1 : ¬ its.toArray.size * k.toNat > (2 ^ 63 - 1) / 8 := fun z => by
    have s0 : (sizeLine : Nat) ≤ (2 ^ 63 - 1) / 8 := by decide
    omega
  have a2 : ¬ (!Builtin.List.listFitsIndex k) = true := by rw [fitsIndex_both h1 h2]; decide
  have a3 : ¬ Builtin.List.listTooLong (its.toArray.size * k.toNat) = true := by rw [notLongL a0]; decide
  have a4 : List.foldl (fun a b => a ++ b) #[] (List.replicate (if its.toArray.isEmpty = true then 0 else k.toNat) its.toArray) = (List.replicate k.toNat its).flatten.toArray := by
    rw [foldRep]
    cases its with
    | nil => simp
    | cons a b => simp
  refine wpAny_binaryOp_repeat_ref (T := "list") (U := "int") (by decide) ⟨_, e, rfl⟩ (fun s' => typeIs_int s' k tk) noFill_list_mul F.fills_int_mul F.slot_int_rmul repeat_list F.slot_int_index.lookup ?_
  refine call_meets F.slot_int_rmul (typeIs_int s k tk) F.entry_int_rmul (F.args_int_rmul_2 _ _) (int___rmul___int_list k tk l its.toArray n) ⟨e, rfl, ⟨_, e, rfl⟩, ?_⟩
  refine call_meets F.slot_list_mul ⟨_, e, rfl⟩ F.entry_list_mul (F.args_list_mul_2 _ _) (AutoListH.list___mul___list_int_3 l its.toArray n k tk a2 a1 a3) ⟨e, ?_⟩
  rw [a4]
  have hr : (List.replicate k.toNat xs).flatten.length ≤ sizeLine := by rw [PyProof.Rows.lm_len_rep_flat, Nat.mul_comm]; exact hz
  exact ⟨.ref _, _, I.lnew (t' := s.toks) (r.rep k.toNat) hr, rfl, q _ I.fresh⟩

theorem some_if {α : Type} {c : Prop} [Decidable c] {a d : α} (h : (if c then some a else none) = some d) : c ∧ a = d := by
  by_cases k : c
  · rw [if_pos k] at h; cases h; exact ⟨k, rfl⟩
  · rw [if_neg k] at h; cases h
theorem op_bin (hK : X.K = g.K) (op : Op) : OpR X (binaryOp (opOf op)) (rB g op) := by
  intro pins s σ H v u vv uu Q I rv ru ⟨w, S, x, y, d, k, rx, ry, e, q⟩
  have lE := limE
  cases op with
  | add =>
    cases x with
    | int i =>
      cases y with
      | int j =>
        cases e
        cases rx.int; cases ry.int
        exact op_add pins s σ H _ _ vv uu Q I rv ru ⟨i, j, rfl, rfl, q _ _ _ (intOut k)⟩
      | _ => cases e
    | lst xs =>
      cases y with
      | lst ys =>
        obtain ⟨hz, rfl⟩ := some_if e
        obtain ⟨a, vs, rfl, ha, ra⟩ := rx.lst
        obtain ⟨b, us, rfl, hb, rb⟩ := ry.lst
        have l1 := ra.length
        have l2 := rb.length
        refine op_catX pins s σ H _ _ vv uu Q I rv ru ⟨a, b, vs, us, rfl, rfl, ha, hb, by omega, fun p hp => ?_⟩
        exact q _ _ _ (.newL k hp (ra.append rb))
      | _ => cases e
    | tup xs =>
      cases y with
      | tup ys =>
        obtain ⟨hz, rfl⟩ := some_if e
        obtain ⟨a, vs, rfl, ha, ra⟩ := rx.tup
        obtain ⟨b, us, rfl, hb, rb⟩ := ry.tup
        have l1 := ra.length
        have l2 := rb.length
        rw [← hK] at ha hb
        refine op_catA pins s σ H _ _ vv uu Q I rv ru ⟨a, b, vs, us, rfl, rfl, ha, hb, by omega, fun z => ?_, fun _ z => ?_, fun _ _ p hp => q _ _ _ (.newT k hp (ra.append rb))⟩
        · subst z
          cases ra
          exact q _ _ _ (.same k (.tup (by rw [← hK]; exact hb) rb) fun _ _ z => by cases z)
        · subst z
          cases rb
          rw [List.append_nil] at q
          exact q _ _ _ (.same k (.tup (by rw [← hK]; exact ha) ra) fun _ _ z => by cases z)
      | _ => cases e
    | str xs =>
      cases y with
      | str ys =>
        obtain ⟨hz, rfl⟩ := some_if e
        cases rx.str; cases ry.str
        exact op_add_str pins s σ H _ _ vv uu Q I rv ru ⟨xs, ys, rfl, rfl, by omega, q _ _ _ (strOut k)⟩
      | _ => cases e
    | _ => cases e
  | sub =>
    cases x with
    | int i =>
      cases y with
      | int j =>
        cases e
        cases rx.int; cases ry.int
        exact op_sub pins s σ H _ _ vv uu Q I rv ru ⟨i, j, rfl, rfl, q _ _ _ (intOut k)⟩
      | _ => cases e
    | _ => cases e
  | mul =>
    cases x with
    | int i =>
      cases y with
      | int j =>
        obtain ⟨hz, rfl⟩ := some_if e
        cases rx.int; cases ry.int
        rcases mulOk_ok hz with hz | hz
        · exact op_mul pins s σ H _ _ vv uu Q I rv ru ⟨i, j, rfl, rfl, hz, q _ _ _ (intOut k)⟩
        · exact op_mulW pins s σ H _ _ vv uu Q I rv ru ⟨i, j, rfl, rfl, hz, q _ _ _ (intOut k)⟩
      | bl j =>
        cases e
        cases rx.int; cases ry.bl
        exact op_mul_ib pins s σ H _ _ vv uu Q I rv ru ⟨i, j, rfl, rfl, q _ _ _ (intOut k)⟩
      | _ => cases e
    | lst xs =>
      cases y with
      | int j =>
        obtain ⟨⟨h1, h2, hz⟩, rfl⟩ := some_if e
        obtain ⟨a, vs, rfl, ha, ra⟩ := rx.lst
        cases ry.int
        have l1 := ra.length
        refine op_repX pins s σ H _ _ vv uu Q I rv ru ⟨a, j, vs, rfl, rfl, ha, h1, h2, by rw [← l1, ← lE]; exact hz, fun p hp => ?_⟩
        exact q _ _ _ (.newL k hp (ra.rep _))
      | _ => cases e
    | tup xs =>
      cases y with
      | int j =>
        obtain ⟨a, vs, rfl, ha, ra⟩ := rx.tup
        cases ry.int
        by_cases hj1 : j = 1
        · subst hj1
          cases e
          rw [← hK] at ha
          refine op_repT1 pins s σ H _ _ vv uu Q I rv ru ⟨a, vs, rfl, rfl, ha, ?_⟩
          rw [hK] at ha
          exact q _ _ _ (.same k (.tup ha ra) fun _ _ z => by cases z)
        by_cases hj0 : j = 0
        · subst hj0
          obtain ⟨⟨h0, h1⟩, rfl⟩ := some_if e
          rw [← hK] at ha
          refine op_repT0 pins s σ H _ _ vv uu Q I rv ru ⟨a, vs, rfl, rfl, ha, fun z => ?_, fun p hp => q _ _ _ (.newT k hp .nil)⟩
          have l1 := ra.length
          rw [z] at l1
          cases xs with
          | nil => cases h0
          | cons _ _ => cases l1
        have e : (if xs.isEmpty = false ∧ 2 ≤ j ∧ j ≤ 1000 ∧ xs.length ≤ 1000 then some (.tup (List.replicate j.toNat xs).flatten) else none) = some d := by
          rw [← e]
          show _ = binOp .mul (.tup xs) (.int j)
          unfold binOp
          split <;> first
            | (rename_i z1 z2; cases z1; cases z2; exact absurd rfl hj1)
            | (rename_i z1 z2; cases z1; cases z2; exact absurd rfl hj0)
            | rfl
            | simp_all
        obtain ⟨⟨h0, h1, h2, hz⟩, rfl⟩ := some_if e
        have l1 := ra.length
        rw [← hK] at ha
        refine op_repT pins s σ H _ _ vv uu Q I rv ru ⟨a, j, vs, rfl, rfl, ha, ?_, h1, h2, by omega, fun p hp => ?_⟩
        · intro z
          subst z
          cases xs with
          | nil => cases h0
          | cons _ _ => simp at l1
        · exact q _ _ _ (.newT k hp (ra.rep _))
      | _ => cases e
    | _ => cases e
  | fdiv =>
    cases x with
    | int i =>
      cases y with
      | int j =>
        obtain ⟨hz, rfl⟩ := some_if e
        cases rx.int; cases ry.int
        exact fdivW pins s σ H _ _ vv uu Q I rv ru ⟨i, j, rfl, rfl, divOk_ok hz, q _ _ _ (intOut k)⟩
      | _ => cases e
    | _ => cases e
  | mod =>
    cases x with
    | int i =>
      cases y with
      | int j =>
        obtain ⟨hz, rfl⟩ := some_if e
        cases rx.int; cases ry.int
        exact op_modN pins s σ H _ _ vv uu Q I rv ru ⟨i, j, rfl, rfl, hz, q _ _ _ (intOut k)⟩
      | _ => cases e
    | _ => cases e
  | pow =>
    cases x with
    | int i =>
      cases y with
      | int j =>
        obtain ⟨hz, rfl⟩ := some_if e
        cases rx.int; cases ry.int
        exact op_pow pins s σ H _ _ vv uu Q I rv ru ⟨i, j, rfl, rfl, powOk_ok hz, q _ _ _ (intOut k)⟩
      | _ => cases e
    | _ => cases e

/-! ### comparisons -/
def rC (g : G) (op : Cp) : R2 := fun v u H Q => ∃ w S x y b, WOk g w H S ∧ RepT g H w x v ∧ RepT g H w y u ∧ cmpOp op x y = some b ∧ Q (.bl b) H
theorem eqD_dp {w : Wd} {H : Hp} {x y : D} {v u : V} {b : Bool} (rx : RepT g H w x v) (ry : RepT g H w y u) (e : eqD x y = some b) :
    ∃ p q, Dp g.K H v p ∧ Dp g.K H u q ∧ SeqAt.shaped p = true ∧ SeqAt.shaped q = true ∧ b = PyData.eqv p q := by
  unfold eqD at e
  cases h1 : x.py with
  | none => rw [h1] at e; cases e
  | some p =>
    cases h2 : y.py with
    | none => rw [h1, h2] at e; cases e
    | some q =>
      rw [h1, h2] at e
      obtain ⟨hs, rfl⟩ := some_if e
      rw [Bool.and_eq_true] at hs
      exact ⟨p, q, rx.dp h1, ry.dp h2, hs.1, hs.2, rfl⟩
theorem isNone_rep {w : Wd} {H : Hp} {x : D} {v : V} (r : RepT g H w x v) : isNone x = decide (v = .non) := by
  cases r with
  | rep r => cases r <;> rfl
  | own => rfl
theorem memD_dp {w : Wd} {H : Hp} {x : D} {ys : List D} {v u : V} {b : Bool} (rx : RepT g H w x v) (ry : RepT g H w (.tup ys) u) (e : memD x ys = some b) :
    ∃ p ps, Dp g.K H v p ∧ Dp g.K H u (.tuple ps) ∧ SeqAt.shaped p = true ∧ SeqAt.shaped (.tuple ps) = true ∧ b = ps.any fun z => PyData.eqv z p := by
  unfold memD at e
  cases h1 : x.py with
  | none => rw [h1] at e; cases e
  | some p =>
    cases h2 : D.pys ys with
    | none => rw [h1, h2] at e; cases e
    | some ps =>
      rw [h1, h2] at e
      obtain ⟨hs, rfl⟩ := some_if e
      rw [Bool.and_eq_true] at hs
      refine ⟨p, ps, rx.dp h1, ry.dp ?_, hs.1, hs.2, rfl⟩
      show (D.pys ys).map PyData.tuple = _
      rw [h2]
      rfl
theorem hasT_ok {x y : Str} {b : Bool} (e : hasT x y = some b) : ∃ c, x = ⟨#[c]⟩ ∧ b = decide (c ∈ y.cps.toList) := by
  unfold hasT at e
  split at e
  · rename_i c hc
    cases e
    refine ⟨c, ?_, rfl⟩
    obtain ⟨a⟩ := x
    have : a = #[c] := by
      have := congrArg List.toArray hc
      simpa using this
    rw [this]
  · cases e
theorem lex_shift {e r : Nat → Bool} {z : Bool} : ∀ {k i : Nat}, Ob.lexAt e r z (i + 1) k = Ob.lexAt (fun j => e (j + 1)) (fun j => r (j + 1)) z i k
  | 0, _ => rfl
  | k + 1, i => by rw [Ob.lexAt_succ, Ob.lexAt_succ, lex_shift (k := k)]
theorem lex_leI : ∀ {ns ms : List Int}, Ob.lexAt (fun j => decide (ns.getD j 0 = ms.getD j 0)) (fun j => decide (ns.getD j 0 ≤ ms.getD j 0)) (decide (ns.length ≤ ms.length)) 0 (min ns.length ms.length) = leI ns ms
  | [], ms => by
    rw [show min ([] : List Int).length ms.length = 0 from Nat.zero_min _, Ob.lexAt_zero]
    simp [leI]
  | n :: ns, [] => by
    rw [show min (n :: ns).length ([] : List Int).length = 0 from Nat.min_zero _, Ob.lexAt_zero]
    simp [leI]
  | n :: ns, m :: ms => by
    rw [show min (n :: ns).length (m :: ms).length = min ns.length ms.length + 1 by simp only [List.length_cons]; omega, Ob.lexAt_succ, lex_shift]
    have ih := lex_leI (ns := ns) (ms := ms)
    simp only [List.getD_cons_zero, List.getD_cons_succ, List.length_cons, Nat.add_le_add_iff_right, decide_eq_true_eq]
    rw [ih]
    rfl
theorem op_cmp (hK : X.K = g.K) (hu : X.A.units + 65 < cLine) (op : Cp) : OpR X (compareOp (cpOf op)) (rC g op) := by
  intro pins s σ H v u vv uu Q I rv ru ⟨w, S, x, y, b, k, rx, ry, e, q⟩
  have byI : ∀ {f : Value → Value → Sem Value} {p : Int → Int → Bool}, OpR X f (rI0 fun i j => .bl (p i j)) → ∀ i j, x = .int i → y = .int j → b = p i j → wpAny (model X.prog X.w) X.A (f vv uu) (EP X pins σ Q) X.xe s := by
    intro f p hf i j e1 e2 e3
    subst e1; subst e2; subst e3
    cases rx.int; cases ry.int
    exact hf pins s σ H _ _ vv uu Q I rv ru ⟨i, j, rfl, rfl, q⟩
  cases op with
  | eq =>
    obtain ⟨p, p', d1, d2, s1, s2, rfl⟩ := eqD_dp rx ry e
    rw [← hK] at d1 d2
    exact op_eqD (by omega) pins s σ H _ _ vv uu Q I rv ru ⟨p, p', d1, d2, s1, s2, q⟩
  | ne =>
    have e' : (eqD x y).map (!·) = some b := e
    cases h : eqD x y with
    | none => rw [h] at e'; cases e'
    | some c =>
      rw [h] at e'
      cases e'
      obtain ⟨p, p', d1, d2, s1, s2, rfl⟩ := eqD_dp rx ry h
      rw [← hK] at d1 d2
      exact op_neD (by omega) pins s σ H _ _ vv uu Q I rv ru ⟨p, p', d1, d2, s1, s2, q⟩
  | lt =>
    cases x with
    | int i => cases y with
      | int j => cases e; exact byI op_lt i j rfl rfl rfl
      | _ => cases e
    | _ => cases e
  | le =>
    cases x with
    | int i => cases y with
      | int j => cases e; exact byI op_le i j rfl rfl rfl
      | _ => cases e
    | tup xs => cases y with
      | tup ys =>
        have e : (intsD xs).bind (fun ns => (intsD ys).map fun ms => leI ns ms) = some b := e
        cases h1 : intsD xs with
        | none => rw [h1] at e; cases e
        | some ns =>
          cases h2 : intsD ys with
          | none => rw [h1, h2] at e; cases e
          | some ms =>
            rw [h1, h2] at e
            cases e
            obtain ⟨a1, vs1, rfl, q1, r1⟩ := rx.tup
            obtain ⟨a2, vs2, rfl, q2, r2⟩ := ry.tup
            rw [ints_of_reps r1 h1] at q1
            rw [ints_of_reps r2 h2] at q2
            exact op_leT (by omega) pins s σ H _ _ vv uu Q I rv ru ⟨a1, a2, ns, ms, rfl, rfl, by rw [hK]; exact q1, by rw [hK]; exact q2, by rw [lex_leI]; exact q⟩
      | _ => cases e
    | _ => cases e
  | gt =>
    cases x with
    | int i => cases y with
      | int j => cases e; exact byI op_gt i j rfl rfl rfl
      | _ => cases e
    | _ => cases e
  | ge =>
    cases x with
    | int i => cases y with
      | int j => cases e; exact byI op_ge i j rfl rfl rfl
      | _ => cases e
    | _ => cases e
  | is =>
    cases y with
    | non =>
      have e' : some (isNone x) = some b := by cases x <;> exact e
      cases e'
      cases ry.non
      exact op_isN pins s σ H _ _ vv uu Q I rv ru ⟨rfl, by rw [← isNone_rep rx]; exact q⟩
    | _ => cases x <;> cases e
  | isn =>
    cases y with
    | non =>
      have e' : some (!isNone x) = some b := by cases x <;> exact e
      cases e'
      cases ry.non
      exact op_notN pins s σ H _ _ vv uu Q I rv ru ⟨rfl, by rw [← isNone_rep rx]; exact q⟩
    | _ => cases x <;> cases e
  | mem =>
    cases x with
    | str z =>
      cases y with
      | tup ys =>
        have e' : (strsD ys).map (fun l => l.any (· == z)) = some b := e
        obtain ⟨a, vs, rfl, ha, ra⟩ := ry.tup
        cases rx.str
        cases h : strsD ys with
        | none => rw [h] at e'; cases e'
        | some l =>
          rw [h] at e'
          cases e'
          have hv := strs_flat ra h
          subst hv
          rw [← hK] at ha
          exact op_in_seq pins s σ H _ _ vv uu Q I rv ru ⟨a, _, rfl, .inr ha, rfl, flat_strs, by rw [if_neg Bool.false_ne_true, inV_strs]; exact q⟩
      | str z2 =>
        obtain ⟨c, rfl, rfl⟩ := hasT_ok e
        cases rx.str; cases ry.str
        exact op_in_sign pins s σ H _ _ vv uu Q I rv ru ⟨c, z2, rfl, rfl, q⟩
      | _ => cases e
    | tup xs =>
      cases y with
      | tup ys =>
        obtain ⟨p, ps, d1, d2, s1, s2, rfl⟩ := memD_dp rx ry e
        rw [← hK] at d1 d2
        exact op_inT hu pins s σ H _ _ vv uu Q I rv ru ⟨p, ps, d1, d2, s1, s2, q⟩
      | _ => cases e
    | int z =>
      cases y with
      | tup ys =>
        obtain ⟨p, ps, d1, d2, s1, s2, rfl⟩ := memD_dp rx ry e
        rw [← hK] at d1 d2
        exact op_inT hu pins s σ H _ _ vv uu Q I rv ru ⟨p, ps, d1, d2, s1, s2, q⟩
      | _ => cases e
    | _ => cases y <;> cases e
  | nin =>
    cases x with
    | str z =>
      cases y with
      | tup ys =>
        have e' : (strsD ys).map (fun l => !l.any (· == z)) = some b := e
        obtain ⟨a, vs, rfl, ha, ra⟩ := ry.tup
        cases rx.str
        cases h : strsD ys with
        | none => rw [h] at e'; cases e'
        | some l =>
          rw [h] at e'
          cases e'
          have hv := strs_flat ra h
          subst hv
          rw [← hK] at ha
          exact op_notIn_seq pins s σ H _ _ vv uu Q I rv ru ⟨a, _, rfl, .inr ha, rfl, flat_strs, by rw [if_pos rfl, inV_strs]; exact q⟩
      | str z2 =>
        have e' : (hasT z z2).map (!·) = some b := e
        cases h : hasT z z2 with
        | none => rw [h] at e'; cases e'
        | some b2 =>
          rw [h] at e'
          cases e'
          obtain ⟨c, rfl, rfl⟩ := hasT_ok h
          cases rx.str; cases ry.str
          exact op_notIn_sign pins s σ H _ _ vv uu Q I rv ru ⟨c, z2, rfl, rfl, q⟩
      | _ => cases e
    | tup xs =>
      cases y with
      | tup ys =>
        have e' : (memD (.tup xs) ys).map (!·) = some b := e
        cases h : memD (.tup xs) ys with
        | none => rw [h] at e'; cases e'
        | some b2 =>
          rw [h] at e'
          cases e'
          obtain ⟨p, ps, d1, d2, s1, s2, rfl⟩ := memD_dp rx ry h
          rw [← hK] at d1 d2
          exact op_notInT hu pins s σ H _ _ vv uu Q I rv ru ⟨p, ps, d1, d2, s1, s2, q⟩
      | _ => cases e
    | _ => cases y <;> cases e

/-! ### truth -/
theorem isEmpty_reps {w : Wd} {H : Hp} {ds : List D} {vs : List V} (r : Reps g H w ds vs) : ds.isEmpty = vs.isEmpty := by cases r <;> rfl
theorem truthy_tru {w : Wd} {H : Hp} {x : D} {v : V} {b : Bool} (r : RepT g H w x v) (e : truthy x = some b) : TruV g.K v H b := by
  cases x with
  | non => cases r.non; cases e; exact (rfl : false = false)
  | bl c => cases r.bl; cases e; exact (rfl : b = b)
  | int i => cases r.int; cases e; exact (rfl : (i != 0) = (i != 0))
  | str z =>
    cases r.str
    obtain ⟨h, rfl⟩ := some_if e
    exact ⟨by rw [← limE]; exact h, rfl⟩
  | tup xs =>
    cases e
    obtain ⟨a, vs, rfl, ha, ra⟩ := r.tup
    exact .inr (.inl ⟨vs, ha, by rw [isEmpty_reps ra]⟩)
  | lst xs =>
    cases e
    obtain ⟨a, vs, rfl, ha, ra⟩ := r.lst
    exact .inl ⟨vs, .inl ha, by rw [isEmpty_reps ra]⟩
  | _ => cases e

/-! ### indexes -/
theorem atI_reps {w : Wd} {H : Hp} {ds : List D} {vs : List V} {i : Int} {d : D} (r : Reps g H w ds vs) (h : atI ds i = some d) : ∃ v, atI vs i = some v ∧ Rep g H w d v := by
  unfold atI at h ⊢
  rw [← r.length]
  cases e : ixN ds.length i with
  | none => rw [e] at h; cases h
  | some j => rw [e] at h; exact r.get h
def rX (g : G) : R2 := fun v u H Q => ∃ w S x y d, WOk g w H S ∧ RepT g H w x v ∧ RepT g H w y u ∧ ixD x y = some d ∧ ∀ z, Rep g H w d z → Q z H
theorem ix_any (hK : X.K = g.K) : IxR X (rX g) := by
  intro va sl pins s σ H v u vv uu Q I rv ru ⟨w, S, x, y, d, k, rx, ry, e, q⟩ hs
  cases y with
  | int i =>
    cases ry.int
    cases x with
    | tup xs =>
      obtain ⟨a, vs, rfl, ha, ra⟩ := rx.tup
      obtain ⟨z, hz, rz⟩ := atI_reps ra e
      rw [← hK] at ha
      exact ix_tup va sl pins s σ H _ _ vv uu Q I rv ru ⟨a, vs, i, z, rfl, rfl, ha, hz, q z rz⟩ hs
    | lst xs =>
      obtain ⟨a, vs, rfl, ha, ra⟩ := rx.lst
      obtain ⟨z, hz, rz⟩ := atI_reps ra e
      exact ix_list va sl pins s σ H _ _ vv uu Q I rv ru ⟨a, vs, i, z, rfl, rfl, .inl ha, hz, q z rz⟩ hs
    | _ => cases e
  | _ => cases x <;> cases e

/-! ### slices -/
theorem cut_reps {w : Wd} {H : Hp} {ds : List D} {vs : List V} {lo hi : Option Int} (r : Reps g H w ds vs) : Reps g H w (cutD ds lo hi) (cutV vs lo hi) := by
  unfold cutD cutV
  rw [r.length]
  exact (r.drop _).take _
def rSl (g : G) : V → Option Int → Option Int → Hp → VK → Prop := fun v lo hi H Q => ∃ w S x d, WOk g w H S ∧ RepT g H w x v ∧ slD x lo hi = some d ∧ ∀ w' H' z, OutN g true w H S d w' H' z → Q z H'
theorem sl_any (hK : X.K = g.K) : SlR X (rSl g) := by
  intro pins s σ H v vv vl vu lo hi sl Q I rv hs pl pu ⟨w, S, x, d, k, rx, e, q⟩
  cases x with
  | tup xs =>
    cases e
    obtain ⟨a, vs, rfl, ha, ra⟩ := rx.tup
    have ha' := ha
    rw [← hK] at ha
    refine sl_tupA pins s σ H _ vv vl vu lo hi sl Q I rv hs pl pu ⟨a, vs, rfl, ha, fun z => ?_, fun _ p hp => q _ _ _ (.newT k hp (cut_reps ra))⟩
    have ed : cutD xs lo hi = xs := by
      unfold cutD
      rw [ra.length, z.1, z.2, List.drop_zero, Nat.sub_zero, ← ra.length, List.take_length]
    rw [ed] at q
    exact q _ _ _ (.same k (.tup ha' ra) fun _ _ z => by cases z)
  | lst xs =>
    cases e
    obtain ⟨a, vs, rfl, ha, ra⟩ := rx.lst
    exact sl_list pins s σ H _ vv vl vu lo hi sl Q I rv hs pl pu ⟨a, vs, rfl, .inl ha, fun p hp => q _ _ _ (.newL k hp (cut_reps ra))⟩
  | _ => cases e

/-! ### built-in functions -/
def rBi (g : G) (b : Bi) : List V → Hp → VK → Prop := fun vs H Q => ∃ w S ds d, WOk g w H S ∧ RepTs g H w ds vs ∧ biOp b ds = some d ∧ ∀ w' H' z, OutN g (decide (b = .list ∨ b = .sorted)) w H S d w' H' z → Q z H'
theorem RepTs.one {w : Wd} {H : Hp} {d : D} {vs : List V} (r : RepTs g H w [d] vs) : ∃ v, vs = [v] ∧ RepT g H w d v := by
  cases r with
  | cons h t => cases t; exact ⟨_, rfl, h⟩
theorem RepTs.two {w : Wd} {H : Hp} {d d' : D} {vs : List V} (r : RepTs g H w [d, d'] vs) : ∃ v v', vs = [v, v'] ∧ RepT g H w d v ∧ RepT g H w d' v' := by
  cases r with
  | cons h t => cases t with
    | cons h' t => cases t; exact ⟨_, _, rfl, h, h'⟩
theorem sumD_ints : ∀ {ds : List D} {a n : Int}, sumD a ds = some n → ∃ ns : List Int, ds = ns.map D.int ∧ n = a + ns.sum
  | [], a, n, h => by
    cases h
    exact ⟨[], rfl, by simp⟩
  | d :: ds, a, n, h => by
    cases d with
    | int i =>
      obtain ⟨ns, e1, e2⟩ := sumD_ints (ds := ds) (a := a + i) (n := n) h
      exact ⟨i :: ns, by rw [e1]; rfl, by rw [e2, List.sum_cons]; omega⟩
    | _ => cases h
theorem maxD_ints : ∀ {ds : List D} {n : Int}, maxD ds = some n → ∃ ns : List Int, ds = ns.map D.int ∧ n ∈ ns ∧ ∀ y ∈ ns, y ≤ n
  | [], n, h => by cases h
  | [d], n, h => by
    cases d with
    | int i =>
      cases h
      exact ⟨[n], rfl, by simp, fun y hy => by rw [List.mem_singleton.mp hy]; omega⟩
    | _ => cases h
  | d :: e :: ds, n, h => by
    cases d with
    | int i =>
      have h' : (maxD (e :: ds)).map (fun j => if j > i then j else i) = some n := h
      cases q : maxD (e :: ds) with
      | none => rw [q] at h'; cases h'
      | some m =>
        rw [q] at h'
        cases h'
        obtain ⟨ns, e1, e2, e3⟩ := maxD_ints q
        show ∃ ns : List Int, _ ∧ (if m > i then m else i) ∈ ns ∧ ∀ y ∈ ns, y ≤ (if m > i then m else i)
        refine ⟨i :: ns, by rw [e1]; rfl, ?_, fun y hy => ?_⟩
        · split
          · exact List.mem_cons_of_mem _ e2
          · exact List.mem_cons_self
        · rcases List.mem_cons.mp hy with rfl | hy
          · split <;> omega
          · have := e3 y hy
            split <;> omega
    | _ => cases h
theorem reps_ints {w : Wd} {H : Hp} : ∀ {ns : List Int} {vs : List V}, Reps g H w (ns.map D.int) vs → vs = ns.map V.int
  | [], _, .nil => rfl
  | n :: ns, _, .cons h t => by
    cases h
    rw [reps_ints t]; rfl
theorem hasDict_dp {K : PySem.W.Frag} {H : Hp} : ∀ {p : PyData} {v : V}, Dp K H v p → p.hasDict = false
  | .none, _, _ => rfl
  | .bool _, _, _ => rfl
  | .int _, _, _ => rfl
  | .str _, _, _ => rfl
  | .list ds, _, h => by
    cases h with
    | lst _ h => exact hasDictAll_dp h
  | .tuple ds, _, h => by
    cases h with
    | tup _ h => exact hasDictAll_dp h
  | .dict _, _, h => by cases h
where hasDictAll_dp {K : PySem.W.Frag} {H : Hp} : ∀ {ps : List PyData} {vs : List V}, DpAll K H vs ps → PyData.hasDictAll ps = false
  | [], _, _ => rfl
  | p :: ps, _, h => by
    cases h with
    | cons h t =>
      have h1 := hasDict_dp h
      have h2 := hasDictAll_dp t
      simp only [PyData.hasDictAll, h1, h2, Bool.or_false]
/-- repr of plain data -/
theorem call_reprD (hg : X.A.guards = some []) (hu : X.A.units + 70 < cLine) : CallR X (.builtin "repr") (fun xs H Q => ∃ v p, xs = [v] ∧ Dp X.K H v p ∧ p.showable = true ∧ p.depth ≤ 64 ∧ p.shown.length ≤ sizeLine ∧ Q (.str p.shown) H) := by
  intro pins s σ H xs us Q I r h
  obtain ⟨v, p, rfl, hd, hs, hdp, hl, q⟩ := h
  obtain ⟨u, rfl, ru⟩ := vals1 r
  have hn := hasDict_dp hd
  obtain ⟨as, hr⟩ := Dp.reads I p v u hd ru
  have byRef : ∀ a, u = .ref a → wpAny (model X.prog X.w) X.A (call (.builtin "repr") [u]) (EP X pins σ Q) X.xe s := fun a e => by
    subst e
    exact repr_of_reads' hr hs (PyData.noDict_hsm hn) hg (by omega) (fun _ _ e => e) (fun h' u tk hk => ⟨.str p.shown, H, I.kept hk, ⟨_, rfl⟩, q⟩) hl
  cases hd with
  | non =>
    cases (show u = Value.none from ru)
    exact PySem.P.repr_of_none ⟨.str _, H, I.tok _, ⟨_, rfl⟩, q⟩
  | bl b =>
    cases (show u = Value.bool b from ru)
    exact PySem.P.repr_of_bool ⟨.str _, H, I.tok _, ⟨_, rfl⟩, q⟩
  | int i =>
    obtain ⟨t, rfl⟩ := ru
    exact PySem.P.repr_of_int (of_decide_eq_true hs) ⟨.str _, H, I.tok _, ⟨_, rfl⟩, q⟩
  | str x =>
    obtain ⟨t, rfl⟩ := ru
    exact PySem.P.repr_of_str ⟨.str _, H, I.tok _, ⟨_, rfl⟩, q⟩ hl
  | lst h _ => exact byRef _ ru
  | tup h _ => exact byRef _ ru
def biV : Bi → Value
  | .int => .type "int" | .tuple => .type "tuple" | .list => .type "list" | .str => .type "str" | .sorted => .builtin "sorted" | .len => .builtin "len" | .abs => .builtin "abs" | .sum => .builtin "sum"
  | .min => .builtin "min" | .max => .builtin "max" | .repr => .builtin "repr" | .all => .builtin "all" | .any => .builtin "any" | .gcd => .builtin "math.gcd"
theorem builtin_ok (hK : X.K = g.K) (hc : X.calm = true) (hg : X.A.guards = some []) (hu : X.A.units + 70 < cLine) (b : Bi) :
    CallR X (biV b) (rBi g b) := by
  intro pins s σ H vs us Q I r ⟨w, S, ds, d, k, rs, e, q⟩
  have lE := limE
  cases b with
  | gcd =>
    match ds, e with
    | [.int i, .int j], e =>
      cases e
      obtain ⟨v, v', rfl, rv, rv'⟩ := rs.two
      cases rv.int; cases rv'.int
      exact cr_gcd pins s σ H _ us Q I r ⟨i, j, rfl, q _ _ _ (intOut k)⟩
  | len =>
    match ds, e with
    | [.tup xs], e =>
      cases e
      obtain ⟨v, rfl, rv⟩ := rs.one
      obtain ⟨a, zs, rfl, ha, ra⟩ := rv.tup
      rw [← hK] at ha
      exact call_len_seq pins s σ H _ us Q I r ⟨a, zs, rfl, .inr ha, by rw [← ra.length]; exact q _ _ _ (intOut k)⟩
    | [.lst xs], e =>
      cases e
      obtain ⟨v, rfl, rv⟩ := rs.one
      obtain ⟨a, zs, rfl, ha, ra⟩ := rv.lst
      exact call_len_seq pins s σ H _ us Q I r ⟨a, zs, rfl, .inl (.inl ha), by rw [← ra.length]; exact q _ _ _ (intOut k)⟩
    | [.str x], e =>
      obtain ⟨hz, rfl⟩ := some_if e
      obtain ⟨v, rfl, rv⟩ := rs.one
      cases rv.str
      exact call_len_str pins s σ H _ us Q I r ⟨x, rfl, by omega, q _ _ _ (intOut k)⟩
  | abs =>
    match ds, e with
    | [.int i], e =>
      cases e
      obtain ⟨v, rfl, rv⟩ := rs.one
      cases rv.int
      exact call_abs pins s σ H _ us Q I r ⟨i, rfl, q _ _ _ (intOut k)⟩
  | int =>
    match ds, e with
    | [.int i], e =>
      cases e
      obtain ⟨v, rfl, rv⟩ := rs.one
      cases rv.int
      exact call_int1 pins s σ H _ us Q I r (.inl ⟨i, rfl, q _ _ _ (intOut k)⟩)
    | [.bl c], e =>
      cases e
      obtain ⟨v, rfl, rv⟩ := rs.one
      cases rv.bl
      exact call_int1 pins s σ H _ us Q I r (.inr ⟨c, rfl, q _ _ _ (intOut k)⟩)
  | tuple =>
    match ds, e with
    | [.tup xs], e =>
      cases e
      obtain ⟨v, rfl, rv⟩ := rs.one
      obtain ⟨a, zs, rfl, ha, ra⟩ := rv.tup
      have ha' := ha
      rw [← hK] at ha
      exact call_tuple_of pins s σ H _ us Q I r ⟨a, zs, rfl, .inr ⟨ha, q _ _ _ (.same k (.tup ha' ra) fun _ _ z => by cases z)⟩⟩
    | [.lst xs], e =>
      cases e
      obtain ⟨v, rfl, rv⟩ := rs.one
      obtain ⟨a, zs, rfl, ha, ra⟩ := rv.lst
      exact call_tuple_of pins s σ H _ us Q I r ⟨a, zs, rfl, .inl ⟨.inl ha, fun p hp => q _ _ _ (.newT k hp ra)⟩⟩
  | list =>
    match ds, e with
    | [.tup xs], e =>
      cases e
      obtain ⟨v, rfl, rv⟩ := rs.one
      obtain ⟨a, zs, rfl, ha, ra⟩ := rv.tup
      rw [← hK] at ha
      exact call_list_of pins s σ H _ us Q I r ⟨a, zs, rfl, .inr ha, fun p hp => q _ _ _ (.newL k hp ra)⟩
    | [.lst xs], e =>
      cases e
      obtain ⟨v, rfl, rv⟩ := rs.one
      obtain ⟨a, zs, rfl, ha, ra⟩ := rv.lst
      exact call_list_of pins s σ H _ us Q I r ⟨a, zs, rfl, .inl (.inl ha), fun p hp => q _ _ _ (.newL k hp ra)⟩
  | sum =>
    match ds, e with
    | [.lst xs], e =>
      obtain ⟨v, rfl, rv⟩ := rs.one
      obtain ⟨a, zs, rfl, ha, ra⟩ := rv.lst
      have e' : (sumD 0 xs).map D.int = some d := e
      cases h : sumD 0 xs with
      | none => rw [h] at e'; cases e'
      | some n =>
        rw [h] at e'
        cases e'
        obtain ⟨ns, rfl, rfl⟩ := sumD_ints h
        cases reps_ints ra
        exact cr_sum hc pins s σ H _ us Q I r ⟨a, ns, rfl, .inl ha, by rw [Int.zero_add] at q; exact q _ _ _ (intOut k)⟩
  | min =>
    match ds, e with
    | [.int i, .int j], e =>
      cases e
      obtain ⟨v, v', rfl, rv, rv'⟩ := rs.two
      cases rv.int; cases rv'.int
      exact call_min2 hc pins s σ H _ us Q I r ⟨i, j, rfl, q _ _ _ (intOut k)⟩
  | max =>
    match ds, e with
    | [.lst xs], e =>
      obtain ⟨v, rfl, rv⟩ := rs.one
      obtain ⟨a, zs, rfl, ha, ra⟩ := rv.lst
      have e' : (maxD xs).map D.int = some d := e
      cases h : maxD xs with
      | none => rw [h] at e'; cases e'
      | some n =>
        rw [h] at e'
        cases e'
        obtain ⟨ns, rfl, h1, h2⟩ := maxD_ints h
        cases reps_ints ra
        refine cr_max hc pins s σ H _ us Q I r ⟨a, ns, rfl, .inl ha, List.length_pos_of_mem h1, fun m m1 m2 => ?_⟩
        have e1 := m2 n h1
        have e2 := h2 m m1
        have : m = n := by omega
        subst this
        exact q _ _ _ (intOut k)
    | [.int i, .int j], e =>
      cases e
      obtain ⟨v, v', rfl, rv, rv'⟩ := rs.two
      cases rv.int; cases rv'.int
      exact call_max2 hc pins s σ H _ us Q I r ⟨i, j, rfl, q _ _ _ (intOut k)⟩
  | repr =>
    match ds, e with
    | [x], e =>
      obtain ⟨v, rfl, rv⟩ := rs.one
      have e' : reprD x = some d := e
      unfold reprD at e'
      cases h : x.py with
      | none => rw [h] at e'; cases e'
      | some p =>
        rw [h] at e'
        obtain ⟨hz, rfl⟩ := some_if e'
        simp only [Bool.and_eq_true, decide_eq_true_eq] at hz
        exact call_reprD hg hu pins s σ H _ us Q I r ⟨v, p, rfl, by rw [hK]; exact rv.dp h, hz.1.1, hz.1.2, by rw [← lE]; exact hz.2, q _ _ _ (strOut k)⟩
  | all =>
    match ds, e with
    | [.lst xs], e =>
      obtain ⟨v, rfl, rv⟩ := rs.one
      obtain ⟨a, zs, rfl, ha, ra⟩ := rv.lst
      have e' : (allD xs).map D.bl = some d := e
      cases h : allD xs with
      | none => rw [h] at e'; cases e'
      | some b =>
        rw [h] at e'
        cases e'
        obtain ⟨bs, hz, hb⟩ := all_bls ra h
        subst hz hb
        exact cr_all hc pins s σ H _ us Q I r ⟨a, bs, rfl, .inl ha, q _ _ _ (blOut k)⟩
  | any => match ds, e with | _, e => cases e
  | sorted =>
    match ds, e with
    | [.lst xs], e =>
      obtain ⟨v, rfl, rv⟩ := rs.one
      obtain ⟨a, zs, rfl, ha, ra⟩ := rv.lst
      have e : (tupsI xs).map (fun ks => D.lst ((sortI ks).map fun k => D.tup (k.map D.int))) = some d := e
      cases hk : tupsI xs with
      | none => rw [hk] at e; cases e
      | some kk =>
        rw [hk] at e
        cases e
        obtain ⟨bs, rfl, p, hn⟩ := tups_of ra hk
        rw [← hK] at p
        exact call_sortedL pins s σ H _ us Q I r ⟨a, bs, kk, rfl, ha, p, hn, fun q cs hq hcs => by
          rw [hK] at hcs
          exact ‹∀ w' H' z, OutN g (decide (Bi.sorted = .list ∨ Bi.sorted = .sorted)) w H S _ w' H' z → Q z H'› _ _ _ (.newL k hq (reps_tups hcs))⟩
  | str => match ds, e with | _, e => cases e
end
end Fx

set_option maxHeartbeats 4000000
/-! Fx9a: how a call's values come to the parameters. -/
namespace Fx
open PySem PySem.Spec PyProof.Rows L2

theorem forIn_steps {α β : Type} {f : α → β → Sem (ForInStep β)} (stp : β → α → β) (ok : β → List α → Prop) (h : ∀ st a l, ok st (a :: l) → f a st = pure (.yield (stp st a)) ∧ ok (stp st a) l) : ∀ (l : List α) (st : β), ok st l → forIn l st f = pure (l.foldl stp st)
  | [], st, _ => by rw [List.forIn_nil]; rfl
  | a :: l, st, k => by
    obtain ⟨h1, h2⟩ := h st a l k
    rw [List.forIn_cons, h1]
    exact forIn_steps stp ok h l _ h2
theorem look_zip {x : Str} {v : Value} : ∀ {ps : List Str} {us : List Value} {i : Nat}, ps.Nodup → ps[i]? = some x → us[i]? = some v → (ps.zip us).lookup x = some v
  | [], _, _, _, h, _ => by simp at h
  | _ :: _, [], _, _, _, h => by simp at h
  | p :: ps, u :: us, 0, _, h1, h2 => by
    simp at h1 h2
    subst h1 h2
    rw [List.zip_cons_cons, List.lookup_cons, beq_self_eq_true]
  | p :: ps, u :: us, i + 1, nd, h1, h2 => by
    have nd := List.nodup_cons.mp nd
    have h1 : ps[i]? = some x := by simpa using h1
    have ne : (x == p) = false := by
      have : x ≠ p := fun e => nd.1 (by rw [← e]; exact List.mem_of_getElem? h1)
      simpa using this
    rw [List.zip_cons_cons, List.lookup_cons, ne]
    exact look_zip nd.2 h1 (by simpa using h2)
theorem look_out {x : Str} : ∀ {l : List (Str × Value)}, (∀ v, (x, v) ∉ l) → l.lookup x = none
  | [], _ => rfl
  | (p, u) :: l, h => by
    have ne : (x == p) = false := by
      have : x ≠ p := fun e => h u (by rw [e]; exact List.mem_cons_self)
      simpa using this
    rw [List.lookup_cons, ne]
    exact look_out fun v hv => h v (List.mem_cons_of_mem _ hv)
theorem look_app {x : Str} : ∀ {l m : List (Str × Value)}, (l ++ m).lookup x = match l.lookup x with | some v => some v | none => m.lookup x
  | [], m => rfl
  | (p, u) :: l, m => by
    rw [List.cons_append, List.lookup_cons, List.lookup_cons]
    cases x == p with
    | true => rfl
    | false => exact look_app
theorem zip_map {F : Str → Option Value} {Gf : Str → Value} : ∀ {ps : List Str}, (∀ n ∈ ps, F n = some (Gf n)) → ps.filterMap (fun n => (F n).map (n, ·)) = ps.zip (ps.map Gf)
  | [], _ => rfl
  | p :: ps, h => by
    rw [List.filterMap_cons, h p List.mem_cons_self, List.map_cons, List.zip_cons_cons]
    show (p, Gf p) :: _ = _
    rw [zip_map fun n hn => h n (List.mem_cons_of_mem _ hn)]
theorem find_at {k : Str} : ∀ {ks : List Str}, k ∈ ks → ks[ks.findIdx fun z => decide (some k = some z)]? = some k
  | z :: ks, h => by
    rw [List.findIdx_cons]
    by_cases e : k = z
    · subst e
      simp
    · have e2 : decide (some k = some z) = false := by simpa using e
      rw [e2]
      simp only [cond_false, List.getElem?_cons_succ]
      exact find_at ((List.mem_cons.mp h).resolve_left e)
theorem filter_all {α β : Type} {f : α → Option β} {h : α → β} : ∀ {l : List α}, (∀ a ∈ l, f a = some (h a)) → l.filterMap f = l.map h
  | [], _ => rfl
  | a :: l, q => by
    rw [List.filterMap_cons, q a List.mem_cons_self, List.map_cons]
    show h a :: _ = _
    rw [filter_all fun b hb => q b (List.mem_cons_of_mem _ hb)]
def plainP (p : Arguments) : Bool := p.posonlyargs.isEmpty && p.vararg.isNone && p.kwonlyargs.isEmpty && p.kwarg.isNone && p.defaults.isEmpty
/-- how the values stand: in the parameters' order -/
theorem bind_all {x qual : Str} {params : Arguments} {body : List Stmt} {scope : Scope} {kV doc pm cdv ct : Value} {an : Option Addr} {ps ks : List Str} {us ws : List Value} (hp : plainP params = true) (hps : params.args.map (·.arg) = ps) (hb : bindB ps us.length ks = true) (hw : ws.length = ks.length) :
    bindArgs (PySem.W.fnOf x qual params body scope .none kV doc pm an cdv ct) ⟨us, ks.zip ws⟩ = pure (ps.zip (reord (ixOf ps us.length ks) (us ++ ws))) := by
  obtain ⟨po, ar, va, ko, kd, kw, df⟩ := params
  unfold plainP at hp
  simp only [Bool.and_eq_true, List.isEmpty_iff, Option.isNone_iff_eq_none] at hp
  obtain ⟨⟨⟨⟨rfl, rfl⟩, rfl⟩, rfl⟩, rfl⟩ := hp
  have hps : ar.map (·.arg) = ps := hps
  unfold bindB at hb
  simp only [Bool.and_eq_true, decide_eq_true_eq, List.all_eq_true] at hb
  obtain ⟨⟨⟨⟨hlen, ndk⟩, ndp⟩, hin⟩, hall⟩ := hb
  -- the values by name
  let slots := ps.zip us ++ ks.zip ws
  have outL : ∀ z, z ∈ ps.drop us.length → (ps.zip us).lookup z = none := fun z hz => look_out fun v hv => by
    obtain ⟨i, hi, e⟩ := List.getElem_of_mem hv
    rw [List.getElem_zip] at e
    obtain ⟨j, hj, e2⟩ := List.getElem_of_mem hz
    rw [List.getElem_drop] at e2
    have l1 : i < ps.length ∧ i < us.length := by rw [List.length_zip] at hi; omega
    have l2 : us.length + j < ps.length := by rw [List.length_drop] at hj; omega
    have e3 : ps[i] = ps[us.length + j] := by
      have := congrArg Prod.fst e
      rw [e2]; exact this
    have := (List.getElem_inj ndp).mp e3
    omega
  have val : ∀ (i : Nat) z, ps[i]? = some z → ∃ v, slots.lookup z = some v ∧ (us ++ ws)[if i < us.length then i else us.length + ks.findIdx fun k => decide (some z = some k)]? = some v := fun i z hz => by
    have hi := (List.getElem?_eq_some_iff.mp hz).1
    by_cases hlt : i < us.length
    · refine ⟨us[i], ?_, ?_⟩
      · show (ps.zip us ++ ks.zip ws).lookup z = _
        rw [look_app, look_zip ndp hz (List.getElem?_eq_getElem hlt)]
      · rw [if_pos hlt, List.getElem?_append_left hlt, List.getElem?_eq_getElem hlt]
    · have hd : z ∈ ps.drop us.length := by
        refine List.mem_of_getElem? (i := i - us.length) ?_
        rw [List.getElem?_drop, show us.length + (i - us.length) = i by omega]
        exact hz
      have hk : z ∈ ks := by simpa using hall z hd
      have hf := find_at hk
      have hfl := (List.getElem?_eq_some_iff.mp hf).1
      have hwl : (ks.findIdx fun k => decide (some z = some k)) < ws.length := by omega
      refine ⟨ws[ks.findIdx fun k => decide (some z = some k)], ?_, ?_⟩
      · show (ps.zip us ++ ks.zip ws).lookup z = _
        rw [look_app, outL z hd]
        exact look_zip ndk hf (List.getElem?_eq_getElem hwl)
      · rw [if_neg hlt, List.getElem?_append_right (by omega), Nat.add_sub_cancel_left, List.getElem?_eq_getElem hwl]
  have have_ : ∀ z ∈ ps, slots.lookup z = some ((slots.lookup z).getD .none) := fun z hz => by
    obtain ⟨i, hi, e⟩ := List.getElem_of_mem hz
    obtain ⟨v, h1, _⟩ := val i z (by rw [List.getElem?_eq_getElem hi, e])
    rw [h1]; rfl
  have fin : ps.filterMap (fun n => (slots.lookup n).map (n, ·)) = ps.zip (reord (ixOf ps us.length ks) (us ++ ws)) := by
    rw [zip_map have_]
    congr 1
    unfold reord ixOf
    rw [List.filterMap_map]
    have q : ∀ i ∈ List.range ps.length, ((fun i => (us ++ ws)[i]?) ∘ fun i => if i < us.length then i else us.length + ks.findIdx fun k => decide (ps[i]? = some k)) i = some ((slots.lookup (ps.getD i default)).getD .none) := fun i hi => by
      have hl : i < ps.length := List.mem_range.mp hi
      obtain ⟨v, h1, h2⟩ := val i ps[i] (List.getElem?_eq_getElem hl)
      show (us ++ ws)[if i < us.length then i else us.length + ks.findIdx fun k => decide (ps[i]? = some k)]? = _
      rw [List.getElem?_eq_getElem hl, h2, List.getD_eq_getElem?_getD, List.getElem?_eq_getElem hl, Option.getD_some, h1]
      rfl
    rw [filter_all q]
    refine List.ext_getElem? fun i => ?_
    rw [List.getElem?_map, List.getElem?_map]
    by_cases hl : i < ps.length
    · rw [List.getElem?_range hl, List.getElem?_eq_getElem hl, Option.map_some, Option.map_some, List.getD_eq_getElem?_getD, List.getElem?_eq_getElem hl, Option.getD_some]
    · rw [List.getElem?_eq_none (by omega), List.getElem?_eq_none (by rw [List.length_range]; omega)]
      rfl
  -- the loop over the keywords
  have fold : ∀ (l A : List (Str × Value)) (e : List (Str × Value)), l.foldl (fun (st : List (Str × Value) × List (Str × Value)) kv => (st.1 ++ [(kv.1, kv.2)], st.2)) (A, e) = (A ++ l, e) := by
    intro l
    induction l with
    | nil => intro A e; rw [List.append_nil]; rfl
    | cons a l ih => intro A e; rw [List.foldl_cons, ih, List.append_assoc]; rfl
  have k0 : ((ks.zip ws).map (·.1)).Nodup ∧ ∀ kv ∈ ks.zip ws, ps.contains kv.1 = true ∧ (ps.zip us).lookup kv.1 = none := by
    refine ⟨?_, fun kv hkv => ?_⟩
    · rw [List.map_fst_zip (by omega)]; exact ndk
    · have hk := (List.of_mem_zip (a := kv.1) (b := kv.2) hkv).1
      have hd : kv.1 ∈ ps.drop us.length := by simpa using hin _ hk
      exact ⟨by simpa using List.mem_of_mem_drop hd, outL _ hd⟩
  have hm : (List.filter (fun n => (slots.lookup n).isNone) ps) = [] := by
    rw [List.filter_eq_nil_iff]
    intro z hz
    rw [have_ z hz]
    simp
  have hgt : decide (us.length > ps.length) = false := by
    rw [decide_eq_false_iff_not]; omega
  unfold bindArgs
  simp only [PySem.W.fnOf, hps, List.map_nil, List.nil_append, List.append_nil]
  rw [forIn_steps (fun (st : List (Str × Value) × List (Str × Value)) kv => (st.1 ++ [(kv.1, kv.2)], st.2)) (fun st l => (l.map (·.1)).Nodup ∧ ∀ kv ∈ l, ps.contains kv.1 = true ∧ st.1.lookup kv.1 = none) (fun st a l k => ?_) _ _ k0, fold]
  · show (pure _ >>= fun _ => _) = _
    rw [pure_bind, show seqItems? Value.none = pure none from rfl, pure_bind]
    simp only [hgt, Bool.false_and, Bool.false_eq_true, if_false]
    have hm' : (List.filter (fun n => (List.lookup n (ps.zip us ++ ks.zip ws)).isNone) ps) = [] := hm
    simp only [show ((none : Option (Array Value)).getD #[]).toList = [] from rfl, List.drop_nil, List.length_nil, Nat.sub_zero, List.take_length, hm', List.zip_nil_right, List.forIn_nil, pure_bind, List.isEmpty_nil, Bool.not_true, Bool.false_eq_true, if_false]
    exact congrArg pure fin
  · obtain ⟨k1, k2⟩ := k
    obtain ⟨q1, q2⟩ := k2 a List.mem_cons_self
    rw [List.map_cons, List.nodup_cons] at k1
    refine ⟨?_, k1.2, fun kv hkv => ⟨(k2 kv (List.mem_cons_of_mem _ hkv)).1, ?_⟩⟩
    · rw [q1, q2]
      rfl
    · show (st.1 ++ [(a.1, a.2)]).lookup kv.1 = none
      rw [look_app, (k2 kv (List.mem_cons_of_mem _ hkv)).2]
      have ne : (kv.1 == a.1) = false := by
        have : kv.1 ≠ a.1 := fun e => k1.1 (by rw [← e]; exact List.mem_map.mpr ⟨kv, hkv, rfl⟩)
        simpa using this
      show List.lookup kv.1 [(a.1, a.2)] = none
      rw [List.lookup_cons, ne]
      rfl
end Fx

set_option maxHeartbeats 4000000
/-! Fe1: raise of an own exception class over ValueError: super().__init__(text); self.f = value. -/
namespace Fx
open PySem PySem.Spec PySem.Calls PyProof.Rows L2

/-- the __init__ of such a class -/
def iniB (file : Str) (K : PySem.W.Frag) (C : Addr) (f : Str) (fI : Addr) : Bool :=
  match K.lookup fI with
  | some ⟨_, _, .func fd, _⟩ =>
    (match fd.body, fd.params.args, fd.closure with
    | .stmts [.Expr (.Call (.Attribute (.Call (.Name s1 _) [] [] _) i1 mp) [.Constant (.str _) _ _] [] cp) _, .Assign [.Attribute (.Name s2 _) f' _] (.Name p _) _], [a1, a2], [(c1, cc)] =>
      (mp.endLine == cp.line) && decide (s1 = "super") && decide (i1 = "__init__") && decide (s2 = "self") && decide (f' = f) && decide (a1.arg = "self") && decide (a2.arg = p) && !(p == ("self" : Str)) && !(p == ("__debug__" : Str)) && decide (c1 = "__class__") && plainP fd.params &&
      decide (fd.globals = mainGlobals) && decide (fd.builtins = builtinsNs) && decide (fd.defaults = .none) && decide (fd.scope.names.lookup ("super" : Str) = some .globalImplicit) && decide (fd.scope.names.lookup ("__class__" : Str) = some .free) &&
      decide (fd.scope.names.lookup ("self" : Str) = some .local) && decide (fd.scope.names.lookup p = some .local) && (fd.scope.names.all fun y => !decide (y.2 = .cell)) && !fd.scope.isCoroutine && !fd.scope.isGenerator && (match fd.scope.kind with
        | .function => true
        | _ => false) &&
      (match K.lookup cc with
        | some ⟨_, _, .cell (some v), _⟩ => decide (v = .ref C)
        | _ => false) && PySem.W.codeIn K fd.code fd.qualname && (match fd.code with
        | .ref c => (match K.lookup c with
          | some ⟨_, _, .fields vs, _⟩ => (match (vs[2]? : Option Value) with
            | some (Value.str fl _) => file == fl
            | _ => false)
          | _ => false)
        | _ => false)
    | _, _, _ => false)
  | _ => false
def clsB (K : PySem.W.Frag) (C : Addr) : Bool :=
  match K.lookup C with
  | some ⟨.type "type", _, .cls cd, sl⟩ => (match cd.mro, sl.toList with
    | .ref C' :: bm, [_, _, _, _, some (.builtin n), _] => decide (C' = C) && decide (n = "ValueError.__new__") && !cd.hasDel && cd.hasDict && PySem.HandSPX.refsVE bm && decide (PySem.W.alongIn K "__init__" ((cd.mro.dropWhile (· != .ref C)).drop 1) = some (some (.builtin "ValueError.__init__")))
    | _, _ => false)
  | _ => false
/-- what the written part says of the class x, whose __init__ stores the field f -/
def nxB (file : Str) (K : PySem.W.Frag) (x f : Str) : Bool :=
  He.eqO (PySem.W.nsIn K mainGlobals x) (some (some (.ref (He.ga K x)))) && clsB K (He.ga K x) && PySem.W.keepIn K (.ref (He.ga K x)) && decide (PySem.W.subIn K (.ref (He.ga K x)) (.type "BaseException") = some true) &&
  decide (PySem.W.subIn K (.ref (He.ga K x)) (.type "ValueError") = some true) && decide (PySem.W.typeIn K (.ref (He.ga K x)) = some (.type "type")) &&
  He.eqO (PySem.W.findIn K (.ref (He.ga K x)) "__setattr__") (some (some (.builtin "object.__setattr__"))) && He.eqO (PySem.W.findIn K (.ref (He.ga K x)) f) (some none) && decide (PySem.W.mroIn K (He.ga K x) (.ref (He.ga K x)) = some true) &&
  He.eqO (PySem.W.nsIn K mainGlobals "super") (some none) && He.eqO (PySem.W.nsIn K cStatics "thirdparty.any") (some none) &&
  He.eqO (PySem.W.findIn K (.ref (He.ga K x)) "__init__") (some (some (.ref (He.ma K (He.ga K x) "__init__")))) && decide (PySem.W.typeIn K (.ref (He.ma K (He.ga K x) "__init__")) = some (.type "function")) &&
  iniB file K (He.ga K x) f (He.ma K (He.ga K x) "__init__")

theorem eval_meth1 {env : PySem.Env} {o : Expr} {name : Str} {apos pos p2 : Pos} {c : Const} {j : Nat} (hl : (apos.endLine == pos.line) = true) : eval (.Call (.Attribute o name apos) [.Constant c j p2] [] pos) env = (do
      let ov ← attributeBase o name env (eval o env)
      standAt apos.atName
      let (f, first) ← holding [ov] (getMethod ov name (do return (← importBound o env).getD true))
      callWith pos f first (backTo pos (starEach [.Constant c j p2] env)) []) := by
  show (do
      let ov ← attributeBase o name env (eval o env)
      standAt apos.atName
      methodCall o name apos pos env ov 1 (backTo pos (starEach [.Constant c j p2] env)) []) = _
  have hm : methodCallForm 1 (backTo pos (starEach [.Constant c j p2] env)) [] = true := rfl
  unfold methodCall methodCallPos calleeOf
  simp only [hm, hl, Bool.not_true, Bool.false_or, if_true]
  rfl

theorem clsB_ok {K : PySem.W.Frag} {C : Addr} (h : clsB K C = true) : ∃ nm q N bs bm sn sub ab col dd k0 k1 k2 k3 k5, K.lookup C = some (excClassObj nm q C N bs bm true sn sub ab col dd k0 k1 k2 k3 k5 "ValueError.__new__") ∧ PySem.HandSPX.refsVE bm = true ∧
    PySem.W.alongIn K "__init__" (((Value.ref C :: bm).dropWhile (· != .ref C)).drop 1) = some (some (.builtin "ValueError.__init__")) := by
  unfold clsB at h
  split at h
  · rename_i dd cd sl ho
    split at h
    · rename_i C' bm k0 k1 k2 k3 n k5 hm hs
      simp only [Bool.and_eq_true, decide_eq_true_eq, Bool.not_eq_true'] at h
      obtain ⟨⟨⟨⟨⟨rfl, rfl⟩, h3⟩, h4⟩, h5⟩, h6⟩ := h
      obtain ⟨nm, bs, mro, ns, qn, hd, sn, sub, ab, col, del⟩ := cd
      dsimp only at hm h3 h4 h6
      subst hm h3 h4
      have hsl : sl = #[k0, k1, k2, k3, some (.builtin "ValueError.__new__"), k5] := by
        obtain ⟨l⟩ := sl
        simp only at hs
        rw [hs]
      subst hsl
      exact ⟨nm, qn, ns, bs, bm, sn, sub, ab, col, dd, k0, k1, k2, k3, k5, ho, h5, h6⟩
    · cases h
  · cases h

section
open PySem.W
variable {prog : Program} {w : World} {A : Around} {R : Result → Shared → Prop} {E : Value → Shared → Prop} {h : Heap} {g : Array GenState} {d : Drawn} {t : Nat} {os : OsState} {K : Frag} {mg mb : Str → Option Value} {C e t0 : Addr} {f : Str} {v : Value}

/-- the call of ValueError.__init__ bound to an own exception -/
theorem mw_call {nm q : Str} {N u : Addr} {bs bm : List Value} {sn : List Str} {sub : List Value} {ab : Bool} {col : Option Bool} {dd : Option Addr} {k0 k1 k2 k3 k5 : Option Value} {rest : List Value} {Q : Value → Shared → Prop}
    (hC : h.get? C = some (excClassObj nm q C N bs bm true sn sub ab col dd k0 k1 k2 k3 k5 "ValueError.__new__")) (he : h.get? e = some (HandSPX.excO C t0)) (hu : h.get? u = some (kxs_mw "ValueError.__init__" e)) (hz : rest.length ≤ sizeLine)
    (hq : ∀ h' t1, (∀ b o, b ≠ e → h.get? b = some o → h'.get? b = some o) → h'.get? e = some (HandSPX.excO C t1) → Q .none ⟨h', g, d, t, os⟩) :
    wpAny (model prog w) A (call (.ref u) rest) Q E ⟨h, g, d, t, os⟩ := by
  have FB := F.excBase_ValueError
  refine wpAny_call (codeAny_of_tree ?_)
  show wpAny _ A.in1 (callAny (.ref u) ⟨rest, []⟩) _ _ _
  simp only [callAny]
  refine wpAny_bind (wpAny_load hu ?_)
  simp only [kxs_mw, show (Value.type "method-wrapper" == Value.type "method" || Value.type "method-wrapper" == Value.type "builtin_function_or_method" || Value.type "method-wrapper" == Value.type "method-wrapper") = true by decide, if_true]
  refine KFB.if_so (by decide) ?_
  refine wpAny_bind (check_bound_init FB.toExcCallFacts hC he rfl ?_)
  refine wpAny_bind (wpAny_pure (wpAny_pure ?_))
  refine ⟨plainId_quiet FB.init.plain _, codeAny_builtin FB.initEntry ?_⟩
  exact exc_init_tree (cls := .ref C) (t0 := t0) (dv := none) (c2 := .none) (c3 := .none) (b4 := .bool false) he hz fun h' k e' t' => hq h' _ k e'

/-- the own __init__ -/
theorem init_nx {file : Str} (X : K.In h) (G : h.Ns mainGlobals mg) (hB : h.Ns builtinsNs mb) (hsup : mg "super" = none) (hbs : mb "super" = some (.type "super")) (lim : h.NoLimit) (hroom : A.depth < recursionLimit) (hf : prog.main.file = file) (htop : (prog.main.scope.names.lookup ("super" : Str)).isSome = false)
    {fI : Addr} (hi : iniB file K C f fI = true) (hc : clsB K C = true) (hno : findIn K (.ref C) f = some none) (sa : findIn K (.ref C) "__setattr__" = some (some (.builtin "object.__setattr__"))) (hm : mroIn K C (.ref C) = some true) (hth : nsIn K cStatics "thirdparty.any" = some none)
    (hve : subIn K (.ref C) (.type "ValueError") = some true) (he : h.get? e = some (HandSPX.excO C t0)) (hKe : K.lookup e = none)
    (hq : ∀ h' tk' dx t1, (∀ b o, b ≠ e → h.get? b = some o → h'.get? b = some o) → h.objs.size ≤ dx → dx ≠ e → h'.get? e = some { cls := .ref C, dict := some dx, data := .fields #[.ref t1, .none, .none, .none, .bool false, .none] } → h'.Ns1 dx (fun y => if y = f then some v else none) → R (.ok (.ret .none)) ⟨h', g, d, tk', os⟩) :
    codeAny (model prog w) A (.call (.ref fI) ⟨[.ref e, v], []⟩) R ⟨h, g, d, t, os⟩ := by
  obtain ⟨nm, q, N, bs, bm, sn, sub, ab, col, dd, k0, k1, k2, k3, k5, hC, hbm, hal⟩ := clsB_ok hc
  unfold iniB at hi
  split at hi
  · rename_i oc od fd osl lk
    split at hi
    · rename_i s1 sp1 sp2 i1 sp3 msg mj mp sp4 sp5 s2 sp6 f' sp7 p sp8 sp9 a1 a2 c1 cc hbody hargs hclo
      simp only [Bool.and_eq_true, decide_eq_true_eq, Bool.not_eq_true', beq_eq_false_iff_ne, ne_eq, List.all_eq_true, decide_eq_false_iff_not] at hi
      obtain ⟨⟨⟨⟨⟨⟨⟨⟨⟨⟨⟨⟨⟨⟨⟨⟨⟨⟨⟨⟨⟨⟨⟨⟨epos, e1⟩, e2⟩, e3⟩, e4⟩, e5⟩, e6⟩, n1⟩, n2⟩, e7⟩, hpl⟩, e8⟩, e9⟩, e10⟩, l1⟩, l2⟩, l3⟩, l4⟩, hcel⟩, hco⟩, hge⟩, hkd⟩, hcell⟩, hcode⟩, hfile⟩ := hi
      subst e1 e2 e3 e4 e7
      obtain ⟨name, qualname, params, body, scope, globals, closure, defaults, kwd, doc, pm, an, cdv, ct, blt⟩ := fd
      dsimp only at hbody hargs hclo e5 e6 hpl e8 e9 e10 l1 l2 l3 l4 hcel hco hge hkd hcell hcode hfile
      subst hbody hclo e8 e9 e10
      obtain ⟨po, ar, va, ko, kdf, kw, df⟩ := params
      dsimp only at hargs
      subst hargs
      have hk : scope.kind = .function := by
        split at hkd
        · assumption
        · cases hkd
      split at hcell
      · rename_i ccl ccd cv ccs lkc
        obtain rfl : cv = .ref C := of_decide_eq_true hcell
        split at hfile
        · rename_i cdv cda
          split at hfile
          · rename_i dcl dcd vs dcs lkd
            split at hfile
            · rename_i fl tf hvs
              let body : List Stmt := [.Expr (.Call (.Attribute (.Call (.Name "super" sp1) [] [] sp2) "__init__" sp3) [.Constant (.str msg) mj mp] [] sp4) sp5, .Assign [.Attribute (.Name "self" sp6) f' sp7] (.Name p sp8) sp9]
              let fd : FuncData := fnX name qualname ⟨po, [a1, a2], va, ko, kdf, kw, df⟩ body scope [("__class__", cc)] .none kwd doc pm an (.ref cda) ct
              have hbind : BindsTo ⟨h, g, d, t, os⟩ fd ⟨[.ref e, v], []⟩ [("self", .ref e), (p, v)] := by
                refine .of_eq ?_
                have z := bind_all (x := name) (qual := qualname) (params := ⟨po, [a1, a2], va, ko, kdf, kw, df⟩) (body := []) (scope := scope) (kV := kwd) (doc := doc) (pm := pm) (cdv := .ref cda) (ct := ct) (an := an) (ps := ["self", p]) (ks := []) (us := [.ref e, v]) (ws := []) hpl (by
                  show [a1.arg, a2.arg] = _
                  rw [e5, e6]) (by
                  unfold bindB
                  simp [Ne.symm n1]) rfl
                refine z.trans ?_
                simp [reord, ixOf, List.range_succ]
              refine ks_codeAny_call_defAt (fd := fd) (body := body) (binds := [("self", .ref e), (p, v)]) hroom (X _ _ lk) rfl lim (codeRec_of X hcode) rfl hbind (fun x hx => hcel x hx) (fun x hx => ?_) (fun h₀ hns hk₀ => ?_) hco hge hk
              · simp at hx
                rcases hx with rfl | rfl
                · exact l3
                · exact l4
              · let env : PySem.Env := callEnv fd h.objs.size fI
                have X0 : K.In h₀ := X.keeps hk₀
                have hcl : clsIn K C = some { name := nm, bases := bs, mro := .ref C :: bm, ns := N, qualname := q, hasDict := true, slotNames := sn, subclasses := sub, abstract := ab, collection := col, hasDel := false } := by unfold clsIn; rw [hC] <;> rfl
                have eC : e ≠ C := fun z => by
                  have z1 := X _ _ hC
                  rw [← z, he] at z1
                  cases z1
                have hse : (fun y => [(("self" : Str), Value.ref e), (p, v)].reverse.lookup y) "self" = some (.ref e) := by
                  show List.lookup _ [(p, v), (("self" : Str), Value.ref e)] = _
                  rw [List.lookup_cons, show (("self" : Str) == p) = false by simpa using Ne.symm n1, List.lookup_cons, beq_self_eq_true]
                have hsp : (fun y => [(("self" : Str), Value.ref e), (p, v)].reverse.lookup y) p = some v := by
                  show List.lookup _ [(p, v), (("self" : Str), Value.ref e)] = _
                  rw [List.lookup_cons, beq_self_eq_true]
                refine ks_wpAt_execs_cons (ks_wpAt_Expr_any (ks_wpAt_MethodCall ?_ (eval_meth1 (by simpa using epos))) (hi := by show interactive env = false; unfold interactive; rw [show env.scope.kind = .function from hk]; rfl))
                refine ks_wpAt_super_base (env := env) (fd := fd) (f := fI) (cc := cda) (ar := a1) (file := fl) (tf := tf) l1 l2 (by decide) rfl (X0 _ _ lk) rfl ?_ rfl (X0 _ _ lkd) rfl hvs ?_ htop ?_
                · have hpo : po = [] := by
                    unfold plainP at hpl
                    simp only [Bool.and_eq_true, List.isEmpty_iff] at hpl
                    exact hpl.1.1.1.1
                  show (po ++ [a1, a2]).head? = some a1
                  rw [hpo]; rfl
                · rw [hf]; exact hfile
                · refine ks_loadName_global hk l1 (loadGlobal_builtin (env := env) (G.keeps hk₀) hsup (hB.keeps hk₀) hbs ⟨rfl, ?_⟩)
                  refine wpAny_loadName_free hk l2 rfl ⟨_, X0 _ _ lkc, rfl⟩ ?_
                  rw [e5]
                  refine wpAny_loadName_local hk l3 hns hse ?_
                  refine ks_wpAny_isType_cls (X0 _ _ hC) rfl ⟨rfl, ?_⟩
                  refine ks_wpAny_call_super (X0 _ _ hC) rfl (hk₀ _ _ he) rfl (fun c z => by cases z) (looks_mroIn X0 hm) (fun h1 so1 k1 => ?_)
                  have X1 : K.In h1 := X0.keeps k1
                  have LI : Looks (model prog w) h1 (isInstance (.ref e) (.type "ValueError")) true := Looks.andThen (fun A Q E s k q => wpAny_typeOf_ref (k _ _ (k1 _ _ (hk₀ _ _ he))) q) (looks_subIn X1 hve)
                  refine kxs_getMethod kxs_ValueError so1 (looks_opaque X1 hth) (l₀ := .ref C :: bm) (fun A Q E s k q => wpAny_bind ((looks_clsIn X1 hcl) A _ E s k (wpAny_pure q))) rfl X1 hal LI eC (by decide) ?_
                  let h2 := h1.push (kxs_mw "ValueError.__init__" e)
                  have k2 : ∀ b o, h1.get? b = some o → h2.get? b = some o := fun b o z => Heap.get?_push_of_some _ z
                  refine kxs_callWith (i := "ValueError.__init__") (x := e) (by rfl) (evalArgs_plain ?_)
                  refine Calls.spliced_cons (Calls.Constant_str (pos := mp) (k := mj) (Calls.spliced_nil ⟨Heap.get?_push_at rfl rfl, ?_⟩))
                  have X2 : K.In h2 := X1.keeps k2
                  have kall : ∀ b o, h.get? b = some o → h2.get? b = some o := fun b o z => k2 _ _ (k1 _ _ (hk₀ _ _ z))
                  refine mw_call (X2 _ _ hC) (kall _ _ he) (Heap.get?_push_at rfl rfl) (by simp [sizeLine_eq]) (fun h3 t1 k3 he3 => ?_)
                  have k03 : ∀ b o, b ≠ e → h.get? b = some o → h3.get? b = some o := fun b o nb z => k3 _ _ nb (kall _ _ z)
                  have X3 : K.In h3 := fun b o z => k3 _ _ (fun q => by
                    rw [q, hKe] at z
                    cases z) (X2 _ _ z)
                  refine wpAt_of_wpAny (wpAny_execs_cons (plainObj_wpAny_Assign_Attribute ?_))
                  have hns3 : h3.Ns h.objs.size fun x => List.lookup x [(("self" : Str), Value.ref e), (p, v)].reverse := by
                    obtain ⟨o, es, ep, q1, q2, q3⟩ := hns
                    exact ⟨o, es, ep, k3 _ _ (Nat.ne_of_gt (Heap.lt_size he)) (k2 _ _ (k1 _ _ q1)), q2, q3⟩
                  refine wpAny_Name (wpAny_loadName_local hk l4 hns3 hsp ?_) (by simpa using n2)
                  refine wpAny_Name (wpAny_loadName_local hk l3 hns3 hse ?_) (by decide)
                  refine set_plain X3 (ox := HandSPX.excO C t1) (od := none) ⟨he3, rfl, rfl, trivial⟩ sa ?_
                  refine HandSPX.exc_osa X3 he3 hcl (show HandSPX.refsVE (.ref C :: bm) = true from hbm) rfl hno (fun h4 tk4 dx k4 dn dne hx hn => ?_)
                  refine wpAny_execs_nil (hq h4 tk4 dx t1 (fun b o nb z => k4 _ _ nb (k03 _ _ nb z)) (Nat.le_trans ?_ dn) dne hx hn)
                  obtain ⟨o, _, _, q1, _⟩ := hns3
                  exact Nat.le_of_lt (Heap.lt_size q1)
            · cases hfile
          · cases hfile
        · cases hfile
      · cases hcell
    · cases hi
  · cases hi
end

section
open PySem.W
variable {X : Cx} {x f : Str} {e : Expr} {te : TE} {p pos : Pos}
/-- C(e): the exception's own dict holds the field -/
def tNx (C : Addr) (f : Str) (te : TE) : L2.St → Hp → XK → Prop := fun σ H Q => te σ H fun y H1 => ∀ dx, H1 dx = none → Q (.ref C) (some dx) (upd H1 dx (.xd [(f, y)]))
theorem nxB_mg {file : Str} {K : PySem.W.Frag} {h : Heap} {mg : Str → Option Value} (KX : K.In h) (G : h.Ns mainGlobals mg) (hB : nxB file K x f = true) : mg x = some (.ref (He.ga K x)) := by
  unfold nxB at hB
  simp only [Bool.and_eq_true] at hB
  exact PySem.W.mg_of KX G (He.eqO_ok hB.1.1.1.1.1.1.1.1.1.1.1.1.1)
theorem pmk_nx (hB : nxB X.prog.main.file X.K x f = true) (htop : (X.prog.main.scope.names.lookup ("super" : Str)).isSome = false) (hg : Gl X x) (hm : X.mg x = some (.ref (He.ga X.K x))) (hr : Room 1 X.A) (he : PE X e te)
    (hdb : (x == ("__debug__" : Str)) = false) (hst : starEach [e] X.env = (false, eval e X.env) :: starEach [] X.env) : PMk X (.Call (.Name x p) [e] [] pos) (tNx (He.ga X.K x) f te) := by
  unfold nxB at hB
  simp only [Bool.and_eq_true, decide_eq_true_eq] at hB
  obtain ⟨⟨⟨⟨⟨⟨⟨⟨⟨⟨⟨⟨⟨c1, c2⟩, c3⟩, c4⟩, c5⟩, c6⟩, c7⟩, c8⟩, c9⟩, c10⟩, c11⟩, c12⟩, c13⟩, c14⟩ := hB
  generalize He.ga X.K x = C at *
  have c2' := c2
  obtain ⟨nm, q, N, bs, bm, sn, sub, ab, col, dd, k0, k1, k2, k3, k5, hC, hbm, hal⟩ := clsB_ok c2
  intro pins s σ H Q I h
  have hN := I.ok.mod.glob
  refine wpAny_Call_Name_kw (ld_glob I hg hm ?_ hdb)
  let Q1 : List V → Hp → Prop := fun vs H1 => match vs with
    | [y] => ∀ dx, H1 dx = none → Q (.ref C) (some dx) (upd H1 dx (.xd [(f, y)]))
    | _ => False
  refine PySem.W.callWith_K (h₀ := X.base) I.ok.mod.kin c3 (thn ((pa_cons he pa_nil hst).run pos pins s σ H Q1 I h) fun us s1 ⟨vs, H1, I1, r1, q1⟩ => ⟨I1.kIn, ?_⟩) hst (by rfl)
  obtain ⟨y, rfl⟩ : ∃ y, vs = [y] := by
    match vs, q1 with
    | [y], _ => exact ⟨y, rfl⟩
  have q1 : ∀ dx, H1 dx = none → Q (.ref C) (some dx) (upd H1 dx (.xd [(f, y)])) := q1
  obtain ⟨u, rfl, ru⟩ : ∃ u, us = [u] ∧ RelV y u := by
    cases r1 with
    | cons r t => cases t with
      | nil => exact ⟨_, rfl, r⟩
  show wpAny _ _ (call (.ref C) [u]) _ _ _
  obtain ⟨mb, hmb, hbo⟩ := I.ok.mod.blt
  have kb : ∀ b o, X.base.get? b = some o → s1.heap.get? b = some o := I1.bk
  obtain ⟨hp, g, dr, tk, os⟩ := s1
  have KX : X.K.In hp := I1.kIn
  have kk : ∀ b o, hp.get? b = some o → ((hp.push (PySem.W.kdv_tup [u])).push (PySem.HandSPX.excO C hp.objs.size)).get? b = some o := fun b o e => Heap.get?_push_of_some _ (Heap.get?_push_of_some _ e)
  have hget : ((hp.push (PySem.W.kdv_tup [u])).push (PySem.HandSPX.excO C hp.objs.size)).get? (hp.objs.size + 1) = some (PySem.HandSPX.excO C hp.objs.size) := by heap_get
  have fresh : X.K.lookup (hp.objs.size + 1) = none := by
    cases z : X.K.lookup (hp.objs.size + 1) with
    | none => rfl
    | some o => exact (Nat.not_lt.mpr (Nat.le_succ _) (Heap.lt_size (KX _ _ z))).elim
  refine wpAny_call (PySem.HandSPX.call_own F.excBase_ValueError (fun Y => PySem.HandSPX.refsVE_contains Y bm hbm) (KX _ _ hC) (PySem.W.looks_findIn KX (He.eqO_ok c12)) (fun self => PySem.W.bind_fn KX self c13) (by simp [sizeLine_eq]) ?_)
  have mk : Room 0 (X.A.under (.builtin "type.__call__" ⟨.ref C :: [u], []⟩)) := hr.make C [u] []
  refine init_nx (mg := X.mg) (mb := mb) (KX.keeps kk) (hN.keeps fun b o z => kk _ _ (kb _ _ z)) (hmb.keeps fun b o z => kk _ _ (kb _ _ z)) (PySem.W.mg_none_of I.ok.mod.kin hN (He.eqO_ok c10)) ((hbo _ (by decide)).trans (by kernel_rfl)) (I1.nolimit.keeps kk) mk.depth rfl htop c14 c2' (He.eqO_ok c8) (He.eqO_ok c7) c9 (He.eqO_ok c11) c5 hget fresh (fun h' tk' dx t1 k ds de he' hn => ?_)
  obtain ⟨G, g1, g2⟩ := restrict h' fun b => decide (b ≠ hp.objs.size + 1)
  have gk : ∀ b, b ≠ hp.objs.size + 1 → G.get? b = h'.get? b := fun b hb => g1 b (decide_eq_true hb)
  have ge : G.get? (hp.objs.size + 1) = none := g2 _ (by simp)
  have ne : ∀ {b : Addr} {o : Obj}, hp.get? b = some o → b ≠ hp.objs.size + 1 := fun z => Nat.ne_of_lt (Nat.lt_succ_of_lt (Heap.lt_size z))
  have dsz : hp.objs.size ≤ dx := Nat.le_trans (by rw [Heap.size_push, Heap.size_push]; exact Nat.le_trans (Nat.le_succ _) (Nat.le_succ _)) ds
  have nd : H1 dx = none := I1.hok.fresh dsz
  have J : Inv X pins σ (upd H1 dx (.xd [(f, y)])) ⟨G, g, dr, tk', os⟩ := I1.laid (t' := tk') (a := dx) (o := .xd [(f, y)]) (h' := G) (fun b o z => (gk b (ne z)).trans (k b o (ne z) (kk _ _ z))) dsz ⟨_, hn.at fun o z => (gk dx de).trans z, relO_put (fs := []) ru fun g => True.intro⟩
  have rs : Raises X (.ref C) := raises_own c4 c6
  refine ⟨rfl, hp.objs.size + 1, _, _, ⟨G, g, dr, tk', os⟩, _, .ref C, some dx, rfl, J, fun b o z => ?_, ge, he', ⟨rfl, rfl⟩, rfl, rfl, ?_, rfl, I1.bare, rs, q1 dx nd⟩
  · by_cases hb : b = hp.objs.size + 1
    · rw [hb, ge] at z
      cases z
    · exact (gk b hb).symm.trans z
  · rw [upd_ne (Ne.symm de)]
    exact I1.hok.fresh (Nat.le_succ _)
end
end Fx

set_option maxHeartbeats 4000000
/-! Fe2: try: body, several clauses except C as n, none of which is missed. -/
namespace Fx
open PySem PySem.Spec PySem.Calls PyProof.Rows L2

/-- behind a suite the clause's name is gone -/
def Ends.off (D : Ends) (i : Nat) : Ends := { nx := fun σ H => D.nx (σ.set i none) H, rt := D.rt, bk := fun σ H => D.bk (σ.set i none) H, ct := fun σ H => D.ct (σ.set i none) H }
abbrev Suit := Addr → Value → Option Addr → TS
/-- what is wanted of an exception: some clause takes it -/
def wNmd (K : PySem.W.Frag) (i : Nat) (D : Ends) : List (Value × Suit) → WX
  | [], _, _, _, _ => False
  | p :: l, cls, d, σ, H => ∃ b, PySem.W.exmOne K cls p.1 = some b ∧ if b = true then ∀ a, H a = none → p.2 a cls d (Ends.off D i) (σ.set i (some (.ref a))) H else wNmd K i D l cls d σ H
inductive Nmd (X : Cx) (n : Str) : List ExceptHandler → List (Value × Suit) → Prop
  | nil : Nmd X n [] []
  | cons {x : Str} {c : Value} {ts : Suit} {st : Stmt} {sts : List Stmt} {p1 p2 : Pos} {hds : List ExceptHandler} {l : List (Value × Suit)} (hc : Names X x c)
      (su : ∀ (a : Addr) (o : Obj) (cls : Value) (d : Option Addr) (pn : List (Addr × Obj)), Zc cls d o → (∃ vs, o.data = .fields vs) → PSs (X.suite a ((a, o) :: pn)) (st :: sts) (ts a cls d)) (r : Nmd X n hds l) :
      Nmd X n (.ExceptHandler (some (.Name x p1)) (some n) (st :: sts) p2 :: hds) ((c, ts) :: l)

/-- the exception at a has come down -/
structure Down (X : Cx) (pins : List (Addr × Obj)) (B : Heap) (a : Addr) (cls : Value) (d : Option Addr) (σ : L2.St) (H : Hp) (sI s : Shared) : Prop where
  inv : Inv X pins σ H sI
  old : ∀ b o, sI.heap.get? b = some o → b ∉ frs X.stack → B.get? b = some o
  up : sI.heap.UpToSlots s.heap
  fly : HandSPX.FlyingZ B (X.env :: X.outer) a (Zc cls d) s.heap
  os : s.os = sI.os
  bare : AllBare s.gens
  na : H a = none
section
variable {X : Cx} {pins : List (Addr × Obj)} {B : Heap} {a : Addr} {cls : Value} {d : Option Addr} {σ : L2.St} {H : Hp} {sI s : Shared} {i : Nat} {n : Str} {D : Ends}
theorem Down.here (k : Down X pins B a cls d σ H sI s) : Inv X pins σ H s := k.inv.landed k.old k.fly.1 k.up k.os k.bare
/-- in a suite -/
theorem Down.suit (k : Down X pins B a cls d σ H sI s) (hf : X.env.frame = some X.env.locals) : ∃ oe, s.heap.get? a = some oe ∧ Zc cls d oe ∧ (∃ vs, oe.data = .fields vs) ∧ Inv (X.suite a ((a, oe) :: (X.pn ++ pins))) [] σ H s := by
  obtain ⟨oe, vs, he, hz, hd⟩ := k.fly.there
  have out : a ∉ frs (X.env :: X.outer) := fun hm => by
    obtain ⟨_, o, e, no⟩ := k.fly.2.2.1.mem hm
    rw [he] at e
    cases e
    exact no _ hd
  have n1 : a ≠ X.env.locals := fun z => out (List.mem_filterMap.mpr ⟨X.env, List.mem_cons_self, by rw [hf, z]⟩)
  have n2 : a ∉ X.fs := fun hm => by
    obtain ⟨e, h1, h2⟩ := List.mem_filterMap.mp hm
    exact out (List.mem_filterMap.mpr ⟨e, List.mem_cons_of_mem _ h1, h2⟩)
  exact ⟨oe, he, hz, ⟨vs, hd⟩, k.here.suite he hd k.na n1 n2⟩
/-- the clauses, one after the other -/
theorem clauses (hf : X.env.frame = some X.env.locals) (hN : X.N.Nodup) (hi : X.N[i]? = some n) (hln : X.env.kindOf n = some .local) (ok : X.Ok) {hds : List ExceptHandler} {l : List (Value × Suit)} (hh : Nmd X n hds l) :
    ∀ {s : Shared}, Down X pins B a cls d σ H sI s → wNmd X.K i D l cls d σ H → wpAny (model X.prog X.w) X.A (handleBy (.ref a) X.env hds) (SP X pins D) X.xe s := by
  induction hh with
  | nil => exact fun _ w => w.elim
  | @cons x c ts st sts p1 p2 hds l hc su r ih =>
    intro s k w
    obtain ⟨b, hb, w⟩ := w
    obtain ⟨oe, he, hz, hd, S⟩ := k.suit hf
    refine wpAny_handleBy_cons (codeAny_handlers_test ?_) (by intro q; cases q)
    have lt : PySem.W.Looks (model X.prog X.w) s.heap (typeOf (.ref a)) cls := fun A Q E t kk q => wpAny_typeOf_ref (kk _ _ he) (by rw [hz.1]; exact q)
    have fits := PySem.W.exm_one (M := model X.prog X.w) k.here.kIn lt hb
    have go : ∀ {Q : Value → Shared → Prop} {E : Value → Shared → Prop}, Q c s → wpAny (model X.prog X.w) (X.A.mark (some (.ref a))) (eval (.Name x p1) X.env) Q E s := fun {Q E} q => by
      obtain ⟨hg, hdb, hm | ⟨hm, hv, hn⟩⟩ := hc
      · exact ld_glob (X := X.suite a ((a, oe) :: (X.pn ++ pins))) S hg hm q hdb
      · exact ld_blt (X := X.suite a ((a, oe) :: (X.pn ++ pins))) S hg hm hv q hn hdb
    refine go (fits.here ?_)
    cases b with
    | false => exact ih k (by simpa using w)
    | true =>
      have w : ∀ a, H a = none → ts a cls d (Ends.off D i) (σ.set i (some (.ref a))) H := by simpa using w
      refine codeAny_handlers_suite_as (HandSPX.lands_againZ k.fly fun h4 fl4 up4 => ?_)
      have k4 : Down X pins B a cls d σ H sI { s with heap := h4 } := ⟨k.inv, k.old, k.up.trans up4, fl4, k.os, k.bare, k.na⟩
      obtain ⟨oe4, he4, hz4, hd4, S4⟩ := k4.suit hf
      refine store_ok (X := X.suite a ((a, oe4) :: (X.pn ++ pins))) (v := .ref a) S4 hN hi (.inl hln) rfl (fun s5 S5 => ?_) (.inr hln)
      refine wpAny_mono ((su a oe4 cls d (X.pn ++ pins) hz4 hd4).run [] s5 _ H _ S5 (w a k.na)) (fun f s6 q6 => ?_) (fun _ _ z => z.elim)
      have fin : ∀ {σ6 : L2.St} {H6 : Hp} {Q : Shared → Prop}, Inv (X.suite a ((a, oe4) :: (X.pn ++ pins))) [] σ6 H6 s6 → (∀ s7, Inv X pins (σ6.set i none) H6 s7 → Q s7) →
          wpAny (model X.prog X.w) X.A (do bindName X.env n .none; unbindBehindTheSuite X.env n p2) (fun _ s7 => Q s7) X.xe s6 := fun J hq => gone_ok (J.unsuite ok) hN hi hln hq
      cases f with
      | ret u =>
        obtain ⟨v6, σ6, H6, J6, r6, q6⟩ := q6
        exact fin J6 fun s7 J7 => ⟨_, _, _, J7, r6, q6⟩
      | next =>
        obtain ⟨σ6, H6, J6, q6⟩ := q6
        exact fin J6 fun s7 J7 => ⟨_, _, J7, q6⟩
      | brk =>
        obtain ⟨σ6, H6, J6, q6⟩ := q6
        exact fin J6 fun s7 J7 => ⟨_, _, J7, q6⟩
      | cont =>
        obtain ⟨σ6, H6, J6, q6⟩ := q6
        exact fin J6 fun s7 J7 => ⟨_, _, J7, q6⟩
end
section
variable {X : Cx} {i : Nat} {n : Str} {body : List Stmt} {h0 : ExceptHandler} {hds : List ExceptHandler} {l : List (Value × Suit)} {pos : Pos} {tb : WX → TS}
/-- THE RULE -/
theorem ps_try_nmd (hs : X.stack = X.env :: X.outer) (hf : X.env.frame = some X.env.locals) (hN : X.N.Nodup) (hi : X.N[i]? = some n) (hln : X.env.kindOf n = some .local)
    (hb : ∀ (W : WX) (pn : List (Addr × Obj)) (xe : Value → Shared → Prop), Takes (X.tr pn xe) W → PassesOwn (model X.prog X.w) X.A X.env xe → PSs (X.tr pn xe) body (tb W)) (hh : Nmd X n (h0 :: hds) l) :
    PS X (.Try body (h0 :: hds) [] [] pos) (fun D σ H => tb (wNmd X.K i D l) D σ H) := by
  refine ⟨fun pins s σ H D I h => ?_⟩
  have ok := I.ok
  have frm : X.A.frames = some (X.env :: X.outer) := by rw [ok.frames, hs]
  refine wpAny_Try_except (wpAny_mono ((hb (wNmd X.K i D l) (X.pn ++ pins) (fun e s1 => wpAny (model X.prog X.w) X.A (noteFrame e X.env) (fun _ s2 => wpAny (model X.prog X.w) X.A (setFlight e none) (fun _ s3 =>
    wpAny (model X.prog X.w) X.A (handleBy e X.env (h0 :: hds)) (SP X pins D) X.xe s3) X.xe s2) X.xe s1) (fun u s' xx => ?_) PassesOwn.looking).run [] s σ H D (I.toTry _) h) (fun f s1 q => ?_) (fun e s1 he => he))
  · obtain ⟨a, B, sI, pins', σ', H', cls, d, rfl, J', nb, up, sky, na, os, ag, w⟩ := xx
    have sky2 : Sky B (X.env :: X.outer) a (Zc cls d) X.env.locals s'.heap := by rw [← hs]; exact sky
    refine Sky.land Zc.steady frm hf sky2 fun h3 fl3 up3 => ?_
    exact clauses hf hN hi hln ok hh ⟨J'.ofTry ok, nb, up.trans up3, fl3, os, ag, na⟩ w
  · cases f with
    | ret u =>
      obtain ⟨v, σ', H', J, r, q⟩ := q
      exact ⟨v, σ', H', J.ofTry ok, r, q⟩
    | next =>
      obtain ⟨σ', H', J, q⟩ := q
      exact wpAny_execs_nil ⟨σ', H', J.ofTry ok, q⟩
    | brk =>
      obtain ⟨σ', H', J, q⟩ := q
      exact ⟨σ', H', J.ofTry ok, q⟩
    | cont =>
      obtain ⟨σ', H', J, q⟩ := q
      exact ⟨σ', H', J.ofTry ok, q⟩
end
end Fx

set_option maxHeartbeats 4000000
/-! Fe3: a lambda (no parameter, or one with a written value) made, and called. -/
namespace Fx
open PySem PySem.Spec PySem.Calls PyProof.Rows L2 LamX

structure LamK (sc scope : Scope) (N ps : List Str) : Prop where
  kind : scope.kind = .function
  co : scope.isCoroutine = false
  gen : scope.isGenerator = false
  loc : ∀ y ∈ ps, scope.names.lookup y = some .local
  own : ∀ y ∈ scope.names, y.2 ≠ .cell ∧ (y.2 = .local → y.1 ∉ N)
  free : ∀ y ∈ scope.names, y.2 = .free → sc.names.lookup y.1 = some .cell ∨ sc.names.lookup y.1 = some .free
theorem lamB_ok {N : List Str} {sc scope : Scope} {params : Arguments} (h : lamB N sc scope params = true) : ∃ ps, lamPs params = some ps ∧ LamK sc scope N ps := by
  unfold lamB at h
  simp only [Bool.and_eq_true, Bool.not_eq_true'] at h
  obtain ⟨⟨⟨h1, h2⟩, h3⟩, h4⟩ := h
  cases hp : lamPs params with
  | none => rw [hp] at h4; cases h4
  | some ps =>
    rw [hp] at h4
    simp only [Bool.and_eq_true, List.all_eq_true, decide_eq_true_eq, Bool.or_eq_true, Bool.not_eq_true', decide_eq_false_iff_not] at h4
    refine ⟨ps, rfl, ?_, h2, h3, h4.1, fun y hy => ⟨(h4.2 y hy).1.1, fun e => ?_⟩, fun y hy e => ?_⟩
    · cases hk : scope.kind <;> rw [hk] at h1 <;> first | rfl | cases h1
    · rcases (h4.2 y hy).1.2 with z | z
      · exact absurd e z
      · simpa using z
    · rcases (h4.2 y hy).2 with (z | z) | z
      · exact absurd e z
      · exact .inl z
      · exact .inr z
theorem lamPs_ok {params : Arguments} {ps : List Str} (h : lamPs params = some ps) : (params = ⟨[], [], none, [], [], none, []⟩ ∧ ps = []) ∨ ∃ a z k p, params = ⟨[], [a], none, [], [], none, [.Constant (.int z) k p]⟩ ∧ ps = [a.arg] := by
  unfold lamPs at h
  obtain ⟨po, ar, va, ko, kd, kw, df⟩ := params
  split at h
  · rename_i hc
    simp only [Bool.and_eq_true, List.isEmpty_iff, Option.isNone_iff_eq_none] at hc
    obtain ⟨⟨⟨⟨rfl, rfl⟩, rfl⟩, rfl⟩, rfl⟩ := hc
    split at h
    · rename_i e1 e2
      dsimp only at e1 e2
      subst e1 e2
      cases h
      exact .inl ⟨rfl, rfl⟩
    · rename_i a z k p e1 e2
      dsimp only at e1 e2
      subst e1 e2
      cases h
      exact .inr ⟨a, z, k, p, rfl, rfl⟩
    · cases h
  · cases h

/-- the written value of a lambda's parameter -/
def DvOk (h : Heap) (H : Hp) (fr : List Addr) (ps : List Str) (dV : Value) : Prop := (ps = [] ∧ dV = .none) ∨ ∃ t v, ps.length = 1 ∧ dV = .ref t ∧ h.get? t = some (PySem.W.kdv_tup [v]) ∧ H t = none ∧ t ∉ fr
section
variable {X : Cx} {pins : List (Addr × Obj)} {σ : L2.St} {H : Hp} {s : Shared} {T : List (Addr × Str)} {c P : Addr} {params : Arguments} {body : Expr} {scope : Scope} {pos : Pos} {ps : List Str} {E : Value → Shared → Prop} {Q : Value → Shared → Prop}
abbrev lamQ (X : Cx) : Str := X.env.qual ++ "<lambda>"
/-- what is known behind the making -/
structure Made_ (X : Cx) (pins : List (Addr × Obj)) (σ : L2.St) (T : List (Addr × Str)) (P : Addr) (H : Hp) (params : Arguments) (body : Expr) (scope : Scope) (ps : List Str) (f c' : Addr) (dV doc pm ctv : Value) (H1 : Hp) (s' : Shared) : Prop where
  inv : Inv X pins σ H1 s'
  hp : H1 = H ∨ ∃ us qs, H P = some (.tbl us) ∧ H c' = none ∧ H1 = upd (upd H P (.tbl qs)) c' (CodeO c' (lamQ X))
  tab : Tabs T H1
  fn : s'.heap.get? f = some (PySem.W.kdv_obj "<lambda>" (lamQ X) params (.expr body) scope (cloFrom X.env.cells scope.names []) dV doc pm c' ctv)
  dv : DvOk s'.heap H1 (frs X.stack) ps dV
  nf : H1 f = none
  ff : f ∉ frs X.stack
  code : H1 c' = some (CodeO c' (lamQ X))
theorem tail_lam {dV : Value} (I : Inv X pins σ H s) (TB : TabB X.base X.mg c P) (hcode : X.env.code = .ref c) (hm : (P, lamQ X) ∈ T) (hu : ∀ p ∈ T, p.1 = P → p.2 = lamQ X) (hT : Tabs T H) (hfree : ∀ y ∈ scope.names, y.2 = .free → ∃ c, X.env.cells.lookup y.1 = some c)
    (hdv : DvOk s.heap H (frs X.stack) ps dV) (h : ∀ f c' doc pm ctv H1 s', Made_ X pins σ T P H params body scope ps f c' dV doc pm ctv H1 s' → Q (.ref f) s') :
    wpAny (model X.prog X.w) X.A (makeTail "<lambda>" (lamQ X) params (.expr body) scope X.env dV .none none pos pos.line) Q E s := by
  obtain ⟨ps0, hP, ht, ha⟩ := hT _ hm
  have bP : s.heap.BuiltinsAt X.mg P := TB.bm.keeps I.bk
  have hP' : s.heap.get? P = some { cls := .none, data := .fields ps0 } := I.hok P _ hP
  have nofr : ∀ f, s.heap.objs.size ≤ f → f ∉ frs X.stack := fun f hf z => by
    rcases List.mem_cons.mp (I.stkSub _ z) with e | e
    · have h1 := I.lt
      rw [← e] at h1
      exact Nat.lt_irrefl _ (Nat.lt_of_lt_of_le h1 hf)
    · exact I.nofs hf e
  have dvK : ∀ {h' : Heap} {H1 : Hp}, (∀ b o, b ≠ P → s.heap.get? b = some o → h'.get? b = some o) → (∀ t, H t = none → t < s.heap.objs.size → H1 t = none) → DvOk h' H1 (frs X.stack) ps dV := fun {h' H1} k kn => by
    rcases hdv with z | ⟨t, v, e1, e2, e3, e4, e5⟩
    · exact .inl z
    · exact .inr ⟨t, v, e1, e2, k t _ (fun q => by rw [q, hP] at e4; cases e4) e3, kn t e4 (Heap.lt_size e3), e5⟩
  cases hc : codeAmong pos ps0.toList with
  | none =>
    refine PySem.W.kdv_makeTail (mg := X.mg) (c := c) (P := P) (ps := ps0) (closure_ok hfree) I.ok.glob (I.mod.glob.keeps I.bk) hcode (TB.code.keeps I.bk) hP' ht hc TB.gP bP fun c' ctv doc h' tk hx hge hlt hrec htb => ?_
    obtain ⟨c2, oc, vs, t, e2, hoc, hd, hv⟩ := hrec
    cases e2
    have nC : H c' = none := I.hok.fresh hge
    have hsz : s.heap.objs.size ≤ h'.objs.size := Nat.le_trans hge (Nat.le_of_lt hlt)
    have J := inv_table (t' := tk) (more := #[rawInt pos.line, rawInt pos.col, .ref c']) (h' := h'.push (PySem.W.kdv_obj "<lambda>" (lamQ X) params (.expr body) scope (cloFrom X.env.cells scope.names []) dV doc ((X.mg "__name__").getD .none) c' ctv)) I hP
      (fun b o hb e => Heap.get?_push_of_some _ (hx b o hb e)) (Heap.get?_push_of_some _ htb) hge ⟨oc, vs, t, Heap.get?_push_of_some _ hoc, hd, hv⟩
    have kk : ExtN H (upd (upd H P (.tbl (ps0 ++ #[rawInt pos.line, rawInt pos.col, .ref c']))) c' (CodeO c' (lamQ X))) := fun b o e n => by
      rw [upd_ne (ne_of_none e nC), upd_ne (fun z => n ps0 (Option.some.inj (e.symm.trans (by rw [z]; exact hP))))]
      exact e
    have eL : (ps0 ++ #[rawInt pos.line, rawInt pos.col, .ref c']).toList = ps0.toList ++ [rawInt pos.line, rawInt pos.col, .ref c'] := by simp
    refine h h'.objs.size c' doc _ ctv _ _ ⟨J, .inr ⟨ps0, _, hP, nC, rfl⟩, fun p hp => ?_, Heap.get?_push_size _ rfl, dvK (fun b o hb e => Heap.get?_push_of_some _ (hx b o hb e)) (fun t e l => ?_), ?_, nofr _ hsz, upd_same⟩
    · by_cases hb : p.1 = P
      · rw [hu p hp hb, hb]
        refine ⟨_, by rw [upd_ne (ne_of_none hP nC), upd_same], by rw [eL]; exact PySem.TriplesOk_snoc _ _ _ _ ht, fun p' cv hcv => ?_⟩
        rw [eL] at hcv
        rcases among_app _ ht hcv with z | z
        · obtain ⟨c0, e1, e2⟩ := ha p' cv z
          exact ⟨c0, e1, kk _ _ e2 codeO_ne⟩
        · exact ⟨c', z, upd_same⟩
      · obtain ⟨ps', a1, a2, a3⟩ := hT p hp
        refine ⟨ps', by rw [upd_ne (ne_of_none a1 nC), upd_ne hb]; exact a1, a2, fun p' cv hcv => ?_⟩
        obtain ⟨c0, e1, e2⟩ := a3 p' cv hcv
        exact ⟨c0, e1, kk _ _ e2 codeO_ne⟩
    · have n1 : t ≠ c' := Nat.ne_of_lt (Nat.lt_of_lt_of_le l hge)
      have n2 : t ≠ P := fun z => by rw [z, hP] at e; cases e
      rw [upd_ne n1, upd_ne n2]
      exact e
    · have n1 : h'.objs.size ≠ c' := Nat.ne_of_gt hlt
      have n2 : h'.objs.size ≠ P := Nat.ne_of_gt (Nat.lt_of_lt_of_le (Heap.lt_size hP') hsz)
      rw [upd_ne n1, upd_ne n2]
      exact I.hok.fresh hsz
  | some cv =>
    obtain ⟨c', e, hco⟩ := ha pos cv hc
    subst e
    refine PySem.W.kdv_makeTailHit (mg := X.mg) (c := c) (P := P) (ps := ps0) (closure_ok hfree) I.ok.glob (I.mod.glob.keeps I.bk) hcode (TB.code.keeps I.bk) hP' ht hc bP fun ctv doc h' tk hx hsz => ?_
    have J : Inv X pins σ H { s with heap := h'.push (PySem.W.kdv_obj "<lambda>" (lamQ X) params (.expr body) scope (cloFrom X.env.cells scope.names []) dV doc ((X.mg "__name__").getD .none) c' ctv), toks := tk } := I.kept fun b o e => Heap.get?_push_of_some _ (hx b o e)
    exact h h'.objs.size c' doc _ ctv H _ ⟨J, .inl rfl, hT, Heap.get?_push_size _ rfl, dvK (fun b o _ e => Heap.get?_push_of_some _ (hx b o e)) (fun t e _ => e), I.hok.fresh hsz, nofr _ hsz, hco⟩
/-- a lambda is made -/
theorem lam_make (I : Inv X pins σ H s) (TB : TabB X.base X.mg c P) (hcode : X.env.code = .ref c) (hm : (P, lamQ X) ∈ T) (hu : ∀ p ∈ T, p.1 = P → p.2 = lamQ X) (hT : Tabs T H) (hps : lamPs params = some ps) (hfree : ∀ y ∈ scope.names, y.2 = .free → ∃ c, X.env.cells.lookup y.1 = some c)
    (h : ∀ f c' dV doc pm ctv H1 s', Made_ X pins σ T P H params body scope ps f c' dV doc pm ctv H1 s' → Q (.ref f) s') : wpAny (model X.prog X.w) X.A (eval (.Lambda params body scope pos) X.env) Q E s := by
  rcases lamPs_ok hps with ⟨rfl, rfl⟩ | ⟨a, z, k, p, rfl, rfl⟩
  · refine PySem.W.kla_eval rfl ?_
    rw [makeFunction_eq]
    simp only [List.zip_nil_right, List.filterMap_nil, List.isEmpty_nil, if_true, pure_bind]
    exact tail_lam I TB hcode hm hu hT hfree (.inl ⟨rfl, rfl⟩) fun f c' doc pm ctv H1 s' m => h f c' _ doc pm ctv H1 s' m
  · refine PySem.W.kdv_lam rfl rfl (PySem.W.kdv_all1 (wpAny_Constant_int (k := k) (pos := p) (PySem.W.kdv_all0 ?_)))
    rw [makeFunction_eq]
    simp only [List.zip_nil_right, List.filterMap_nil, List.isEmpty_nil, if_true, pure_bind, List.isEmpty_cons, Bool.false_eq_true, if_false]
    refine wpAny_bind (wpAny_newTextTuple ?_)
    have J : Inv X pins σ H { s with heap := s.heap.push (PySem.W.kdv_tup [.int z s.toks]), toks := s.toks + 1 } := I.kept fun b o e => Heap.get?_push_of_some _ e
    have nofr : s.heap.objs.size ∉ frs X.stack := fun z => by
      rcases List.mem_cons.mp (I.stkSub _ z) with e | e
      · have h1 := I.lt
        rw [← e] at h1
        exact Nat.lt_irrefl _ h1
      · exact I.nofs (Nat.le_refl _) e
    exact tail_lam J TB hcode hm hu hT hfree (.inr ⟨_, _, rfl, rfl, Heap.get?_push_size _ rfl, I.hok.fresh (Nat.le_refl _), nofr⟩) fun f c' doc pm ctv H1 s' m => h f c' _ doc pm ctv H1 s' m
end
/-! ### the call -/
section
variable {X : Cx} {pins : List (Addr × Obj)} {σ : L2.St} {H HZ : Hp} {s s1 : Shared} {params : Arguments} {body : Expr} {scope : Scope} {ps : List Str}
theorem LamK.has {N : List Str} (L : LamK X.env.scope scope N ps) (ok : X.Ok) : ∀ y ∈ scope.names, y.2 = .free → ∃ c, X.env.cells.lookup y.1 = some c := fun y hy e => by
  rcases L.free y hy e with k | k
  · exact ok.has _ (.inl k)
  · exact ok.has _ (.inr k)
theorem lam_start {A : Around} {outer : List PySem.Env} {E : XK} {f c' : Addr} {h1 : Heap} {tk : Nat} {binds : List (Str × Value)} (I : Inv X pins σ H s) (L : LamK X.env.scope scope X.N ps) (e0 : Env0 X.prog X.w X.K X.mg X.base A outer s1 HZ) (hd : A.handled = none)
    (un : Un (frs X.stack) [] H HZ s.heap s1.heap) (hns : h1.Ns s1.heap.objs.size fun y => binds.reverse.lookup y) (kp : ∀ b o, s1.heap.get? b = some o → h1.get? b = some o) :
    Inv (lamCx X A outer s1 HZ E scope f c') [] σ HZ { s1 with heap := h1, toks := tk } := by
  have fr := L.has I.ok
  have up : ∀ {y c}, (cloFrom X.env.cells scope.names []).lookup y = some c → X.env.cells.lookup y = some c := fun {y c} e => by
    rcases cloFrom_mem (PySem.mem_of_lookup e) with hm | ⟨q1, q2⟩
    · cases hm
    · obtain ⟨c1, hc⟩ := fr _ q1 rfl
      have hc : X.env.cells.lookup y = some c1 := hc
      have e2 : c = c1 := by
        rw [q2, hc] <;> rfl
      rw [e2]
      exact hc
  have dn : ∀ {y}, scope.names.lookup y = some .free → ∃ c, (cloFrom X.env.cells scope.names []).lookup y = some c := fun {y} hl => mem_lookup (cloFrom_has (cells := X.env.cells) (acc := []) (show (y, NameKind.free) ∈ scope.names from PySem.mem_of_lookup hl))
  have ck : ∀ {c : Addr} {v : Option Value}, H c = none → s.heap.IsCell c v → h1.IsCell c v := fun {c v} n ⟨o, ho, hd⟩ => by
    obtain ⟨sl, q⟩ := un.any ho n (by simp)
    exact ⟨_, kp _ _ q, hd⟩
  have nex : ∀ b : Addr, b ∉ (lamCx X A outer s1 HZ E scope f c').ex := fun b z => absurd (show b ∈ ([] : List Addr) from z) (by simp)
  refine ⟨⟨e0.mod, L.kind, rfl, rfl, Nat.le_refl _, fun y z c q1 q2 => I.ok.inj y z c (up q1) (up q2), fun y hy => ?_, fun y c z _ => ?_, fun _ => hd, Around.frames_deeper e0.frames, .inr ⟨rfl, rfl⟩, fun b z => absurd z (nex b), e0.bs, e0.bsz, fun b _ _ => nex b, fun b z => absurd z (nex b), e0.funs, e0.frf⟩,
    rfl, e0.bare, Un.kept kp, ⟨_, hns, fun i y v q1 q2 q3 => ?_⟩, fun y c e => ?_, e0.hok.fresh (Nat.le_refl _), fun y c e => ?_, fun q hq => absurd (show q ∈ ([] : List (Addr × Obj)) ++ [] from hq) (by simp), e0.hok.kept kp, I.len⟩
  · rcases (show scope.names.lookup y = some .cell ∨ scope.names.lookup y = some .free from hy) with hy | hy
    · exact absurd rfl (L.own _ (PySem.mem_of_lookup hy)).1
    · exact dn hy
  · have z : false = true := z
    cases z
  · have q3 : Vis scope y := q3
    have q1 : X.N[i]? = some y := q1
    rcases q3 with k | k | k
    · exact absurd (List.mem_of_getElem? q1) ((L.own _ (PySem.mem_of_lookup k)).2 rfl)
    · exact absurd rfl (L.own _ (PySem.mem_of_lookup k)).1
    · obtain ⟨m, hn, hl⟩ := I.loc
      have see : Vis X.env.scope y := (L.free _ (PySem.mem_of_lookup k) rfl).elim (fun k => .inr (.inl k)) (fun k => .inr (.inr k))
      obtain ⟨w', r, q⟩ := hl i y v q1 q2 see
      obtain ⟨c2, h2⟩ := dn k
      refine ⟨w', r, .inr ⟨.inr k, c2, h2, ?_⟩⟩
      have c1 := up h2
      rcases q with ⟨k', _⟩ | ⟨_, c3, e', z⟩
      · have k' : X.env.scope.names.lookup y = some .local := k'
        rcases L.free _ (PySem.mem_of_lookup k) rfl with k2 | k2 <;> rw [show X.env.scope.names.lookup y = _ from k2] at k' <;> cases k'
      · rw [c1] at e'
        cases e'
        exact ck (I.freeC y _ c1) z
  · obtain ⟨w', z⟩ := I.cell y c (up e)
    exact ⟨w', ck (I.freeC y c (up e)) z⟩
  · obtain ⟨v, o, ho, hd⟩ := I.cell y c (up e)
    exact un.free c o ho (I.freeC y c (up e)) (by simp)
/-- how the parameter is bound -/
theorem bind_lam {h : Heap} {fr : List Addr} {dV doc pm ctv cdv : Value} {q : Str} {cl : List (Str × Addr)} {g : Array GenState} {d : Drawn} {t : Nat} {os : OsState} (hps : lamPs params = some ps) (hdv : DvOk h H fr ps dV) :
    ∃ binds : List (Str × Value), (∀ y ∈ binds, y.1 ∈ ps) ∧ BindsTo ⟨h, g, d, t, os⟩ (PySem.W.kdv_fn "<lambda>" q params (.expr body) scope cl dV doc pm cdv ctv) ⟨[], []⟩ binds := by
  rcases lamPs_ok hps with ⟨rfl, rfl⟩ | ⟨a, z, k, p, rfl, rfl⟩
  · rcases hdv with ⟨_, rfl⟩ | ⟨_, _, e, _⟩
    · exact ⟨[], fun _ z => absurd z (by simp), .of_eq (by kernel_rfl)⟩
    · cases e
  · rcases hdv with ⟨e, _⟩ | ⟨t0, v, _, rfl, e3, _⟩
    · cases e
    · exact ⟨[(a.arg, v)], fun y hy => by simp at hy; rw [hy]; simp, BindsTo.of_defaults rfl e3 rfl (by rfl) (by simp)⟩
end
end Fx

set_option maxHeartbeats 4000000
/-! Fe4: a def that calls what it is given, and tells what it raised. -/
namespace Fx
open PySem PySem.Spec PySem.Calls PyProof.Rows L2 LamX

def kindB : ScopeKind → Bool
  | .function => true
  | _ => false
theorem kindB_ok {k : ScopeKind} (h : kindB k = true) : k = .function := by
  cases k <;> first
    | rfl
    | (cases h; done)
def scopeB (N ps : List Str) (sc : Scope) : Bool := kindB sc.kind && !sc.isCoroutine && !sc.isGenerator && decide N.Nodup && decide (N.take ps.length = ps) && (ps.all fun x => decide (sc.names.lookup x = some .local) || decide (sc.names.lookup x = some .cell)) && sc.names.all fun y => !decide (y.2 = .free)
theorem scopeB_ok {N ps : List Str} {sc : Scope} (h : scopeB N ps sc = true) : FnScope N ps sc := by
  unfold scopeB at h
  simp only [Bool.and_eq_true, Bool.not_eq_true', decide_eq_true_eq, List.all_eq_true, Bool.or_eq_true, decide_eq_false_iff_not] at h
  obtain ⟨⟨⟨⟨⟨⟨h1, h2⟩, h3⟩, h4⟩, h5⟩, h6⟩, h7⟩ := h
  exact ⟨kindB_ok h1, h2, h3, h4, h5, h6, h7⟩
/-- what the module says of its exceptions -/
def exB (file : Str) (K : PySem.W.Frag) (excs : List (Str × Str)) : Bool := excs.all fun p => nxB file K p.1 p.2 && xfB K (He.ga K p.1) && excs.all fun q => decide (PySem.W.exmOne K (.ref (He.ga K p.1)) (.ref (He.ga K q.1)) = some (decide (p.1 = q.1)))
structure ExP (file : Str) (K : PySem.W.Frag) (c f : Str) (excs : List (Str × Str)) : Prop where
  nx : nxB file K c f = true
  xf : XfC K (He.ga K c)
  exm : ∀ q ∈ excs, PySem.W.exmOne K (.ref (He.ga K c)) (.ref (He.ga K q.1)) = some (decide (c = q.1))
theorem mem_look {α : Type} {x : Str} {v : α} : ∀ {l : List (Str × α)}, l.lookup x = some v → (x, v) ∈ l
  | (y, u) :: l, h => by
    rw [List.lookup_cons] at h
    cases hb : x == y with
    | true =>
      rw [hb] at h
      cases h
      rw [show x = y by simpa using hb]
      exact List.mem_cons_self
    | false =>
      rw [hb] at h
      exact List.mem_cons_of_mem _ (mem_look h)
theorem exB_ok {file : Str} {K : PySem.W.Frag} {excs : List (Str × Str)} (h : exB file K excs = true) {c f : Str} (hl : excs.lookup c = some f) : ExP file K c f excs := by
  unfold exB at h
  have h1 := List.all_eq_true.mp h (c, f) (mem_look hl)
  simp only [Bool.and_eq_true, List.all_eq_true, decide_eq_true_eq] at h1
  exact ⟨h1.1.1, xfB_ok h1.1.2, h1.2⟩
theorem nxB_no {file : Str} {K : PySem.W.Frag} {x f : Str} (hB : nxB file K x f = true) : PySem.W.findIn K (.ref (He.ga K x)) f = some none := by
  unfold nxB at hB
  simp only [Bool.and_eq_true] at hB
  exact He.eqO_ok hB.1.1.1.1.1.1.2

/-- the clauses of such a def -/
def suitE (fo : Option Str) : List Stmt → Option Expr
  | [.Return (some e) _] => if fo.isNone then some e else none
  | [.Assign [.Name x _] e _] => if fo = some x then some e else none
  | _ => none
def clsesB (n : Str) (sc : Scope) (excs : List (Str × Str)) (fo : Option Str) : List ExceptHandler → List (Str × Str) → Bool
  | [], [] => true
  | .ExceptHandler (some (.Name c _)) (some n') suite _ :: hds, p :: hs => (match suitE fo suite with
    | some (.Tuple [.Constant (.str w) _ _, .Attribute (.Name v _) fl _] _ _) => decide (c = p.1) && decide (w = p.2) && decide (n' = n) && decide (v = n) && decide (excs.lookup c = some fl) && decide (sc.names.lookup c = some .globalImplicit) && !(c == ("__debug__" : Str)) && clsesB n sc excs fo hds hs
    | _ => false)
  | _, _ => false
structure Hd where
  name : Str
  qual : Str
  params : Arguments
  body : List Stmt
  scope : Scope
  a : Str
  n : Str
  hs : List (Str × Str)
  fo : Option Str := none
def Hd.N (d : Hd) : List Str := match d.fo with
  | none => [d.a, d.n]
  | some f => [d.a, d.n, f]
def Hd.ok (d : Hd) (excs : List (Str × Str)) : Bool :=
  scopeB d.N [d.a] d.scope && plainP d.params && decide (d.params.args.map (·.arg) = [d.a]) && decide (d.scope.names.lookup d.n = some .local) && !(d.a == ("__debug__" : Str)) && !(d.a == ("__classdict__" : Str)) && !(d.n == ("__debug__" : Str)) && !(d.n == ("__classdict__" : Str)) && !(d.name == ("__debug__" : Str)) &&
  match d.body with
  | [.Try [.Return (some (.List [.Call (.Name x _) [] [] _] _)) _] (h0 :: hds) [] [] _] => d.fo.isNone && decide (x = d.a) && clsesB d.n d.scope excs d.fo (h0 :: hds) d.hs
  | [.Assign [.Name f0 _] (.Constant .none _ _) _, .Try [.Assign [.Name f1 _] (.List [.Call (.Name x _) [] [] _] _) _] (h0 :: hds) [] [] _, .Return (some (.Name f2 _)) _] =>
    decide (d.fo = some f0) && decide (f1 = f0) && decide (f2 = f0) && decide (d.scope.names.lookup f0 = some .local) && !(f0 == ("__debug__" : Str)) && !(f0 == ("__classdict__" : Str)) && decide (x = d.a) && clsesB d.n d.scope excs d.fo (h0 :: hds) d.hs
  | _ => false
/-- what such a def's clauses tell -/
def suitT (K : PySem.W.Frag) (excs : List (Str × Str)) (fo : Option Str) (p : Str × Str) : Suit := fun a cls d => match fo with
  | none => tRet (tTup (tCons (tC (.str p.2)) (tCons (tXf a cls d (He.ga K p.1) ((excs.lookup p.1).getD p.1) (tVar 1)) tNil)))
  | some _ => tAsg (tTup (tCons (tC (.str p.2)) (tCons (tXf a cls d (He.ga K p.1) ((excs.lookup p.1).getD p.1) (tVar 1)) tNil))) (gName 2)
def told (K : PySem.W.Frag) (excs : List (Str × Str)) (fo : Option Str) (hs : List (Str × Str)) : List (Value × Suit) := hs.map fun p => (.ref (He.ga K p.1), suitT K excs fo p)
theorem clses_ok {X : Cx} {file n : Str} {excs : List (Str × Str)} {fo : Option Str} (hex : exB file X.K excs = true) (hmg : ∀ c f, excs.lookup c = some f → X.mg c = some (.ref (He.ga X.K c))) (hnd : X.N.Nodup) (hN : X.N[1]? = some n) (hv : Vis X.env.scope n) (hd1 : (n == ("__debug__" : Str)) = false) (hd2 : (n == ("__classdict__" : Str)) = false)
    (hfo : ∀ f, fo = some f → X.N[2]? = some f ∧ X.env.scope.names.lookup f = some .local) :
    ∀ {hds : List ExceptHandler} {hs : List (Str × Str)}, clsesB n X.env.scope excs fo hds hs = true → Nmd X n hds (told X.K excs fo hs) := by
  intro hds
  induction hds with
  | nil =>
    intro hs h
    cases hs with
    | nil => exact .nil
    | cons p hs => unfold clsesB at h; cases h
  | cons h0 hds ih =>
    intro hs h
    unfold clsesB at h
    split at h
    · rename_i e2
      cases e2
    · rename_i c p1 n' suite pc hds' p hs' e1
      cases e1
      split at h
      · rename_i w j p2 v p3 fl p4 k p5 hse
        simp only [Bool.and_eq_true, decide_eq_true_eq, Bool.not_eq_true'] at h
        obtain ⟨⟨⟨⟨⟨⟨⟨rfl, rfl⟩, rfl⟩, rfl⟩, h5⟩, h6⟩, h7⟩, h9⟩ := h
        have E := exB_ok hex h5
        have val : ∀ (a : Addr) (o : Obj) (cls : Value) (d : Option Addr) (pn : List (Addr × Obj)), Zc cls d o → (∃ vs, o.data = .fields vs) → PE (X.suite a ((a, o) :: pn)) (.Tuple [.Constant (.str p.2) j p2, .Attribute (.Name v p3) fl p4] k p5)
            (tTup (tCons (tC (.str p.2)) (tCons (tXf a cls d (He.ga X.K p.1) ((excs.lookup p.1).getD p.1) (tVar 1)) tNil))) := fun a o cls d pn z hf => by
          rw [h5]
          exact pe_tup (pa_cons pe_str (pa_cons (pe_xf E.xf (nxB_no E.nx) z hf (pe_var hN hv hd1 hd2) (hb := by
            show attributeBase _ _ _ _ = _
            unfold attributeBase
            rfl)) pa_nil))
        unfold suitE at hse
        split at hse
        · rename_i e pr
          split at hse
          · rename_i hn
            cases hse
            have hn : fo = none := by simpa using hn
            subst hn
            exact .cons ⟨h6, h7, .inl (hmg _ _ h5)⟩ (fun a o cls d pn z hf => pss_one (ps_ret (val a o cls d pn z hf))) (ih h9)
          · cases hse
        · rename_i x px e pr
          split at hse
          · rename_i hn
            cases hse
            obtain ⟨q1, q2⟩ := hfo _ hn
            subst hn
            exact .cons ⟨h6, h7, .inl (hmg _ _ h5)⟩ (fun a o cls d pn z hf => pss_one (ps_set (X := X.suite a ((a, o) :: pn)) hnd q1 (.inl q2) (val a o cls d pn z hf) (by rfl) (.inr q2))) (ih h9)
          · cases hse
        · cases hse
      · cases h
    · cases h
/-- what is wanted of an exception that such a def tells -/
def TEx (K : PySem.W.Frag) (excs hs : List (Str × Str)) (Q : VK) : XK := fun cls dd H => ∃ (c fl w0 : Str) (dx : Addr) (v : V), hs.lookup c = some w0 ∧ excs.lookup c = some fl ∧ cls = .ref (He.ga K c) ∧ dd = some dx ∧ H dx = some (.xd [(fl, v)]) ∧ ∀ p, H p = none → Q (.ref p) (upd H p (.tup [.str w0, v]))
theorem told_ok {K : PySem.W.Frag} {file c fl w0 : Str} {excs : List (Str × Str)} {fo : Option Str} {dd : Addr} {H : Hp} {σ0 : L2.St} {D : Ends} (hex : exB file K excs = true) (hc : excs.lookup c = some fl)
    (hs : ∀ a, H a = none → suitT K excs fo (c, w0) a (.ref (He.ga K c)) (some dd) (Ends.off D 1) (σ0.set 1 (some (.ref a))) H) :
    ∀ {l : List (Str × Str)}, (∀ p ∈ l, ∃ f, excs.lookup p.1 = some f) → l.lookup c = some w0 → wNmd K 1 D (told K excs fo l) (.ref (He.ga K c)) (some dd) σ0 H
  | p :: l, hin, hl => by
    obtain ⟨f, hf⟩ := hin p List.mem_cons_self
    have E := exB_ok hex hc
    have ex := E.exm (p.1, f) (mem_look hf)
    refine ⟨_, ex, ?_⟩
    rw [List.lookup_cons] at hl
    by_cases hb : c = p.1
    · subst hb
      simp only [beq_self_eq_true] at hl
      cases hl
      simp only [decide_true, if_true]
      exact hs
    · have hb2 : (c == p.1) = false := by simpa using hb
      rw [hb2] at hl
      simp only [hb, decide_false, Bool.false_eq_true, if_false]
      exact told_ok hex hc hs (fun q hq => hin q (List.mem_cons_of_mem _ hq)) hl
/-- the clauses that such a def has name exceptions of the module -/
theorem clses_in {n : Str} {sc : Scope} {excs : List (Str × Str)} {fo : Option Str} : ∀ {hds : List ExceptHandler} {hs : List (Str × Str)}, clsesB n sc excs fo hds hs = true → ∀ p ∈ hs, ∃ f, excs.lookup p.1 = some f := by
  intro hds
  induction hds with
  | nil =>
    intro hs h
    cases hs with
    | nil => exact fun p hp => absurd hp (by simp)
    | cons p hs => unfold clsesB at h; cases h
  | cons h0 hds ih =>
    intro hs h
    unfold clsesB at h
    split at h
    · rename_i e2
      cases e2
    · rename_i c p1 n' suite pc hds' p hs' e1
      cases e1
      split at h
      · simp only [Bool.and_eq_true, decide_eq_true_eq, Bool.not_eq_true'] at h
        obtain ⟨⟨⟨⟨⟨⟨⟨rfl, rfl⟩, rfl⟩, rfl⟩, h5⟩, h6⟩, h7⟩, h9⟩ := h
        intro q hq
        rcases List.mem_cons.mp hq with rfl | hq
        · exact ⟨_, h5⟩
        · exact ih h9 q hq
      · cases h
    · cases h
theorem hd_in {d : Hd} {excs : List (Str × Str)} (h : d.ok excs = true) : ∀ p ∈ d.hs, ∃ f, excs.lookup p.1 = some f := by
  unfold Hd.ok at h
  simp only [Bool.and_eq_true] at h
  have h := h.2
  split at h
  · simp only [Bool.and_eq_true] at h
    exact clses_in h.2
  · simp only [Bool.and_eq_true] at h
    exact clses_in h.2
  · cases h

/-! ### what is given is called -/
section
variable {X : Cx} {pins : List (Addr × Obj)} {σ : L2.St} {H : Hp} {s : Shared} {Ng : List Str} {qg : Str} {sg : Scope} {gA f c' : Addr} {cdg dV doc pm ctv : Value} {params : Arguments} {body : Expr} {scope : Scope} {i : Nat} {a : Str} {ps : List Str} {pn : List (Addr × Obj)} {xe : Value → Shared → Prop} {W : WX} {Eg : XK} {t : XK → TE} {p1 p2 : Pos}
abbrev envZ (X : Cx) (s : Shared) (qg : Str) (sg : Scope) (gA : Addr) (cdg : Value) : PySem.Env := envOfC qg sg s.heap.objs.size gA cdg
abbrev cxZ (X : Cx) (s : Shared) (H : Hp) (Ng : List Str) (qg : Str) (sg : Scope) (gA : Addr) (cdg : Value) (Eg : XK) : Cx := cxOf (L2.CX X.prog X.w) X.prog X.w X.K X.mg X.base Ng qg sg gA cdg X.A X.stack s H Eg
theorem pe_actL (I : Inv X pins σ H s) (L : LamK X.env.scope scope X.N ps) (hps : lamPs params = some ps)
    (hfn : s.heap.get? f = some (PySem.W.kdv_obj "<lambda>" (lamQ X) params (.expr body) scope (cloFrom X.env.cells scope.names []) dV doc pm c' ctv)) (hdv : DvOk s.heap H (frs X.stack) ps dV) (nf : H f = none) (ff : f ∉ frs X.stack)
    (tk : Takes ((cxZ X s H Ng qg sg gA cdg Eg).tr pn xe) W) (hr : Room 1 (X.A.deeper (envZ X s qg sg gA cdg)))
    (hbody : ∀ (s1 : Shared) (H1 : Hp) (E : XK), PE (lamCx X (X.A.deeper (envZ X s qg sg gA cdg)) (envZ X s qg sg gA cdg :: X.stack) s1 H1 E scope f c') body (t E))
    (hN : Ng[i]? = some a) (hv : Vis sg a) (hd : (a == ("__debug__" : Str)) = false) (hcd : (a == ("__classdict__" : Str)) = false) :
    PE ((cxZ X s H Ng qg sg gA cdg Eg).tr pn xe) (.Call (.Name a p1) [] [] p2) (fun σZ HZ Q => ∃ E1 : XK, (∀ cls d H', E1 cls d H' → W cls d σZ H') ∧ σZ[i]? = some (some (.ref f)) ∧ HZ c' = some (CodeO c' (lamQ X)) ∧ t E1 σ HZ Q) := by
  refine ⟨fun pinsZ sZ σZ HZ Q IZ h => ?_⟩
  obtain ⟨E1, hE1, hs, hc, ht⟩ := h
  refine wpAny_Call_Name_kw (thn ((pe_var (pos := p1) (i := i) hN hv hd hcd).run pinsZ sZ σZ HZ (fun v H1 => v = .ref f ∧ H1 = HZ) IZ ⟨.ref f, hs, rfl, rfl⟩) fun u s1 ⟨v, H1, I1, r1, ev, eH⟩ => ?_)
  subst ev
  rw [eH] at I1
  obtain rfl : u = Value.ref f := r1
  have noex : ∀ b : Addr, b ∉ ([] : List Addr) := fun b => by simp
  have atF : s1.heap.get? f = some (PySem.W.kdv_obj "<lambda>" (lamQ X) params (.expr body) scope (cloFrom X.env.cells scope.names []) dV doc pm c' ctv) := I1.base.keep f _ hfn nf ff (noex _)
  have un : Un (frs X.stack) [] H HZ s.heap s1.heap := I1.base
  have dv1 : DvOk s1.heap H (frs X.stack) ps dV := by
    rcases hdv with z | ⟨t0, v0, q1, q2, q3, q4, q5⟩
    · exact .inl z
    · exact .inr ⟨t0, v0, q1, q2, un.keep t0 _ q3 q4 q5 (noex _), q4, q5⟩
  refine PySem.W.callWith_F0 ⟨_, _, _, _, atF⟩ ?_
  obtain ⟨⟨oc, vs, tc, hoc, hdc, hvc⟩, _, _⟩ := I1.hok c' _ hc
  obtain ⟨hp1, g1, d1, tk1, os1⟩ := s1
  obtain ⟨binds, hbs, hbind⟩ := bind_lam (scope := scope) (body := body) (q := lamQ X) (cl := cloFrom X.env.cells scope.names []) (doc := doc) (pm := pm) (cdv := .ref c') (ctv := ctv) (g := g1) (d := d1) (t := tk1) (os := os1) hps dv1
  have rc : codeAny (model X.prog X.w) (X.A.deeper (envZ X s qg sg gA cdg)) (.call (.ref f) ⟨[], []⟩) (CR (L2.CX X.prog X.w) (envZ X s qg sg gA cdg :: X.stack) X.prog X.w HZ ⟨hp1, g1, d1, tk1, os1⟩ Q E1) ⟨hp1, g1, d1, tk1, os1⟩ := by
    refine PySem.W.kla_callFunE (hr.mono (Nat.zero_le 1)).depth atF rfl L.co L.gen rfl ⟨c', oc, vs, tc, rfl, hoc, hdc, hvc⟩ (hbind _ _ _ _ ?_)
    refine wpAny_newFunctionEnv (fun y hy => (L.own y hy).1) (fun y hy => L.loc _ (hbs y hy)) (fun h2 hns hsb => ⟨I1.nolimit.fresh _ hsb, ?_⟩) L.kind
    show codeAny _ _ (.expr body (lamEnv X scope hp1.objs.size f c')) _ _
    have kp : ∀ b o, hp1.get? b = some o → h2.get? b = some o := fun b o e => hsb.extBut b o (Nat.ne_of_lt (Heap.lt_size e)) (Heap.get?_push_of_some _ e)
    have J : Inv (lamCx X (X.A.deeper (envZ X s qg sg gA cdg)) (envZ X s qg sg gA cdg :: X.stack) ⟨hp1, g1, d1, tk1, os1⟩ HZ E1 scope f c') [] σ HZ ⟨h2, g1, d1, tk1 + binds.length, os1⟩ := lam_start I L I1.env0 hr.hd un hns kp
    refine PySem.W.kla_codeExpr (wpAny_mono ((hbody _ HZ E1).run [] _ _ HZ Q J ht) (fun v s' hq => ?_) fun e s' hq => hq)
    obtain ⟨w', H', J', rv, q⟩ := hq
    exact ⟨w', H', J'.os, J'.bare, J'.base, J'.hok, rv, q⟩
  refine wpAny_call (codeAny_mono rc fun r s' hq => ?_)
  cases r with
  | error e => exact tk e s' (XE.of_call (X := (cxZ X s H Ng qg sg gA cdg Eg).tr pn xe) (E := E1) I1 hE1 hq)
  | ok fl =>
    cases fl with
    | ret u => exact I1.after hq
    | next => exact False.elim hq
    | brk => exact False.elim hq
    | cont => exact False.elim hq

theorem pe_hearC {T : List (Addr × Str)} {c P : Addr} {d : Hd} {fd : FuncData} {excs : List (Str × Str)} {file x : Str} {lpos pos : Pos} (hgl : Gl X x) (hm : X.mg x = some (.ref gA)) (F : FunD X.K d.name d.qual d.params d.body d.scope [] [] gA fd) (hok : d.ok excs = true) (hx : (x == ("__debug__" : Str)) = false)
    (hex : exB file X.K excs = true) (hmg : ∀ c f, excs.lookup c = some f → X.mg c = some (.ref (He.ga X.K c))) (TB : TabB X.base X.mg c P) (hcode : X.env.code = .ref c) (hmT : (P, lamQ X) ∈ T) (hu : ∀ p ∈ T, p.1 = P → p.2 = lamQ X) (hr : Room 3 X.A)
    (L : LamK X.env.scope scope X.N ps) (hps : lamPs params = some ps) (hbody : ∀ (eZ : PySem.Env) (outer : List PySem.Env) (s1 : Shared) (H1 : Hp) (E : XK) (f c' : Addr), PE (lamCx X (X.A.deeper eZ) outer s1 H1 E scope f c') body (t E)) :
    PE X (.Call (.Name x p1) [.Lambda params body scope lpos] [] pos) (fun σ H Q => Tabs T H ∧ ∀ (f c' : Addr) (H1 : Hp), (H1 = H ∨ ∃ us qs, H P = some (.tbl us) ∧ H c' = none ∧ H1 = upd (upd H P (.tbl qs)) c' (CodeO c' (lamQ X))) → Tabs T H1 →
      t (TEx X.K excs d.hs Q) σ H1 (fun v H' => [v].length ≤ sizeLine ∧ ∀ p, H' p = none → Q (.ref p) (upd H' p (.lst [v])))) := by
  obtain ⟨oc, od, dV, kV, doc, pm, an, cdv, ct, osl, rfl, lk, hcd, hD, _⟩ := F.ex
  have eD : dV = .none := by
    rcases hD with ⟨_, e⟩ | ⟨e, _⟩
    · exact e
    · exact absurd rfl e
  subst eD
  have hin := hd_in hok
  unfold Hd.ok at hok
  simp only [Bool.and_eq_true, decide_eq_true_eq, Bool.not_eq_true'] at hok
  obtain ⟨⟨⟨⟨⟨⟨⟨⟨⟨o1, o2⟩, o3⟩, o4⟩, o5⟩, o6⟩, o7⟩, o8⟩, o9⟩, o10⟩ := hok
  have Sg := scopeB_ok o1
  refine ⟨fun pins s σ H Q I h => ?_⟩
  obtain ⟨hT, h⟩ := h
  refine wpAny_Call_Name_kw (ld_glob I hgl hm ?_ hx)
  refine PySem.W.callWith_K (h₀ := X.base) I.ok.mod.kin F.kp ?_ (by rfl) (by rfl)
  show wpAny _ _ (spliced ((false, eval (.Lambda params body scope lpos) X.env) :: backTo pos (starEach [] X.env))) _ _ s
  refine Calls.spliced_cons (lam_make I TB hcode hmT hu hT hps (L.has I.ok) fun f c' dV doc' pm' ctv H1 s' M => ?_)
  refine Calls.spliced_nil ⟨M.inv.kIn, ?_⟩
  have hva : Vis d.scope d.a := by
    rcases Sg.par d.a (by simp) with z | z
    · exact .inl z
    · exact .inr (.inl z)
  have n0 : d.N[0]? = some d.a := by unfold Hd.N; split <;> rfl
  have n1 : d.N[1]? = some d.n := by unfold Hd.N; split <;> rfl
  have bnd : BindsTo s' (PySem.W.fnOf d.name d.qual d.params d.body d.scope .none kV doc pm an cdv ct) ⟨[.ref f], []⟩ ([d.a].zip [.ref f]) := by
    refine .of_eq ((bind_all (us := [.ref f]) (ws := []) (ks := []) o2 o3 ?_ rfl).trans ?_)
    · unfold bindB
      simp
    · rfl
  have rc : codeAny (model X.prog X.w) X.A (.call (.ref gA) ⟨[.ref f], []⟩) (CR (L2.CX X.prog X.w) X.stack X.prog X.w H1 s' Q (fun _ _ _ => False)) s' := by
    refine run_ofS (k := 2) (N := d.N) (ps := [d.a]) (us := [.ref f]) (vs := [.ref f]) lk hcd Sg hr M.inv.env0 bnd (.cons rfl .nil) rfl fun hr' => ?_
    let l := told X.K excs d.fo d.hs
    split at o10
    · rename_i x' q1 q2 q3 q4 h0 hds q5 ebody
      rw [ebody]
      simp only [Bool.and_eq_true, decide_eq_true_eq] at o10
      obtain ⟨⟨o11, rfl⟩, o10⟩ := o10
      have efo : d.fo = none := by simpa using o11
      refine ⟨_, pss_one (ps_try_nmd (X := cxZ X s' H1 d.N d.qual d.scope gA cdv (fun _ _ _ => False)) (i := 1) (n := d.n) (l := l) (tb := fun W => tRet (tLst (tCons (fun σZ HZ Q => ∃ E1 : XK, (∀ cls d H', E1 cls d H' → W cls d σZ H') ∧ σZ[0]? = some (some (.ref f)) ∧ HZ c' = some (CodeO c' (lamQ X)) ∧ t E1 σ HZ Q) tNil))) rfl rfl Sg.nd n1 o4
        (fun W pn xe tk _ => pss_one (ps_ret (pe_lst (pa_cons (pe_actL M.inv L hps M.fn M.dv M.nf M.ff tk (hr'.mono (Nat.le_succ 1)) (fun s1 H2 E => hbody _ _ s1 H2 E f c') n0 hva o5 o6) pa_nil)))) ?_), ?_⟩
      · exact clses_ok (X := cxZ X s' H1 d.N d.qual d.scope gA cdv (fun _ _ _ => False)) hex hmg Sg.nd n1 (.inl o4) o7 o8 (fun f hf => by rw [efo] at hf; cases hf) o10
      · refine ⟨TEx X.K excs d.hs Q, fun cls dd H' z => ?_, ?_, M.code, h f c' H1 M.hp M.tab⟩
        · obtain ⟨c0, fl, w0, dx, v, z1, z2, rfl, rfl, z5, z6⟩ := z
          refine told_ok hex z2 ?_ hin z1
          intro a na
          rw [efo]
          refine ⟨_, ?_, rfl, rfl, dx, [(fl, v)], v, rfl, z5, ?_, ?_⟩
          · unfold Hd.N
            rw [efo]
            rfl
          · rw [z2]
            simp
          · exact ⟨by simp [sizeLine_eq], fun q hq => z6 q hq⟩
        · unfold Hd.N
          rw [efo]
          rfl
    · rename_i f0 u1 u2 u3 u4 f1 u5 x' u6 u7 u8 u9 h0 hds u10 f2 u11 u12 ebody
      rw [ebody]
      simp only [Bool.and_eq_true, decide_eq_true_eq, Bool.not_eq_true'] at o10
      obtain ⟨⟨⟨⟨⟨⟨⟨efo, rfl⟩, rfl⟩, of1⟩, of2⟩, of3⟩, rfl⟩, o10⟩ := o10
      have n2 : d.N[2]? = some f2 := by unfold Hd.N; rw [efo]; rfl
      let XX := cxZ X s' H1 d.N d.qual d.scope gA cdv (fun _ _ _ => False)
      refine ⟨_, pss_cons (X := XX) (ps_set (X := XX) Sg.nd n2 (.inl of1) pe_non (by rfl) (.inr of1)) (pss_cons (X := XX) (ps_try_nmd (X := XX) (i := 1) (n := d.n) (l := l) (tb := fun W => tAsg (tLst (tCons (fun σZ HZ Q => ∃ E1 : XK, (∀ cls d H', E1 cls d H' → W cls d σZ H') ∧ σZ[0]? = some (some (.ref f)) ∧ HZ c' = some (CodeO c' (lamQ X)) ∧ t E1 σ HZ Q) tNil)) (gName 2)) rfl rfl Sg.nd n1 o4
        (fun W pn xe tk _ => pss_one (ps_set (X := XX.tr pn xe) Sg.nd n2 (.inl of1) (pe_lst (pa_cons (pe_actL M.inv L hps M.fn M.dv M.nf M.ff tk (hr'.mono (Nat.le_succ 1)) (fun s1 H2 E => hbody _ _ s1 H2 E f c') n0 hva o5 o6) pa_nil)) (by rfl) (.inr of1))) ?_) (pss_one (ps_ret (pe_var (X := XX) n2 (.inl of1) of2 of3)))), ?_⟩
      · exact clses_ok (X := XX) hex hmg Sg.nd n1 (.inl o4) o7 o8 (fun f hf => by rw [efo] at hf; cases hf; exact ⟨n2, of1⟩) o10
      · refine ⟨TEx X.K excs d.hs Q, fun cls dd H' z => ?_, ?_, M.code, ?_⟩
        · obtain ⟨c0, fl, w0, dx, v, z1, z2, rfl, rfl, z5, z6⟩ := z
          refine told_ok hex z2 ?_ hin z1
          intro a na
          rw [efo]
          refine ⟨_, ?_, rfl, rfl, dx, [(fl, v)], v, rfl, z5, ?_, ?_⟩
          · unfold Hd.N
            rw [efo]
            rfl
          · rw [z2]
            simp
          · refine ⟨by simp [sizeLine_eq], fun q hq => ⟨_, ?_, z6 q hq⟩⟩
            unfold Hd.N
            rw [efo]
            rfl
        · unfold Hd.N
          rw [efo]
          rfl
        · have ell : ∀ q : Addr, ((((L2.start d.N [.ref f]).set 2 (some .non)).set 2 (some (.ref q)))[2]? : Option (Option V)) = some (some (.ref q)) := fun q => by
            unfold Hd.N
            rw [efo]
            rfl
          refine Eq.mpr (congrArg (t _ σ H1) (funext fun v => funext fun H' => propext ⟨fun z => ⟨z.1, fun q hq => ?_⟩, fun z => ⟨z.1, fun q hq => ⟨_, ell q, z.2 q hq⟩⟩⟩)) (h f c' H1 M.hp M.tab)
          obtain ⟨v', e1, z2⟩ := z.2 q hq
          have e1 := e1.symm.trans (ell q)
          cases e1
          exact z2
    · cases o10
  refine wpAny_call (codeAny_mono rc fun r s2 hq => ?_)
  cases r with
  | error e =>
    obtain ⟨_, _, _, _, _, _, _, _, _, _, _, _, z⟩ := (show L2.CX X.prog X.w X.stack H1 s' (fun _ _ _ => False) e s2 from hq)
    exact z.elim
  | ok fl =>
    cases fl with
    | ret u => exact M.inv.after hq
    | next => exact False.elim hq
    | brk => exact False.elim hq
    | cont => exact False.elim hq
end
end Fx

set_option maxHeartbeats 4000000
/-! Fq1: an own exception made with keywords: what type.__call__ does with them. -/
namespace Fx
open PySem PySem.Spec PySem.Calls PyProof.Rows L2
open PySem.HandSPX (excO)
section
variable {prog : Program} {w : World} {A : Around} {M : Model} {E : Value → Shared → Prop} {R : Result → Shared → Prop} {h : Heap} {g : Array GenState} {d : Drawn} {t : Nat} {os : OsState}
variable {nm q : Str} {C N : Addr} {bs bm bmB : List Value} {hdct : Bool} {sn : List Str} {sub : List Value} {ab : Bool} {col : Option Bool} {dd : Option Addr} {k0 k1 k2 k3 k5 : Option Value} {B newId initId : String}
theorem kw_check_new (F : ExcBaseFacts B newId initId bmB) (hT : ∀ X : String, bm.contains (.type X) = bmB.contains (.type X)) {us : List Value} {kws : List (Str × Value)} {Q : Unit → Shared → Prop}
    (hC : h.get? C = some (excClassObj nm q C N bs bm hdct sn sub ab col dd k0 k1 k2 k3 k5 newId)) (hq : Q () ⟨h, g, d, t, os⟩) : wpAny M A (checkBuiltinCall newId ⟨.ref C :: us, kws⟩) Q E ⟨h, g, d, t, os⟩ := by
  have isB : (Value.ref C :: bm).contains (.type B) = true := by rw [List.contains_cons, hT, F.hasB, Bool.or_true]
  have nostar := F.noStar
  simp only [checkBuiltinCall, F.newKind, F.newSplit, F.newRow]
  repeat (first | (refine wpAny_isSubtype_exc hC ?_; rw [isB]) | refine wpAny_staticBase_exc hC ?_ | refine wpAny_loadPart_at hC ?_ | refine wpAny_madeBy_exc hC ?_ | simp only [bne_self_eq_false, Bool.false_eq_true, if_false] | wp_step)
  exact hq
theorem kw_new (F : ExcBaseFacts B newId initId bmB) (hT : ∀ X : String, bm.contains (.type X) = bmB.contains (.type X)) {us : List Value} {kws : List (Str × Value)}
    (hC : h.get? C = some (excClassObj nm q C N bs bm hdct sn sub ab col dd k0 k1 k2 k3 k5 newId)) (hz : us.length ≤ sizeLine)
    (hq : R (.ok (.ret (.ref (h.objs.size + 1)))) ⟨(h.push (PySem.W.kdv_tup us)).push (excO C h.objs.size), g, d, t, os⟩) :
    codeAny (model prog w) A (.builtin newId ⟨.ref C :: us, kws⟩) R ⟨h, g, d, t, os⟩ := by
  have isB : (Value.ref C :: bm).contains (.type B) = true := by rw [List.contains_cons, hT, F.hasB, Bool.or_true]
  have noA : (Value.ref C :: bm).contains (.type "AttributeError") = false := by rw [List.contains_cons, hT, F.noAttr]; rfl
  have noN : (Value.ref C :: bm).contains (.type "NameError") = false := by rw [List.contains_cons, hT, F.noName]; rfl
  have ends := F.ends
  refine codeAny_builtinAt (F.entry) ?_; unfold Builtin.«BaseException.__new__»
  refine PySem.wpAt_bind ?_; show PySem.wpAt _ _ _ (stack >>= _) _ _ _; refine PySem.wpAt_bind (PySem.wpAt_stack fun p below => PySem.wpAt_of_wpAny ?_)
  wp_walk
  refine PySem.wpAt_of_wpAny ?_
  rw [F.owner]
  repeat (first | with_reducible refine wpAny_loadPart_at hC ?_ | with_reducible refine wpAny_madeHere_exc F.canon hC ?_ | (with_reducible refine wpAny_isSubtype_exc hC ?_; first | rw [isB] | rw [noA] | rw [noN]) | wp_step)
  show R _ _
  rw [Heap.size_push]; exact hq
theorem kw_typeCall (F : ExcBaseFacts B newId initId bmB) (hT : ∀ X : String, bm.contains (.type X) = bmB.contains (.type X)) {us : List Value} {kws : List (Str × Value)} {fv : Value} {Q : Fin → Shared → Prop}
    (hC : h.get? C = some (excClassObj nm q C N bs bm hdct sn sub ab col dd k0 k1 k2 k3 k5 newId))
    (hi : PySem.W.Looks (model prog w) h (typeLookup (.ref C) "__init__") (some fv)) (hb : ∀ self, PySem.W.Looks (model prog w) h (bindSpecial fv self) (fv, [self])) (hz : us.length ≤ sizeLine)
    (hq : codeAny (model prog w) A (.call fv ⟨.ref (h.objs.size + 1) :: us, kws⟩)
      (fun r s' => match r with | .ok (.ret v) => v = .none ∧ Q (.done (.ret (.ref (h.objs.size + 1)))) s' | .ok _ => False | .error e => E e s')
      ⟨(h.push (PySem.W.kdv_tup us)).push (excO C h.objs.size), g, d, t, os⟩) :
    wpAny (model prog w) A (Builtin.«type.__call__» ⟨.ref C :: us, kws⟩) Q E ⟨h, g, d, t, os⟩ := by
  repeat (first | with_reducible refine wpAny_madeBy_exc hC ?_ | with_reducible refine wpAny_loadPart_at hC ?_ | wp_step)
  refine codeAny_call_builtin_code (Code.quiet_builtin _ (F.quiet)) (kw_check_new F hT hC (kw_new F hT hC hz ?_))
  show wpAny _ _ _ _ _ _
  have kp : ∀ b o, h.get? b = some o → ((h.push (PySem.W.kdv_tup us)).push (excO C h.objs.size)).get? b = some o := fun b o e => Heap.get?_push_of_some _ (Heap.get?_push_of_some _ e)
  have C1 := kp _ _ hC
  have ob : ((h.push (PySem.W.kdv_tup us)).push (excO C h.objs.size)).get? (h.objs.size + 1) = some (excO C h.objs.size) := by heap_get
  have isC : (Value.ref C :: bm).contains (.ref C) = true := by simp
  have i2 := hi.keeps kp
  have b2 := (hb (.ref (h.objs.size + 1))).keeps kp
  unfold isInstance
  repeat (first | with_reducible refine wpAny_loadPart_at ob ?_ | (with_reducible refine wpAny_isSubtype_exc C1 ?_; rw [isC]) | wp_step)
  show wpAny _ _ (typeLookup (.ref C) _) _ _ _
  refine i2.at (wpAny_holding (wpAny_bind (b2.at (wpAny_bind (wpAny_call (codeAny_mono hq fun r s' z => ?_))))))
  rcases r with e | (v | _ | _ | _) <;> first | exact z | exact z.elim | skip
  obtain ⟨rfl, z⟩ := z
  first
    | exact wpAny_pure (wpAny_pure z)
    | (wp_walk; exact z)
theorem kw_call (F : ExcBaseFacts B newId initId bmB) (hT : ∀ X : String, bm.contains (.type X) = bmB.contains (.type X)) {us : List Value} {kws : List (Str × Value)} {fv : Value}
    (hC : h.get? C = some (excClassObj nm q C N bs bm hdct sn sub ab col dd k0 k1 k2 k3 k5 newId))
    (hi : PySem.W.Looks (model prog w) h (typeLookup (.ref C) "__init__") (some fv)) (hb : ∀ self, PySem.W.Looks (model prog w) h (bindSpecial fv self) (fv, [self])) (hz : us.length ≤ sizeLine)
    (hq : codeAny (model prog w) (A.under (.builtin "type.__call__" ⟨.ref C :: us, kws⟩)) (.call fv ⟨.ref (h.objs.size + 1) :: us, kws⟩) (PySem.W.InitBack (h.objs.size + 1) R)
      ⟨(h.push (PySem.W.kdv_tup us)).push (excO C h.objs.size), g, d, t, os⟩) :
    codeAny (model prog w) A (.call (.ref C) ⟨us, kws⟩) R ⟨h, g, d, t, os⟩ := by
  have f1 := PySem.tc_lookup
  have f2 := PySem.tc_bind (.ref C)
  have ty : (⟨h, g, d, t, os⟩ : Shared).TypeIs (.ref C) "type" := ⟨_, hC, rfl⟩
  refine codeAny_of_tree ?_
  show wpAny _ _ (callAny (.ref C) _) _ _ _
  repeat (any_goals (first | with_reducible refine wpAny_loadPart_at hC ?_ | assumption | wp_step))
  refine ⟨rfl, codeAny_call_builtin_at (Code.quiet_builtin _ (by decide +kernel)) entry_typeCall (wpAny_check_type_call_sub hC (kw_typeCall F hT hC hi hb hz (codeAny_mono hq fun r s' z => ?_)))⟩
  rcases r with e | (v | _ | _ | _) <;> exact z
end
end Fx

set_option maxHeartbeats 4000000
/-! Fq2: the __init__ of an own exception class, called by place or by keyword. -/
namespace Fx
open PySem PySem.Spec PySem.Calls PyProof.Rows L2
/-- the parameter is named as the field -/
def parKB (K : PySem.W.Frag) (f : Str) (fI : Addr) : Bool := match K.lookup fI with
  | some ⟨_, _, .func fd, _⟩ => (match fd.params.args with
    | [_, a2] => decide (a2.arg = f)
    | _ => false)
  | _ => false
def posK (kw : Bool) (v : Value) : List Value := match kw with
  | true => []
  | false => [v]
def kwK (kw : Bool) (f : Str) (v : Value) : List (Str × Value) := match kw with
  | true => [(f, v)]
  | false => []
section
open PySem.W
variable {prog : Program} {w : World} {A : Around} {R : Result → Shared → Prop} {E : Value → Shared → Prop} {h : Heap} {g : Array GenState} {d : Drawn} {t : Nat} {os : OsState} {K : Frag} {mg mb : Str → Option Value} {C e t0 : Addr} {f : Str} {v : Value}
/-- the own __init__, by a place or by a keyword -/
theorem init_nxK {file : Str} (X : K.In h) (G : h.Ns mainGlobals mg) (hB : h.Ns builtinsNs mb) (hsup : mg "super" = none) (hbs : mb "super" = some (.type "super")) (lim : h.NoLimit) (hroom : A.depth < recursionLimit) (hf : prog.main.file = file) (htop : (prog.main.scope.names.lookup ("super" : Str)).isSome = false)
    {fI : Addr} (hi : iniB file K C f fI = true) {kw : Bool} (hkw : kw = true → parKB K f fI = true) (hc : clsB K C = true) (hno : findIn K (.ref C) f = some none) (sa : findIn K (.ref C) "__setattr__" = some (some (.builtin "object.__setattr__"))) (hm : mroIn K C (.ref C) = some true) (hth : nsIn K cStatics "thirdparty.any" = some none)
    (hve : subIn K (.ref C) (.type "ValueError") = some true) (he : h.get? e = some (HandSPX.excO C t0)) (hKe : K.lookup e = none)
    (hq : ∀ h' tk' dx t1, (∀ b o, b ≠ e → h.get? b = some o → h'.get? b = some o) → h.objs.size ≤ dx → dx ≠ e → h'.get? e = some { cls := .ref C, dict := some dx, data := .fields #[.ref t1, .none, .none, .none, .bool false, .none] } → h'.Ns1 dx (fun y => if y = f then some v else none) → R (.ok (.ret .none)) ⟨h', g, d, tk', os⟩) :
    codeAny (model prog w) A (.call (.ref fI) ⟨.ref e :: posK kw v, kwK kw f v⟩) R ⟨h, g, d, t, os⟩ := by
  obtain ⟨nm, q, N, bs, bm, sn, sub, ab, col, dd, k0, k1, k2, k3, k5, hC, hbm, hal⟩ := clsB_ok hc
  unfold iniB at hi
  split at hi
  · rename_i oc od fd osl lk
    split at hi
    · rename_i s1 sp1 sp2 i1 sp3 msg mj mp sp4 sp5 s2 sp6 f' sp7 p sp8 sp9 a1 a2 c1 cc hbody hargs hclo
      simp only [Bool.and_eq_true, decide_eq_true_eq, Bool.not_eq_true', beq_eq_false_iff_ne, ne_eq, List.all_eq_true, decide_eq_false_iff_not] at hi
      obtain ⟨⟨⟨⟨⟨⟨⟨⟨⟨⟨⟨⟨⟨⟨⟨⟨⟨⟨⟨⟨⟨⟨⟨⟨epos, e1⟩, e2⟩, e3⟩, e4⟩, e5⟩, e6⟩, n1⟩, n2⟩, e7⟩, hpl⟩, e8⟩, e9⟩, e10⟩, l1⟩, l2⟩, l3⟩, l4⟩, hcel⟩, hco⟩, hge⟩, hkd⟩, hcell⟩, hcode⟩, hfile⟩ := hi
      subst e1 e2 e3 e4 e7
      obtain ⟨name, qualname, params, body, scope, globals, closure, defaults, kwd, doc, pm, an, cdv, ct, blt⟩ := fd
      dsimp only at hbody hargs hclo e5 e6 hpl e8 e9 e10 l1 l2 l3 l4 hcel hco hge hkd hcell hcode hfile
      subst hbody hclo e8 e9 e10
      obtain ⟨po, ar, va, ko, kdf, kw', df⟩ := params
      dsimp only at hargs
      subst hargs
      have hk : scope.kind = .function := by
        split at hkd
        · assumption
        · cases hkd
      split at hcell
      · rename_i ccl ccd cv ccs lkc
        obtain rfl : cv = .ref C := of_decide_eq_true hcell
        split at hfile
        · rename_i cdv cda
          split at hfile
          · rename_i dcl dcd vs dcs lkd
            split at hfile
            · rename_i fl tf hvs
              let body : List Stmt := [.Expr (.Call (.Attribute (.Call (.Name "super" sp1) [] [] sp2) "__init__" sp3) [.Constant (.str msg) mj mp] [] sp4) sp5, .Assign [.Attribute (.Name "self" sp6) f' sp7] (.Name p sp8) sp9]
              let fd : FuncData := fnX name qualname ⟨po, [a1, a2], va, ko, kdf, kw', df⟩ body scope [("__class__", cc)] .none kwd doc pm an (.ref cda) ct
              have pk : kw = true → p = f' := fun hk' => by
                have z := hkw hk'
                unfold parKB at z
                rw [lk] at z
                have z : (match a2 with | y => decide (y.arg = f')) = true := z
                have z : decide (a2.arg = f') = true := z
                rw [← e6]
                exact of_decide_eq_true z
              have hbind : BindsTo ⟨h, g, d, t, os⟩ fd ⟨.ref e :: posK kw v, kwK kw f' v⟩ [("self", .ref e), (p, v)] := by
                refine .of_eq ?_
                have e0 : [a1, a2].map (·.arg) = [("self" : Str), p] := by
                  show [a1.arg, a2.arg] = _
                  rw [e5, e6]
                have nsp : ¬ ("self" : Str) = p := fun z => n1 z.symm
                cases kw with
                | false =>
                  have z := bind_all (x := name) (qual := qualname) (params := ⟨po, [a1, a2], va, ko, kdf, kw', df⟩) (body := []) (scope := scope) (kV := kwd) (doc := doc) (pm := pm) (cdv := .ref cda) (ct := ct) (an := an) (ps := [("self" : Str), p]) (ks := []) (us := [.ref e, v]) (ws := []) hpl e0 (by
                    unfold bindB
                    simp [nsp]) rfl
                  refine z.trans ?_
                  simp [reord, ixOf, List.range_succ]
                | true =>
                  have z := bind_all (x := name) (qual := qualname) (params := ⟨po, [a1, a2], va, ko, kdf, kw', df⟩) (body := []) (scope := scope) (kV := kwd) (doc := doc) (pm := pm) (cdv := .ref cda) (ct := ct) (an := an) (ps := [("self" : Str), p]) (ks := [p]) (us := [.ref e]) (ws := [v]) hpl e0 (by
                    unfold bindB
                    simp [nsp]) rfl
                  rw [← pk rfl]
                  refine z.trans ?_
                  simp [reord, ixOf, List.range_succ, nsp]
              refine ks_codeAny_call_defAt (fd := fd) (body := body) (binds := [("self", .ref e), (p, v)]) hroom (X _ _ lk) rfl lim (codeRec_of X hcode) rfl hbind (fun x hx => hcel x hx) (fun x hx => ?_) (fun h₀ hns hk₀ => ?_) hco hge hk
              · simp at hx
                rcases hx with rfl | rfl
                · exact l3
                · exact l4
              · let env : PySem.Env := callEnv fd h.objs.size fI
                have X0 : K.In h₀ := X.keeps hk₀
                have hcl : clsIn K C = some { name := nm, bases := bs, mro := .ref C :: bm, ns := N, qualname := q, hasDict := true, slotNames := sn, subclasses := sub, abstract := ab, collection := col, hasDel := false } := by unfold clsIn; rw [hC] <;> rfl
                have eC : e ≠ C := fun z => by
                  have z1 := X _ _ hC
                  rw [← z, he] at z1
                  cases z1
                have hse : (fun y => [(("self" : Str), Value.ref e), (p, v)].reverse.lookup y) "self" = some (.ref e) := by
                  show List.lookup _ [(p, v), (("self" : Str), Value.ref e)] = _
                  rw [List.lookup_cons, show (("self" : Str) == p) = false by simpa using Ne.symm n1, List.lookup_cons, beq_self_eq_true]
                have hsp : (fun y => [(("self" : Str), Value.ref e), (p, v)].reverse.lookup y) p = some v := by
                  show List.lookup _ [(p, v), (("self" : Str), Value.ref e)] = _
                  rw [List.lookup_cons, beq_self_eq_true]
                refine ks_wpAt_execs_cons (ks_wpAt_Expr_any (ks_wpAt_MethodCall ?_ (eval_meth1 (by simpa using epos))) (hi := by show interactive env = false; unfold interactive; rw [show env.scope.kind = .function from hk]; rfl))
                refine ks_wpAt_super_base (env := env) (fd := fd) (f := fI) (cc := cda) (ar := a1) (file := fl) (tf := tf) l1 l2 (by decide) rfl (X0 _ _ lk) rfl ?_ rfl (X0 _ _ lkd) rfl hvs ?_ htop ?_
                · have hpo : po = [] := by
                    unfold plainP at hpl
                    simp only [Bool.and_eq_true, List.isEmpty_iff] at hpl
                    exact hpl.1.1.1.1
                  show (po ++ [a1, a2]).head? = some a1
                  rw [hpo]; rfl
                · rw [hf]; exact hfile
                · refine ks_loadName_global hk l1 (loadGlobal_builtin (env := env) (G.keeps hk₀) hsup (hB.keeps hk₀) hbs ⟨rfl, ?_⟩)
                  refine wpAny_loadName_free hk l2 rfl ⟨_, X0 _ _ lkc, rfl⟩ ?_
                  rw [e5]
                  refine wpAny_loadName_local hk l3 hns hse ?_
                  refine ks_wpAny_isType_cls (X0 _ _ hC) rfl ⟨rfl, ?_⟩
                  refine ks_wpAny_call_super (X0 _ _ hC) rfl (hk₀ _ _ he) rfl (fun c z => by cases z) (looks_mroIn X0 hm) (fun h1 so1 k1 => ?_)
                  have X1 : K.In h1 := X0.keeps k1
                  have LI : Looks (model prog w) h1 (isInstance (.ref e) (.type "ValueError")) true := Looks.andThen (fun A Q E s k q => wpAny_typeOf_ref (k _ _ (k1 _ _ (hk₀ _ _ he))) q) (looks_subIn X1 hve)
                  refine kxs_getMethod kxs_ValueError so1 (looks_opaque X1 hth) (l₀ := .ref C :: bm) (fun A Q E s k q => wpAny_bind ((looks_clsIn X1 hcl) A _ E s k (wpAny_pure q))) rfl X1 hal LI eC (by decide) ?_
                  let h2 := h1.push (kxs_mw "ValueError.__init__" e)
                  have k2 : ∀ b o, h1.get? b = some o → h2.get? b = some o := fun b o z => Heap.get?_push_of_some _ z
                  refine kxs_callWith (i := "ValueError.__init__") (x := e) (by rfl) (evalArgs_plain ?_)
                  refine Calls.spliced_cons (Calls.Constant_str (pos := mp) (k := mj) (Calls.spliced_nil ⟨Heap.get?_push_at rfl rfl, ?_⟩))
                  have X2 : K.In h2 := X1.keeps k2
                  have kall : ∀ b o, h.get? b = some o → h2.get? b = some o := fun b o z => k2 _ _ (k1 _ _ (hk₀ _ _ z))
                  refine mw_call (X2 _ _ hC) (kall _ _ he) (Heap.get?_push_at rfl rfl) (by simp [sizeLine_eq]) (fun h3 t1 k3 he3 => ?_)
                  have k03 : ∀ b o, b ≠ e → h.get? b = some o → h3.get? b = some o := fun b o nb z => k3 _ _ nb (kall _ _ z)
                  have X3 : K.In h3 := fun b o z => k3 _ _ (fun q => by
                    rw [q, hKe] at z
                    cases z) (X2 _ _ z)
                  refine wpAt_of_wpAny (wpAny_execs_cons (plainObj_wpAny_Assign_Attribute ?_))
                  have hns3 : h3.Ns h.objs.size fun x => List.lookup x [(("self" : Str), Value.ref e), (p, v)].reverse := by
                    obtain ⟨o, es, ep, q1, q2, q3⟩ := hns
                    exact ⟨o, es, ep, k3 _ _ (Nat.ne_of_gt (Heap.lt_size he)) (k2 _ _ (k1 _ _ q1)), q2, q3⟩
                  refine wpAny_Name (wpAny_loadName_local hk l4 hns3 hsp ?_) (by simpa using n2)
                  refine wpAny_Name (wpAny_loadName_local hk l3 hns3 hse ?_) (by decide)
                  refine set_plain X3 (ox := HandSPX.excO C t1) (od := none) ⟨he3, rfl, rfl, trivial⟩ sa ?_
                  refine HandSPX.exc_osa X3 he3 hcl (show HandSPX.refsVE (.ref C :: bm) = true from hbm) rfl hno (fun h4 tk4 dx k4 dn dne hx hn => ?_)
                  refine wpAny_execs_nil (hq h4 tk4 dx t1 (fun b o nb z => k4 _ _ nb (k03 _ _ nb z)) (Nat.le_trans ?_ dn) dne hx hn)
                  obtain ⟨o, _, _, q1, _⟩ := hns3
                  exact Nat.le_of_lt (Heap.lt_size q1)
            · cases hfile
          · cases hfile
        · cases hfile
      · cases hcell
    · cases hi
  · cases hi
end
end Fx

set_option maxHeartbeats 4000000
/-! Fq3: the __init__ of an own exception class of two fields. -/
namespace Fx
open PySem PySem.Spec PySem.Calls PyProof.Rows L2
/-- the __init__ of a class of two fields, named as its parameters -/
def iniB2 (file : Str) (K : PySem.W.Frag) (C : Addr) (f f2 : Str) (fI : Addr) : Bool :=
  match K.lookup fI with
  | some ⟨_, _, .func fd, _⟩ =>
    (match fd.body, fd.params.args, fd.closure with
    | .stmts [.Expr (.Call (.Attribute (.Call (.Name s1 _) [] [] _) i1 mp) [.Constant (.str _) _ _] [] cp) _, .Assign [.Attribute (.Name s2 _) f' _] (.Name p _) _, .Assign [.Attribute (.Name s3 _) fB _] (.Name p2 _) _], [a1, a2, a3], [(c1, cc)] =>
      (mp.endLine == cp.line) && decide (s1 = "super") && decide (i1 = "__init__") && decide (s2 = "self") && decide (f' = f) && decide (a1.arg = "self") && decide (a2.arg = p) && !(p == ("self" : Str)) && !(p == ("__debug__" : Str)) && decide (c1 = "__class__") && plainP fd.params &&
      decide (fd.globals = mainGlobals) && decide (fd.builtins = builtinsNs) && decide (fd.defaults = .none) && decide (fd.scope.names.lookup ("super" : Str) = some .globalImplicit) && decide (fd.scope.names.lookup ("__class__" : Str) = some .free) &&
      decide (fd.scope.names.lookup ("self" : Str) = some .local) && decide (fd.scope.names.lookup p = some .local) && (fd.scope.names.all fun y => !decide (y.2 = .cell)) && !fd.scope.isCoroutine && !fd.scope.isGenerator && (match fd.scope.kind with
        | .function => true
        | _ => false) &&
      (match K.lookup cc with
        | some ⟨_, _, .cell (some v), _⟩ => decide (v = .ref C)
        | _ => false) && PySem.W.codeIn K fd.code fd.qualname && (match fd.code with
        | .ref c => (match K.lookup c with
          | some ⟨_, _, .fields vs, _⟩ => (match (vs[2]? : Option Value) with
            | some (Value.str fl _) => file == fl
            | _ => false)
          | _ => false)
        | _ => false) && decide (s3 = "self") && decide (fB = f2) && decide (p2 = f2) && decide (p = f) && !(f2 == f) && !(f2 == ("self" : Str)) && !(f2 == ("__debug__" : Str)) && decide (a3.arg = f2) && decide (fd.scope.names.lookup f2 = some .local)
    | _, _, _ => false)
  | _ => false
def kw2 (sw : Bool) (f f2 : Str) (v v2 : Value) : List (Str × Value) := match sw with
  | true => [(f2, v2), (f, v)]
  | false => [(f, v), (f2, v2)]
section
open PySem.W
variable {prog : Program} {w : World} {A : Around} {R : Result → Shared → Prop} {E : Value → Shared → Prop} {h : Heap} {g : Array GenState} {d : Drawn} {t : Nat} {os : OsState} {K : Frag} {mg mb : Str → Option Value} {C e t0 : Addr} {f f2 : Str} {v v2 : Value}
/-- an own __init__ that stores two fields, by keywords -/
theorem init_nx2 {file : Str} (X : K.In h) (G : h.Ns mainGlobals mg) (hB : h.Ns builtinsNs mb) (hsup : mg "super" = none) (hbs : mb "super" = some (.type "super")) (lim : h.NoLimit) (hroom : A.depth < recursionLimit) (hf : prog.main.file = file) (htop : (prog.main.scope.names.lookup ("super" : Str)).isSome = false)
    {fI : Addr} (hi : iniB2 file K C f f2 fI = true) {sw : Bool} (hc : clsB K C = true) (hno : findIn K (.ref C) f = some none) (hno2 : findIn K (.ref C) f2 = some none) (sa : findIn K (.ref C) "__setattr__" = some (some (.builtin "object.__setattr__"))) (hm : mroIn K C (.ref C) = some true) (hth : nsIn K cStatics "thirdparty.any" = some none)
    (hve : subIn K (.ref C) (.type "ValueError") = some true) (he : h.get? e = some (HandSPX.excO C t0)) (hKe : K.lookup e = none)
    (hq : ∀ h' tk' dx t1, (∀ b o, b ≠ e → h.get? b = some o → h'.get? b = some o) → h.objs.size ≤ dx → dx ≠ e → h'.get? e = some { cls := .ref C, dict := some dx, data := .fields #[.ref t1, .none, .none, .none, .bool false, .none] } → h'.Ns1 dx (fun y => if y = f2 then some v2 else if y = f then some v else none) → R (.ok (.ret .none)) ⟨h', g, d, tk', os⟩) :
    codeAny (model prog w) A (.call (.ref fI) ⟨[.ref e], kw2 sw f f2 v v2⟩) R ⟨h, g, d, t, os⟩ := by
  obtain ⟨nm, q, N, bs, bm, sn, sub, ab, col, dd, k0, k1, k2, k3, k5, hC, hbm, hal⟩ := clsB_ok hc
  unfold iniB2 at hi
  split at hi
  · rename_i oc od fd osl lk
    split at hi
    · rename_i s1 sp1 sp2 i1 sp3 msg mj mp sp4 sp5 s2 sp6 f' sp7 p sp8 sp9 s3 sp10 fB sp11 p2 sp12 sp13 a1 a2 a3 c1 cc hbody hargs hclo
      simp only [Bool.and_eq_true, decide_eq_true_eq, Bool.not_eq_true', beq_eq_false_iff_ne, ne_eq, List.all_eq_true, decide_eq_false_iff_not] at hi
      obtain ⟨⟨⟨⟨⟨⟨⟨⟨⟨⟨⟨⟨⟨⟨⟨⟨⟨⟨⟨⟨⟨⟨⟨⟨⟨⟨⟨⟨⟨⟨⟨⟨⟨epos, e1⟩, e2⟩, e3⟩, e4⟩, e5⟩, e6⟩, n1⟩, n2⟩, e7⟩, hpl⟩, e8⟩, e9⟩, e10⟩, l1⟩, l2⟩, l3⟩, l4⟩, hcel⟩, hco⟩, hge⟩, hkd⟩, hcell⟩, hcode⟩, hfile⟩, x1⟩, x2⟩, x3⟩, x4⟩, x5⟩, x6⟩, x7⟩, x8⟩, x9⟩ := hi
      subst e1 e2 e3 e4 e7 x1 x2 x3 x4
      obtain ⟨name, qualname, params, body, scope, globals, closure, defaults, kwd, doc, pm, an, cdv, ct, blt⟩ := fd
      dsimp only at hbody hargs hclo e5 e6 hpl e8 e9 e10 l1 l2 l3 l4 hcel hco hge hkd hcell hcode hfile x8 x9
      subst hbody hclo e8 e9 e10
      obtain ⟨po, ar, va, ko, kdf, kw', df⟩ := params
      dsimp only at hargs
      subst hargs
      have hk : scope.kind = .function := by
        split at hkd
        · assumption
        · cases hkd
      split at hcell
      · rename_i ccl ccd cv ccs lkc
        obtain rfl : cv = .ref C := of_decide_eq_true hcell
        split at hfile
        · rename_i cdv cda
          split at hfile
          · rename_i dcl dcd vs dcs lkd
            split at hfile
            · rename_i fl tf hvs
              let body : List Stmt := [.Expr (.Call (.Attribute (.Call (.Name "super" sp1) [] [] sp2) "__init__" sp3) [.Constant (.str msg) mj mp] [] sp4) sp5, .Assign [.Attribute (.Name "self" sp6) p sp7] (.Name p sp8) sp9, .Assign [.Attribute (.Name "self" sp10) p2 sp11] (.Name p2 sp12) sp13]
              let fd : FuncData := fnX name qualname ⟨po, [a1, a2, a3], va, ko, kdf, kw', df⟩ body scope [("__class__", cc)] .none kwd doc pm an (.ref cda) ct
              have e0 : [a1, a2, a3].map (·.arg) = [("self" : Str), p, p2] := by
                show [a1.arg, a2.arg, a3.arg] = _
                rw [e5, e6, x8]
              have nsp : ¬ ("self" : Str) = p := fun z => n1 z.symm
              have nsq : ¬ ("self" : Str) = p2 := fun z => x6 z.symm
              have npq : ¬ p = p2 := fun z => x5 z.symm
              have hbind : BindsTo ⟨h, g, d, t, os⟩ fd ⟨[.ref e], kw2 sw p p2 v v2⟩ [("self", .ref e), (p, v), (p2, v2)] := by
                refine .of_eq ?_
                cases sw with
                | false =>
                  have z := bind_all (x := name) (qual := qualname) (params := ⟨po, [a1, a2, a3], va, ko, kdf, kw', df⟩) (body := []) (scope := scope) (kV := kwd) (doc := doc) (pm := pm) (cdv := .ref cda) (ct := ct) (an := an) (ps := [("self" : Str), p, p2]) (ks := [p, p2]) (us := [.ref e]) (ws := [v, v2]) hpl e0 (by
                    unfold bindB
                    simp [nsp, nsq, npq]) rfl
                  refine z.trans ?_
                  simp [reord, ixOf, List.range_succ, nsp, nsq, npq, x5, List.findIdx_cons]
                | true =>
                  have z := bind_all (x := name) (qual := qualname) (params := ⟨po, [a1, a2, a3], va, ko, kdf, kw', df⟩) (body := []) (scope := scope) (kV := kwd) (doc := doc) (pm := pm) (cdv := .ref cda) (ct := ct) (an := an) (ps := [("self" : Str), p, p2]) (ks := [p2, p]) (us := [.ref e]) (ws := [v2, v]) hpl e0 (by
                    unfold bindB
                    simp [nsp, nsq, npq, x5]) rfl
                  refine z.trans ?_
                  simp [reord, ixOf, List.range_succ, nsp, nsq, npq, x5, List.findIdx_cons]
              refine ks_codeAny_call_defAt (fd := fd) (body := body) (binds := [("self", .ref e), (p, v), (p2, v2)]) hroom (X _ _ lk) rfl lim (codeRec_of X hcode) rfl hbind (fun x hx => hcel x hx) (fun x hx => ?_) (fun h₀ hns hk₀ => ?_) hco hge hk
              · simp at hx
                rcases hx with rfl | rfl | rfl
                · exact l3
                · exact l4
                · exact x9
              · let env : PySem.Env := callEnv fd h.objs.size fI
                have X0 : K.In h₀ := X.keeps hk₀
                have hcl : clsIn K C = some { name := nm, bases := bs, mro := .ref C :: bm, ns := N, qualname := q, hasDict := true, slotNames := sn, subclasses := sub, abstract := ab, collection := col, hasDel := false } := by unfold clsIn; rw [hC] <;> rfl
                have eC : e ≠ C := fun z => by
                  have z1 := X _ _ hC
                  rw [← z, he] at z1
                  cases z1
                have bsp : (("self" : Str) == p) = false := by simpa using nsp
                have bsq : (("self" : Str) == p2) = false := by simpa using nsq
                have bpq : (p == p2) = false := by simpa using npq
                have hse : (fun y => [(("self" : Str), Value.ref e), (p, v), (p2, v2)].reverse.lookup y) "self" = some (.ref e) := by
                  show List.lookup _ [(p2, v2), (p, v), (("self" : Str), Value.ref e)] = _
                  rw [List.lookup_cons, bsq, List.lookup_cons, bsp, List.lookup_cons, beq_self_eq_true]
                have hsp : (fun y => [(("self" : Str), Value.ref e), (p, v), (p2, v2)].reverse.lookup y) p = some v := by
                  show List.lookup _ [(p2, v2), (p, v), (("self" : Str), Value.ref e)] = _
                  rw [List.lookup_cons, bpq, List.lookup_cons, beq_self_eq_true]
                have hsq : (fun y => [(("self" : Str), Value.ref e), (p, v), (p2, v2)].reverse.lookup y) p2 = some v2 := by
                  show List.lookup _ [(p2, v2), (p, v), (("self" : Str), Value.ref e)] = _
                  rw [List.lookup_cons, beq_self_eq_true]
                refine ks_wpAt_execs_cons (ks_wpAt_Expr_any (ks_wpAt_MethodCall ?_ (eval_meth1 (by simpa using epos))) (hi := by show interactive env = false; unfold interactive; rw [show env.scope.kind = .function from hk]; rfl))
                refine ks_wpAt_super_base (env := env) (fd := fd) (f := fI) (cc := cda) (ar := a1) (file := fl) (tf := tf) l1 l2 (by decide) rfl (X0 _ _ lk) rfl ?_ rfl (X0 _ _ lkd) rfl hvs ?_ htop ?_
                · have hpo : po = [] := by
                    unfold plainP at hpl
                    simp only [Bool.and_eq_true, List.isEmpty_iff] at hpl
                    exact hpl.1.1.1.1
                  show (po ++ [a1, a2, a3]).head? = some a1
                  rw [hpo]; rfl
                · rw [hf]; exact hfile
                · refine ks_loadName_global hk l1 (loadGlobal_builtin (env := env) (G.keeps hk₀) hsup (hB.keeps hk₀) hbs ⟨rfl, ?_⟩)
                  refine wpAny_loadName_free hk l2 rfl ⟨_, X0 _ _ lkc, rfl⟩ ?_
                  rw [e5]
                  refine wpAny_loadName_local hk l3 hns hse ?_
                  refine ks_wpAny_isType_cls (X0 _ _ hC) rfl ⟨rfl, ?_⟩
                  refine ks_wpAny_call_super (X0 _ _ hC) rfl (hk₀ _ _ he) rfl (fun c z => by cases z) (looks_mroIn X0 hm) (fun h1 so1 k1 => ?_)
                  have X1 : K.In h1 := X0.keeps k1
                  have LI : Looks (model prog w) h1 (isInstance (.ref e) (.type "ValueError")) true := Looks.andThen (fun A Q E s k q => wpAny_typeOf_ref (k _ _ (k1 _ _ (hk₀ _ _ he))) q) (looks_subIn X1 hve)
                  refine kxs_getMethod kxs_ValueError so1 (looks_opaque X1 hth) (l₀ := .ref C :: bm) (fun A Q E s k q => wpAny_bind ((looks_clsIn X1 hcl) A _ E s k (wpAny_pure q))) rfl X1 hal LI eC (by decide) ?_
                  let h2 := h1.push (kxs_mw "ValueError.__init__" e)
                  have k2 : ∀ b o, h1.get? b = some o → h2.get? b = some o := fun b o z => Heap.get?_push_of_some _ z
                  refine kxs_callWith (i := "ValueError.__init__") (x := e) (by rfl) (evalArgs_plain ?_)
                  refine Calls.spliced_cons (Calls.Constant_str (pos := mp) (k := mj) (Calls.spliced_nil ⟨Heap.get?_push_at rfl rfl, ?_⟩))
                  have X2 : K.In h2 := X1.keeps k2
                  have kall : ∀ b o, h.get? b = some o → h2.get? b = some o := fun b o z => k2 _ _ (k1 _ _ (hk₀ _ _ z))
                  refine mw_call (X2 _ _ hC) (kall _ _ he) (Heap.get?_push_at rfl rfl) (by simp [sizeLine_eq]) (fun h3 t1 k3 he3 => ?_)
                  have k03 : ∀ b o, b ≠ e → h.get? b = some o → h3.get? b = some o := fun b o nb z => k3 _ _ nb (kall _ _ z)
                  have X3 : K.In h3 := fun b o z => k3 _ _ (fun q => by
                    rw [q, hKe] at z
                    cases z) (X2 _ _ z)
                  refine wpAt_of_wpAny (wpAny_execs_cons (plainObj_wpAny_Assign_Attribute ?_))
                  have hns3 : h3.Ns h.objs.size fun x => List.lookup x [(("self" : Str), Value.ref e), (p, v), (p2, v2)].reverse := by
                    obtain ⟨o, es, ep, q1, q2, q3⟩ := hns
                    exact ⟨o, es, ep, k3 _ _ (Nat.ne_of_gt (Heap.lt_size he)) (k2 _ _ (k1 _ _ q1)), q2, q3⟩
                  refine wpAny_Name (wpAny_loadName_local hk l4 hns3 hsp ?_) (by simpa using n2)
                  refine wpAny_Name (wpAny_loadName_local hk l3 hns3 hse ?_) (by decide)
                  refine set_plain X3 (ox := HandSPX.excO C t1) (od := none) ⟨he3, rfl, rfl, trivial⟩ sa ?_
                  refine HandSPX.exc_osa X3 he3 hcl (show HandSPX.refsVE (.ref C :: bm) = true from hbm) rfl hno (fun h4 tk4 dx k4 dn dne hx hn => ?_)
                  have X4 : K.In h4 := fun b o z => k4 _ _ (fun q => by
                    rw [q, hKe] at z
                    cases z) (X3 _ _ z)
                  have hns4 : h4.Ns h.objs.size fun x => List.lookup x [(("self" : Str), Value.ref e), (p, v), (p2, v2)].reverse := by
                    obtain ⟨o, es, ep, q1, q2, q3⟩ := hns3
                    exact ⟨o, es, ep, k4 _ _ (Nat.ne_of_gt (Heap.lt_size he)) q1, q2, q3⟩
                  have hw : Within (fun y => if y = p then some v else none) [p] := fun y hy => by
                    by_cases e : y = p
                    · rw [e]; exact List.mem_singleton_self _
                    · exact absurd (if_neg e) hy
                  obtain ⟨oD, _, _, hoD, _, _⟩ := hn.count hw
                  refine wpAny_execs_cons (plainObj_wpAny_Assign_Attribute ?_)
                  refine wpAny_Name (wpAny_loadName_local hk x9 hns4 hsq ?_) (by simpa using x7)
                  refine wpAny_Name (wpAny_loadName_local hk l3 hns4 hse ?_) (by decide)
                  refine set_plain X4 (ox := { cls := .ref C, dict := some dx, data := .fields #[.ref t1, .none, .none, .none, .bool false, .none] }) (od := some oD) ⟨hx, rfl, rfl, hoD⟩ sa ?_
                  refine PySem.OEX.osa_old X4 hx hn hw (by simp) hcl (show HandSPX.refsVE (.ref C :: bm) = true from hbm) rfl hno2 (fun h5 tk5 k5 hn5 => ?_)
                  have dxs : h.objs.size ≤ dx := by
                    obtain ⟨o, _, _, q1, _⟩ := hns3
                    exact Nat.le_trans (Nat.le_of_lt (Heap.lt_size q1)) dn
                  refine wpAny_execs_nil (hq h5 tk5 dx t1 (fun b o nb z => k5 _ _ (fun q => ?_) (k4 _ _ nb (k03 _ _ nb z))) dxs dne (k5 _ _ (Ne.symm dne) hx) hn5)
                  have z2 := Heap.lt_size z
                  rw [q] at z2
                  exact absurd z2 (Nat.not_lt.mpr dxs)
            · cases hfile
          · cases hfile
        · cases hfile
      · cases hcell
    · cases hi
  · cases hi
end
end Fx

set_option maxHeartbeats 4000000
/-! Fq4: an own exception as a value: made with a field, with two, with none. -/
namespace Fx
open PySem PySem.Spec PySem.Calls PyProof.Rows L2
section
open PySem.W
variable {X : Cx} {x f f2 : Str} {C : Addr} {pins : List (Addr × Obj)} {σ : L2.St} {H : Hp} {hp h' : Heap} {g : Array GenState} {dr : Drawn} {tk tk' : Nat} {os : OsState}
/-- what is laid: the exception and its dict -/
theorem lay_exc {fs : List (Str × V)} {mA : Str → Option Value} {dx t1 : Addr} (I : Inv X pins σ H ⟨hp, g, dr, tk, os⟩) (k : ∀ b o, b ≠ hp.objs.size + 1 → ((hp.push (PySem.W.kdv_tup us)).push (PySem.HandSPX.excO C hp.objs.size)).get? b = some o → h'.get? b = some o)
    (ds : hp.objs.size ≤ dx) (de : dx ≠ hp.objs.size + 1) (he : h'.get? (hp.objs.size + 1) = some { cls := .ref C, dict := some dx, data := .fields #[.ref t1, .none, .none, .none, .bool false, .none] }) (hn : h'.Ns1 dx mA) (r : ∀ y, RelO (fs.lookup y) (mA y)) :
    Inv X pins σ (upd (upd H dx (.xd fs)) (hp.objs.size + 1) (exo (hp.objs.size + 1) C (some dx))) ⟨h', g, dr, tk', os⟩ ∧ H dx = none ∧ H (hp.objs.size + 1) = none := by
  obtain ⟨G, g1, g2⟩ := restrict h' fun b => decide (b ≠ hp.objs.size + 1)
  have gk : ∀ b, b ≠ hp.objs.size + 1 → G.get? b = h'.get? b := fun b hb => g1 b (decide_eq_true hb)
  have ge : G.get? (hp.objs.size + 1) = none := g2 _ (by simp)
  have kk : ∀ b o, hp.get? b = some o → ((hp.push (PySem.W.kdv_tup us)).push (PySem.HandSPX.excO C hp.objs.size)).get? b = some o := fun b o e => Heap.get?_push_of_some _ (Heap.get?_push_of_some _ e)
  have ne : ∀ {b : Addr} {o : Obj}, hp.get? b = some o → b ≠ hp.objs.size + 1 := fun z => Nat.ne_of_lt (Nat.lt_succ_of_lt (Heap.lt_size z))
  have nd : H dx = none := I.hok.fresh ds
  have ne' : H (hp.objs.size + 1) = none := I.hok.fresh (Nat.le_succ _)
  have J := I.laid (t' := tk') (a := dx) (o := .xd fs) (h' := G) (fun b o z => (gk b (ne z)).trans (k b o (ne z) (kk _ _ z))) ds ⟨_, hn.at fun o z => (gk dx de).trans z, r⟩
  refine ⟨J.laidN (t' := tk') (h' := h') (fun b o z => ?_) ge (by rw [upd_ne (Ne.symm de)]; exact ne') (exo_ok he), nd, ne'⟩
  by_cases hb : b = hp.objs.size + 1
  · have z : G.get? b = some o := z
    rw [hb, ge] at z
    cases z
  · exact (gk b hb).symm.trans z
theorem relO_one {y : V} {u : Value} (ru : RelV y u) : ∀ z, RelO ([(f, y)].lookup z) (if z = f then some u else none) := relO_put (fs := []) ru fun _ => True.intro
theorem run_mk1 {kw : Bool} {y : V} {u : Value} {s1 : Shared} {Q : VK} (hB : nxB X.prog.main.file X.K x f = true) (hkw : kw = true → parKB X.K f (He.ma X.K (He.ga X.K x) "__init__") = true) (htop : (X.prog.main.scope.names.lookup ("super" : Str)).isSome = false) (hr : Room 1 X.A) (I1 : Inv X pins σ H s1) (ru : RelV y u)
    (q1 : ∀ e dx, H e = none → H dx = none → dx ≠ e → Q (.ref e) (upd (upd H dx (.xd [(f, y)])) e (exo e (He.ga X.K x) (some dx)))) :
    wpAny (model X.prog X.w) X.A (call (.ref (He.ga X.K x)) (posK kw u) (kwK kw f u)) (EP X pins σ Q) X.xe s1 := by
  unfold nxB at hB
  simp only [Bool.and_eq_true, decide_eq_true_eq] at hB
  obtain ⟨⟨⟨⟨⟨⟨⟨⟨⟨⟨⟨⟨⟨c1, c2⟩, c3⟩, c4⟩, c5⟩, c6⟩, c7⟩, c8⟩, c9⟩, c10⟩, c11⟩, c12⟩, c13⟩, c14⟩ := hB
  generalize He.ga X.K x = C at *
  have c2' := c2
  obtain ⟨nm, q, N, bs, bm, sn, sub, ab, col, dd, k0, k1, k2, k3, k5, hC, hbm, hal⟩ := clsB_ok c2
  have hN := I1.ok.mod.glob
  obtain ⟨mb, hmb, hbo⟩ := I1.ok.mod.blt
  have kb : ∀ b o, X.base.get? b = some o → s1.heap.get? b = some o := I1.bk
  obtain ⟨hp, g, dr, tk, os⟩ := s1
  have KX : X.K.In hp := I1.kIn
  have sz : (posK kw u).length ≤ sizeLine := by cases kw <;> simp [posK, sizeLine_eq]
  have kk : ∀ b o, hp.get? b = some o → ((hp.push (PySem.W.kdv_tup (posK kw u))).push (PySem.HandSPX.excO C hp.objs.size)).get? b = some o := fun b o e => Heap.get?_push_of_some _ (Heap.get?_push_of_some _ e)
  have hget : ((hp.push (PySem.W.kdv_tup (posK kw u))).push (PySem.HandSPX.excO C hp.objs.size)).get? (hp.objs.size + 1) = some (PySem.HandSPX.excO C hp.objs.size) := by heap_get
  have fresh : X.K.lookup (hp.objs.size + 1) = none := by
    cases z : X.K.lookup (hp.objs.size + 1) with
    | none => rfl
    | some o => exact (Nat.not_lt.mpr (Nat.le_succ _) (Heap.lt_size (KX _ _ z))).elim
  refine wpAny_call (kw_call F.excBase_ValueError (fun Y => PySem.HandSPX.refsVE_contains Y bm hbm) (KX _ _ hC) (PySem.W.looks_findIn KX (He.eqO_ok c12)) (fun self => PySem.W.bind_fn KX self c13) sz ?_)
  have mk : Room 0 (X.A.under (.builtin "type.__call__" ⟨.ref C :: posK kw u, kwK kw f u⟩)) := hr.make C (posK kw u) (kwK kw f u)
  refine init_nxK (mg := X.mg) (mb := mb) (KX.keeps kk) (hN.keeps fun b o z => kk _ _ (kb _ _ z)) (hmb.keeps fun b o z => kk _ _ (kb _ _ z)) (PySem.W.mg_none_of I1.ok.mod.kin hN (He.eqO_ok c10)) ((hbo _ (by decide)).trans (by kernel_rfl)) (I1.nolimit.keeps kk) mk.depth rfl htop c14 hkw c2' (He.eqO_ok c8) (He.eqO_ok c7) c9 (He.eqO_ok c11) c5 hget fresh (fun h' tk' dx t1 k ds de he' hn => ?_)
  have dsz : hp.objs.size ≤ dx := Nat.le_trans (by rw [Heap.size_push, Heap.size_push]; exact Nat.le_trans (Nat.le_succ _) (Nat.le_succ _)) ds
  obtain ⟨J, nd, ne⟩ := lay_exc (tk' := tk') I1 k dsz de he' hn (relO_one ru)
  exact ⟨rfl, .ref _, _, J, rfl, q1 _ _ ne nd de⟩
/-- what the written part says of the class x, whose __init__ stores the fields f, f2 -/
def nxB2 (file : Str) (K : PySem.W.Frag) (x f f2 : Str) : Bool :=
  He.eqO (PySem.W.nsIn K mainGlobals x) (some (some (.ref (He.ga K x)))) && clsB K (He.ga K x) && PySem.W.keepIn K (.ref (He.ga K x)) && decide (PySem.W.subIn K (.ref (He.ga K x)) (.type "BaseException") = some true) &&
  decide (PySem.W.subIn K (.ref (He.ga K x)) (.type "ValueError") = some true) && decide (PySem.W.typeIn K (.ref (He.ga K x)) = some (.type "type")) &&
  He.eqO (PySem.W.findIn K (.ref (He.ga K x)) "__setattr__") (some (some (.builtin "object.__setattr__"))) && He.eqO (PySem.W.findIn K (.ref (He.ga K x)) f) (some none) && decide (PySem.W.mroIn K (He.ga K x) (.ref (He.ga K x)) = some true) &&
  He.eqO (PySem.W.nsIn K mainGlobals "super") (some none) && He.eqO (PySem.W.nsIn K cStatics "thirdparty.any") (some none) &&
  He.eqO (PySem.W.findIn K (.ref (He.ga K x)) "__init__") (some (some (.ref (He.ma K (He.ga K x) "__init__")))) && decide (PySem.W.typeIn K (.ref (He.ma K (He.ga K x) "__init__")) = some (.type "function")) &&
  iniB2 file K (He.ga K x) f f2 (He.ma K (He.ga K x) "__init__") &&
  He.eqO (PySem.W.findIn K (.ref (He.ga K x)) f2) (some none)
theorem run_mk2 {kw : Bool} {y y2 : V} {u u2 : Value} {s1 : Shared} {Q : VK} (hB : nxB2 X.prog.main.file X.K x f f2 = true) (htop : (X.prog.main.scope.names.lookup ("super" : Str)).isSome = false) (hr : Room 1 X.A) (I1 : Inv X pins σ H s1) (ru : RelV y u) (ru2 : RelV y2 u2)
    (q1 : ∀ e dx, H e = none → H dx = none → dx ≠ e → Q (.ref e) (upd (upd H dx (.xd [(f2, y2), (f, y)])) e (exo e (He.ga X.K x) (some dx)))) :
    wpAny (model X.prog X.w) X.A (call (.ref (He.ga X.K x)) [] (kw2 kw f f2 u u2)) (EP X pins σ Q) X.xe s1 := by
  unfold nxB2 at hB
  simp only [Bool.and_eq_true, decide_eq_true_eq] at hB
  obtain ⟨⟨⟨⟨⟨⟨⟨⟨⟨⟨⟨⟨⟨⟨c1, c2⟩, c3⟩, c4⟩, c5⟩, c6⟩, c7⟩, c8⟩, c9⟩, c10⟩, c11⟩, c12⟩, c13⟩, c14⟩, c15⟩ := hB
  generalize He.ga X.K x = C at *
  have c2' := c2
  obtain ⟨nm, q, N, bs, bm, sn, sub, ab, col, dd, k0, k1, k2, k3, k5, hC, hbm, hal⟩ := clsB_ok c2
  have hN := I1.ok.mod.glob
  obtain ⟨mb, hmb, hbo⟩ := I1.ok.mod.blt
  have kb : ∀ b o, X.base.get? b = some o → s1.heap.get? b = some o := I1.bk
  obtain ⟨hp, g, dr, tk, os⟩ := s1
  have KX : X.K.In hp := I1.kIn
  have sz : ([] : List Value).length ≤ sizeLine := Nat.zero_le _
  have kk : ∀ b o, hp.get? b = some o → ((hp.push (PySem.W.kdv_tup ([]))).push (PySem.HandSPX.excO C hp.objs.size)).get? b = some o := fun b o e => Heap.get?_push_of_some _ (Heap.get?_push_of_some _ e)
  have hget : ((hp.push (PySem.W.kdv_tup ([]))).push (PySem.HandSPX.excO C hp.objs.size)).get? (hp.objs.size + 1) = some (PySem.HandSPX.excO C hp.objs.size) := by heap_get
  have fresh : X.K.lookup (hp.objs.size + 1) = none := by
    cases z : X.K.lookup (hp.objs.size + 1) with
    | none => rfl
    | some o => exact (Nat.not_lt.mpr (Nat.le_succ _) (Heap.lt_size (KX _ _ z))).elim
  refine wpAny_call (kw_call F.excBase_ValueError (fun Y => PySem.HandSPX.refsVE_contains Y bm hbm) (KX _ _ hC) (PySem.W.looks_findIn KX (He.eqO_ok c12)) (fun self => PySem.W.bind_fn KX self c13) sz ?_)
  have mk : Room 0 (X.A.under (.builtin "type.__call__" ⟨.ref C :: ([] : List Value), kw2 kw f f2 u u2⟩)) := hr.make C [] (kw2 kw f f2 u u2)
  refine init_nx2 (mg := X.mg) (mb := mb) (KX.keeps kk) (hN.keeps fun b o z => kk _ _ (kb _ _ z)) (hmb.keeps fun b o z => kk _ _ (kb _ _ z)) (PySem.W.mg_none_of I1.ok.mod.kin hN (He.eqO_ok c10)) ((hbo _ (by decide)).trans (by kernel_rfl)) (I1.nolimit.keeps kk) mk.depth rfl htop c14 c2' (He.eqO_ok c8) (He.eqO_ok c15) (He.eqO_ok c7) c9 (He.eqO_ok c11) c5 hget fresh (fun h' tk' dx t1 k ds de he' hn => ?_)
  have dsz : hp.objs.size ≤ dx := Nat.le_trans (by rw [Heap.size_push, Heap.size_push]; exact Nat.le_trans (Nat.le_succ _) (Nat.le_succ _)) ds
  obtain ⟨J, nd, ne⟩ := lay_exc (tk' := tk') I1 k dsz de he' hn (relO_put ru2 (relO_one ru))
  exact ⟨rfl, .ref _, _, J, rfl, q1 _ _ ne nd de⟩
/-- an own class that has no __init__ of its own -/
def nxB0 (K : PySem.W.Frag) (x : Str) : Bool :=
  He.eqO (PySem.W.nsIn K mainGlobals x) (some (some (.ref (He.ga K x)))) && clsB K (He.ga K x) && PySem.W.keepIn K (.ref (He.ga K x)) && He.eqO (PySem.W.findIn K (.ref (He.ga K x)) "__init__") (some (some (.builtin "ValueError.__init__")))
theorem run_mk0 {s1 : Shared} {Q : VK} (hB : nxB0 X.K x = true) (I1 : Inv X pins σ H s1) (q1 : ∀ e, H e = none → Q (.ref e) (upd H e (exo e (He.ga X.K x) none))) :
    wpAny (model X.prog X.w) X.A (call (.ref (He.ga X.K x)) [] []) (EP X pins σ Q) X.xe s1 := by
  unfold nxB0 at hB
  simp only [Bool.and_eq_true] at hB
  obtain ⟨⟨⟨c1, c2⟩, c3⟩, c4⟩ := hB
  generalize He.ga X.K x = C at *
  obtain ⟨nm, q, N, bs, bm, sn, sub, ab, col, dd, k0, k1, k2, k3, k5, hC, hbm, hal⟩ := clsB_ok c2
  obtain ⟨hp, g, dr, tk, os⟩ := s1
  have KX : X.K.In hp := I1.kIn
  have kk : ∀ b o, hp.get? b = some o → ((hp.push (PySem.W.kdv_tup [])).push (PySem.HandSPX.excO C hp.objs.size)).get? b = some o := fun b o e => Heap.get?_push_of_some _ (Heap.get?_push_of_some _ e)
  have hget : ((hp.push (PySem.W.kdv_tup [])).push (PySem.HandSPX.excO C hp.objs.size)).get? (hp.objs.size + 1) = some (PySem.HandSPX.excO C hp.objs.size) := by heap_get
  have hT := fun Y => PySem.HandSPX.refsVE_contains Y bm hbm
  refine wpAny_call (kw_call F.excBase_ValueError hT (KX _ _ hC) (PySem.W.looks_findIn KX (He.eqO_ok c4)) (fun self => Looks.of_pure (F.excBase_ValueError.init.bind self)) (Nat.zero_le _) ?_)
  refine PySem.HandSPX.init_base F.excBase_ValueError hT (kk _ _ (KX _ _ hC)) hget (Nat.zero_le _) fun h' t1 k he' => ?_
  have ne : ∀ {b : Addr} {o : Obj}, hp.get? b = some o → b ≠ hp.objs.size + 1 := fun z => Nat.ne_of_lt (Nat.lt_succ_of_lt (Heap.lt_size z))
  obtain ⟨G, g1, g2⟩ := restrict h' fun b => decide (b ≠ hp.objs.size + 1)
  have gk : ∀ b, b ≠ hp.objs.size + 1 → G.get? b = h'.get? b := fun b hb => g1 b (decide_eq_true hb)
  have ge : G.get? (hp.objs.size + 1) = none := g2 _ (by simp)
  have e0 : H (hp.objs.size + 1) = none := I1.hok.fresh (Nat.le_succ _)
  have J : Inv X pins σ H ⟨G, g, dr, tk, os⟩ := I1.kept (h' := G) (t' := tk) (fun b o z => (gk b (ne z)).trans (k b o (ne z) (kk _ _ z)))
  refine ⟨rfl, .ref _, _, J.laidN (t' := tk) (h' := h') (o := exo (hp.objs.size + 1) C none) (fun b o z => ?_) ge e0 (exo_ok he'), rfl, q1 _ e0⟩
  by_cases hb : b = hp.objs.size + 1
  · have z : G.get? b = some o := z
    rw [hb, ge] at z
    cases z
  · exact (gk b hb).symm.trans z
end
end Fx

set_option maxHeartbeats 4000000
/-! Fq5: isinstance of an own exception held as a value; its fields. -/
namespace Fx
open PySem PySem.Spec PySem.Calls PyProof.Rows L2
section
open PySem.W
variable {prog : Program} {w : World} {A : Around} {E : Value → Shared → Prop} {s : Shared} {K : Frag} {x D : Addr} {ox : Obj} {od : Option Obj}
theorem bind_any {C : Addr} {n : Str} {a g : Value} (h1 : (clsIn K C).isSome = true) (h2 : findIn K (.ref C) n = some (some a)) (h3 : specialIn K a "__get__" = some (some g)) (h4 : takesIn K a = some true) : findObj K C od n = some (.bind g a) := by
  obtain ⟨cd, hc⟩ := Option.isSome_iff_exists.mp h1
  simp [findObj, hc, h2, h3, h4]
theorem class_any (T : ExcC K D) {Q : Option Value → Shared → Prop} (X : K.In s.heap) (I : InstAt s.heap x ox D od) (h : Q (some (.ref D)) { s with toks := s.toks + 1 }) : wpAny (model prog w) A (getAttr? (.ref x) "__class__") Q E s := by
  have fo : findObj K D od "__class__" = some (.bind (.builtin "getset_descriptor.__get__") (.builtin "object.__class__")) := bind_any (by obtain ⟨cd, hc, _⟩ := any_some T.hd; rw [hc]; rfl) T.ha T.hn T.ht
  obtain ⟨hp, g, d, t, os⟩ := s
  have ty := I.type (M := model prog w)
  have ga := looks_findIn (M := model prog w) X T.hg
  have gg := looks_findIn (M := model prog w) X T.hk
  have fi := looks_find (M := model prog w) X I fo
  have sb : Looks (model prog w) hp (isInstance (.ref x) (.type "BaseException")) true := ty.andThen (looks_subIn X T.hs)
  have x0 : (false && onTheHeap (Value.builtin "BaseException.__getattribute__")) = false := rfl
  have x2 : (Value.builtin "BaseException.__getattribute__" == Value.builtin "object.__getattribute__") = false := by decide +kernel
  have x1 : (onTheHeap (Value.ref D) && Value.builtin "BaseException.__getattribute__" == Value.builtin "object.__getattribute__") = false := by rw [x2]; rfl
  unfold getAttr? getAttrBy? getAttrBy
  refine wpAny_bind (wpAny_mkText (wpAny_bind (wpAny_attempt (wpAny_holding (wpAny_bind (ty.at (wpAny_bind (ga.at ?_))))))))
  show wpAny _ _ (if (onTheHeap (Value.ref D) && Value.builtin "BaseException.__getattribute__" == Value.builtin "object.__getattribute__") = true then _ else _) _ _ _
  rw [x1, if_neg Bool.false_ne_true]
  unfold getAttrByItsOwn hookBefore
  refine wpAny_bind ?_; rw [if_pos (show onTheHeap (Value.ref D) = true from rfl)]
  refine gg.at (wpAny_bind (wpAny_attempt (wpAny_holding ?_)))
  unfold callGetattribute
  rw [x0, if_neg Bool.false_ne_true]; unfold boundAndCalled
  rw [PySem.F.excAttr_ValueError.ga.bind (.ref x)]; refine wpAny_bind (wpAny_pure ?_)
  show wpAny _ _ (call (.builtin "BaseException.__getattribute__") [.ref x, .str "__class__" t]) _ _ _
  refine wpAny_call (codeAny_call_builtin PySem.F.excAttr_ValueError.ga.plain PySem.F.entry_bexc_ga (@check_slot (model prog w) _ _ ⟨hp, g, d, t + 1, os⟩ "BaseException.__getattribute__" "BaseException" "__getattribute__" (.ref x) [.str "__class__" t] [] _ (by decide +kernel) (by decide +kernel) sb (PySem.F.args_bexc_ga (.ref x) (.str "__class__" t)) ?_))
  unfold Builtin.«object.__getattribute__»
  refine wpAny_bind (wpAny_of_eq (a := ((Value.ref x : Value), [Value.str "__class__" t])) (by first | (simp only [slotArgs]; rfl) | rfl) ?_)
  refine wpAny_bind (wpAny_pure (wpAny_bind (ty.at (wpAny_bind (fi.at ?_)))))
  show wpAny _ _ (holding [Value.builtin "object.__class__"] (call (.builtin "getset_descriptor.__get__") [.builtin "object.__class__", .ref x, .ref D]) >>= ret) _ _ _
  refine wpAny_bind (wpAny_holding (wpAny_call (class_get (s := ⟨hp, g, d, t + 1, os⟩) (ox := ox) (od := od) X I T.hm (wpAny_pure ?_))))
  show wpAny _ _ (handedOut (.ref D)) _ _ _
  rw [handedOut_of (v := .ref D) rfl]
  first
    | exact wpAny_pure (wpAny_pure h)
    | exact wpAny_pure h
    | exact wpAny_pure (wpAny_bind (wpAny_pure (wpAny_pure h)))
theorem kit_any (T : ExcC K D) : KitX K (.ref x) (.ref D) (fun h => InstAt h x ox D od) where
  ty := fun _ _ _ I => I.type
  it := fun _ _ X _ => by
    obtain ⟨cd, hc, _⟩ := any_some T.hd
    unfold clsIn at hc
    split at hc
    · rename_i c1 d1 cd1 sl1 ho
      intro A' Q' E' s' k q
      unfold isType loadHead
      exact wpAny_bind (wpAny_loadPart (k _ _ (X _ _ ho)) (wpAny_pure q))
    · cases hc
  ne := fun h tp dd its n sl X htp => by
    obtain ⟨cd, hc, _⟩ := any_some T.hd
    refine Bool.eq_false_iff.mpr fun q => ?_
    obtain rfl : D = tp := Value.ref.inj (beq_iff_eq.mp q)
    unfold clsIn at hc
    split at hc
    · rename_i c1 d1 cd1 sl1 ho
      cases (X _ _ ho).symm.trans htp
    · cases hc
  ca := fun X I k => class_any T X I k
end
end Fx

set_option maxHeartbeats 4000000
/-! Fq6: the expressions: C(..), isinstance(e, C), e.f. -/
namespace Fx
open PySem PySem.Spec PySem.Calls PyProof.Rows L2
/-- how such a class's exceptions are made -/
def mkB (file : Str) (K : PySem.W.Frag) (q : Xc) : Bool := match q.fs with
  | [] => nxB0 K q.c
  | [f] => nxB file K q.c f && parKB K f (He.ma K (He.ga K q.c) "__init__")
  | [f, f2] => nxB2 file K q.c f f2
  | _ => false
section
variable {X : Cx}
/-- the object as isinstance and the look at its fields see it -/
theorem exo_inst {pins : List (Addr × Obj)} {σ : L2.St} {H : Hp} {s : Shared} {a C : Addr} {d : Option Addr} (I : Inv X pins σ H s) (ha : H a = some (exo a C d)) (hd : ∀ dd, d = some dd → ∃ fs, H dd = some (.xd fs)) : ∃ ox od, PySem.W.InstAt s.heap a ox C od := by
  obtain ⟨t1, h1⟩ := exo_at I.hok ha
  cases d with
  | none => exact ⟨_, none, h1, rfl, rfl, trivial⟩
  | some dd =>
    obtain ⟨fs, hf⟩ := hd dd rfl
    have hx : ObjOk X.prog X.w H s.heap dd (.xd fs) := I.hok dd _ hf
    obtain ⟨mA, hns, _⟩ := hx
    obtain ⟨od, ho, _⟩ := lookIn_ns hns
    exact ⟨_, some od, h1, rfl, rfl, ho⟩
def rIsX (K : PySem.W.Frag) : List V → Hp → VK → Prop := fun xs H Q => ∃ (a C : Addr) (d : Option Addr) (c : V) (cv : Value) (b : Bool), xs = [.ref a, c] ∧ H a = some (exo a C d) ∧ (∀ dd, d = some dd → ∃ fs, H dd = some (.xd fs)) ∧ ExcC K C ∧ (∀ u, RelV c u → u = cv) ∧ PySem.W.kitOne K (.ref C) cv = some b ∧ Q (.bl b) H
theorem call_isX : CallR X (.builtin "isinstance") (rIsX X.K) := by
  intro pins s σ H xs us Q I r h
  obtain ⟨a, C, d, c, cv, b, rfl, ha, hd, T, hcv, e, q⟩ := h
  cases r with
  | cons rx rr =>
    cases rr with
    | cons rt rr =>
      cases rr
      cases rx
      obtain rfl := hcv _ rt
      obtain ⟨ox, od, J⟩ := exo_inst I ha hd
      exact PySem.W.kia_one (kit_any T) I.kIn J e (fun z => nomatch z) fun tk => ⟨.bl b, H, I.kept (t' := tk) fun _ _ z => z, rfl, q⟩
def tFx (K : PySem.W.Frag) (f : Str) (te : TE) : TE := fun σ H Q => te σ H fun x H1 => ∃ (a C dd : Addr) (fs : List (Str × V)) (v : V), x = .ref a ∧ H1 a = some (exo a C (some dd)) ∧ H1 dd = some (.xd fs) ∧ XfC K C ∧ PySem.W.findIn K (.ref C) f = some none ∧ fs.lookup f = some v ∧ Q v H1
theorem pe_fx {e : Expr} {te : TE} {f : Str} {pos : Pos} (he : PE X e te) (hb : attributeBase e f X.env (eval e X.env) = eval e X.env := by rfl) : PE X (.Attribute e f pos) (tFx X.K f te) := by
  refine ⟨fun pins s σ H Q I h => attr_of hb (thn (he.run pins s σ H _ I h) fun u s1 hh => ?_)⟩
  obtain ⟨x, H1, I1, rx, a, C, dd, fs, v, rfl, ha, hd, T, hno, l, q⟩ := hh
  obtain rfl : u = Value.ref a := rx
  obtain ⟨t1, h1⟩ := exo_at I1.hok ha
  have hx : ObjOk X.prog X.w H1 s1.heap dd (.xd fs) := I1.hok dd _ hd
  obtain ⟨mA, hns, rel⟩ := hx
  obtain ⟨od, ho, hl⟩ := lookIn_ns hns
  obtain ⟨u, hu, ru⟩ := RelO.some_of (v := v) (o := mA f) (by rw [← l]; exact rel f)
  have J : PySem.W.InstAt s1.heap a { cls := .ref C, dict := some dd, data := .fields #[.ref t1, .none, .none, .none, .bool false, .none] } C (some od) := ⟨h1, rfl, rfl, ho⟩
  exact HandSPX.exc_get I1.kIn J T.ga T.gg T.exC (PySem.W.findObj_own T.hdC hno rfl (by rw [hl, hu])) (handed_of ru) ⟨v, H1, I1.tok _, ru, q⟩
/-! ### C(..) -/
def tMk0 (C : Addr) : TE := fun _ H Q => ∀ e, H e = none → Q (.ref e) (upd H e (exo e C none))
def kMk1 (C : Addr) (f : Str) (y : V) (H : Hp) (Q : VK) : Prop := ∀ e dx, H e = none → H dx = none → dx ≠ e → Q (.ref e) (upd (upd H dx (.xd [(f, y)])) e (exo e C (some dx)))
def kMk2 (C : Addr) (f f2 : Str) (y y2 : V) (H : Hp) (Q : VK) : Prop := ∀ e dx, H e = none → H dx = none → dx ≠ e → Q (.ref e) (upd (upd H dx (.xd [(f2, y2), (f, y)])) e (exo e C (some dx)))
def tMk1 (C : Addr) (f : Str) (te : TE) : TE := fun σ H Q => te σ H fun y H1 => kMk1 C f y H1 Q
def tMk1k (C : Addr) (f : Str) (tk : TA) : TE := fun σ H Q => tk σ H fun zs H1 => ∃ y, zs = [y] ∧ kMk1 C f y H1 Q
def tMk2 (sw : Bool) (C : Addr) (f f2 : Str) (tk : TA) : TE := fun σ H Q => tk σ H fun zs H1 => ∃ y y2, zs = (match sw with | true => [y2, y] | false => [y, y2]) ∧ kMk2 C f f2 y y2 H1 Q
variable {x f f2 : Str} {e : Expr} {te : TE} {tk : TA} {p pos : Pos} {kws : List Keyword}
theorem pe_mk0 (hB : nxB0 X.K x = true) (hg : Gl X x) (hm : X.mg x = some (.ref (He.ga X.K x))) (hdb : (x == ("__debug__" : Str)) = false) : PE X (.Call (.Name x p) [] [] pos) (tMk0 (He.ga X.K x)) := by
  refine ⟨fun pins s σ H Q I h => wpAny_Call_Name_kw (ld_glob I hg hm ?_ hdb)⟩
  have kp : PySem.W.keepIn X.K (.ref (He.ga X.K x)) = true := by
    unfold nxB0 at hB
    simp only [Bool.and_eq_true] at hB
    exact hB.1.2
  exact PySem.W.callWith_K0 I.kIn kp (run_mk0 hB I h)
theorem pe_mk1 (hB : nxB X.prog.main.file X.K x f = true) (htop : (X.prog.main.scope.names.lookup ("super" : Str)).isSome = false) (hg : Gl X x) (hm : X.mg x = some (.ref (He.ga X.K x))) (hr : Room 1 X.A) (he : PE X e te)
    (hdb : (x == ("__debug__" : Str)) = false) (hst : starEach [e] X.env = (false, eval e X.env) :: starEach [] X.env) : PE X (.Call (.Name x p) [e] [] pos) (tMk1 (He.ga X.K x) f te) := by
  refine ⟨fun pins s σ H Q I h => wpAny_Call_Name_kw (ld_glob I hg hm ?_ hdb)⟩
  have kp : PySem.W.keepIn X.K (.ref (He.ga X.K x)) = true := by
    unfold nxB at hB
    simp only [Bool.and_eq_true] at hB
    exact hB.1.1.1.1.1.1.1.1.1.1.1.2
  let Q1 : List V → Hp → Prop := fun vs H1 => match vs with
    | [y] => kMk1 (He.ga X.K x) f y H1 Q
    | _ => False
  refine PySem.W.callWith_K (h₀ := X.base) I.ok.mod.kin kp (thn ((pa_cons he pa_nil hst).run pos pins s σ H Q1 I h) fun us s1 ⟨vs, H1, I1, r1, q1⟩ => ⟨I1.kIn, ?_⟩) hst (by rfl)
  obtain ⟨y, rfl⟩ : ∃ y, vs = [y] := by
    match vs, q1 with
    | [y], _ => exact ⟨y, rfl⟩
  cases r1 with
  | cons r t =>
    cases t
    exact run_mk1 (kw := false) hB (fun z => by cases z) htop hr I1 r q1
theorem pe_mk1k (hB : nxB X.prog.main.file X.K x f = true) (hP : parKB X.K f (He.ma X.K (He.ga X.K x) "__init__") = true) (htop : (X.prog.main.scope.names.lookup ("super" : Str)).isSome = false) (hg : Gl X x) (hm : X.mg x = some (.ref (He.ga X.K x))) (hr : Room 1 X.A) (hkw : PK X kws tk)
    (hdb : (x == ("__debug__" : Str)) = false) (hall : (backToKw pos (keywordEach kws X.env)).all (·.1.isSome) = true) (hks : (backToKw pos (keywordEach kws X.env)).filterMap (·.1) = [f])
    (hpl : ((backTo pos (starEach [] X.env)).any (·.1) || (backToKw pos (keywordEach kws X.env)).any (·.1.isNone)) = false) : PE X (.Call (.Name x p) [] kws pos) (tMk1k (He.ga X.K x) f tk) := by
  refine ⟨fun pins s σ H Q I h => wpAny_Call_Name_kw (ld_glob I hg hm ?_ hdb)⟩
  have kp : PySem.W.keepIn X.K (.ref (He.ga X.K x)) = true := by
    unfold nxB at hB
    simp only [Bool.and_eq_true] at hB
    exact hB.1.1.1.1.1.1.1.1.1.1.1.2
  refine PySem.W.callWith_KW0 (h₀ := X.base) I.ok.mod.kin kp hall (thn (hkw.run pos pins s σ H _ I h) fun ws s2 ⟨zs, H2, I2, rz, y, ez, q2⟩ => ⟨I2.kIn, ?_⟩) hpl
  subst ez
  rw [hks]
  cases rz with
  | cons r t =>
    cases t
    exact run_mk1 (kw := true) hB (fun _ => hP) htop hr I2 r q2
theorem pe_mk2 {sw : Bool} (hB : nxB2 X.prog.main.file X.K x f f2 = true) (htop : (X.prog.main.scope.names.lookup ("super" : Str)).isSome = false) (hg : Gl X x) (hm : X.mg x = some (.ref (He.ga X.K x))) (hr : Room 1 X.A) (hkw : PK X kws tk)
    (hdb : (x == ("__debug__" : Str)) = false) (hall : (backToKw pos (keywordEach kws X.env)).all (·.1.isSome) = true) (hks : (backToKw pos (keywordEach kws X.env)).filterMap (·.1) = (match sw with | true => [f2, f] | false => [f, f2]))
    (hpl : ((backTo pos (starEach [] X.env)).any (·.1) || (backToKw pos (keywordEach kws X.env)).any (·.1.isNone)) = false) : PE X (.Call (.Name x p) [] kws pos) (tMk2 sw (He.ga X.K x) f f2 tk) := by
  refine ⟨fun pins s σ H Q I h => wpAny_Call_Name_kw (ld_glob I hg hm ?_ hdb)⟩
  have kp : PySem.W.keepIn X.K (.ref (He.ga X.K x)) = true := by
    unfold nxB2 at hB
    simp only [Bool.and_eq_true] at hB
    exact hB.1.1.1.1.1.1.1.1.1.1.1.1.2
  refine PySem.W.callWith_KW0 (h₀ := X.base) I.ok.mod.kin kp hall (thn (hkw.run pos pins s σ H _ I h) fun ws s2 ⟨zs, H2, I2, rz, y, y2, ez, q2⟩ => ⟨I2.kIn, ?_⟩) hpl
  subst ez
  rw [hks]
  cases sw with
  | true =>
    cases rz with
    | cons r t =>
      cases t with
      | cons r' t =>
        cases t
        exact run_mk2 (kw := true) hB htop hr I2 r' r q2
  | false =>
    cases rz with
    | cons r t =>
      cases t with
      | cons r' t =>
        cases t
        exact run_mk2 (kw := false) hB htop hr I2 r r' q2
end
end Fx

set_option maxHeartbeats 2000000
/-! Fx6: calls; what is known of the place where code runs. -/
namespace Fx
open PySem PySem.Spec PyProof.Rows L2

/-- a def keeps its promise, called where no repr runs -/
structure FnR (P : Program) (w : World) (K : PySem.W.Frag) (mg : Str → Option Value) (base : Heap) (k : Nat) (f : Addr) (fd : FuncData) (ps : List Str) (sp : Sp) : Prop where
  len : ∀ vs H Q E, sp vs H Q E → vs.length = ps.length
  run : ∀ (A : Around) (outer : List PySem.Env) (s : Shared) (H : Hp) (args : Args) (us : List Value) (vs : List V) (Q : VK) (E : XK), Room k A → A.guards = some [] → Env0 P w K mg base A outer s H →
    BindsTo s fd args (ps.zip us) → Vals vs us → sp vs H Q E → codeAny (model P w) A (.call (.ref f) args) (CR (L2.CX P w) outer P w H s Q E) s
/-- what a def of the small language promises -/
def spF (g : G) (n : Nat) (cf : List D → Store → Res D) : Sp := fun vs H Q E => vs.length = n ∧ ∃ w S ds, WOk g w H S ∧ Reps g H w ds vs ∧
  Post (cf ds S) (fun d S' => ∀ w' H' v, WOk g w' H' S' → Ext w H w' H' → Rep g H' w' d v → Q v H') fun c p S' => ∀ w' H' cc dd, WOk g w' H' S' → Ext w H w' H' → ExcAt g H' w' c p cc dd → E cc dd H'

/-- the same where lists are lent -/
def spB (g : G) (n : Nat) (cf : List D → Store → Res D) : Sp := fun vs H Q E => vs.length = n ∧ ∃ w S ds, WOk g w H S ∧ RepTs g H w ds vs ∧
  Post (cf ds S) (fun d S' => ∀ w' H' v, WOk g w' H' S' → Ext w H w' H' → Rep g H' w' d v → Q v H') fun c p S' => ∀ w' H' cc dd, WOk g w' H' S' → Ext w H w' H' → ExcAt g H' w' c p cc dd → E cc dd H'

/-- a def of the module as the code at X may call it -/
structure Callee (g : G) (C : Ev) (X : Cx) (lam : Bool) (f : Str) (ps : List Str) : Prop where
  ex : ∃ a fd k, X.mg f = some (.ref a) ∧ PySem.W.keepIn X.K (.ref a) = true ∧ Room k X.A ∧ (lam = true → Room (k + 2) X.A) ∧ FnR X.prog X.w X.K X.mg X.base k a fd ps (spF g ps.length (C.call f)) ∧ FnR X.prog X.w X.K X.mg X.base k a fd ps (spB g ps.length (C.act f)) ∧
    ∀ (s : Shared) (us ws : List Value) (ks : List Str), bindB ps us.length ks = true → ws.length = ks.length → BindsTo s fd ⟨us, ks.zip ws⟩ (ps.zip (reord (ixOf ps us.length ks) (us ++ ws)))

/-- what is known of the place -/
structure XOk (g : G) (C : Ev) (s : Sc) (X : Cx) (W : WX) : Prop where
  K : X.K = g.K
  P : X.prog = g.P
  wd : X.w = g.wd
  mg : X.mg = g.mg
  N : X.N = s.N
  sc : X.env.scope = s.sc
  kind : X.env.scope.kind = .function
  nd : s.N.Nodup
  calm : X.calm = true
  gd : X.A.guards = some []
  un : X.A.units + 200 < cLine
  st : ∀ x, stB s x = true → Loc X.env.scope x ∧ (X.fn x = true ∨ X.env.scope.names.lookup x = some .local)
  pass : PassesOwn (model X.prog X.w) X.A X.env X.xe
  tk : Takes X W
  free : ∀ x, s.free.contains x = true → X.mg x = none
  gcd : s.gcd = true → X.mg "gcd" = some (.builtin "math.gcd")
  fns : ∀ f ps, s.fns.lookup f = some ps → Callee g C X s.lam f ps
  ex : exB X.prog.main.file X.K s.excs = true
  fld : ∀ c f, s.excs.lookup c = some f → g.fld c = some f ∧ X.mg c = some (.ref (He.ga X.K c))
  top : s.excs ≠ [] → (X.prog.main.scope.names.lookup ("super" : Str)).isSome = false
  rm : Room 1 X.A
  ci : ∀ y z, s.cints.lookup y = some z → ∃ t, X.mg y = some (.int z t)
  cs : ∀ y z, s.cstrs.lookup y = some z → ∃ t, X.mg y = some (.str z t)
  ct : ∀ y xs, s.ctups.lookup y = some xs → ∃ (a : Addr) (o : Obj) (its : Array Value) (n : Nat), X.mg y = some (.ref a) ∧ X.K.lookup a = some o ∧ o.cls = .type "tuple" ∧ o.data = .seq its n ∧ its.size ≤ sizeLine ∧ Vals (xs.map V.str) its.toList
  bs : ∀ b, s.bases.contains b = true → X.mg b = some (.ref (He.ga X.K b)) ∧ ∀ c f, s.excs.lookup c = some f → PySem.W.exmOne X.K (.ref (He.ga X.K c)) (.ref (He.ga X.K b)) = some true
  hear : ∀ f hs, s.hrs.lookup f = some hs → ∃ (d : Hd) (a : Addr) (fd : FuncData), d.hs = hs ∧ d.ok s.excs = true ∧ X.mg f = some (.ref a) ∧ FunD X.K d.name d.qual d.params d.body d.scope [] [] a fd
  xc : ∀ q ∈ s.xcs, XcOk X.K s.xis q ∧ X.mg q.c = some (.ref (He.ga X.K q.c)) ∧ mkB X.prog.main.file X.K q = true
  xi : s.xis = g.xi
  xim : ∀ z ∈ s.xis, X.mg z = some (.ref (He.ga X.K z))
  stk : s.def_ = true → X.stack = X.env :: X.outer ∧ X.env.frame = some X.env.locals
  lamOk : s.lam = true → ∃ c P, LamX.TabB X.base X.mg c P ∧ X.env.code = .ref c ∧ (P, lamQ X) ∈ g.T ∧ (∀ p ∈ g.T, p.1 = P → p.2 = lamQ X) ∧ Room 3 X.A

section
variable {g : G} {C : Ev} {s : Sc} {X : Cx} {W : WX}
theorem XOk.vis (x : XOk g C s X W) {n : Str} (h : visB s n = true) : Vis X.env.scope n := by
  unfold visB at h
  rw [x.sc]
  simp only [Bool.or_eq_true, decide_eq_true_eq] at h
  rcases h with (h | h) | h
  · exact .inl h
  · exact .inr (.inl h)
  · exact .inr (.inr h)
theorem XOk.gl (x : XOk g C s X W) {n : Str} (h : glB s n = true) : Gl X n := by
  unfold glB at h
  unfold Gl Env.kindOf
  rw [x.sc]
  exact of_decide_eq_true h
theorem okN_dbg {n : Str} (h : okN n = true) : (n == ("__debug__" : Str)) = false := by
  unfold okN at h
  simp only [Bool.and_eq_true, Bool.not_eq_true'] at h
  exact h.1.1
theorem okN_cd {n : Str} (h : okN n = true) : (n == ("__classdict__" : Str)) = false := by
  unfold okN at h
  simp only [Bool.and_eq_true, Bool.not_eq_true'] at h
  exact h.1.2
theorem okN_nm {n : Str} (h : okN n = true) : n ≠ "__name__" := by
  unfold okN at h
  simp only [Bool.and_eq_true, Bool.not_eq_true', decide_eq_false_iff_not] at h
  exact h.2
theorem nmB_of {i : Nat} {n : Str} (h : nmB s i n = true) : s.N[i]? = some n ∧ visB s n = true ∧ okN n = true := by
  unfold nmB at h
  simp only [Bool.and_eq_true, decide_eq_true_eq] at h
  exact ⟨h.1.1, h.1.2, h.2⟩
theorem XOk.pv (x : XOk g C s X W) {i : Nat} {n : Str} {pos : Pos} (h : nmB s i n = true) : PE X (.Name n pos) (tVar i) := by
  obtain ⟨h1, h2, h3⟩ := nmB_of h
  exact pe_var (by rw [x.N]; exact h1) (x.vis h2) (okN_dbg h3) (okN_cd h3)

/-- a callee runs -/
theorem run_fr {pins : List (Addr × Obj)} {σ : L2.St} {H : Hp} {st : Shared} {Q : VK} {f : Str} {ps : List Str} {a : Addr} {fd : FuncData} {k : Nat} {us ws : List Value} {ks : List Str} {w : Wd} {env : Env} {fr : Frm} {S : Store} {ds : List D} {vs : List V}
    (x : XOk g C s X W) (hr : Room k X.A) (F : FnR X.prog X.w X.K X.mg X.base k a fd ps (spF g ps.length (C.call f))) (I : L2.Inv X pins σ H st) (hb : BindsTo st fd ⟨us, ks.zip ws⟩ (ps.zip (reord (ixOf ps us.length ks) (us ++ ws))))
    (rv : Vals vs (reord (ixOf ps us.length ks) (us ++ ws))) (hl : vs.length = ps.length) (G : Good g fr σ H w env S) (rd : Reps g H w ds vs)
    (h : Post (C.call f ds S) (fun d S' => ∀ w' H' v, Good g fr σ H' w' env S' → Ext w H w' H' → Rep g H' w' d v → Q v H') (XX g fr W σ env w H)) :
    wpAny (model X.prog X.w) X.A (call (.ref a) us (ks.zip ws)) (EP X pins σ Q) X.xe st := by
  have sp : spF g ps.length (C.call f) vs H Q (fun cls d H' => W cls d σ H') := ⟨hl, w, S, ds, G.wok, rd, h.imp (fun d S' q w' H' v k e r => q w' H' v (G.step e k) e r) fun c p S' q w' H' cc dd k e xc =>
    q w' H' cc dd (G.step e k) e xc⟩
  refine wpAny_call (codeAny_mono (F.run X.A X.stack st H ⟨us, ks.zip ws⟩ _ vs Q (fun cls d H' => W cls d σ H') hr x.gd I.env0 hb rv sp) fun r s' hq => ?_)
  cases r with
  | error e => exact x.tk e s' (XE.of_call I (fun _ _ _ h => h) hq)
  | ok fl =>
    cases fl with
    | ret u => exact I.after hq
    | next => exact False.elim hq
    | brk => exact False.elim hq
    | cont => exact False.elim hq
theorem run_frB {pins : List (Addr × Obj)} {σ : L2.St} {H : Hp} {st : Shared} {Q : VK} {f : Str} {ps : List Str} {a : Addr} {fd : FuncData} {k : Nat} {us ws : List Value} {ks : List Str} {w : Wd} {env : Env} {fr : Frm} {S : Store} {ds : List D} {vs : List V}
    (x : XOk g C s X W) (hr : Room k X.A) (F : FnR X.prog X.w X.K X.mg X.base k a fd ps (spB g ps.length (C.act f))) (I : L2.Inv X pins σ H st) (hb : BindsTo st fd ⟨us, ks.zip ws⟩ (ps.zip (reord (ixOf ps us.length ks) (us ++ ws))))
    (rv : Vals vs (reord (ixOf ps us.length ks) (us ++ ws))) (hl : vs.length = ps.length) (G : Good g fr σ H w env S) (rd : RepTs g H w ds vs)
    (h : Post (C.act f ds S) (fun d S' => ∀ w' H' v, Good g fr σ H' w' env S' → Ext w H w' H' → Rep g H' w' d v → Q v H') (XX g fr W σ env w H)) :
    wpAny (model X.prog X.w) X.A (call (.ref a) us (ks.zip ws)) (EP X pins σ Q) X.xe st := by
  have sp : spB g ps.length (C.act f) vs H Q (fun cls d H' => W cls d σ H') := ⟨hl, w, S, ds, G.wok, rd, h.imp (fun d S' q w' H' v k e r => q w' H' v (G.step e k) e r) fun c p S' q w' H' cc dd k e xc =>
    q w' H' cc dd (G.step e k) e xc⟩
  refine wpAny_call (codeAny_mono (F.run X.A X.stack st H ⟨us, ks.zip ws⟩ _ vs Q (fun cls d H' => W cls d σ H') hr x.gd I.env0 hb rv sp) fun r s' hq => ?_)
  cases r with
  | error e => exact x.tk e s' (XE.of_call I (fun _ _ _ h => h) hq)
  | ok fl =>
    cases fl with
    | ret u => exact I.after hq
    | next => exact False.elim hq
    | brk => exact False.elim hq
    | cont => exact False.elim hq
end
end Fx

set_option maxHeartbeats 4000000
/-! Fx7: expressions stand for what they compute. -/
namespace Fx
open PySem PySem.Spec PyProof.Rows L2

def isFresh : N → Bool
  | .lst _ => true
  | .comp .. => true
  | .bin .. => true
  | .slc .. => true
  | .bi .list _ => true
  | .bi .sorted _ => true
  | .sortT _ => true
  | _ => false
/-- a reading that tells a new list -/
def tN (g : G) (fr : Frm) (W : WX) (C : Ev) (f : Bool) (n : N) : TE := fun σ H Q =>
  ∃ w env S, Good g fr σ H w env S ∧ Post (ev C n env S) (fun d S' => ∀ w' H' v, OutN g f w H S' d w' H' v → Q v H') (XX g fr W σ env w H)
def RepP (g : G) (p : Bool) (H : Hp) (w : Wd) (d : D) (v : V) : Prop := if p = true then RepT g H w d v else Rep g H w d v
def RepPs (g : G) (p : Bool) (H : Hp) (w : Wd) (d : List D) (v : List V) : Prop := if p = true then RepTs g H w d v else Reps g H w d v
def RelB (p : Bool) (w : Wd) (H : Hp) (w' : Wd) (H' : Hp) : Prop := if p = true then Ext w H w' H' else Per w H w' H'
abbrev tQ (g : G) (fr : Frm) (W : WX) (C : Ev) (p : Bool) (n : N) : TE := tG g fr W (ev C n) (RepP g p)
abbrev tQs (g : G) (fr : Frm) (W : WX) (C : Ev) (p : Bool) (n : N) : TA := tG g fr W (evs C n) (RepPs g p)
/-- an iterator that yields data -/
structure ItOk (g : G) (p : Bool) (J : It) (ds : List D) (w : Wd) (H : Hp) : Prop where
  go : ∀ (i : Nat) w1 H1 S1 d, WOk g w1 H1 S1 → RelB p w H w1 H1 → ds[i]? = some d → J.go i H1 ∧ ∀ x H2, J.yld i H1 x H2 → Ext w1 H1 w1 H2 ∧ WOk g w1 H2 S1 ∧ Rep g H2 w1 d x
  stop : ∀ w1 H1 S1, WOk g w1 H1 S1 → RelB p w H w1 H1 → J.stop ds.length H1
abbrev tI (g : G) (fr : Frm) (W : WX) (C : Ev) (p : Bool) (n : N) : TI := fun σ H R =>
  ∃ w env S, Good g fr σ H w env S ∧ Post (evI C n env S) (fun ds S' => ∀ w' H' J, Good g fr σ H' w' env S' → Ext w H w' H' → ItOk g p J ds w' H' → R J H') (XX g fr W σ env w H)

section
variable {g : G} {fr : Frm} {W : WX} {C : Ev}
theorem RepP.t {p : Bool} {H : Hp} {w : Wd} {d : D} {v : V} (h : RepP g p H w d v) : RepT g H w d v := by
  unfold RepP at h
  split at h
  · exact h
  · exact .rep h
theorem RepP.of {p : Bool} {H : Hp} {w : Wd} {d : D} {v : V} (h : Rep g H w d v) : RepP g p H w d v := by
  unfold RepP
  split
  · exact .rep h
  · exact h
theorem RelB.per {p : Bool} {w w' : Wd} {H H' : Hp} {S : Store} (k : WOk g w H S) (h : RelB p w H w' H') : Per w H w' H' := by
  unfold RelB at h
  split at h
  · exact h.per k
  · exact h
theorem RepP.rel {p : Bool} {w w' : Wd} {H H' : Hp} {S : Store} (k : WOk g w H S) (h : RelB p w H w' H') {d : D} {v : V} (r : RepP g p H w d v) : RepP g p H' w' d v := by
  unfold RelB at h
  unfold RepP at r ⊢
  split at h
  · rename_i hp
    rw [if_pos hp] at r ⊢
    exact r.ext k h
  · rename_i hp
    rw [if_neg hp] at r ⊢
    exact r.per h
theorem RepP.ext {p : Bool} {w w' : Wd} {H H' : Hp} {S : Store} (k : WOk g w H S) (h : Ext w H w' H') {d : D} {v : V} (r : RepP g p H w d v) : RepP g p H' w' d v := by
  unfold RepP at r ⊢
  cases p with
  | true => exact RepT.ext k h r
  | false => exact Rep.per (h.per k) r
theorem tN.q {f p : Bool} {n : N} {σ : L2.St} {H : Hp} {Q : VK} (h : tQ g fr W C p n σ H Q) : tN g fr W C f n σ H Q := by
  obtain ⟨w, env, S, G, P⟩ := h
  refine ⟨w, env, S, G, P.imp (fun d S' k w' H' v o => ?_) fun _ _ _ x => x⟩
  obtain ⟨w2, e, k2, r⟩ := o.frz
  exact k w2 H' v (G.step e k2) e (.of r)
/-- from a reading that tells a new list -/
theorem PE.ofN {X : Cx} {e : Expr} {f : Bool} {n : N} (h : PE X e (tN g fr W C f n)) (p : Bool) : PE X e (tQ g fr W C p n) := PE.imp h fun _ _ _ q => tN.q q

/-- a target -/
def tGt (g : G) (fr : Frm) (n : N) : TG := fun v σ H Q => ∃ w env S d env', Good g fr σ H w env S ∧ Rep g H w d v ∧ bindT n d env = some env' ∧ ∀ σ', Good g fr σ' H w env' S → Agree (asgT n) σ σ' env env' → Q σ' H
def tGts (g : G) (fr : Frm) (n : N) : TGs := fun vs σ H Q => ∃ w env S ds env', Good g fr σ H w env S ∧ Reps g H w ds vs ∧ bindT.bindTs n ds env = some env' ∧ ∀ σ', Good g fr σ' H w env' S → Agree (asgT n) σ σ' env env' → Q σ' H
/-- what is shown of a piece of the small language -/
structure Snd (g : G) (fr : Frm) (C : Ev) (n : N) : Prop where
  e : ∀ {s : Sc} {X : Cx} {W : WX} (x : XOk g C s X W) (p : Bool) (e : Expr), chk s p n e = true → PE X e (tQ g fr W C p n)
  f : ∀ {s : Sc} {X : Cx} {W : WX} (x : XOk g C s X W) (e : Expr), isFresh n = true → chk s false n e = true → PE X e (tN g fr W C true n)
  as : ∀ {s : Sc} {X : Cx} {W : WX} (x : XOk g C s X W) (p : Bool) (es : List Expr), chks s p n es = true → PA X es (tQs g fr W C p n)
  kw : ∀ {s : Sc} {X : Cx} {W : WX} (x : XOk g C s X W) (es : List Keyword), chkw s n es = true → PK X es (tQs g fr W C false n)
  o : ∀ {s : Sc} {X : Cx} {W : WX} (x : XOk g C s X W) (e : Option Expr), chkO s n e = true → PO X e (tOp' g fr W C n)
  t : ∀ {s : Sc} {X : Cx} {W : WX} (x : XOk g C s X W) (e : Expr), chkT s n e = true → PT X e (tTs g fr W C n)
  tw : ∀ {s : Sc} {X : Cx} {W : WX} (x : XOk g C s X W) (op : BoolOp) (es : List Expr) (pos : Pos), chkT s n (.BoolOp op es pos) = true → PW X (.BoolOp op es pos) (tTs g fr W C n)
  i : ∀ {s : Sc} {X : Cx} {W : WX} (x : XOk g C s X W) (p : Bool) (tg e : Expr), chkI s p tg n e = true → PI X tg e (tI g fr W C p n)
  c : ∀ {s : Sc} {X : Cx} {W : WX} (x : XOk g C s X W) (es : List Expr), chkC s n es = true → PTs X es (tTs g fr W C n)
  tgt : ∀ {s : Sc} {X : Cx} {W : WX} (x : XOk g C s X W) (e : Expr), chkG s n e = true → PG X e (tGt g fr n)
  tgts : ∀ {s : Sc} {X : Cx} {W : WX} (x : XOk g C s X W) (es : List Expr), chkGs s n es = true → PGs X es (tGts g fr n)

/-! ### one node after the other -/
variable {s : Sc} {X : Cx}
theorem one_ {n : N} {α : Type} {r2 : D → Store → Res α} {K : α → Store → Prop} {σ : L2.St} {H : Hp} {w : Wd} {env : Env} {S : Store} {Q : VK} {p : Bool}
    (G0 : Good g fr σ H w env S) (P : Post ((ev C n env S).bind r2) K (XX g fr W σ env w H))
    (h : ∀ a S1 w1 H1 b, Good g fr σ H1 w1 env S1 → Ext w H w1 H1 → RepP g p H1 w1 a b → Post (r2 a S1) K (XX g fr W σ env w1 H1) → Q b H1) : tQ g fr W C p n σ H Q := tG.one G0 P h
/-- a known result -/
theorem out_ {σ : L2.St} {H : Hp} {w : Wd} {env : Env} {S : Store} {d : D} {z : V} {f : Bool} (G : Good g fr σ H w env S) (r : Rep g H w d z) (hf : f = true → ∀ xs, d ≠ .lst xs) : OutN g f w H S d w H z := .same G.wok r hf

theorem e_bin {op : Op} {a b : N} (ia : Snd g fr C a) (ib : Snd g fr C b) (x : XOk g C s X W) (p : Bool) (e : Expr) (h : chk s p (.bin op a b) e = true) : PE X e (tN g fr W C true (.bin op a b)) := by
  unfold chk at h
  split at h
  · rename_i l o r pos
    simp only [Bool.and_eq_true, decide_eq_true_eq] at h
    obtain ⟨⟨rfl, h1⟩, h2⟩ := h
    refine PE.imp (pe_op (op_bin x.K op) (ia.e x true _ h1) (ib.e x true _ h2)) fun σ H Q q => ?_
    obtain ⟨w, env, S, G, P⟩ := q
    rw [ev] at P
    refine one_ G P fun d1 S1 w1 H1 v1 G1 E1 R1 P1 => one_ G1 P1 fun d2 S2 w2 H2 v2 G2 E2 R2 P2 => ?_
    obtain ⟨d, e1, k⟩ := P2.ofO
    exact ⟨w2, S2, d1, d2, d, G2.wok, (R1.ext G1.wok E2).t, R2.t, e1, fun w' H' z o => k w' H' z (o.trans (E1.trans E2))⟩
  · cases h

/-- a value that is known at once -/
theorem const_ {n : N} {d : D} {v : V} {t : TE} {e : Expr} {p : Bool} (he : PE X e t) (hev : ∀ env S, ev C n env S = .ok d S) (ht : ∀ σ H Q, Q v H → t σ H Q) (hr : ∀ H w, Rep g H w d v) : PE X e (tQ g fr W C p n) := by
  refine PE.imp he fun σ H Q ⟨w, env, S, G, P⟩ => ht _ _ _ ?_
  rw [hev] at P
  exact P w H v G .refl (.of (hr _ _))
/-- a name of the module that stands for a written value -/
theorem pe_glob {x : Str} {pos : Pos} {v : V} {u : Value} (hg : Gl X x) (hm : X.mg x = some u) (r : RelV v u) (hd : (x == ("__debug__" : Str)) = false) : PE X (.Name x pos) (tC v) := ⟨fun _ _ _ H _ I h => ld_glob I hg hm ⟨v, H, I, r, h⟩ hd⟩
theorem e_cI {z : Int} (x : XOk g C s X W) (p : Bool) (e : Expr) (h : chk s p (.cI z) e = true) : PE X e (tQ g fr W C p (.cI z)) := by
  unfold chk at h
  split at h
  · cases of_decide_eq_true h
    exact const_ pe_int (fun _ _ => rfl) (fun _ _ _ q => q) fun _ _ => .int z
  · simp only [Bool.and_eq_true, decide_eq_true_eq] at h
    obtain ⟨t, hm⟩ := x.ci _ _ h.2
    exact const_ (pe_glob (v := .int z) (x.gl h.1.1) hm ⟨t, rfl⟩ (okN_dbg h.1.2)) (fun _ _ => rfl) (fun _ _ _ q => q) fun _ _ => .int z
  · cases h
theorem e_cS {z : Str} (x : XOk g C s X W) (p : Bool) (e : Expr) (h : chk s p (.cS z) e = true) : PE X e (tQ g fr W C p (.cS z)) := by
  unfold chk at h
  split at h
  · cases of_decide_eq_true h
    exact const_ pe_str (fun _ _ => rfl) (fun _ _ _ q => q) fun _ _ => .str z
  · simp only [Bool.and_eq_true, decide_eq_true_eq] at h
    obtain ⟨t, hm⟩ := x.cs _ _ h.2
    exact const_ (pe_glob (v := .str z) (x.gl h.1.1) hm ⟨t, rfl⟩ (okN_dbg h.1.2)) (fun _ _ => rfl) (fun _ _ _ q => q) fun _ _ => .str z
  · cases h
theorem Reps.strs {H : Hp} {w : Wd} : ∀ {xs : List Str}, Reps g H w (xs.map D.str) (xs.map V.str)
  | [] => .nil
  | x :: xs => .cons (.str x) (Reps.strs (xs := xs))
theorem e_cT {xs : List Str} (x : XOk g C s X W) (p : Bool) (e : Expr) (h : chk s p (.cT xs) e = true) : PE X e (tQ g fr W C p (.cT xs)) := by
  unfold chk at h
  split at h
  · simp only [Bool.and_eq_true, decide_eq_true_eq] at h
    obtain ⟨a, o, its, n, hm, k1, k2, k3, k4, k5⟩ := x.ct _ _ h.2
    exact const_ (pe_glob (v := .ref a) (x.gl h.1.1) hm rfl (okN_dbg h.1.2)) (fun _ _ => rfl) (fun _ _ _ q => q) fun H w => .tup (.inr ⟨o, its, n, by rw [← x.K]; exact k1, k2, k3, k4, k5⟩) Reps.strs
  · cases h
theorem e_cB {z : Bool} (p : Bool) (e : Expr) (h : chk s p (.cB z) e = true) : PE X e (tQ g fr W C p (.cB z)) := by
  unfold chk at h
  split at h
  · cases of_decide_eq_true h
    exact const_ pe_bl (fun _ _ => rfl) (fun _ _ _ q => q) fun _ _ => .bl z
  · cases h
theorem e_cN (p : Bool) (e : Expr) (h : chk s p .cN e = true) : PE X e (tQ g fr W C p .cN) := by
  unfold chk at h
  split at h
  · exact const_ pe_non (fun _ _ => rfl) (fun _ _ _ q => q) fun _ _ => .non
  · cases h
theorem e_var {i : Nat} (x : XOk g C s X W) (p : Bool) (e : Expr) (h : chk s p (.var i) e = true) : PE X e (tQ g fr W C p (.var i)) := by
  unfold chk at h
  split at h
  · refine PE.imp (x.pv h) fun σ H Q ⟨w, env, S, G, P⟩ => ?_
    rw [ev] at P
    split at P
    · rename_i d hd
      obtain ⟨v, e1, r⟩ := G.val hd
      exact ⟨v, e1, P w H v G .refl (.of r)⟩
    · exact P.elim
  · cases h
theorem e_pk {i : Nat} (x : XOk g C s X W) (p : Bool) (e : Expr) (h : chk s p (.pk i) e = true) : PE X e (tQ g fr W C p (.pk i)) := by
  unfold chk at h
  split at h
  · rw [Bool.and_eq_true] at h
    obtain ⟨rfl, h⟩ := h
    refine PE.imp (x.pv h) fun σ H Q ⟨w, env, S, G, P⟩ => ?_
    rw [ev] at P
    split at P
    · rename_i d hd
      obtain ⟨v, e1, r⟩ := G.val hd
      exact ⟨v, e1, P w H v G .refl (.rep r)⟩
    · rename_i xs hd
      obtain ⟨v, e1, r⟩ := G.readT hd
      exact ⟨v, e1, P w H v G .refl r⟩
    · rename_i xs hd
      obtain ⟨v, e1, r⟩ := G.readB hd
      exact ⟨v, e1, P w H v G .refl r⟩
    · exact P.elim
  · cases h

theorem len_evs : ∀ {n : N} {es : List Expr} {p : Bool} {env : Env} {S S' : Store} {ds : List D}, chks s p n es = true → evs C n env S = .ok ds S' → ds.length = es.length := by
  intro n
  induction n with
  | nil =>
    intro es p env S S' ds h e
    unfold chks at h
    split at h
    · rw [evs] at e; cases e; rfl
    · cases h
  | cons a b _ ih =>
    intro es p env S S' ds h e
    unfold chks at h
    split at h
    · simp only [Bool.and_eq_true] at h
      rw [evs] at e
      cases q1 : ev C a env S with
      | ok d S1 =>
        rw [q1] at e
        simp only [Res.bind_ok] at e
        cases q2 : evs C b env S1 with
        | ok ds2 S2 =>
          rw [q2] at e
          cases e
          rw [List.length_cons, List.length_cons, ih h.2 q2]
        | ex => rw [q2] at e; cases e
        | st => rw [q2] at e; cases e
      | ex => rw [q1] at e; cases e
      | st => rw [q1] at e; cases e
    · cases h
  | _ =>
    intro es p env S S' ds h e
    unfold chks at h
    cases h
theorem Post.ok {α : Type} {r : Res α} {K : α → Store → Prop} {E : Str → D → Store → Prop} (h : Post r K E) : Post r (fun a S => r = .ok a S ∧ K a S) E := by
  cases r with
  | ok a S => exact ⟨rfl, h⟩
  | ex c p S => exact h
  | st => exact h
/-- displays: new -/
theorem seq_ {n : N} {es : List Expr} {σ : L2.St} {H : Hp} {w : Wd} {env : Env} {S : Store} {R : List V → Hp → Prop} {mk : List D → D} {K : D → Store → Prop}
    (hl : es.length ≤ 1000) (hc : chks s false n es = true) (G : Good g fr σ H w env S) (P : Post ((evs C n env S).bind fun ds S => .ok (mk ds) S) K (XX g fr W σ env w H))
    (h : ∀ ds S1 w1 H1 vs, Good g fr σ H1 w1 env S1 → Ext w H w1 H1 → Reps g H1 w1 ds vs → vs.length ≤ sizeLine → K (mk ds) S1 → R vs H1) : tQs g fr W C false n σ H R := by
  have P1 := P.bind.ok
  refine ⟨w, env, S, G, P1.imp (fun ds S1 k w1 H1 vs G1 E1 R1 => ?_) fun _ _ _ x => x⟩
  have R1 : Reps g H1 w1 ds vs := R1
  have e1 := len_evs hc k.1
  have e2 := R1.length
  exact h ds S1 w1 H1 vs G1 E1 R1 (by rw [sizeLine_eq]; omega) k.2
theorem e_tup {es : N} (ih : Snd g fr C es) (x : XOk g C s X W) (p : Bool) (e : Expr) (h : chk s p (.tup es) e = true) : PE X e (tQ g fr W C p (.tup es)) := by
  unfold chk at h
  split at h
  · simp only [Bool.and_eq_true, decide_eq_true_eq] at h
    refine PE.ofN (f := false) (PE.imp (pe_tup (ih.as x false _ h.1)) fun σ H Q ⟨w, env, S, G, P⟩ => ?_) p
    rw [ev] at P
    exact seq_ h.2 h.1 G P fun ds S1 w1 H1 vs G1 E1 R1 hz k => ⟨hz, fun q hq => k _ _ _ (.trans E1 (.newT G1.wok hq R1))⟩
  · cases h
theorem e_lst {es : N} (ih : Snd g fr C es) (x : XOk g C s X W) (e : Expr) (p : Bool) (h : chk s p (.lst es) e = true) : PE X e (tN g fr W C true (.lst es)) := by
  unfold chk at h
  split at h
  · simp only [Bool.and_eq_true, decide_eq_true_eq] at h
    refine PE.imp (pe_lst (ih.as x false _ h.1)) fun σ H Q ⟨w, env, S, G, P⟩ => ?_
    rw [ev] at P
    exact seq_ h.2 h.1 G P fun ds S1 w1 H1 vs G1 E1 R1 hz k => ⟨hz, fun q hq => k _ _ _ (.trans E1 (.newL G1.wok hq R1))⟩
  · cases h
theorem e_neg {a : N} (ia : Snd g fr C a) (x : XOk g C s X W) (p : Bool) (e : Expr) (h : chk s p (.neg a) e = true) : PE X e (tQ g fr W C p (.neg a)) := by
  unfold chk at h
  split at h
  · refine PE.imp (pe_un un_neg (ia.e x true _ h)) fun σ H Q ⟨w, env, S, G, P⟩ => ?_
    rw [ev] at P
    refine one_ G P fun d1 S1 w1 H1 v1 G1 E1 R1 P1 => ?_
    split at P1
    · cases R1.t.int
      exact ⟨_, rfl, P1 w1 H1 _ G1 E1 (.of (.int _))⟩
    · exact P1.elim
  · cases h
theorem cmp_ {op : Cp} {a b : N} (ia : Snd g fr C a) (ib : Snd g fr C b) (x : XOk g C s X W) {l r : Expr} (h1 : chk s true a l = true) (h2 : chk s true b r = true) :
    OpR X (compareOp (cpOf op)) (rC g op) ∧ ∀ {σ : L2.St} {H : Hp} {w : Wd} {env : Env} {S : Store} {K : Bool → Store → Prop} {R : V → Hp → Prop}, Good g fr σ H w env S →
      Post ((ev C a env S).bind fun x S => (ev C b env S).bind fun y S => ofO (cmpOp op x y) S) K (XX g fr W σ env w H) →
      (∀ c S2 w2 H2, Good g fr σ H2 w2 env S2 → Ext w H w2 H2 → K c S2 → R (.bl c) H2) → tOp (rC g op) (tQ g fr W C true a) (tQ g fr W C true b) σ H R := by
  refine ⟨op_cmp x.K (by have := x.un; omega) op, fun {σ H w env S K R} G P k => ?_⟩
  refine one_ G P fun d1 S1 w1 H1 v1 G1 E1 R1 P1 => one_ G1 P1 fun d2 S2 w2 H2 v2 G2 E2 R2 P2 => ?_
  obtain ⟨c, e1, q⟩ := P2.ofO
  exact ⟨w2, S2, d1, d2, c, G2.wok, (R1.ext G1.wok E2).t, R2.t, e1, k c S2 w2 H2 G2 (E1.trans E2) q⟩
theorem plain_mark {op : Cp} (h : cpPlain op = true) (b : Expr) : behindInMarks (cpOf op) b = false := by
  cases op <;> first
    | exact nomark b
    | cases h
theorem Post.mapO {α β : Type} {o : Option α} {f : α → β} {S : Store} {K : β → Store → Prop} {E : Str → D → Store → Prop} (h : Post (Fx.ofO (o.map f) S) K E) : Post (Fx.ofO o S) (fun a S => K (f a) S) E := by
  cases o with
  | none => exact h
  | some a => exact h
theorem Post.bind2 {α β γ : Type} {r : Res α} {f : α → Store → Res β} {K : γ → Store → Prop} {f' : α → Store → Res γ} {K' : β → Store → Prop} {E : Str → D → Store → Prop} (h : Post (r.bind f') K E) (k : ∀ a S, Post (f' a S) K E → Post (f a S) K' E) : Post (r.bind f) K' E := by
  cases r with
  | ok a S => exact k a S h
  | ex c p S => exact h
  | st => exact h
theorem e_cmp {op : Cp} {a b : N} (ia : Snd g fr C a) (ib : Snd g fr C b) (x : XOk g C s X W) (p : Bool) (e : Expr) (h : chk s p (.cmp op a b) e = true) : PE X e (tQ g fr W C p (.cmp op a b)) := by
  unfold chk at h
  split at h
  · simp only [Bool.and_eq_true, decide_eq_true_eq] at h
    obtain ⟨⟨⟨rfl, h0⟩, h1⟩, h2⟩ := h
    obtain ⟨ho, hp⟩ := cmp_ (op := op) ia ib x h1 h2
    refine PE.imp (pe_cmpR ho (ia.e x true _ h1) (ib.e x true _ h2) (by simpa using h0)) fun σ H Q ⟨w, env, S, G, P⟩ => ?_
    rw [ev] at P
    exact hp (K := fun c S' => ∀ w' H' b, Good g fr σ H' w' env S' → Ext w H w' H' → RepP g p H' w' (.bl c) b → Q b H') G (P.bind2 fun _ _ q => q.bind2 fun _ _ q => q.mapO) fun c S2 w2 H2 G2 E2 k => k w2 H2 _ G2 E2 (.of (.bl c))
  · cases h
theorem t_cmp {op : Cp} {a b : N} (ia : Snd g fr C a) (ib : Snd g fr C b) (x : XOk g C s X W) (e : Expr) (h : chkT s (.cmp op a b) e = true) : PT X e (tTs g fr W C (.cmp op a b)) := by
  unfold chkT at h
  split at h
  · simp only [Bool.and_eq_true, decide_eq_true_eq] at h
    obtain ⟨⟨⟨rfl, h0⟩, h1⟩, h2⟩ := h
    obtain ⟨ho, hp⟩ := cmp_ (op := op) ia ib x h1 h2
    refine PT.imp (pt_cmpR ho (ia.e x true _ h1) (ib.e x true _ h2) (by simpa using h0)) fun σ H Q ⟨w, env, S, G, P⟩ => ?_
    rw [evT] at P
    exact hp G P fun c S2 w2 H2 G2 E2 k => ⟨c, rfl, k w2 H2 c G2 E2 rfl⟩
  · cases h

theorem chain_ {o o' : Cp} {a b c : N} (ia : Snd g fr C a) (ib : Snd g fr C b) (ic : Snd g fr C c) (x : XOk g C s X W) {σ : L2.St} {H : Hp} {w : Wd} {env : Env} {S : Store} {K : Bool → Store → Prop} {R : V → Hp → Prop} (G : Good g fr σ H w env S)
    (P : Post ((ev C a env S).bind fun x S => (ev C b env S).bind fun y S => (ofO (cmpOp o x y) S).bind fun k S => if k then (ev C c env S).bind fun z S => ofO (cmpOp o' y z) S else .ok false S) K (XX g fr W σ env w H))
    (k : ∀ c S2 w2 H2, Good g fr σ H2 w2 env S2 → Ext w H w2 H2 → K c S2 → R (.bl c) H2) :
    tChain (rC g o) (rC g o') (tQ g fr W C true a) (tQ g fr W C true b) (tQ g fr W C true c) σ H R := by
  refine one_ G P fun d1 S1 w1 H1 v1 G1 E1 R1 P1 => one_ G1 P1 fun d2 S2 w2 H2 v2 G2 E2 R2 P2 => ?_
  obtain ⟨t, e1, q⟩ := P2.bind.ofO
  refine ⟨w2, S2, d1, d2, t, G2.wok, (R1.ext G1.wok E2).t, R2.t, e1, t, rfl, ?_⟩
  cases t with
  | false =>
    rw [if_neg Bool.false_ne_true]
    exact k false S2 w2 H2 G2 (E1.trans E2) q
  | true =>
    rw [if_pos rfl]
    refine one_ (p := true) G2 q fun d3 S3 w3 H3 v3 G3 E3 R3 P3 => ?_
    obtain ⟨t2, e2, q2⟩ := P3.ofO
    exact ⟨w3, S3, d2, d3, t2, G3.wok, (R2.ext G2.wok E3).t, R3.t, e2, k t2 S3 w3 H3 G3 ((E1.trans E2).trans E3) q2⟩
theorem e_chn {o o' : Cp} {a b c : N} (ia : Snd g fr C a) (ib : Snd g fr C b) (ic : Snd g fr C c) (x : XOk g C s X W) (p : Bool) (e : Expr) (h : chk s p (.chn o o' a b c) e = true) : PE X e (tQ g fr W C p (.chn o o' a b c)) := by
  unfold chk at h
  split at h
  · simp only [Bool.and_eq_true, decide_eq_true_eq] at h
    obtain ⟨⟨⟨⟨⟨⟨rfl, rfl⟩, h0⟩, h0'⟩, h1⟩, h2⟩, h3⟩ := h
    have hu : X.A.units + 65 < cLine := by have := x.un; omega
    refine PE.imp (pe_chain (op_cmp x.K hu o) (op_cmp x.K hu o') (ia.e x true _ h1) (ib.e x true _ h2) (ic.e x true _ h3) (plain_mark h0' _)) fun σ H Q ⟨w, env, S, G, P⟩ => ?_
    rw [ev] at P
    refine chain_ ia ib ic x (K := fun c S' => ∀ w' H' b, Good g fr σ H' w' env S' → Ext w H w' H' → RepP g p H' w' (.bl c) b → Q b H') G (P.bind2 fun _ _ q => q.bind2 fun _ _ q => q.bind2 fun t _ q => ?_) fun c S2 w2 H2 G2 E2 k => k w2 H2 _ G2 E2 (.of (.bl c))
    cases t with
    | false => exact q
    | true => exact Post.bind2 (show Post ((ev C c env _).bind _) _ _ from q) fun _ _ q => q.mapO
  · cases h
theorem t_chn {o o' : Cp} {a b c : N} (ia : Snd g fr C a) (ib : Snd g fr C b) (ic : Snd g fr C c) (x : XOk g C s X W) (e : Expr) (h : chkT s (.chn o o' a b c) e = true) : PT X e (tTs g fr W C (.chn o o' a b c)) := by
  unfold chkT at h
  split at h
  · simp only [Bool.and_eq_true, decide_eq_true_eq] at h
    obtain ⟨⟨⟨⟨⟨⟨rfl, rfl⟩, h0⟩, h0'⟩, h1⟩, h2⟩, h3⟩ := h
    have hu : X.A.units + 65 < cLine := by have := x.un; omega
    refine PT.imp (pt_chain (op_cmp x.K hu o) (op_cmp x.K hu o') (ia.e x true _ h1) (ib.e x true _ h2) (ic.e x true _ h3) (plain_mark h0' _)) fun σ H Q ⟨w, env, S, G, P⟩ => ?_
    rw [evT] at P
    exact chain_ ia ib ic x G P fun c S2 w2 H2 G2 E2 k => ⟨c, rfl, k w2 H2 c G2 E2 rfl⟩
  · cases h

theorem e_vand {a b : N} (ia : Snd g fr C a) (ib : Snd g fr C b) (x : XOk g C s X W) (p : Bool) (e : Expr) (h : chk s p (.vand a b) e = true) : PE X e (tQ g fr W C p (.vand a b)) := by
  unfold chk at h
  split at h
  · rename_i l y r pos
    rw [Bool.and_eq_true] at h
    obtain ⟨h1, h2⟩ := h
    have hb : PE X (.BoolOp .And (y :: r) pos) (tQ g fr W C false b) := by
      cases r with
      | nil => exact pe_one (ib.e x false _ h2)
      | cons z r => exact ib.e x false _ h2
    refine PE.imp (pe_and (ia.e x true _ h1) hb) fun σ H Q ⟨w, env, S, G, P⟩ => ?_
    rw [ev] at P
    refine one_ G P fun d1 S1 w1 H1 v1 G1 E1 R1 P1 => ?_
    split at P1
    · cases R1.t.bl
      refine ⟨true, rfl, ?_⟩
      rw [if_pos rfl]
      exact ⟨w1, env, S1, G1, P1.imp (fun d S2 k w2 H2 v2 G2 E2 R2 => k w2 H2 v2 G2 (E1.trans E2) (.of R2)) fun _ _ _ x => x⟩
    · cases R1.t.bl
      refine ⟨false, rfl, ?_⟩
      rw [if_neg Bool.false_ne_true]
      exact P1 w1 H1 _ G1 E1 (.of (.bl false))
    · exact P1.elim
  · cases h
theorem e_vor {a b : N} (ia : Snd g fr C a) (ib : Snd g fr C b) (x : XOk g C s X W) (p : Bool) (e : Expr) (h : chk s p (.vor a b) e = true) : PE X e (tQ g fr W C p (.vor a b)) := by
  unfold chk at h
  split at h
  · rename_i l y r pos
    rw [Bool.and_eq_true] at h
    obtain ⟨h1, h2⟩ := h
    have hb : PE X (.BoolOp .Or (y :: r) pos) (tQ g fr W C false b) := by
      cases r with
      | nil => exact pe_one (ib.e x false _ h2)
      | cons z r => exact ib.e x false _ h2
    refine PE.imp (pe_or (ia.e x true _ h1) hb) fun σ H Q ⟨w, env, S, G, P⟩ => ?_
    rw [ev] at P
    refine one_ G P fun d1 S1 w1 H1 v1 G1 E1 R1 P1 => ?_
    split at P1
    · cases R1.t.bl
      refine ⟨true, rfl, ?_⟩
      rw [if_pos rfl]
      exact P1 w1 H1 _ G1 E1 (.of (.bl true))
    · cases R1.t.bl
      refine ⟨false, rfl, ?_⟩
      rw [if_neg Bool.false_ne_true]
      exact ⟨w1, env, S1, G1, P1.imp (fun d S2 k w2 H2 v2 G2 E2 R2 => k w2 H2 v2 G2 (E1.trans E2) (.of R2)) fun _ _ _ x => x⟩
    · exact P1.elim
  · cases h
theorem e_vnot {a : N} (ia : Snd g fr C a) (x : XOk g C s X W) (p : Bool) (e : Expr) (h : chk s p (.vnot a) e = true) : PE X e (tQ g fr W C p (.vnot a)) := by
  unfold chk at h
  split at h
  · refine PE.imp (pe_not (ia.e x true _ h)) fun σ H Q ⟨w, env, S, G, P⟩ => ?_
    rw [ev] at P
    refine one_ G P fun d1 S1 w1 H1 v1 G1 E1 R1 P1 => ?_
    split at P1
    · rename_i k
      cases R1.t.bl
      exact ⟨k, rfl, P1 w1 H1 _ G1 E1 (.of (.bl _))⟩
    · exact P1.elim
  · cases h
theorem e_ite {c a b : N} (ic : Snd g fr C c) (ia : Snd g fr C a) (ib : Snd g fr C b) (x : XOk g C s X W) (p : Bool) (e : Expr) (h : chk s p (.ite c a b) e = true) : PE X e (tQ g fr W C p (.ite c a b)) := by
  unfold chk at h
  split at h
  · simp only [Bool.and_eq_true] at h
    refine PE.imp (pe_ifExp (ic.t x _ h.1.1) (ia.e x false _ h.1.2) (ib.e x false _ h.2)) fun σ H Q ⟨w, env, S, G, P⟩ => ?_
    rw [ev] at P
    refine tG.one G P fun t S1 w1 H1 t' G1 E1 R1 P1 => ?_
    cases R1
    cases t with
    | true =>
      rw [if_pos rfl] at P1 ⊢
      exact ⟨w1, env, S1, G1, P1.imp (fun d S2 k w2 H2 v2 G2 E2 R2 => k w2 H2 v2 G2 (E1.trans E2) (.of R2)) fun _ _ _ x => x⟩
    | false =>
      rw [if_neg Bool.false_ne_true] at P1 ⊢
      exact ⟨w1, env, S1, G1, P1.imp (fun d S2 k w2 H2 v2 G2 E2 R2 => k w2 H2 v2 G2 (E1.trans E2) (.of R2)) fun _ _ _ x => x⟩
  · cases h
theorem plainIx {b : Expr} (h : noSlB b = true) : PlainIx b := by
  intro o i
  cases b <;> first
    | rfl
    | cases h
theorem e_idx {a b : N} (ia : Snd g fr C a) (ib : Snd g fr C b) (x : XOk g C s X W) (p : Bool) (e : Expr) (h : chk s p (.idx a b) e = true) : PE X e (tQ g fr W C p (.idx a b)) := by
  unfold chk at h
  split at h
  · simp only [Bool.and_eq_true] at h
    refine PE.imp (pe_ix (ix_any x.K) (ia.e x true _ h.1.2) (ib.e x true _ h.2) (plainIx h.1.1)) fun σ H Q ⟨w, env, S, G, P⟩ => ?_
    rw [ev] at P
    refine one_ G P fun d1 S1 w1 H1 v1 G1 E1 R1 P1 => one_ G1 P1 fun d2 S2 w2 H2 v2 G2 E2 R2 P2 => ?_
    obtain ⟨d, e1, q⟩ := P2.ofO
    exact ⟨w2, S2, d1, d2, d, G2.wok, (R1.ext G1.wok E2).t, R2.t, e1, fun z r => q w2 H2 z G2 (E1.trans E2) (.of r)⟩
  · cases h
theorem e_slc {a lo hi : N} (ia : Snd g fr C a) (il : Snd g fr C lo) (ih : Snd g fr C hi) (x : XOk g C s X W) (p : Bool) (e : Expr) (h : chk s p (.slc a lo hi) e = true) : PE X e (tN g fr W C true (.slc a lo hi)) := by
  unfold chk at h
  split at h
  · simp only [Bool.and_eq_true] at h
    refine PE.imp (pe_slice (sl_any x.K) (ia.e x true _ h.1.1) (il.o x _ h.1.2) (ih.o x _ h.2)) fun σ H Q ⟨w, env, S, G, P⟩ => ?_
    rw [ev] at P
    refine one_ G P fun d1 S1 w1 H1 v1 G1 E1 R1 P1 => tG.one G1 P1 fun l S2 w2 H2 l' G2 E2 R2 P2 => tG.one G2 P2 fun u S3 w3 H3 u' G3 E3 R3 P3 => ?_
    cases R2; cases R3
    obtain ⟨d, e1, q⟩ := P3.ofO
    exact ⟨w3, S3, d1, d, G3.wok, ((R1.ext G1.wok E2).ext G2.wok E3).t, e1, fun w' H' z o => q w' H' z (o.trans ((E1.trans E2).trans E3))⟩
  · cases h
theorem get_cell {w : Wd} {H : Hp} {S : Store} (k : WOk g w H S) {n : Nat} {a : Addr} {kvs : List (Key × D)} (h1 : w.mu[n]? = some a) (h2 : S[n]? = some (.dct kvs)) :
    ∃ kus : List (Key × V), H a = some (.dK kus) ∧ kvs.map (·.1) = kus.map (·.1) ∧ Reps g H w (kvs.map (·.2)) (kus.map (·.2)) := by
  cases k.cell n a _ h1 h2 with
  | dct h e r => exact ⟨_, h, e, r⟩
theorem getK_val {w : Wd} {H : Hp} {k : Key} : ∀ {kvs : List (Key × D)} {kus : List (Key × V)} {d : D}, kvs.map (·.1) = kus.map (·.1) → Reps g H w (kvs.map (·.2)) (kus.map (·.2)) → getK kvs k = some d → ∃ v, valV kus k = some v ∧ Rep g H w d v
  | [], _, d, _, _, h => by cases h
  | p :: r, [], d, e, _, _ => by cases e
  | p :: r, q :: t, d, e, rs, h => by
    simp only [List.map_cons, List.cons.injEq] at e
    rw [List.map_cons, List.map_cons] at rs
    cases rs with
    | cons r1 r2 =>
      by_cases z : p.1 = k
      · have h' : some p.2 = some d := by
          rw [← h]
          simp [getK, List.find?_cons, z]
        cases h'
        exact ⟨q.2, valV_pos (by rw [← e.1]; exact z), r1⟩
      · have h' : getK r k = some d := by
          rw [← h]
          simp [getK, List.find?_cons, z]
        obtain ⟨v, e1, e2⟩ := getK_val e.2 r2 h'
        exact ⟨v, by rw [valV_neg (by rw [← e.1]; exact z)]; exact e1, e2⟩
theorem e_dget {d : N} {k : Str} (ia : Snd g fr C d) (x : XOk g C s X W) (p : Bool) (e : Expr) (h : chk s p (.dget d k) e = true) : PE X e (tQ g fr W C p (.dget d k)) := by
  unfold chk at h
  split at h
  · simp only [Bool.and_eq_true, decide_eq_true_eq] at h
    obtain ⟨rfl, h⟩ := h
    refine PE.imp (pe_dget (by have := x.un; omega) (ia.e x true _ h) pe_str (fun _ _ => rfl)) fun σ H Q ⟨w, env, S, G, P⟩ => ?_
    rw [ev] at P
    refine one_ G P fun d1 S1 w1 H1 v1 G1 E1 R1 P1 => ?_
    obtain ⟨dv, e1, q⟩ := P1.ofO
    unfold dGet at e1
    split at e1
    · rename_i n
      split at e1
      · rename_i kvs hS
        obtain ⟨a, rfl, ha⟩ := Rep.ref_ R1.t
        obtain ⟨kus, hH, ek, rk⟩ := get_cell G1.wok ha hS
        obtain ⟨v, e2, r2⟩ := getK_val ek rk e1
        exact ⟨a, v, rfl, by rw [← e2]; exact DGet.k (k := keyStr k) hH, q w1 H1 v G1 E1 (.of r2)⟩
      · cases e1
    · cases e1
  · cases h

theorem cell_of {w : Wd} {H : Hp} {S : Store} {x : D} {v : V} {kvs : List (Key × D)} (k : WOk g w H S) (r : RepT g H w x v) (e : dCell x S = some kvs) :
    ∃ a, ∃ kus : List (Key × V), v = .ref a ∧ H a = some (.dK kus) ∧ kvs.map (·.1) = kus.map (·.1) ∧ Reps g H w (kvs.map (·.2)) (kus.map (·.2)) := by
  unfold dCell at e
  split at e
  · rename_i n
    split at e
    · rename_i kvs' hS
      cases e
      obtain ⟨a, rfl, ha⟩ := Rep.ref_ r
      obtain ⟨kus, hH, ek, rk⟩ := get_cell k ha hS
      exact ⟨a, kus, rfl, hH, ek, rk⟩
    · cases e
  · cases e
theorem key_of {w : Wd} {H : Hp} {y : D} {v : V} {k : Key} (r : RepT g H w y v) (e : keyD y = some k) : v = kV k := by
  cases y with
  | str x => cases e; cases r.str; rfl
  | int i => cases e; cases r.int; rfl
  | _ => cases e
theorem getK_none {w : Wd} {H : Hp} {k : Key} : ∀ {kvs : List (Key × D)} {kus : List (Key × V)}, kvs.map (·.1) = kus.map (·.1) → (getK kvs k).isSome = (valV kus k).isSome
  | [], [], _ => rfl
  | [], _ :: _, h => by cases h
  | _ :: _, [], h => by cases h
  | p :: r, q :: t, e => by
    simp only [List.map_cons, List.cons.injEq] at e
    by_cases z : p.1 = k
    · rw [valV_pos (by rw [← e.1]; exact z)]
      simp [getK, List.find?_cons, z]
    · rw [valV_neg (by rw [← e.1]; exact z), ← getK_none (w := w) (H := H) e.2]
      simp [getK, List.find?_cons, z]
theorem e_dgetE {d k : N} (ia : Snd g fr C d) (ib : Snd g fr C k) (x : XOk g C s X W) (p : Bool) (e : Expr) (h : chk s p (.dgetE d k) e = true) : PE X e (tQ g fr W C p (.dgetE d k)) := by
  unfold chk at h
  split at h
  · rename_i o y pos
    simp only [Bool.and_eq_true] at h
    obtain ⟨⟨h0, h1⟩, h2⟩ := h
    refine PE.imp (pe_dget (by have := x.un; omega) (ia.e x true _ h1) (ib.e x true _ h2) (by cases y <;> first | (exact fun _ _ => rfl) | cases h0)) fun σ H Q ⟨w, env, S, G, P⟩ => ?_
    rw [ev] at P
    refine one_ G P fun d1 S1 w1 H1 v1 G1 E1 R1 P1 => one_ G1 P1 fun d2 S2 w2 H2 v2 G2 E2 R2 P2 => ?_
    obtain ⟨dv, e1, q⟩ := P2.ofO
    cases hk : keyD d2 with
    | none => rw [hk] at e1; cases e1
    | some ky =>
      rw [hk] at e1
      cases hc : dCell d1 S2 with
      | none =>
        have e1 : (dCell d1 S2).bind (fun kvs => getK kvs ky) = some dv := e1
        rw [hc] at e1; cases e1
      | some kvs =>
        have e1 : (dCell d1 S2).bind (fun kvs => getK kvs ky) = some dv := e1
        rw [hc] at e1
        have e1 : getK kvs ky = some dv := e1
        obtain ⟨a, kus, rfl, hH, ek, rk⟩ := cell_of G2.wok (R1.ext G1.wok E2).t hc
        obtain ⟨v, e2, r2⟩ := getK_val ek rk e1
        have eq2 := key_of R2.t hk
        subst eq2
        exact ⟨a, v, rfl, by rw [← e2]; exact DGet.k (k := ky) hH, q w2 H2 v G2 (E1.trans E2) (.of r2)⟩
  · cases h
theorem dhas_ {neg : Bool} {k d : N} (ik : Snd g fr C k) (id_ : Snd g fr C d) (x : XOk g C s X W) {l r : Expr} (h1 : chk s true k l = true) (h2 : chk s true d r = true) :
    ∃ t : TE, PC X (if neg = true then CmpOp.NotIn else CmpOp.In) l r t ∧ ∀ {σ : L2.St} {H : Hp} {w : Wd} {env : Env} {S : Store} {K : Bool → Store → Prop} {R : VK}, Good g fr σ H w env S →
      Post ((ev C k env S).bind fun y S => (ev C d env S).bind fun x S => ofO ((keyD y).bind fun ky => (dCell x S).map fun kvs => (getK kvs ky).isSome != neg) S) K (XX g fr W σ env w H) →
      (∀ b S2 w2 H2, Good g fr σ H2 w2 env S2 → Ext w H w2 H2 → K b S2 → R (.bl b) H2) → t σ H R := by
  have un : X.A.units + 1 < cLine := by have := x.un; omega
  have main : ∀ {σ : L2.St} {H : Hp} {w : Wd} {env : Env} {S : Store} {K : Bool → Store → Prop} {R : VK}, Good g fr σ H w env S →
      Post ((ev C k env S).bind fun y S => (ev C d env S).bind fun x S => ofO ((keyD y).bind fun ky => (dCell x S).map fun kvs => (getK kvs ky).isSome != neg) S) K (XX g fr W σ env w H) →
      (∀ b S2 w2 H2, Good g fr σ H2 w2 env S2 → Ext w H w2 H2 → K b S2 → R (.bl b) H2) → tQ g fr W C true k σ H fun y H1 => tQ g fr W C true d σ H1 fun x H2 => ∃ a o, x = .ref a ∧ DGet H2 a y o ∧ R (.bl (o.isSome != neg)) H2 := by
    intro σ H w env S K R G P hR
    refine one_ G P fun d1 S1 w1 H1 v1 G1 E1 R1 P1 => one_ G1 P1 fun d2 S2 w2 H2 v2 G2 E2 R2 P2 => ?_
    obtain ⟨b, e1, q⟩ := P2.ofO
    cases hk : keyD d1 with
    | none => rw [hk] at e1; cases e1
    | some ky =>
      rw [hk] at e1
      have e1 : (dCell d2 S2).map (fun kvs => (getK kvs ky).isSome != neg) = some b := e1
      cases hc : dCell d2 S2 with
      | none => rw [hc] at e1; cases e1
      | some kvs =>
        rw [hc] at e1
        cases e1
        obtain ⟨a, kus, rfl, hH, ek, rk⟩ := cell_of G2.wok R2.t hc
        have eq2 := key_of R1.t hk
        subst eq2
        refine ⟨a, valV kus ky, rfl, DGet.k (k := ky) hH, ?_⟩
        rw [← getK_none (w := w2) (H := H2) ek]
        exact hR _ S2 w2 H2 G2 (E1.trans E2) q
  cases neg with
  | false =>
    refine ⟨_, pc_din un (ik.e x true _ h1) (id_.e x true _ h2), fun {σ H w env S K R} G P hR => ?_⟩
    have z := main G P hR
    simp only [Bool.bne_false] at z
    exact z
  | true =>
    refine ⟨_, pc_dnotin un (ik.e x true _ h1) (id_.e x true _ h2), fun {σ H w env S K R} G P hR => ?_⟩
    have z := main G P hR
    simp only [Bool.bne_true] at z
    exact z
theorem e_dhas {neg : Bool} {k d : N} (ik : Snd g fr C k) (id_ : Snd g fr C d) (x : XOk g C s X W) (p : Bool) (e : Expr) (h : chk s p (.dhas neg k d) e = true) : PE X e (tQ g fr W C p (.dhas neg k d)) := by
  unfold chk at h
  split at h
  · rename_i l o r pos
    simp only [Bool.and_eq_true, decide_eq_true_eq, Bool.not_eq_true'] at h
    obtain ⟨⟨⟨rfl, h0⟩, h1⟩, h2⟩ := h
    obtain ⟨t, pc, im⟩ := dhas_ (neg := neg) ik id_ x h1 h2
    refine PE.imp (pe_cmp pc h0) fun σ H Q ⟨w, env, S, G, P⟩ => ?_
    rw [ev] at P
    refine im (K := fun b S' => ∀ w' H' b', Good g fr σ H' w' env S' → Ext w H w' H' → RepP g p H' w' (.bl b) b' → Q b' H') G ?_ fun b S2 w2 H2 G2 E2 q => q w2 H2 _ G2 E2 (.of (.bl b))
    refine P.bind2 fun y S1 q => q.bind2 fun x S2 q => ?_
    obtain ⟨dv, e1, q⟩ := q.ofO
    cases hk : keyD y with
    | none => rw [hk] at e1; cases e1
    | some ky =>
      rw [hk] at e1
      have e1 : (dCell x S2).map (fun kvs => D.bl ((getK kvs ky).isSome != neg)) = some dv := e1
      cases hc : dCell x S2 with
      | none => rw [hc] at e1; cases e1
      | some kvs =>
        rw [hc] at e1
        cases e1
        exact q
  · cases h
theorem t_dhas {neg : Bool} {k d : N} (ik : Snd g fr C k) (id_ : Snd g fr C d) (x : XOk g C s X W) (e : Expr) (h : chkT s (.dhas neg k d) e = true) : PT X e (tTs g fr W C (.dhas neg k d)) := by
  unfold chkT at h
  split at h
  · rename_i l o r pos
    simp only [Bool.and_eq_true, decide_eq_true_eq, Bool.not_eq_true'] at h
    obtain ⟨⟨⟨rfl, h0⟩, h1⟩, h2⟩ := h
    obtain ⟨t, pc, im⟩ := dhas_ (neg := neg) ik id_ x h1 h2
    refine PT.imp (pt_cmp pc h0) fun σ H Q ⟨w, env, S, G, P⟩ => ?_
    rw [evT] at P
    exact im (K := fun b S' => ∀ w' H' b', Good g fr σ H' w' env S' → Ext w H w' H' → b = b' → Q b' H') G P fun b S2 w2 H2 G2 E2 q => ⟨b, rfl, q w2 H2 b G2 E2 rfl⟩
  · cases h

theorem star_ok {e : Expr} {es : List Expr} {env : PySem.Env} (h : notStar e = true) : starEach (e :: es) env = (false, eval e env) :: starEach es env := by
  cases e <;> first
    | rfl
    | cases h
theorem star_all {p : Bool} : ∀ {n : N} {es : List Expr} {env : PySem.Env} {pos : Pos}, chks s p n es = true → (backTo pos (starEach es env)).any (·.1) = false := by
  intro n
  induction n with
  | nil =>
    intro es env pos h
    unfold chks at h
    split at h
    · rfl
    · cases h
  | cons a b _ ih =>
    intro es env pos h
    unfold chks at h
    split at h
    · simp only [Bool.and_eq_true] at h
      rw [star_ok h.1.1]
      show (false || (backTo pos (starEach _ env)).any (·.1)) = false
      rw [ih h.2]
      rfl
    · cases h
  | _ =>
    intro es env pos h
    unfold chks at h
    cases h
theorem evs_cons {a b : N} {e : Expr} {es : List Expr} {p : Bool} (h : chks s p (.cons a b) (e :: es) = true) : notStar e = true ∧ chk s p a e = true ∧ chks s p b es = true := by
  unfold chks at h
  simp only [Bool.and_eq_true] at h
  exact ⟨h.1.1, h.1.2, h.2⟩
theorem as_nil {p : Bool} {es : List Expr} (h : chks s p .nil es = true) : PA X es (tQs g fr W C p .nil) := by
  unfold chks at h
  split at h
  · refine PA.imp pa_nil fun σ H Q ⟨w, env, S, G, P⟩ => ?_
    rw [evs] at P
    refine P w H [] G .refl ?_
    unfold RepPs
    split
    · exact .nil
    · exact .nil
  · cases h
theorem RepPs.cons {p : Bool} {H : Hp} {w : Wd} {d : D} {v : V} {ds : List D} {vs : List V} (h : RepP g p H w d v) (t : RepPs g p H w ds vs) : RepPs g p H w (d :: ds) (v :: vs) := by
  cases p with
  | true => exact RepTs.cons h t
  | false => exact Reps.cons h t
theorem as_cons {a b : N} (ia : Snd g fr C a) (ib : Snd g fr C b) (x : XOk g C s X W) (p : Bool) (es : List Expr) (h : chks s p (.cons a b) es = true) : PA X es (tQs g fr W C p (.cons a b)) := by
  cases es with
  | nil => unfold chks at h; cases h
  | cons e es =>
    obtain ⟨h0, h1, h2⟩ := evs_cons h
    refine PA.imp (pa_cons (ia.e x p _ h1) (ib.as x p _ h2) (star_ok h0)) fun σ H Q ⟨w, env, S, G, P⟩ => ?_
    rw [evs] at P
    refine one_ G P fun d1 S1 w1 H1 v1 G1 E1 R1 P1 => tG.one G1 P1 fun ds S2 w2 H2 vs G2 E2 R2 P2 => ?_
    exact P2 w2 H2 _ G2 (E1.trans E2) (.cons (R1.ext G1.wok E2) R2)
theorem kw_nil {es : List Keyword} (h : chkw s .nil es = true) : PK X es (tQs g fr W C false .nil) := by
  unfold chkw at h
  split at h
  · refine ⟨fun pos pins st σ H Q I ⟨w, env, S, G, P⟩ => pk_nil.run pos pins st σ H Q I ?_⟩
    rw [evs] at P
    exact P w H [] G .refl (show Reps g H w [] [] from .nil)
  · cases h
theorem kw_cons {a b : N} (ia : Snd g fr C a) (ib : Snd g fr C b) (x : XOk g C s X W) (es : List Keyword) (h : chkw s (.cons a b) es = true) : PK X es (tQs g fr W C false (.cons a b)) := by
  unfold chkw at h
  split at h
  · rename_i nm e kpos es
    simp only [Bool.and_eq_true] at h
    refine ⟨fun pos pins st σ H Q I ⟨w, env, S, G, P⟩ => (pk_cons (nm := some nm) (kpos := kpos) (ia.e x false _ h.1) (ib.kw x _ h.2)).run pos pins st σ H Q I ?_⟩
    rw [evs] at P
    refine one_ G P fun d1 S1 w1 H1 v1 G1 E1 R1 P1 => tG.one G1 P1 fun ds S2 w2 H2 vs G2 E2 R2 P2 => ?_
    exact P2 w2 H2 _ G2 (E1.trans E2) (.cons (R1.ext G1.wok E2) R2)
  · cases h
theorem o_nil {e : Option Expr} (h : chkO s .nil e = true) : PO X e (tOp' g fr W C .nil) := by
  unfold chkO at h
  split at h
  · refine PO.imp po_none fun σ H Q ⟨w, env, S, G, P⟩ => ?_
    rw [evO] at P
    exact P w H none G .refl rfl
  · cases h
theorem o_cons {a b : N} (ia : Snd g fr C a) (x : XOk g C s X W) {e : Option Expr} (h : chkO s (.cons a b) e = true) : PO X e (tOp' g fr W C (.cons a b)) := by
  cases b with
  | nil =>
    unfold chkO at h
    split at h
    · refine PO.imp (po_some (ia.e x true _ h)) fun σ H Q ⟨w, env, S, G, P⟩ => ?_
      rw [evO] at P
      refine one_ G P fun d1 S1 w1 H1 v1 G1 E1 R1 P1 => ?_
      split at P1
      · rename_i i
        cases R1.t.int
        exact ⟨i, rfl, P1 w1 H1 (some i) G1 E1 rfl⟩
      · exact P1.elim
    · cases h
  | _ => unfold chkO at h; cases h

/-! ### tests -/
theorem t_tv {a : N} (ia : Snd g fr C a) (x : XOk g C s X W) (e : Expr) (h : chkT s (.tv a) e = true) : PT X e (tTs g fr W C (.tv a)) := by
  unfold chkT at h
  rw [Bool.and_eq_true] at h
  obtain ⟨h1, h2⟩ := h
  have he : ∀ whole, isTrue e X.env whole = (do let v ← whole; standAt e.pos; holding [v] (PySem.truthy v)) := fun whole => by
    cases e with
    | UnaryOp op a pos => cases op <;> first | rfl | cases h1
    | _ => first | rfl | cases h1
  refine PT.imp (pt_truth (ia.e x true _ h2) he) fun σ H Q ⟨w, env, S, G, P⟩ => ?_
  rw [evT] at P
  refine one_ G P fun d1 S1 w1 H1 v1 G1 E1 R1 P1 => ?_
  obtain ⟨b, e1, q⟩ := P1.ofO
  exact ⟨b, by rw [x.K]; exact truthy_tru R1.t e1, q w1 H1 b G1 E1 rfl⟩
theorem t_tnot {a : N} (ia : Snd g fr C a) (x : XOk g C s X W) (e : Expr) (h : chkT s (.tnot a) e = true) : PT X e (tTs g fr W C (.tnot a)) := by
  unfold chkT at h
  split at h
  · refine PT.imp (pt_not (ia.t x _ h)) fun σ H Q ⟨w, env, S, G, P⟩ => ?_
    rw [evT] at P
    refine tG.one G P fun t S1 w1 H1 t' G1 E1 R1 P1 => ?_
    cases R1
    exact P1 w1 H1 _ G1 E1 rfl
  · cases h
theorem tw_tand {a b : N} (ia : Snd g fr C a) (ib : Snd g fr C b) (x : XOk g C s X W) (op : BoolOp) (es : List Expr) (pos : Pos) (h : chkT s (.tand a b) (.BoolOp op es pos) = true) : PW X (.BoolOp op es pos) (tTs g fr W C (.tand a b)) := by
  unfold chkT at h
  split at h
  · rename_i l y r pos' e0
    cases e0
    rw [Bool.and_eq_true] at h
    obtain ⟨h1, h2⟩ := h
    have hb : PW X (.BoolOp .And (y :: r) pos) (tTs g fr W C b) := by
      cases r with
      | nil => exact pw_and1 (ib.t x _ h2)
      | cons z r => exact ib.tw x _ _ _ h2
    refine PW.imp (pw_and (ia.t x _ h1) hb) fun σ H Q ⟨w, env, S, G, P⟩ => ?_
    rw [evT] at P
    refine tG.one G P fun t S1 w1 H1 t' G1 E1 R1 P1 => ?_
    cases R1
    cases t with
    | true =>
      rw [if_pos rfl] at P1 ⊢
      exact ⟨w1, env, S1, G1, P1.imp (fun d S2 k w2 H2 v2 G2 E2 R2 => k w2 H2 v2 G2 (E1.trans E2) R2) fun _ _ _ x => x⟩
    | false =>
      rw [if_neg Bool.false_ne_true] at P1 ⊢
      exact P1 w1 H1 false G1 E1 rfl
  · cases h
theorem tw_tor {a b : N} (ia : Snd g fr C a) (ib : Snd g fr C b) (x : XOk g C s X W) (op : BoolOp) (es : List Expr) (pos : Pos) (h : chkT s (.tor a b) (.BoolOp op es pos) = true) : PW X (.BoolOp op es pos) (tTs g fr W C (.tor a b)) := by
  unfold chkT at h
  split at h
  · rename_i l y r pos' e0
    cases e0
    rw [Bool.and_eq_true] at h
    obtain ⟨h1, h2⟩ := h
    have hb : PW X (.BoolOp .Or (y :: r) pos) (tTs g fr W C b) := by
      cases r with
      | nil => exact pw_or1 (ib.t x _ h2)
      | cons z r => exact ib.tw x _ _ _ h2
    refine PW.imp (pw_or (ia.t x _ h1) hb) fun σ H Q ⟨w, env, S, G, P⟩ => ?_
    rw [evT] at P
    refine tG.one G P fun t S1 w1 H1 t' G1 E1 R1 P1 => ?_
    cases R1
    cases t with
    | true =>
      rw [if_pos rfl] at P1 ⊢
      exact P1 w1 H1 true G1 E1 rfl
    | false =>
      rw [if_neg Bool.false_ne_true] at P1 ⊢
      exact ⟨w1, env, S1, G1, P1.imp (fun d S2 k w2 H2 v2 G2 E2 R2 => k w2 H2 v2 G2 (E1.trans E2) R2) fun _ _ _ x => x⟩
  · cases h
theorem bool_of {a b : N} {e : Expr} (h : chkT s (.tand a b) e = true ∨ chkT s (.tor a b) e = true) : ∃ op es pos, e = .BoolOp op es pos := by
  cases e with
  | BoolOp op es pos => exact ⟨op, es, pos, rfl⟩
  | _ =>
    rcases h with h | h
    · unfold chkT at h; cases h
    · unfold chkT at h; cases h

/-! ### built-in functions -/
theorem biBoot (b : Bi) (h : b ≠ .gcd) : bootBuiltins (biOf b) = some (biV b) := by
  cases b <;> first
    | exact absurd rfl h
    | decide +kernel
theorem e_bi {b : Bi} {es : N} (ih : Snd g fr C es) (x : XOk g C s X W) (e : Expr) (h : chk s false (.bi b es) e = true ∨ chk s true (.bi b es) e = true) : PE X e (tN g fr W C (decide (b = .list ∨ b = .sorted)) (.bi b es)) := by
  have h' : chk s true (.bi b es) e = true := by
    rcases h with h | h
    · unfold chk at h ⊢; exact h
    · exact h
  unfold chk at h'
  split at h'
  · rename_i f fp y ys pos
    simp only [Bool.and_eq_true, decide_eq_true_eq] at h'
    obtain ⟨⟨⟨⟨hn, hg⟩, ho⟩, hf⟩, hs⟩ := h'
    subst hn
    have ha := ih.as x true _ hs
    have sp : starEach (y :: ys) X.env = (false, eval y X.env) :: starEach ys X.env := by
      cases es with
      | cons a b => exact star_ok (evs_cons hs).1
      | _ => unfold chks at hs; cases hs
    have sq : (backTo pos (starEach ys X.env)).any (·.1) = false := by
      cases es with
      | cons a b => exact star_all (evs_cons hs).2.2
      | _ => unfold chks at hs; cases hs
    have rule := builtin_ok x.K x.calm x.gd (by have := x.un; omega) b
    have go : PE X (.Call (.Name (biOf b) fp) (y :: ys) [] pos) (tCB (rBi g b) (tQs g fr W C true es)) := by
      by_cases hb : b = .gcd
      · subst hb
        rw [if_pos rfl] at hf
        exact pe_callBfun rule (x.gl hg) (x.gcd hf) ha (okN_dbg ho) sp sq
      · rw [if_neg hb] at hf
        have hm := x.free _ hf
        have hv := biBoot b hb
        cases b <;> first
          | exact absurd rfl hb
          | exact pe_callB rule (x.gl hg) hm hv ha (okN_nm ho) (okN_dbg ho) sp sq
          | exact pe_callTy rule (x.gl hg) hm hv ha (okN_nm ho) (okN_dbg ho) sp sq
    refine PE.imp go fun σ H Q ⟨w, env, S, G, P⟩ => ?_
    rw [ev] at P
    refine tG.one G P fun ds S1 w1 H1 vs G1 E1 R1 P1 => ?_
    obtain ⟨d, e1, q⟩ := P1.ofO
    exact ⟨w1, S1, ds, d, G1.wok, R1, e1, fun w' H' z o => q w' H' z (o.trans E1)⟩
  · cases h'
end
end Fx

set_option maxHeartbeats 4000000
/-! Fx7b: isinstance, calls, displays of dicts. -/
namespace Fx
open PySem PySem.Spec PyProof.Rows L2
section
variable {g : G} {fr : Frm} {W : WX} {C : Ev} {s : Sc} {X : Cx}

/-! ### isinstance -/
theorem tyB_of {t : String} (h : tyB t = true) : t = "int" ∨ t = "bool" ∨ t = "str" ∨ t = "tuple" ∨ t = "list" := by
  unfold tyB at h
  simpa using h
theorem tyBoot {t : String} (h : tyB t = true) : bootBuiltins (Str.ofString t) = some (.type t) := by
  rcases tyB_of h with rfl | rfl | rfl | rfl | rfl <;> decide +kernel
def tyN : D → String
  | .non => "NoneType" | .bl _ => "bool" | .int _ => "int" | .str _ => "str" | .tup _ => "tuple" | .lst _ => "list" | .ref _ => "dict" | _ => ""
theorem kits {d : D} {t : String} {b : Bool} (h : tyB t = true) (e : isTy d t = some b) : kitB (tyN d) t = some b := by
  cases d <;> first
    | (cases e; rcases tyB_of h with rfl | rfl | rfl | rfl | rfl <;> (simp only [tyN]; decide +kernel))
    | cases e
theorem tyOf_rep {w : Wd} {H : Hp} {S : Store} {d : D} {v : V} {t : String} {b : Bool} (k : WOk g w H S) (r : RepT g H w d v) (e : isTy d t = some b) : TyX g.K H v (.type (tyN d)) := by
  cases d with
  | non => cases r.non; exact .base .non
  | bl c => cases r.bl; exact .base (.bl c)
  | int i => cases r.int; exact .base (.int i)
  | str z => cases r.str; exact .base (.str z)
  | tup xs =>
    obtain ⟨a, vs, rfl, ha, _⟩ := r.tup
    rcases ha with (ha | ⟨o, ha⟩) | ⟨o, its, n, hk, hc, _⟩
    · exact .base (.tup ha)
    · exact .fTuple ha
    · exact .kTuple hk hc
  | lst xs =>
    obtain ⟨a, vs, rfl, ha, _⟩ := r.lst
    rcases ha with ha | ⟨o, ha⟩
    · exact .base (.lst ha)
    · exact .base (.frz ha)
  | _ => cases e
theorem e_isi {a : N} {t : String} (ia : Snd g fr C a) (x : XOk g C s X W) (p : Bool) (e : Expr) (h : chk s p (.isi a t) e = true) : PE X e (tQ g fr W C p (.isi a t)) := by
  unfold chk at h
  split at h
  · rename_i f fp y z zp pos
    simp only [Bool.and_eq_true, decide_eq_true_eq] at h
    obtain ⟨⟨⟨⟨⟨⟨⟨⟨rfl, hg⟩, hf⟩, h1⟩, hg2⟩, hf2⟩, ho⟩, rfl⟩, ht⟩ := h
    have hz : PE X (.Name (Str.ofString t) zp) (tC (.ty t)) := pe_bltn (x.gl hg2) (x.free _ hf2) (tyBoot ht) rfl (okN_nm ho) (okN_dbg ho)
    have hst : notStar y = true := by
      cases y <;> first
        | rfl
        | (cases a <;> (unfold chk at h1; cases h1))
    have rule : CallR X (.builtin "isinstance") (rIsi X.K) := call_isi
    refine PE.imp (pe_callB rule (x.gl hg) (x.free _ hf) (by decide +kernel) (pa_cons (ia.e x true _ h1) (pa_cons hz pa_nil) (star_ok hst)) (by decide) (by decide) (star_ok hst) (by rfl)) fun σ H Q ⟨w, env, S, G, P⟩ => ?_
    rw [ev] at P
    refine one_ G P fun d1 S1 w1 H1 v1 G1 E1 R1 P1 => ?_
    obtain ⟨b, e1, q⟩ := P1.mapO.ofO
    have T := tyOf_rep G1.wok R1.t e1
    rw [← x.K] at T
    exact ⟨v1, .ty t, _, _, b, rfl, .ty t, T, kit_ty (kits ht e1), q w1 H1 _ G1 E1 (.of (.bl b))⟩
  · cases h

/-! ### calls -/
theorem Reps.pick {w : Wd} {H : Hp} {ds : List D} {vs : List V} (r : Reps g H w ds vs) : ∀ {ix : List Nat} {es : List D}, pickIx ix ds = some es → ∃ zs, Reps g H w es zs ∧ zs = ix.filterMap fun i => vs[i]?
  | [], es, h => by
    cases h
    exact ⟨[], .nil, rfl⟩
  | i :: ix, es, h => by
    unfold pickIx at h
    rw [List.mapM_cons] at h
    cases q : ds[i]? with
    | none => rw [q] at h; cases h
    | some d =>
      rw [q] at h
      cases q2 : ix.mapM (fun i => ds[i]?) with
      | none =>
        rw [q2] at h; cases h
      | some es2 =>
        rw [q2] at h
        cases h
        obtain ⟨v, hv, rv⟩ := r.get q
        obtain ⟨zs, r2, e2⟩ := Reps.pick r (ix := ix) q2
        exact ⟨v :: zs, .cons rv r2, by rw [List.filterMap_cons, hv, e2]⟩
theorem Vals.pick {vs : List V} {us : List Value} (r : Vals vs us) : ∀ ix : List Nat, Vals (ix.filterMap fun i => vs[i]?) (reord ix us)
  | [] => .nil
  | i :: ix => by
    unfold reord
    rw [List.filterMap_cons, List.filterMap_cons]
    cases q : vs[i]? with
    | none =>
      rw [r.none_of q]
      exact Vals.pick r ix
    | some v =>
      obtain ⟨u, hu, ru⟩ := r.get q
      rw [hu]
      exact .cons ru (Vals.pick r ix)
theorem pick_len {ix : List Nat} {ds es : List D} (h : pickIx ix ds = some es) : es.length = ix.length := by
  induction ix generalizing es with
  | nil => cases h; rfl
  | cons i ix ih =>
    unfold pickIx at h ih
    rw [List.mapM_cons] at h
    cases q : ds[i]? with
    | none => rw [q] at h; cases h
    | some d =>
      rw [q] at h
      cases q2 : ix.mapM (fun i => ds[i]?) with
      | none => rw [q2] at h; cases h
      | some es2 => rw [q2] at h; cases h; rw [List.length_cons, List.length_cons, ih q2]
theorem ixOf_len {ps : List Str} {n : Nat} {ks : List Str} : (ixOf ps n ks).length = ps.length := by
  unfold ixOf
  rw [List.length_map, List.length_range]
theorem kws_some {kws : List Keyword} {env : PySem.Env} {pos : Pos} : ∀ {n : N}, chkw s n kws = true → (backToKw pos (keywordEach kws env)).all (·.1.isSome) = true ∧ (backToKw pos (keywordEach kws env)).filterMap (·.1) = kws.filterMap (·.arg) ∧ (backToKw pos (keywordEach kws env)).any (·.1.isNone) = false ∧ (kws.filterMap (·.arg)).length = kws.length := by
  induction kws with
  | nil => intro n _; exact ⟨rfl, rfl, rfl, rfl⟩
  | cons k kws ih =>
    intro n h
    cases n with
    | cons a b =>
      unfold chkw at h
      split at h
      · rename_i nm e kpos es e0
        cases e0
        simp only [Bool.and_eq_true] at h
        obtain ⟨h1, h2, h3, h4⟩ := ih h.2
        refine ⟨?_, ?_, ?_, ?_⟩
        · show (true && (backToKw pos (keywordEach kws env)).all (·.1.isSome)) = true
          rw [h1]; rfl
        · show nm :: (backToKw pos (keywordEach kws env)).filterMap (·.1) = nm :: kws.filterMap (·.arg)
          rw [h2]
        · show (false || (backToKw pos (keywordEach kws env)).any (·.1.isNone)) = false
          rw [h3]; rfl
        · show (nm :: kws.filterMap (·.arg)).length = kws.length + 1
          rw [List.length_cons, h4]
      · cases h
    | nil => unfold chkw at h; cases h
    | _ => unfold chkw at h; cases h
theorem len_evk : ∀ {n : N} {es : List Keyword} {env : Env} {S S' : Store} {ds : List D}, chkw s n es = true → evs C n env S = .ok ds S' → ds.length = es.length := by
  intro n
  induction n with
  | nil =>
    intro es env S S' ds h e
    unfold chkw at h
    split at h
    · rw [evs] at e; cases e; rfl
    · cases h
  | cons a b _ ih =>
    intro es env S S' ds h e
    unfold chkw at h
    split at h
    · simp only [Bool.and_eq_true] at h
      rw [evs] at e
      cases q1 : ev C a env S with
      | ok d S1 =>
        rw [q1] at e
        simp only [Res.bind_ok] at e
        cases q2 : evs C b env S1 with
        | ok ds2 S2 =>
          rw [q2] at e
          cases e
          rw [List.length_cons, List.length_cons, ih h.2 q2]
        | ex => rw [q2] at e; cases e
        | st => rw [q2] at e; cases e
      | ex => rw [q1] at e; cases e
      | st => rw [q1] at e; cases e
    · cases h
  | _ =>
    intro es env S S' ds h e
    unfold chkw at h
    cases h
/-- an argument list with its length -/
theorem part_ {n : N} {m : Nat} {α : Type} {r2 : List D → Store → Res α} {K : α → Store → Prop} {σ : L2.St} {H : Hp} {w : Wd} {env : Env} {S : Store} {Q : List V → Hp → Prop}
    (hl : ∀ ds S', evs C n env S = .ok ds S' → ds.length = m) (G0 : Good g fr σ H w env S) (P : Post ((evs C n env S).bind r2) K (XX g fr W σ env w H))
    (h : ∀ ds S1 w1 H1 vs, Good g fr σ H1 w1 env S1 → Ext w H w1 H1 → Reps g H1 w1 ds vs → vs.length = m → Post (r2 ds S1) K (XX g fr W σ env w1 H1) → Q vs H1) : tQs g fr W C false n σ H Q := by
  refine ⟨w, env, S, G0, P.bind.ok.imp (fun ds S1 k w1 H1 vs G1 E1 R1 => ?_) fun _ _ _ x => x⟩
  have R1 : Reps g H1 w1 ds vs := R1
  exact h ds S1 w1 H1 vs G1 E1 R1 (by rw [← R1.length]; exact hl _ _ k.1) (k.2.imp (fun _ _ k => k) fun _ _ _ x => x.ext E1)
theorem e_call {f : Str} {es ks : N} {ix : List Nat} (ie : Snd g fr C es) (ik : Snd g fr C ks) (x : XOk g C s X W) (p : Bool) (e : Expr) (h : chk s p (.call f es ks ix) e = true) : PE X e (tQ g fr W C p (.call f es ks ix)) := by
  unfold chk at h
  split at h
  · rename_i fn fp xs kws pos
    simp only [Bool.and_eq_true, decide_eq_true_eq] at h
    obtain ⟨⟨⟨rfl, hg⟩, ho⟩, h⟩ := h
    split at h
    · rename_i ps hps
      simp only [Bool.and_eq_true, decide_eq_true_eq] at h
      obtain ⟨⟨⟨h1, h2⟩, hb⟩, rfl⟩ := h
      obtain ⟨a, fd, k, hm, hk, hr, _, F, _, bind⟩ := (x.fns _ _ hps).ex
      obtain ⟨k1, k2, k3, k4⟩ := kws_some (env := X.env) (pos := pos) h2
      refine ⟨fun pins st σ H Q I q => ?_⟩
      obtain ⟨w, env, S, G, P⟩ := q
      rw [ev] at P
      refine wpAny_Call_Name_kw (ld_glob I (x.gl hg) hm ?_ (okN_dbg ho))
      -- behind the arguments
      have fin : ∀ {us ws : List Value} {st2 : Shared} {vs zs : List V} {ds dk : List D} {w2 : Wd} {H2 : Hp} {S2 : Store}, L2.Inv X pins σ H2 st2 → Vals vs us → Vals zs ws → Good g fr σ H2 w2 env S2 → Ext w H w2 H2 → Reps g H2 w2 ds vs → Reps g H2 w2 dk zs → us.length = xs.length → ws.length = kws.length →
          Post (match pickIx (ixOf ps xs.length (kws.filterMap (·.arg))) (ds ++ dk) with | some ds => C.call f ds S2 | none => .st) (fun d S' => ∀ w' H' b, Good g fr σ H' w' env S' → Ext w H w' H' → RepP g p H' w' d b → Q b H') (XX g fr W σ env w2 H2) →
          wpAny (model X.prog X.w) X.A (call (.ref a) us ((kws.filterMap (·.arg)).zip ws)) (EP X pins σ Q) X.xe st2 := by
        intro us ws st2 vs zs ds dk w2 H2 S2 I2 rv rz G2 E2 R2 R3 l1 l2 P2
        split at P2
        · rename_i ds' hp
          obtain ⟨ys, ry, ey⟩ := (R2.append R3).pick hp
          have rv2 := Fx.Vals.pick (rv.append rz) (ixOf ps xs.length (kws.filterMap (·.arg)))
          rw [← ey] at rv2
          have bd := bind st2 us ws (kws.filterMap (·.arg)) (by rw [l1]; exact hb) (by rw [l2, k4])
          rw [l1] at bd
          have hl : ys.length = ps.length := by rw [← ry.length, pick_len hp, ixOf_len]
          refine run_fr (us := us) (ws := ws) (ks := kws.filterMap (·.arg)) x hr F I2 (by rw [l1]; exact bd) (by rw [l1]; exact rv2) hl G2 ry ?_
          exact P2.imp (fun d S' k w' H' v G' E' r => k w' H' v G' (E2.trans E') (.of r)) fun _ _ _ x => x
        · exact P2.elim
      cases xs with
      | nil =>
        have e0 : es = .nil := by
          cases es <;> first
            | rfl
            | (unfold chks at h1; cases h1)
        subst e0
        cases kws with
        | nil =>
          have e1 : ks = .nil := by
            cases ks <;> first
              | rfl
              | (unfold chkw at h2; cases h2)
          subst e1
          rw [evs, Res.bind_ok] at P
          rw [evs, Res.bind_ok] at P
          refine PySem.W.callWith_K0 I.kIn hk ?_
          exact fin (us := []) (ws := []) I .nil .nil G .refl .nil .nil rfl rfl P
        | cons kw kws =>
          rw [evs, Res.bind_ok] at P
          refine PySem.W.callWith_KW0 (h₀ := X.base) I.ok.mod.kin hk k1 ?_ (by show (false || _) = false; rw [k3]; rfl)
          refine thn ((ik.kw x _ h2).run pos pins st σ H (fun zs H2 => ∃ dk S2 w2, Good g fr σ H2 w2 env S2 ∧ Ext w H w2 H2 ∧ Reps g H2 w2 dk zs ∧ zs.length = (kw :: kws).length ∧ Post (match pickIx (ixOf ps 0 ((kw :: kws).filterMap (·.arg))) ([] ++ dk) with | some ds => C.call f ds S2 | none => .st) (fun d S' => ∀ w' H' b, Good g fr σ H' w' env S' → Ext w H w' H' → RepP g p H' w' d b → Q b H') (XX g fr W σ env w2 H2)) I ?_) fun ws st2 ⟨zs, H2, I2, rz, dk, S2, w2, G2, E2, R2, lz, P2⟩ => ⟨I2.kIn, ?_⟩
          · exact part_ (fun _ _ e => len_evk h2 e) G P fun dk S2 w2 H2 zs G2 E2 R2 lz P2 => ⟨dk, S2, w2, G2, E2, R2, lz, P2⟩
          · rw [k2]
            exact fin (us := []) I2 .nil rz G2 E2 .nil R2 rfl (by rw [← rz.length]; exact lz) P2
      | cons y ys =>
        have sp : starEach (y :: ys) X.env = (false, eval y X.env) :: starEach ys X.env := by
          cases es with
          | cons a b => exact star_ok (evs_cons h1).1
          | _ => unfold chks at h1; cases h1
        have sq : (backTo pos (starEach (y :: ys) X.env)).any (·.1) = false := star_all h1
        have args : tQs g fr W C false es σ H (fun vs H1 => ∃ ds S1 w1, Good g fr σ H1 w1 env S1 ∧ Ext w H w1 H1 ∧ Reps g H1 w1 ds vs ∧ vs.length = (y :: ys).length ∧ Post ((evs C ks env S1).bind fun dk S => match pickIx (ixOf ps (y :: ys).length (kws.filterMap (·.arg))) (ds ++ dk) with | some ds => C.call f ds S | none => .st) (fun d S' => ∀ w' H' b, Good g fr σ H' w' env S' → Ext w H w' H' → RepP g p H' w' d b → Q b H') (XX g fr W σ env w1 H1)) :=
          part_ (fun _ _ e => len_evs h1 e) G P fun ds S1 w1 H1 vs G1 E1 R1 lv P1 => ⟨ds, S1, w1, G1, E1, R1, lv, P1⟩
        cases kws with
        | nil =>
          have e1 : ks = .nil := by
            cases ks <;> first
              | rfl
              | (unfold chkw at h2; cases h2)
          subst e1
          refine PySem.W.callWith_K (h₀ := X.base) I.ok.mod.kin hk (thn ((ie.as x false _ h1).run pos pins st σ H _ I args) fun us st1 ⟨vs, H1, I1, rv, ds, S1, w1, G1, E1, R1, lv, P1⟩ => ⟨I1.kIn, ?_⟩) sp (by
            rw [sp] at sq
            exact (Bool.or_eq_false_iff.mp sq).2)
          rw [evs, Res.bind_ok] at P1
          exact fin (us := us) (ws := []) I1 rv .nil G1 E1 R1 .nil (by rw [← rv.length]; exact lv) rfl P1
        | cons kw kws =>
          refine PySem.W.callWith_KW (h₀ := X.base) I.ok.mod.kin hk k1 (thn ((ie.as x false _ h1).run pos pins st σ H _ I args) fun us st1 ⟨vs, H1, I1, rv, ds, S1, w1, G1, E1, R1, lv, P1⟩ => ?_) (by rw [sq, k3]; rfl) sp
          refine thn ((ik.kw x _ h2).run pos pins st1 σ H1 (fun zs H2 => ∃ dk S2 w2, Good g fr σ H2 w2 env S2 ∧ Ext w1 H1 w2 H2 ∧ Reps g H2 w2 dk zs ∧ zs.length = (kw :: kws).length ∧ Post (match pickIx (ixOf ps (y :: ys).length ((kw :: kws).filterMap (·.arg))) (ds ++ dk) with | some ds => C.call f ds S2 | none => .st) (fun d S' => ∀ w' H' b, Good g fr σ H' w' env S' → Ext w H w' H' → RepP g p H' w' d b → Q b H') (XX g fr W σ env w2 H2)) I1 ?_) fun ws st2 ⟨zs, H2, I2, rz, dk, S2, w2, G2, E2, R2, lz, P2⟩ => ⟨I2.kIn, ?_⟩
          · exact part_ (fun _ _ e => len_evk h2 e) G1 P1 fun dk S2 w2 H2 zs G2 E2 R2 lz P2 => ⟨dk, S2, w2, G2, E2, R2, lz, P2⟩
          · rw [k2]
            exact fin (us := us) I2 rv rz G2 (E1.trans E2) (R1.per (E2.per G1.wok)) R2 (by rw [← rv.length]; exact lv) (by rw [← rz.length]; exact lz) P2
    · cases h
  · cases h
theorem reord_id {us : List Value} : reord (List.range us.length) us = us := by
  unfold reord
  apply List.ext_getElem?
  intro i
  by_cases h : i < us.length
  · have : ∀ n, n ≤ us.length → (List.range n).filterMap (fun i => us[i]?) = us.take n := by
      intro n
      induction n with
      | zero => intro _; simp
      | succ n ih =>
        intro hn
        rw [List.range_succ, List.filterMap_append, ih (by omega), List.filterMap_cons, List.getElem?_eq_getElem (by omega), List.filterMap_nil, List.take_succ, List.getElem?_eq_getElem (by omega)]
        rfl
    rw [this _ (Nat.le_refl _), List.take_length]
  · have : ∀ n, n ≤ us.length → (List.range n).filterMap (fun i => us[i]?) = us.take n := by
      intro n
      induction n with
      | zero => intro _; simp
      | succ n ih =>
        intro hn
        rw [List.range_succ, List.filterMap_append, ih (by omega), List.filterMap_cons, List.getElem?_eq_getElem (by omega), List.filterMap_nil, List.take_succ, List.getElem?_eq_getElem (by omega)]
        rfl
    rw [this _ (Nat.le_refl _), List.take_length]
theorem bindB_len {ps : List Str} {n : Nat} (h : bindB ps n [] = true) : n = ps.length := by
  unfold bindB at h
  simp only [Bool.and_eq_true, decide_eq_true_eq] at h
  exact h.1.1.1.1
theorem e_callB {f : Str} {es : N} (ie : Snd g fr C es) (x : XOk g C s X W) (p : Bool) (e : Expr) (h : chk s p (.callB f es) e = true) : PE X e (tQ g fr W C p (.callB f es)) := by
  unfold chk at h
  split at h
  · rename_i fn fp y ys pos
    simp only [Bool.and_eq_true, decide_eq_true_eq] at h
    obtain ⟨⟨⟨rfl, hg⟩, ho⟩, h⟩ := h
    split at h
    · rename_i ps hps
      simp only [Bool.and_eq_true, decide_eq_true_eq] at h
      obtain ⟨⟨h1, hb⟩, hix⟩ := h
      obtain ⟨a, fd, k, hm, hk, hr, _, _, F, bind⟩ := (x.fns _ _ hps).ex
      have hlen := bindB_len hb
      refine ⟨fun pins st σ H Q I q => ?_⟩
      obtain ⟨w, env, S, G, P⟩ := q
      rw [ev] at P
      refine wpAny_Call_Name_kw (ld_glob I (x.gl hg) hm ?_ (okN_dbg ho))
      have sp : starEach (y :: ys) X.env = (false, eval y X.env) :: starEach ys X.env := by
        cases es with
        | cons a b => exact star_ok (evs_cons h1).1
        | _ => unfold chks at h1; cases h1
      have sq : (backTo pos (starEach (y :: ys) X.env)).any (·.1) = false := star_all h1
      have args : tQs g fr W C true es σ H (fun vs H1 => ∃ ds S1 w1, Good g fr σ H1 w1 env S1 ∧ Ext w H w1 H1 ∧ RepTs g H1 w1 ds vs ∧ vs.length = (y :: ys).length ∧ Post (C.act f ds S1) (fun d S' => ∀ w' H' b, Good g fr σ H' w' env S' → Ext w H w' H' → RepP g p H' w' d b → Q b H') (XX g fr W σ env w1 H1)) := by
        refine ⟨w, env, S, G, P.bind.ok.imp (fun ds S1 k w1 H1 vs G1 E1 R1 => ?_) fun _ _ _ x => x⟩
        have R1 : RepTs g H1 w1 ds vs := R1
        exact ⟨ds, S1, w1, G1, E1, R1, by rw [← R1.length]; exact len_evs h1 k.1, k.2.imp (fun _ _ k => k) fun _ _ _ x => x.ext E1⟩
      refine PySem.W.callWith_K (h₀ := X.base) I.ok.mod.kin hk (thn ((ie.as x true _ h1).run pos pins st σ H _ I args) fun us st1 ⟨vs, H1, I1, rv, ds, S1, w1, G1, E1, R1, lv, P1⟩ => ⟨I1.kIn, ?_⟩) sp (by
        rw [sp] at sq
        exact (Bool.or_eq_false_iff.mp sq).2)
      have lu : us.length = (y :: ys).length := by rw [← rv.length]; exact lv
      have bd := bind st1 us [] [] (by rw [lu]; exact hb) rfl
      have ro : reord (ixOf ps us.length []) (us ++ []) = us := by
        rw [lu, List.length_cons, hix, List.append_nil, ← List.length_cons (a := y), ← lu, reord_id]
      refine run_frB (us := us) (ws := []) (ks := []) x hr F I1 bd (by rw [ro]; exact rv) (by rw [lv, ← hlen]; rfl) G1 R1 ?_
      exact P1.imp (fun d S' k w' H' v G' E' r => k w' H' v G' (E1.trans E') (.of r)) fun _ _ _ x => x
    · cases h
  · cases h
end
end Fx

set_option maxHeartbeats 4000000
/-! Fx7c: displays of dicts; comprehensions. -/
namespace Fx
open PySem PySem.Spec PyProof.Rows L2
section
variable {g : G} {fr : Frm} {W : WX} {C : Ev} {s : Sc} {X : Cx}

/-! ### a dict -/
theorem putK_new {kvs : List (Key × V)} {k : Key} {v : V} (h : k ∉ kvs.map (·.1)) : L2.putK kvs k v = kvs ++ [(k, v)] := by
  unfold L2.putK
  rw [if_neg]
  intro z
  simp only [List.any_eq_true, decide_eq_true_eq] at z
  obtain ⟨p, hp, e⟩ := z
  exact h (List.mem_map.mpr ⟨p, hp, e⟩)
theorem mergeK_new : ∀ {more acc : List (Key × V)}, ((acc ++ more).map (·.1)).Nodup → mergeK acc more = acc ++ more
  | [], acc, _ => by simp [mergeK]
  | p :: r, acc, h => by
    have h1 : p.1 ∉ acc.map (·.1) := fun z => by
      rw [List.map_append] at h
      exact (List.nodup_append.mp h).2.2 _ z _ (List.mem_map.mpr ⟨p, List.mem_cons_self, rfl⟩) rfl
    show mergeK (L2.putK acc p.1 p.2) r = acc ++ p :: r
    rw [putK_new h1, mergeK_new (by simpa using h)]
    simp
theorem WOk.newC2 {H : Hp} {w : Wd} {S : Store} {p : Addr} {kvs : List (Key × D)} {kus : List (Key × V)} (k : WOk g w H S) (h : H p = some (.dK [])) (nm : p ∉ w.mu) (e : kvs.map (·.1) = kus.map (·.1)) (r : Reps g H w (kvs.map (·.2)) (kus.map (·.2))) :
    WOk g { w with mu := w.mu ++ [p] } (upd H p (.dK kus)) (S ++ [.dct kvs]) := by
  have P : Per w H { w with mu := w.mu ++ [p] } (upd H p (.dK kus)) := by
    have ne : ∀ a o, H a = some o → o ≠ .dK [] → a ≠ p := fun a o q n z => by
      rw [z, h] at q; cases q; exact n rfl
    refine ⟨fun a xs q => ?_, fun a o u q => ?_, fun a xs q z => ⟨?_, z⟩, fun n a q => ?_, fun a fs q => by rw [upd_ne (ne _ _ q (fun z => by cases z))]; exact q⟩
    · rw [upd_ne (ne _ _ q (fun z => by cases z))]; exact q
    · rw [upd_ne (ne _ _ q (fun z => by cases z))]; exact q
    · rw [upd_ne (ne _ _ q (fun z => by cases z))]; exact q
    · have := (List.getElem?_eq_some_iff.mp q).1
      show (w.mu ++ [p])[n]? = some a
      rw [List.getElem?_append_left this]; exact q
  refine ⟨by simp [k.len], ?_, fun n a c e1 e2 => ?_, fun a z => ?_, tabs_dct k.tab h .k⟩
  · exact List.nodup_append.mpr ⟨k.nd, by simp, fun a ha b hb => by
      rw [List.mem_singleton.mp hb]; exact fun q => nm (by rw [← q]; exact ha)⟩
  · by_cases hn : n < w.mu.length
    · have e1' : w.mu[n]? = some a := by rw [← e1]; exact (List.getElem?_append_left hn).symm
      have e2' : S[n]? = some c := by rw [← e2]; exact (List.getElem?_append_left (by rw [← k.len]; exact hn)).symm
      refine (k.cell n a c e1' e2').per P fun kus' _ q => ?_
      rw [upd_ne (fun z => nm (by rw [← z]; exact List.mem_of_getElem? e1'))]; exact q
    · have hn2 : w.mu.length ≤ n := Nat.le_of_not_lt hn
      have e1' : [p][n - w.mu.length]? = some a := by rw [← e1]; exact (List.getElem?_append_right hn2).symm
      have e2' : [Cell.dct kvs][n - S.length]? = some c := by rw [← e2]; exact (List.getElem?_append_right (by rw [← k.len]; exact hn2)).symm
      have e0 : n - w.mu.length = 0 := by
        have := (List.getElem?_eq_some_iff.mp e1').1
        simp at this; omega
      rw [e0] at e1'
      rw [← k.len, e0] at e2'
      cases e1'; cases e2'
      exact .dct upd_same e (r.per P)
  · obtain ⟨h1, xs, h2⟩ := k.fz a z
    have ne : a ≠ p := fun z => by rw [z, h] at h2; cases h2
    exact ⟨fun z => (List.mem_append.mp z).elim h1 fun z => ne (List.mem_singleton.mp z), xs, by rw [upd_ne ne]; exact h2⟩
theorem Ext.newC2 {w w2 : Wd} {H H2 : Hp} {p : Addr} {o o2 : HO} (h : H p = none) (e : Ext w (upd H p o) w2 H2) : Ext w H { w2 with mu := w2.mu ++ [p] } (upd H2 p o2) := by
  have up : ∀ a, upd H p o a = none → H a = none := fun a q => by
    by_cases z : a = p
    · rw [z, upd_same] at q; cases q
    · rw [upd_ne z] at q; exact q
  refine ⟨fun a u q n t => ?_, fun a q => ?_, e.fz, fun a z => (e.fzn a z).imp id (up a), fun n a q => ?_, fun a z => ?_⟩
  · have ne := ne_of_none q h
    rw [upd_ne ne]
    exact e.keep a u (by rw [upd_ne ne]; exact q) n t
  · by_cases z : a = p
    · rw [z, upd_same] at q; cases q
    · rw [upd_ne z] at q; exact up a (e.dom a q)
  · have q2 := e.mu n a q
    have := (List.getElem?_eq_some_iff.mp q2).1
    show (w2.mu ++ [p])[n]? = some a
    rw [List.getElem?_append_left this]; exact q2
  · rcases List.mem_append.mp z with z | z
    · exact (e.mun a z).imp id (up a)
    · exact .inr (by rw [List.mem_singleton.mp z]; exact h)
def dTrs (g : G) (fr : Frm) (W : WX) (C : Ev) : List Str → N → List (TE × TE)
  | k :: ks, .cons a b => (tC (.str k), tQ g fr W C false a) :: dTrs g fr W C ks b
  | _, _ => []
def ValsSnd (g : G) (fr : Frm) (C : Ev) (n : N) : Prop := ∀ {s : Sc} {X : Cx} {W : WX} (x : XOk g C s X W) (ks : List Str) (keys : List (Option Expr)) (es : List Expr) (pos : Pos), chkK ks keys = true → chks s false n es = true → es.length = ks.length → PPs X pos keys es (dTrs g fr W C ks n)
theorem vals_snd_nil : ValsSnd g fr C .nil := by
  intro s X W x ks keys es pos h1 h2 h3
  unfold chks at h2
  split at h2
  · cases ks with
    | nil =>
      cases keys with
      | nil => exact pps_nil
      | cons _ _ => unfold chkK at h1; cases h1
    | cons _ _ => cases h3
  · cases h2
theorem vals_snd_cons {a b : N} (ia : Snd g fr C a) (ib : ValsSnd g fr C b) : ValsSnd g fr C (.cons a b) := by
  intro s X W x ks keys es pos h1 h2 h3
  cases es with
  | nil => unfold chks at h2; cases h2
  | cons e es =>
    obtain ⟨_, h4, h5⟩ := evs_cons h2
    cases ks with
    | nil => cases h3
    | cons k ks =>
      unfold chkK at h1
      split at h1
      · rename_i e0; cases e0
      · rename_i k' ks' y j pos' es' e0
        cases e0
        simp only [Bool.and_eq_true, decide_eq_true_eq] at h1
        obtain ⟨rfl, h1⟩ := h1
        exact pps_cons pe_str (ia.e x false _ h4) (ib x ks es' es pos h1 h5 (by simpa using h3))
      · cases h1
theorem pairs_ : ∀ {n : N} {ks : List Str} {σ : L2.St} {H : Hp} {w : Wd} {env : Env} {S : Store} {α : Type} {r2 : List D → Store → Res α} {K : α → Store → Prop} {Q : List (V × V) → Hp → Prop} {es : List Expr}, chks s false n es = true → es.length = ks.length →
    Good g fr σ H w env S → Post ((evs C n env S).bind r2) K (XX g fr W σ env w H) →
    (∀ ds S1 w1 H1 vs, Good g fr σ H1 w1 env S1 → Ext w H w1 H1 → Reps g H1 w1 ds vs → vs.length = ks.length → Post (r2 ds S1) K (XX g fr W σ env w1 H1) → Q ((ks.map V.str).zip vs) H1) → tPairs (dTrs g fr W C ks n) σ H Q := by
  intro n
  induction n with
  | nil =>
    intro ks σ H w env S α r2 K Q es hc hl G P h
    unfold chks at hc
    split at hc
    · cases ks with
      | nil =>
        rw [evs, Res.bind_ok] at P
        exact h [] S w H [] G .refl .nil rfl P
      | cons _ _ => cases hl
    · cases hc
  | cons a b _ ih =>
    intro ks σ H w env S α r2 K Q es hc hl G P h
    cases es with
    | nil => unfold chks at hc; cases hc
    | cons e es =>
      obtain ⟨_, h4, h5⟩ := evs_cons hc
      cases ks with
      | nil => cases hl
      | cons k ks =>
        rw [evs] at P
        have P' : Post ((ev C a env S).bind fun x S => (evs C b env S).bind fun xs S => r2 (x :: xs) S) K (XX g fr W σ env w H) := by
          cases q : ev C a env S with
          | ok d S1 =>
            rw [q] at P
            simp only [Res.bind_ok] at P ⊢
            cases q2 : evs C b env S1 with
            | ok ds S2 => rw [q2] at P; exact P
            | ex => rw [q2] at P; exact P
            | st => rw [q2] at P; exact P
          | ex => rw [q] at P; exact P
          | st => rw [q] at P; exact P
        show (tC (.str k)) σ H fun x H1 => tQ g fr W C false a σ H1 fun y H2 => tPairs (dTrs g fr W C ks b) σ H2 fun ps H3 => Q ((x, y) :: ps) H3
        refine one_ G P' fun d S1 w1 H1 v G1 E1 R1 P1 => ?_
        refine ih h5 (by simpa using hl) G1 P1 fun ds S2 w2 H2 vs G2 E2 R2 lv P2 => ?_
        exact h (d :: ds) S2 w2 H2 (v :: vs) G2 (E1.trans E2) (.cons (Rep.per (E2.per G1.wok) R1) R2) (by rw [List.length_cons, List.length_cons, lv]) P2
  | _ =>
    intro ks σ H w env S α r2 K Q es hc hl G P h
    unfold chks at hc
    cases hc
theorem chkK_some : ∀ {ks : List Str} {keys : List (Option Expr)}, chkK ks keys = true → keys.all (·.isSome) = true
  | [], [], _ => rfl
  | [], _ :: _, h => by unfold chkK at h; cases h
  | k :: ks, keys, h => by
    unfold chkK at h
    split at h
    · rfl
    · rename_i e0
      cases e0
      rw [Bool.and_eq_true] at h
      show (true && _) = true
      rw [chkK_some h.2]; rfl
    · cases h
theorem zip_keys : ∀ (ks : List Str) (vs : List V), (ks.map V.str).zip vs = ((ks.map keyStr).zip vs).map fun kv => (kV kv.1, kv.2)
  | [], _ => rfl
  | _ :: _, [] => rfl
  | k :: ks, v :: vs => by
    show (V.str k, v) :: (ks.map V.str).zip vs = (V.str k, v) :: ((ks.map keyStr).zip vs).map _
    rw [zip_keys ks vs]
theorem e_dct {ks : List Str} {n : N} (iv : ValsSnd g fr C n) (x : XOk g C s X W) (p : Bool) (e : Expr) (h : chk s p (.dct ks n) e = true) : PE X e (tQ g fr W C p (.dct ks n)) := by
  unfold chk at h
  split at h
  · rename_i keys xs pos
    simp only [Bool.or_eq_true, Bool.and_eq_true, decide_eq_true_eq, Bool.not_eq_true', List.isEmpty_iff] at h
    rcases h with ⟨⟨⟨rfl, rfl⟩, rfl⟩, h4⟩ | h
    · refine PE.imp pe_dnewK fun σ H Q ⟨w, env, S, G, P⟩ => ?_
      have hv : evs C n env S = .ok [] S := by
        cases n with
        | nil => rfl
        | _ => unfold chks at h4; cases h4
      rw [ev, hv] at P
      intro q hq
      have k2 := G.wok.newC (p := q) (kvs := []) (kus := []) hq rfl .nil
      have e2 : Ext w H { w with mu := w.mu ++ [q] } (upd H q (.dK [])) := .newC hq
      refine P _ _ _ (G.step e2 k2) e2 (.of (.ref ?_))
      show (w.mu ++ [q])[S.length]? = some q
      rw [← G.wok.len]
      simp
    obtain ⟨⟨⟨⟨⟨⟨h1, h2⟩, h3⟩, h4⟩, h5⟩, h6⟩, h7⟩ := h
    refine PE.imp (pe_disp (iv x ks keys xs pos h3 h4 h2) (chkK_some h3) (by omega) (fun z => by subst z; cases ks with | nil => cases h5 | cons _ _ => cases h1) (by omega)) fun σ H Q ⟨w, env, S, G, P⟩ => ?_
    rw [ev] at P
    intro q hq
    have G0 : Good g fr σ (upd H q (.dK [])) w env S := G.step (.newT hq) (G.wok.newT hq)
    refine pairs_ h4 h2 G0 (P.imp (fun _ _ k => k) fun _ _ _ z => XX.ext (Ext.newT hq) z) fun ds S1 w1 H1 vs G1 E1 R1 lv P1 => ?_
    have nm : q ∉ w.mu := G.wok.nmu hq
    have hd : H1 q = some (.dK []) := E1.keep q _ upd_same nm (fun _ z => by cases z)
    have nm1 : q ∉ w1.mu := fun z => (E1.mun q z).elim nm fun z => by rw [upd_same] at z; cases z
    have ld := R1.length
    rw [if_pos (by omega)] at P1
    refine ⟨hd, (ks.map keyStr).zip vs, ?_, ?_, ?_⟩
    · exact zip_keys ks vs
    · rw [List.length_zip, List.length_map]; omega
    · have kn : ((ks.map keyStr).zip vs).map (·.1) = ks.map keyStr := by
        rw [List.map_fst_zip (by rw [List.length_map]; omega)]
      have kd : ((ks.map keyStr).zip ds).map (·.1) = ks.map keyStr := by
        rw [List.map_fst_zip (by rw [List.length_map]; omega)]
      have vn : ((ks.map keyStr).zip vs).map (·.2) = vs := by
        rw [List.map_snd_zip (by rw [List.length_map]; omega)]
      have vd : ((ks.map keyStr).zip ds).map (·.2) = ds := by
        rw [List.map_snd_zip (by rw [List.length_map]; omega)]
      have hn : (ks.map keyStr).Nodup := List.Pairwise.map keyStr (fun a b ne z => ne (Sum.inr.inj z)) h7
      rw [mergeK_new (by rw [List.nil_append, kn]; exact hn), List.nil_append]
      have k2 := G1.wok.newC2 (kvs := (ks.map keyStr).zip ds) (kus := (ks.map keyStr).zip vs) hd nm1 (by rw [kn, kd]) (by rw [vn, vd]; exact R1)
      have e2 := Ext.newC2 (o2 := .dK ((ks.map keyStr).zip vs)) hq E1
      refine P1 _ _ _ (G.step e2 k2) e2 (.of (.ref ?_))
      show (w1.mu ++ [q])[S1.length]? = some q
      rw [← G1.wok.len]
      simp
  · cases h
end
end Fx

set_option maxHeartbeats 4000000
/-! Fx7d: what is walked. -/
namespace Fx
open PySem PySem.Spec PyProof.Rows L2

/-! ### a list or a tuple -/
def SqB (k : Bool) (K : PySem.W.Frag) (H : Hp) (a : Addr) (xs : List V) : Prop := if k = true then SqL K H a xs else SqT K H a xs
def SIt (k : Bool) (h : Heap) (it a : Addr) (i : Nat) : Prop := if k = true then h.IsListIter it a i else h.IsTupleIter it a i
def IsSq (k : Bool) (h : Heap) (a : Addr) (its : Array Value) : Prop := if k = true then h.IsList a its else h.IsTuple a its
def itO (k : Bool) (a : Addr) : Obj := if k = true then { cls := .type "list_iterator", data := .fields #[.ref a, .int 0 0] } else { cls := .type "tuple_iterator", data := .fields #[.ref a, .int 0 0] }
section
variable {X : Cx} {pins : List (Addr × Obj)} {σ : L2.St} {H : Hp} {s : Shared} {a : Addr} {xs ys : List V}
theorem sq_inv {k : Bool} (I : L2.Inv X pins σ H s) (h : SqB k X.K H a xs) : ∃ its : List Value, Vals xs its ∧ IsSq k s.heap a its.toArray ∧ a < s.heap.objs.size := by
  unfold SqB at h
  unfold IsSq
  cases k with
  | true =>
    obtain ⟨its, rv, p, _⟩ := I.list h
    exact ⟨its, rv, p.isList, p.lt⟩
  | false =>
    obtain ⟨its, rv, p, _⟩ := I.tuple h
    obtain ⟨o, ho, _⟩ := id p
    exact ⟨its, rv, p, Heap.lt_size ho⟩
theorem sq_inj {k : Bool} (I : L2.Inv X pins σ H s) (h : SqB k X.K H a xs) (h' : SqB k X.K H a ys) : xs = ys := by
  unfold SqB at h h'
  cases k with
  | true => exact I.list_inj h h'
  | false => exact I.tuple_inj h h'
theorem sq_draws {prog : Program} {w : World} {A : Around} (k : Bool) (hh : A.handled = none) (it l : Addr) (hne : l ≠ it) (its : Array Value) :
    Draws prog w A it [it, l] its.size (fun i v => its[i]? = some v) (fun i h => SIt k h it l i ∧ IsSq k h l its) := by
  cases k with
  | true => exact Draws.list hh it l hne its
  | false => exact Draws.tuple hh it l hne its
theorem sq_begins (k : Bool) (l : Addr) (its : Array Value) : Begins (.ref l) (itO k l) fun h => IsSq k h l its := by
  cases k with
  | true => exact begins_list l its
  | false => exact begins_tuple l its
theorem SIt.at_ {k : Bool} {h h' : Heap} {it l : Addr} {i : Nat} (x : SIt k h it l i) (q : ∀ o, h.get? it = some o → h'.get? it = some o) : SIt k h' it l i := by
  unfold SIt at x ⊢
  cases k with
  | true => exact x.at q
  | false => exact x.at q
theorem SIt.obj_ {k : Bool} {h : Heap} {it l : Addr} {i : Nat} (x : SIt k h it l i) : ∃ o, h.get? it = some o ∧ ∀ v, o.data ≠ .cell v := by
  unfold SIt at x
  cases k with
  | true =>
    obtain ⟨o, e, _, d⟩ := x
    exact ⟨o, e, fun v q => by rw [d] at q; cases q⟩
  | false =>
    obtain ⟨o, e, _, d⟩ := x
    exact ⟨o, e, fun v q => by rw [d] at q; cases q⟩
theorem IsSq.at_ {k : Bool} {h h' : Heap} {l : Addr} {its : Array Value} (x : IsSq k h l its) (q : ∀ o, h.get? l = some o → h'.get? l = some o) : IsSq k h' l its := by
  unfold IsSq at x ⊢
  cases k with
  | true => exact x.at q
  | false => exact x.at q
theorem SIt.new {k : Bool} {h : Heap} {it l : Addr} (q : h.get? it = some (itO k l)) : SIt k h it l 0 := by
  unfold itO at q
  unfold SIt
  cases k with
  | true => exact ⟨_, q, rfl, rfl⟩
  | false => exact ⟨_, q, rfl, rfl⟩
end

/-! ### enumerate -/
def IteB (k : Bool) (K : PySem.W.Frag) (a : Addr) : It :=
  ⟨fun i H => ∃ (xs : List V) (x : V), SqB k K H a xs ∧ xs[i]? = some x, fun i H v H' => ∃ T x, v = .ref T ∧ H T = none ∧ H' = upd H T (.tup [.int (i : Nat), x]) ∧ ∀ xs, SqB k K H a xs → xs[i]? = some x, fun i H => ∃ xs : List V, SqB k K H a xs ∧ xs.length = i⟩
theorem turn_enumB {P : Program} {w : World} {K : PySem.W.Frag} {els : List Expr} {c : Nat} {tp : Pos} (k : Bool) (a e it : Addr) (hea : a ≠ e) (hia : a ≠ it) (hne : e ≠ it) :
    Turn P w K (.Tuple els c tp) (IteB k K a) [e, it] e (fun i h => (∃ old, IsEnum h e it ((i : Nat) : Int) old) ∧ SIt k h it a i) where
  mem := by simp
  obj := fun i h st b hb => by
    obtain ⟨⟨old, he⟩, hi⟩ := st
    simp only [List.mem_cons, List.not_mem_nil, or_false] at hb
    rcases hb with rfl | rfl
    · exact ⟨_, he, fun v q => nomatch q⟩
    · exact hi.obj_
  keep := fun i h h' st kp => by
    obtain ⟨⟨old, he⟩, hi⟩ := st
    exact ⟨⟨old, kp e (by simp) _ he⟩, hi.at_ fun o q => kp it (by simp) o q⟩
  item := by
    intro X hP hw hK hc i pins s σ H E I hf st hg
    subst hP hw hK
    obtain ⟨⟨old, he⟩, hit⟩ := st
    obtain ⟨xs, x, hq, hx⟩ := hg
    obtain ⟨its, rv, p, _⟩ := sq_inv I hq
    obtain ⟨u, hu, ru⟩ := rv.get hx
    have hel : e < s.heap.objs.size := Heap.lt_size he
    have hil : it < s.heap.objs.size := by obtain ⟨o, q, _⟩ := hit.obj_; exact Heap.lt_size q
    have hlt : i < its.toArray.size := by
      have := (List.getElem?_eq_some_iff.mp hu).1
      simpa using this
    refine wpAny_pyNext_enum_itemD (sq_draws k (show X.A.in1.handled = none from I.ok.hd hc) it a hia its.toArray) he ⟨hit, p⟩ hlt hne (by simp [hne, Ne.symm hea]) fun x' h' tk px ho hst hT hsz hk => ?_
    have ex : x' = u := by
      have q : its[i]? = some x' := by simpa using px
      rw [hu] at q
      exact (Option.some.inj q).symm
    subst ex
    refine ⟨_, rfl, wpAny_letOwnedTupleGo_enum (s := { s with heap := h', toks := tk + 1 }) ho fun h'' he' sb => ?_⟩
    have hT2 := (sb.2 _ (Nat.ne_of_gt hel)).trans hT
    have new : ObjOk X.prog X.w (upd H s.heap.objs.size (.tup [.int (i : Nat), x])) h'' s.heap.objs.size (.tup [.int (i : Nat), x]) :=
      ⟨by show 2 ≤ sizeLine; decide, [.int i tk, x'], .cons ⟨_, rfl⟩ (.cons ru .nil), ⟨_, hT2, rfl, _, rfl⟩⟩
    have I1 : L2.Inv X pins σ (upd H s.heap.objs.size (.tup [.int (i : Nat), x])) { s with heap := h'', toks := tk + 1 } := by
      refine I.turnedNew (ch := [e, it]) (fun b ob hb q => ?_) hf (Nat.le_refl _) new
      have n1 : b ≠ e := fun z => hb (by simp [z])
      have n2 : b ≠ it := fun z => hb (by simp [z])
      exact (sb.2 b n1).trans (hk b ob n1 n2 q)
    refine ⟨.ref s.heap.objs.size, _, I1, rfl, ⟨_, x, rfl, I.hok.fresh (Nat.le_refl _), rfl, fun ys hy => by rw [sq_inj I hy hq]; exact hx⟩, ⟨⟨x', ?_⟩, hst.1.at_ fun o q => (sb.2 it (Ne.symm hne)).trans q⟩, fun b hb => ?_⟩
    · have e1 : ((i + 1 : Nat) : Int) = (i : Int) + 1 := by omega
      rw [e1]; exact he'
    · have hb' : b < s.heap.objs.size := by
        simp only [List.mem_cons, List.not_mem_nil, or_false] at hb
        rcases hb with rfl | rfl
        · exact hel
        · exact hil
      rw [upd_ne (Nat.ne_of_lt hb')]
      exact (hf b hb).1
  done := by
    intro X hP hw hK hc i pins s σ H E I hf st hg
    subst hP hw hK
    obtain ⟨⟨old, he⟩, hit⟩ := st
    obtain ⟨xs, hq, hx⟩ := hg
    obtain ⟨its, rv, p, _⟩ := sq_inv I hq
    have hl := rv.length
    have ei : i = its.toArray.size := by simp; omega
    subst ei
    obtain ⟨f0, f1, f2, f3, f4, f5⟩ := hf it (by simp)
    exact wpAny_pyNext_enum_endD (sq_draws k (show X.A.in1.handled = none from I.ok.hd hc) it a hia its.toArray) he ⟨hit, p⟩ fun h' eb => ⟨rfl, I.turned (t' := s.toks) (fun b o hb q => eb b o hb q) f0 f1 f3 f4 f5⟩
  self := fun A i s Q E st h => let ⟨⟨_, he⟩, _⟩ := st; wpAny_pyIter_enum he h
set_option maxHeartbeats 1000000 in
theorem meets_enumB {v : Value} {o : Obj} {Hh : Heap → Prop} (B : Begins v o Hh) :
    Meets (Builtin.«enumerate.__new__» ⟨[.type "enumerate", v], []⟩) (fun _ R s => Hh s.heap ∧
      R (.ok (.ret (.ref (s.heap.push o).objs.size))) { s with heap := (s.heap.push o).push { cls := .type "enumerate", data := .fields #[.none, .bool false, .ref s.heap.objs.size, rawInt 0, .none, .none] } }) :=
  .of_wp fun prog w A R s h => by
    obtain ⟨hp, ge, dr, tk, os⟩ := s; obtain ⟨h1, h⟩ := h
    have hsub := sub_enumerate
    have stp : ∀ {A' : Around} {E : Value → Shared → Prop} {Q : Value → Shared → Prop}, Q (.ref hp.objs.size) ⟨hp.push o, ge, dr, tk, os⟩ → wpAny (model prog w) A' (pyIter v) Q E ⟨hp, ge, dr, tk, os⟩ :=
      fun q => B.iter prog w _ _ ⟨hp, ge, dr, tk, os⟩ _ h1 q
    wp_walk using stp
    refine wpAny_stack_any fun st => wpAny_pure ?_
    split
    · rename_i c _ _ _ _ _
      cases (c == Value.type "enumerate") <;>
        (wp_walk using stp
         exact ⟨_, rfl, h⟩)
    · wp_walk using stp
      exact ⟨_, rfl, h⟩
theorem enum1 {prog : Program} {w : World} {A : Around} {E : Value → Shared → Prop} {s : Shared} {v : Value} {o : Obj} {Hh : Heap → Prop} {Q : Value → Shared → Prop} (B : Begins v o Hh) (h1 : Hh s.heap)
    (h : ∀ h', IsEnum h' (s.heap.objs.size + 1) s.heap.objs.size 0 .none → h'.get? s.heap.objs.size = some o → (∀ b ob, s.heap.get? b = some ob → h'.get? b = some ob) → Q (.ref (s.heap.objs.size + 1)) { s with heap := h' }) :
    wpAny (model prog w) A (call (.type "enumerate") [v]) Q E s := by
  refine callType_new F.called_enumerate (by decide) (F.typeCall_enumerate_1 _) (F.newCall_enumerate_1 _) (fun obj => F.args_object_init_2 obj _) F.entry_enumerate_new (meets_enumB B) ⟨h1, ?_⟩
  have hz : (s.heap.push o).objs.size = s.heap.objs.size + 1 := Heap.size_push ..
  show _ ∧ _
  rw [hz]
  have he : IsEnum ((s.heap.push o).push { cls := .type "enumerate", data := .fields #[.none, .bool false, .ref s.heap.objs.size, rawInt 0, .none, .none] }) (s.heap.objs.size + 1) s.heap.objs.size 0 .none := by
    have q := Heap.get?_push_size (s.heap.push o) (o := { cls := .type "enumerate", data := .fields #[.none, .bool false, .ref s.heap.objs.size, rawInt 0, .none, .none] }) rfl
    rw [hz] at q; exact q
  exact ⟨⟨_, he, rfl⟩, h _ he (Heap.get?_push_of_some _ (Heap.get?_push_size _ B.free)) fun b ob x => Heap.get?_push_of_some _ (Heap.get?_push_of_some _ x)⟩
def iEnumB (K : PySem.W.Frag) (ta : TA) : TI := fun σ H R => ta σ H fun vs H1 => ∃ k a xs, vs = [.ref a] ∧ SqB k K H1 a xs ∧ R (IteB k K a) H1
theorem pi_enumB {X : Cx} {e : Expr} {ta : TA} {p pos tp : Pos} {els : List Expr} {c : Nat} (hg : Gl X "enumerate") (hm : X.mg "enumerate" = none) (ha : PA X [e] ta) (hs : starEach [e] X.env = [(false, eval e X.env)]) :
    PI X (.Tuple els c tp) (.Call (.Name "enumerate" p) [e] [] pos) (iEnumB X.K ta) := by
  refine ⟨fun pins s σ H R I h => ?_⟩
  refine Call_ (ld_blt I hg hm boot_enumerate (PyProof.Rows.callWith_type1 (thn (ha.run pos pins s σ H _ I h) fun us s1 ⟨vs, H1, I1, r1, q1⟩ => ?_) hs rfl))
  obtain ⟨k, a, xs, ex, hq, q⟩ := q1
  subst ex
  cases r1 with
  | cons r rr =>
    cases rr
    cases r
    obtain ⟨its, rv, p', la⟩ := sq_inv I1 hq
    refine enum1 (sq_begins k a its.toArray) p' fun h' he hit hk => wpAny_pyIter_enum he ?_
    have I2 : L2.Inv X pins σ H1 { s1 with heap := h' } := I1.kept (t' := s1.toks) hk
    refine ⟨s1.heap.objs.size + 1, [s1.heap.objs.size + 1, s1.heap.objs.size], _, _, H1, rfl, I2, turn_enumB k a (s1.heap.objs.size + 1) s1.heap.objs.size (Nat.ne_of_lt (Nat.lt_succ_of_lt la)) (Nat.ne_of_lt la) (Nat.succ_ne_self _), ⟨⟨.none, he⟩, .new hit⟩, fun b hb => ?_, q⟩
    have hle : s1.heap.objs.size ≤ b := by
      simp only [List.mem_cons, List.not_mem_nil, or_false] at hb
      rcases hb with z | z
      · rw [z]; exact Nat.le_add_right _ _
      · rw [z]; exact Nat.le_refl _
    exact I1.fpOk hle (I1.hok.fresh hle)

/-! ### zip -/
def ItzB (k l : Bool) (K : PySem.W.Frag) (a b : Addr) : It :=
  ⟨fun i H => ∃ (xs ys : List V) (x y : V), SqB k K H a xs ∧ SqB l K H b ys ∧ xs[i]? = some x ∧ ys[i]? = some y,
    fun i H v H' => ∃ T x y, v = .ref T ∧ H T = none ∧ H' = upd H T (.tup [x, y]) ∧ (∀ xs, SqB k K H a xs → xs[i]? = some x) ∧ ∀ ys, SqB l K H b ys → ys[i]? = some y,
    fun i H => ∃ xs ys : List V, SqB k K H a xs ∧ SqB l K H b ys ∧ i ≤ xs.length ∧ i ≤ ys.length ∧ (i = xs.length ∨ i = ys.length)⟩
theorem turn_zipB {P : Program} {w : World} {K : PySem.W.Frag} {els : List Expr} {c : Nat} {tp : Pos} (k l : Bool) {a b z TI TO i1 i2 : Addr} (S : ZipSep2 z TI TO i1 i2 [i1, a] [i2, b]) (ha : a ≠ i1) (hb : b ≠ i2) :
    Turn P w K (.Tuple els c tp) (ItzB k l K a b) [z, TI, TO, i1, i2] z (fun i h => IsZip h z TI TO .none ∧ IsTupOf2 h TI (.ref i1) (.ref i2) ∧ (∃ x y, IsTupOf2 h TO x y) ∧ SIt k h i1 a i ∧ SIt l h i2 b i) where
  mem := by simp
  obj := fun i h st d hd => by
    obtain ⟨hz, hTI, ⟨x, y, hTO⟩, h1, h2⟩ := st
    simp only [List.mem_cons, List.not_mem_nil, or_false] at hd
    rcases hd with rfl | rfl | rfl | rfl | rfl
    · exact ⟨_, hz, fun v q => nomatch q⟩
    · exact ⟨_, hTI, fun v q => nomatch q⟩
    · exact ⟨_, hTO, fun v q => nomatch q⟩
    · exact h1.obj_
    · exact h2.obj_
  keep := fun i h h' st kp => by
    obtain ⟨hz, hTI, ⟨x, y, hTO⟩, h1, h2⟩ := st
    exact ⟨kp z (by simp) _ hz, kp TI (by simp) _ hTI, ⟨x, y, kp TO (by simp) _ hTO⟩, h1.at_ fun o q => kp i1 (by simp) o q, h2.at_ fun o q => kp i2 (by simp) o q⟩
  item := by
    intro X hP hw hK hc i pins s σ H E I hf st hg
    subst hP hw hK
    obtain ⟨hz, hTI, ⟨x0, y0, hTO⟩, h1, h2⟩ := st
    obtain ⟨xs, ys, x, y, hqx, hqy, hx, hy⟩ := hg
    obtain ⟨its, rv, p, _⟩ := sq_inv I hqx
    obtain ⟨its2, rv2, p2, _⟩ := sq_inv I hqy
    obtain ⟨u, hu, ru⟩ := rv.get hx
    obtain ⟨u2, hu2, ru2⟩ := rv2.get hy
    have hzl : z < s.heap.objs.size := Heap.lt_size hz
    have hlt : i < its.toArray.size := by
      have := (List.getElem?_eq_some_iff.mp hu).1
      simpa using this
    have hlt2 : i < its2.toArray.size := by
      have := (List.getElem?_eq_some_iff.mp hu2).1
      simpa using this
    have nzi1 : z ≠ i1 := fun q => S.zf1 (by simp [q])
    have nzi2 : z ≠ i2 := fun q => S.zf2 (by simp [q])
    have nTi1 : TO ≠ i1 := fun q => S.Tf1 (by simp [q])
    have nTi2 : TO ≠ i2 := fun q => S.Tf2 (by simp [q])
    refine wpAny_pyNext_zipD2_item S (sq_draws k (show X.A.in1.handled = none from I.ok.hd hc) i1 a ha its.toArray) (sq_draws l (show X.A.in1.handled = none from I.ok.hd hc) i2 b hb its2.toArray) hz hTI hTO ⟨h1, p⟩ ⟨h2, p2⟩ hlt hlt2
      fun v1 v2 h' tk q1 q2 z' TO' h1' h2' hT hsz hk => ?_
    have e1 : v1 = u := by
      have q : its[i]? = some v1 := by simpa using q1
      rw [hu] at q
      exact (Option.some.inj q).symm
    have e2 : v2 = u2 := by
      have q : its2[i]? = some v2 := by simpa using q2
      rw [hu2] at q
      exact (Option.some.inj q).symm
    subst e1 e2
    refine ⟨_, rfl, wpAny_letOwnedTupleGo_zip (s := { s with heap := h', toks := tk }) z' fun h'' z'' sb => ?_⟩
    have hT2 := (sb.2 _ (Nat.ne_of_gt hzl)).trans hT
    have new : ObjOk X.prog X.w (upd H s.heap.objs.size (.tup [x, y])) h'' s.heap.objs.size (.tup [x, y]) :=
      ⟨by show 2 ≤ sizeLine; decide, [v1, v2], .cons ru (.cons ru2 .nil), ⟨_, hT2, rfl, _, rfl⟩⟩
    have I1 : L2.Inv X pins σ (upd H s.heap.objs.size (.tup [x, y])) { s with heap := h'', toks := tk } := by
      refine I.turnedNew (t' := tk) (ch := [z, TI, TO, i1, i2]) (fun d o hd q => ?_) hf (Nat.le_refl _) new
      have m1 : d ≠ z := fun q' => hd (by simp [q'])
      exact (sb.2 d m1).trans (hk d o m1 (fun q' => hd (by simp [q'])) (fun q' => hd (by simp [q'])) (fun q' => hd (by simp [q'])) q)
    refine ⟨.ref s.heap.objs.size, _, I1, rfl, ⟨_, x, y, rfl, I.hok.fresh (Nat.le_refl _), rfl, fun t ht => by rw [sq_inj I ht hqx]; exact hx, fun t ht => by rw [sq_inj I ht hqy]; exact hy⟩, ⟨z'', ?_, ⟨v1, v2, ?_⟩, ?_, ?_⟩, fun d hd => ?_⟩
    · exact (sb.2 _ S.TIz).trans (hk _ _ S.TIz S.TITO S.TIi1 S.TIi2 hTI)
    · exact (sb.2 _ S.TOz).trans TO'
    · exact h1'.1.at_ fun o q => (sb.2 _ (Ne.symm nzi1)).trans q
    · exact h2'.1.at_ fun o q => (sb.2 _ (Ne.symm nzi2)).trans q
    · have hlt : d < s.heap.objs.size := by
        simp only [List.mem_cons, List.not_mem_nil, or_false] at hd
        rcases hd with rfl | rfl | rfl | rfl | rfl
        · exact hzl
        · exact Heap.lt_size hTI
        · exact Heap.lt_size hTO
        · obtain ⟨_, q, _⟩ := h1.obj_; exact Heap.lt_size q
        · obtain ⟨_, q, _⟩ := h2.obj_; exact Heap.lt_size q
      rw [upd_ne (Nat.ne_of_lt hlt)]
      exact (hf d hd).1
  done := by
    intro X hP hw hK hc i pins s σ H E I hf st hg
    subst hP hw hK
    obtain ⟨hz, hTI, ⟨x0, y0, hTO⟩, h1, h2⟩ := st
    obtain ⟨xs, ys, hqx, hqy, l1, l2, he⟩ := hg
    obtain ⟨its, rv, p, _⟩ := sq_inv I hqx
    obtain ⟨its2, rv2, p2, _⟩ := sq_inv I hqy
    have m1 := rv.length
    have m2 := rv2.length
    refine wpAny_pyNext_zipD2_end S (sq_draws k (show X.A.in1.handled = none from I.ok.hd hc) i1 a ha its.toArray) (sq_draws l (show X.A.in1.handled = none from I.ok.hd hc) i2 b hb its2.toArray) hz hTI hTO ⟨h1, p⟩ ⟨h2, p2⟩ (by simp; omega) (by simp; omega)
      (he.imp (fun q => by simp; omega) fun q => by simp; omega) fun h' tk hk => ⟨rfl, I.turnedL (t' := tk) (ch := [z, TI, TO, i1, i2]) (fun d o hd q =>
      hk d o (fun q' => hd (by simp [q'])) (fun q' => hd (by simp [q'])) (fun q' => hd (by simp [q'])) (fun q' => hd (by simp [q'])) q) hf⟩
  self := fun A i s Q E st h => wpAny_pyIter_zip st.1 h
def iZipB (K : PySem.W.Frag) (ta : TA) : TI := fun σ H R => ta σ H fun vs H1 => ∃ k l a b xs ys, vs = [.ref a, .ref b] ∧ SqB k K H1 a xs ∧ SqB l K H1 b ys ∧ R (ItzB k l K a b) H1
theorem pi_zipB {X : Cx} {e e2 : Expr} {ta : TA} {p pos tp : Pos} {els : List Expr} {c : Nat} (hg : Gl X "zip") (hm : X.mg "zip" = none) (ha : PA X [e, e2] ta)
    (hs : starEach [e, e2] X.env = (false, eval e X.env) :: starEach [e2] X.env) (hpl : (backTo pos (starEach [e2] X.env)).any (·.1) = false) :
    PI X (.Tuple els c tp) (.Call (.Name "zip" p) [e, e2] [] pos) (iZipB X.K ta) := by
  refine ⟨fun pins s σ H R I h => ?_⟩
  refine Call_ (ld_blt I hg hm PyProof.Rows.boot_zip (PyProof.Rows.callWith_type1 (thn (ha.run pos pins s σ H _ I h) fun us s1 ⟨vs, H1, I1, r1, q1⟩ => ?_) hs hpl))
  obtain ⟨k, l, a, b, xs, ys, ex, hqx, hqy, q⟩ := q1
  subst ex
  cases r1 with
  | cons r rr =>
    cases rr with
    | cons r' rr =>
      cases rr
      cases r
      cases r'
      obtain ⟨its, rv, p1, la⟩ := sq_inv I1 hqx
      obtain ⟨its2, rv2, p2, lb⟩ := sq_inv I1 hqy
      refine zip_begins2 (sq_begins k a its.toArray) (sq_begins l b its2.toArray) p1 p2 fun h' hz hTI hTO h1 h2 hsz hk => wpAny_pyIter_zip hz ?_
      have I2 : L2.Inv X pins σ H1 { s1 with heap := h' } := I1.kept (t' := s1.toks) hk
      refine ⟨s1.heap.objs.size + 4, [s1.heap.objs.size + 4, s1.heap.objs.size + 2, s1.heap.objs.size + 3, s1.heap.objs.size, s1.heap.objs.size + 1], _, _, H1, rfl, I2,
        turn_zipB k l (zip_sep2 (fp1 := [a]) (fp2 := [b]) (by simpa using la) (by simpa using lb)) (Nat.ne_of_lt la) (Nat.ne_of_lt (Nat.lt_succ_of_lt lb)), ⟨hz, hTI, ⟨_, _, hTO⟩, .new h1, .new h2⟩, fun d hd => ?_, q⟩
      have hle : s1.heap.objs.size ≤ d := by
        simp only [List.mem_cons, List.not_mem_nil, or_false] at hd
        rcases hd with z | z | z | z | z <;> rw [z] <;> first
          | exact Nat.le_add_right _ _
          | exact Nat.le_refl _
      exact I1.fpOk hle (I1.hok.fresh hle)
end Fx

set_option maxHeartbeats 4000000
/-! Fx7e: targets, iterables, list comprehensions. -/
namespace Fx
open PySem PySem.Spec PyProof.Rows L2

section
variable {g : G} {fr : Frm} {W : WX} {C : Ev} {s : Sc} {X : Cx}

/-! ### slots written -/
theorem getset {α : Type} {l : List α} {i j : Nat} {a b : α} (h : (l.set i a)[j]? = some b) : (i = j ∧ b = a) ∨ (i ≠ j ∧ l[j]? = some b) := by
  by_cases e : i = j
  · subst e
    have hl := (List.getElem?_eq_some_iff.mp h).1
    rw [List.length_set] at hl
    rw [List.getElem?_set_self hl] at h
    cases h
    exact .inl ⟨rfl, rfl⟩
  · rw [List.getElem?_set_ne e] at h
    exact .inr ⟨e, h⟩
theorem Good.setV {σ : L2.St} {H : Hp} {w : Wd} {env : Env} {S : Store} (G : Good g fr σ H w env S) {d : D} {v : V} (r : Rep g H w d v) (i : Nat) : Good g fr (σ.set i (some v)) H w (env.set i (.val d)) S where
  wok := G.wok
  ext := G.ext
  len := by rw [List.length_set, List.length_set, G.len]
  sl := fun j t o h1 h2 => by
    rcases getset h1 with ⟨e, rfl⟩ | ⟨e, h1⟩
    · subst e
      rcases getset h2 with ⟨_, rfl⟩ | ⟨e, _⟩
      · exact .val r
      · exact absurd rfl e
    · rcases getset h2 with ⟨e', _⟩ | ⟨_, h2⟩
      · exact absurd e' e
      · exact G.sl j t o h1 h2
  sep := fun j k a xs ys hne h1 h2 h3 h4 => by
    rcases getset h1 with ⟨_, q⟩ | ⟨e1, h1⟩
    · cases q
    rcases getset h2 with ⟨_, q⟩ | ⟨e2, h2⟩
    · cases q
    rw [List.getElem?_set_ne e1] at h3
    rw [List.getElem?_set_ne e2] at h4
    exact G.sep j k a xs ys hne h1 h2 h3 h4
theorem Good.setU {σ : L2.St} {H : Hp} {w : Wd} {env : Env} {S : Store} (G : Good g fr σ H w env S) (o : Option V) (i : Nat) : Good g fr (σ.set i o) H w (env.set i .un) S where
  wok := G.wok
  ext := G.ext
  len := by rw [List.length_set, List.length_set, G.len]
  sl := fun j t o' h1 h2 => by
    rcases getset h1 with ⟨e, rfl⟩ | ⟨e, h1⟩
    · exact .un
    · rcases getset h2 with ⟨e', _⟩ | ⟨_, h2⟩
      · exact absurd e' e
      · exact G.sl j t o' h1 h2
  sep := fun j k a xs ys hne h1 h2 h3 h4 => by
    rcases getset h1 with ⟨_, q⟩ | ⟨e1, h1⟩
    · cases q
    rcases getset h2 with ⟨_, q⟩ | ⟨e2, h2⟩
    · cases q
    rw [List.getElem?_set_ne e1] at h3
    rw [List.getElem?_set_ne e2] at h4
    exact G.sep j k a xs ys hne h1 h2 h3 h4
theorem Good.wipe {H : Hp} {w : Wd} {S : Store} {env : Env} {σ : L2.St} (G : Good g fr σ H w env S) : ∀ own : List (Str × Nat), Good g fr (L2.wipe σ (own.map (·.2))) H w (wipeE env own) S
  | [] => G
  | v :: vs => (Good.wipe G vs).setU _ _
theorem Agree.set {As : Nat → Bool} {σ : L2.St} {env : Env} {i : Nat} {o : Option V} {t : Sl} (h : As i = true) : Agree As σ (σ.set i o) env (env.set i t) := fun j hj => by
  have ne : i ≠ j := fun e => by rw [e, hj] at h; cases h
  exact ⟨List.getElem?_set_ne ne, List.getElem?_set_ne ne⟩
theorem Agree.refl {As : Nat → Bool} {σ : L2.St} {env : Env} : Agree As σ σ env env := fun _ _ => ⟨rfl, rfl⟩
theorem Agree.trans {As : Nat → Bool} {σ σ1 σ2 : L2.St} {env env1 env2 : Env} (a : Agree As σ σ1 env env1) (b : Agree As σ1 σ2 env1 env2) : Agree As σ σ2 env env2 := fun i h =>
  ⟨(b i h).1.trans (a i h).1, (b i h).2.trans (a i h).2⟩
theorem Agree.mono {As Bs : Nat → Bool} {σ σ1 : L2.St} {env env1 : Env} (a : Agree As σ σ1 env env1) (h : ∀ i, Bs i = false → As i = false) : Agree Bs σ σ1 env env1 := fun i q => a i (h i q)

/-! ### targets -/
theorem g_tn {i : Nat} (x : XOk g C s X W) (e : Expr) (h : chkG s (.tn i) e = true) : PG X e (tGt g fr (.tn i)) := by
  unfold chkG at h
  split at h
  · simp only [Bool.and_eq_true, decide_eq_true_eq] at h
    obtain ⟨h1, h2⟩ := x.st _ h.2
    refine PG.imp (pg_name (by rw [x.N]; exact x.nd) (by rw [x.N]; exact h.1) h1 h2) fun v σ H Q ⟨w, env, S, d, env', G, r, hb, k⟩ => ?_
    unfold bindT at hb
    split at hb
    · cases hb
      exact k _ (G.setV r i) (.set (by simp [asgT]))
    · cases hb
  · cases h
theorem as_len : ∀ (es : List Expr) (env : PySem.Env) {n : N}, chkGs s n es = true → (assignEach es env).length = es.length ∧ (assignEach es env).findIdx? (·.1) = none
  | [], _, _, _ => ⟨rfl, rfl⟩
  | e :: es, env, n, h => by
    cases n with
    | cons a b =>
      unfold chkGs at h
      simp only [Bool.and_eq_true] at h
      obtain ⟨⟨h0, _⟩, h2⟩ := h
      obtain ⟨i1, i2⟩ := as_len es env h2
      cases e <;> first
        | (cases h0; done)
        | (refine ⟨?_, ?_⟩
           · show (assignEach es env).length + 1 = es.length + 1
             rw [i1]
           · show ((false, _) :: assignEach es env).findIdx? (·.1) = none
             rw [List.findIdx?_cons, i2]
             rfl)
    | _ => unfold chkGs at h; cases h
theorem gs_nil {es : List Expr} (h : chkGs s .nil es = true) : PGs X es (tGts g fr .nil) := by
  unfold chkGs at h
  split at h
  · refine PGs.imp pgs_nil fun vs σ H Q ⟨w, env, S, ds, env', G, r, hb, k⟩ => ?_
    cases r with
    | nil =>
      unfold bindT.bindTs at hb
      cases hb
      exact ⟨rfl, k _ G .refl⟩
    | cons =>
      unfold bindT.bindTs at hb
      cases hb
  · cases h
theorem gs_cons {a b : N} (ia : Snd g fr C a) (ib : Snd g fr C b) (x : XOk g C s X W) (es : List Expr) (h : chkGs s (.cons a b) es = true) : PGs X es (tGts g fr (.cons a b)) := by
  cases es with
  | nil => unfold chkGs at h; cases h
  | cons e es =>
    unfold chkGs at h
    simp only [Bool.and_eq_true] at h
    obtain ⟨⟨h0, h1⟩, h2⟩ := h
    have hs : (assignEach (e :: es) X.env).map (·.2) = assign e X.env :: (assignEach es X.env).map (·.2) := by
      cases e <;> first
        | rfl
        | (cases h0; done)
    refine PGs.imp (pgs_cons (ia.tgt x _ h1) (ib.tgts x _ h2) hs) fun vs σ H Q ⟨w, env, S, ds, env', G, r, hb, k⟩ => ?_
    cases r with
    | nil =>
      unfold bindT.bindTs at hb
      cases hb
    | @cons d v ds vs rd rs =>
      unfold bindT.bindTs at hb
      cases q : bindT a d env with
      | none => rw [q] at hb; cases hb
      | some e1 =>
        rw [q] at hb
        refine ⟨v, vs, rfl, w, env, S, d, e1, G, rd, q, fun σ1 G1 A1 => ⟨w, e1, S, ds, env', G1, rs, hb, fun σ2 G2 A2 => k σ2 G2 ?_⟩⟩
        refine Agree.trans (A1.mono fun i hi => ?_) (A2.mono fun i hi => ?_)
        · have z : (asgT a i || asgT b i) = false := hi
          exact (Bool.or_eq_false_iff.mp z).1
        · have z : (asgT a i || asgT b i) = false := hi
          exact (Bool.or_eq_false_iff.mp z).2
theorem len_bindTs {n : N} : ∀ {es : List Expr} {ds : List D} {env env' : Env}, chkGs s n es = true → bindT.bindTs n ds env = some env' → ds.length = es.length := by
  induction n with
  | nil =>
    intro es ds env env' h e
    unfold chkGs at h
    split at h
    · cases ds with
      | nil => rfl
      | cons => unfold bindT.bindTs at e; cases e
    · cases h
  | cons a b _ ih =>
    intro es ds env env' h e
    cases es with
    | nil => unfold chkGs at h; cases h
    | cons y ys =>
      unfold chkGs at h
      simp only [Bool.and_eq_true] at h
      cases ds with
      | nil => unfold bindT.bindTs at e; cases e
      | cons d ds =>
        unfold bindT.bindTs at e
        cases q : bindT a d env with
        | none => rw [q] at e; cases e
        | some e1 =>
          rw [q] at e
          rw [List.length_cons, List.length_cons, ih h.2 e]
  | _ => intro es ds env env' h e; unfold chkGs at h; cases h
theorem g_tt {es : N} (ih : Snd g fr C es) (x : XOk g C s X W) (e : Expr) (h : chkG s (.tt es) e = true) : PG X e (tGt g fr (.tt es)) := by
  unfold chkG at h
  split at h
  · rename_i xs _ _
    obtain ⟨l1, l2⟩ := as_len xs X.env h
    refine PG.imp (pg_tup (n := xs.length) x.calm (ih.tgts x _ h) l1 l2) fun v σ H Q ⟨w, env, S, d, env', G, r, hb, k⟩ => ?_
    cases d with
    | tup ds =>
      have hb : bindT.bindTs es ds env = some env' := hb
      obtain ⟨a, vs, rfl, hq, rs⟩ := (RepT.rep r).tup
      refine ⟨a, vs, rfl, by rw [x.K]; exact hq, ?_, w, env, S, ds, env', G, rs, hb, k⟩
      rw [← rs.length]
      exact len_bindTs h hb
    | _ => unfold bindT at hb; cases hb
  · cases h
end
end Fx

set_option maxHeartbeats 4000000
/-! Fx7f: iterables, list comprehensions. -/
namespace Fx
open PySem PySem.Spec PyProof.Rows L2

section
variable {g : G} {fr : Frm} {W : WX} {C : Ev} {s : Sc} {X : Cx}
/-- a list or a tuple, by the evaluator -/
theorem RepT.sq {H : Hp} {w : Wd} {d : D} {ds : List D} {v : V} (r : RepT g H w d v) (e : seqD d = some ds) : ∃ k a vs, v = .ref a ∧ SqB k g.K H a vs ∧ Reps g H w ds vs := by
  cases d with
  | tup xs =>
    cases e
    obtain ⟨a, vs, e1, hq, rs⟩ := r.tup
    exact ⟨false, a, vs, e1, hq, rs⟩
  | lst xs =>
    cases e
    obtain ⟨a, vs, e1, hq, rs⟩ := r.lst
    exact ⟨true, a, vs, e1, .inl hq, rs⟩
  | _ => cases e
/-- the same at a later moment, known to be at the same place -/
theorem RepP.sq {p : Bool} {H : Hp} {w : Wd} {d : D} {ds : List D} {a : Addr} (r : RepP g p H w d (.ref a)) (e : seqD d = some ds) : ∃ k, ∀ w1 H1 S, WOk g w H S → RelB p w H w1 H1 → ∃ vs, SqB k g.K H1 a vs ∧ Reps g H1 w1 ds vs := by
  cases d with
  | tup xs =>
    cases e
    refine ⟨false, fun w1 H1 S k e1 => ?_⟩
    obtain ⟨b, vs, e2, hq, rs⟩ := (RepP.rel k e1 r).t.tup
    cases e2
    exact ⟨vs, hq, rs⟩
  | lst xs =>
    cases e
    refine ⟨true, fun w1 H1 S k e1 => ?_⟩
    obtain ⟨b, vs, e2, hq, rs⟩ := (RepP.rel k e1 r).t.lst
    cases e2
    exact ⟨vs, .inl hq, rs⟩
  | _ => cases e
theorem Reps.at2 {H : Hp} {w : Wd} {ds : List D} {vs : List V} (r : Reps g H w ds vs) {i : Nat} {d : D} (h : ds[i]? = some d) {P : V → Prop} {v : V} (q : vs[i]? = some v) : Rep g H w d v := by
  obtain ⟨u, h1, h2⟩ := r.get h
  rw [q] at h1
  cases h1
  exact h2

def ItsB (k : Bool) (K : PySem.W.Frag) (a : Addr) : It := if k = true then Itl K a else Itt K a
def iSeqB (K : PySem.W.Frag) (tl : TE) : TI := fun σ H R => tl σ H fun x H1 => ∃ k a xs, x = .ref a ∧ SqB k K H1 a xs ∧ R (ItsB k K a) H1
theorem turn_sqB {P : Program} {w : World} {K : PySem.W.Frag} {tg : Expr} (k : Bool) (a it : Addr) : Turn P w K tg (ItsB k K a) [it] it (fun i h => SIt k h it a i) := by
  cases k with
  | true => exact turn_list a it
  | false => exact turn_tuple a it
theorem pi_seqB {tg l : Expr} {tl : TE} (hl : PE X l tl) : PI X tg l (iSeqB X.K tl) := by
  refine ⟨fun pins st σ H R I h => ?_⟩
  refine thn (hl.run pins st σ H _ I h) fun v s1 ⟨x, H1, I1, r1, k, a, xs, e, hq, q⟩ => ?_
  subst e
  cases r1
  obtain ⟨its, rv, p, _⟩ := sq_inv I1 hq
  refine (sq_begins k a its.toArray).iter _ _ _ _ _ _ p ?_
  refine ⟨s1.heap.objs.size, [s1.heap.objs.size], _, _, H1, rfl, I1.kept (t' := s1.toks) fun b o e => Heap.get?_push_of_some _ e, turn_sqB k a _, .new (Heap.get?_push_size _ (sq_begins k a its.toArray).free), fun b hb => ?_, q⟩
  obtain rfl := List.mem_singleton.mp hb
  exact I1.fpOk (Nat.le_refl _) (I1.hok.fresh (Nat.le_refl _))
theorem its_ok {p k : Bool} {a : Addr} {ds : List D} {w : Wd} {H : Hp} (h : ∀ w1 H1 S1, WOk g w1 H1 S1 → RelB p w H w1 H1 → ∃ vs, SqB k g.K H1 a vs ∧ Reps g H1 w1 ds vs) : ItOk g p (ItsB k g.K a) ds w H where
  go := fun i w1 H1 S1 d ok e hd => by
    obtain ⟨vs, hq, rs⟩ := h w1 H1 S1 ok e
    obtain ⟨v, hv, r⟩ := rs.get hd
    cases k with
    | true =>
      refine ⟨⟨vs, v, hq, hv⟩, fun x H2 y => ?_⟩
      obtain ⟨e2, y⟩ := y
      subst e2
      refine ⟨.refl, ok, ?_⟩
      have z := y vs hq
      rw [hv] at z; cases z
      exact r
    | false =>
      refine ⟨⟨vs, v, hq, hv⟩, fun x H2 y => ?_⟩
      obtain ⟨e2, y⟩ := y
      subst e2
      refine ⟨.refl, ok, ?_⟩
      have z := y vs hq
      rw [hv] at z; cases z
      exact r
  stop := fun w1 H1 S1 ok e => by
    obtain ⟨vs, hq, rs⟩ := h w1 H1 S1 ok e
    have l := rs.length
    cases k with
    | true => exact ⟨vs, hq, by omega⟩
    | false => exact ⟨vs, hq, by omega⟩
theorem RelB.of_ext {p : Bool} {w w1 : Wd} {H H1 : Hp} {S : Store} (k : WOk g w H S) (e : Ext w H w1 H1) : RelB p w H w1 H1 := by
  unfold RelB
  split
  · exact e
  · exact e.per k
theorem RelB.refl {p : Bool} {w : Wd} {H : Hp} : RelB p w H w H := by
  unfold RelB
  split
  · exact .refl
  · exact .refl
theorem i_seq {a : N} (ia : Snd g fr C a) (x : XOk g C s X W) (p : Bool) (tg e : Expr) (h : chkI s p tg (.seq a) e = true) : PI X tg e (tI g fr W C p (.seq a)) := by
  unfold chkI at h
  rw [Bool.and_eq_true] at h
  refine PI.imp (pi_seqB (ia.e x p _ h.2)) fun σ H R ⟨w, env, S, G, P⟩ => ?_
  rw [evI] at P
  refine one_ G P fun d S1 w1 H1 v G1 E1 R1 P1 => ?_
  obtain ⟨ds, e1, k⟩ := P1.ofO
  obtain ⟨b, a, vs, rfl, hq, rs⟩ := R1.t.sq e1
  obtain ⟨b2, later⟩ := RepP.sq R1 e1
  obtain ⟨vs2, hq2, _⟩ := later w1 H1 _ G1.wok .refl
  refine ⟨b2, a, vs2, rfl, by rw [x.K]; exact hq2, ?_⟩
  rw [x.K]
  exact k w1 H1 _ G1 E1 (its_ok fun w2 H2 S2 _ e2 => later w2 H2 _ G1.wok e2)
theorem i_seqT {a : N} (ia : Snd g fr C a) (x : XOk g C s X W) (p : Bool) (tg e : Expr) (h : chkI s p tg (.seqT a) e = true) : PI X tg e (tI g fr W C p (.seqT a)) := by
  unfold chkI at h
  rw [Bool.and_eq_true] at h
  refine PI.imp (pi_str (ia.e x p _ h.2)) fun σ H R ⟨w, env, S, G, P⟩ => ?_
  rw [evI] at P
  refine one_ G P fun d S1 w1 H1 v G1 E1 R1 P1 => ?_
  obtain ⟨ds, e1, k⟩ := P1.ofO
  cases d with
  | str z =>
    cases e1
    cases R1.t.str
    refine ⟨z, rfl, k w1 H1 _ G1 E1 ⟨fun n w2 H2 S2 d ok e hd => ?_, fun w2 H2 S2 ok e => ?_⟩⟩
    · rw [List.getElem?_map] at hd
      cases q : z.cps.toList[n]? with
      | none => rw [q] at hd; cases hd
      | some c =>
        rw [q] at hd
        cases hd
        have hl := (List.getElem?_eq_some_iff.mp q).1
        refine ⟨(by simpa using hl : n < z.cps.size), fun v H3 y => ?_⟩
        obtain ⟨e3, c', hc', rfl⟩ := y
        subst e3
        have : c' = c := by
          have z1 : z.cps[n]? = some c := by simpa using q
          rw [z1] at hc'
          cases hc'
          rfl
        subst this
        exact ⟨.refl, ok, .str _⟩
    · show z.cps.size ≤ _
      rw [List.length_map]
      simp
  | _ => cases e1
theorem pa_1 {y : Expr} {t : TE} (h : PE X y t) (hs : notStar y = true) : PA X [y] (fun σ H Q => t σ H fun v H1 => Q [v] H1) :=
  PA.imp (pa_cons h pa_nil (star_ok hs)) fun _ _ _ q => q
theorem pa_2 {y z : Expr} {t u : TE} (h : PE X y t) (h2 : PE X z u) (hs : notStar y = true) (hs2 : notStar z = true) : PA X [y, z] (fun σ H Q => t σ H fun v H1 => u σ H1 fun v2 H2 => Q [v, v2] H2) :=
  PA.imp (pa_cons h (pa_cons h2 pa_nil (star_ok hs2)) (star_ok hs)) fun _ _ _ q => q
theorem rng_at {i j : Int} {n : Nat} {d : D} (h : (rangeD i j)[n]? = some d) : n < (j - i).toNat ∧ d = .int (i + (n : Nat)) := by
  unfold rangeD at h
  rw [List.getElem?_map] at h
  cases q : (List.range (j - i).toNat)[n]? with
  | none => rw [q] at h; cases h
  | some m =>
    rw [q] at h
    have hl := (List.getElem?_eq_some_iff.mp q).1
    rw [List.length_range] at hl
    rw [List.getElem?_range hl] at q
    cases q
    cases h
    exact ⟨hl, rfl⟩
theorem rng_ok {p : Bool} {i j : Int} {w : Wd} {H : Hp} : ItOk g p (Itr i (j - i).toNat) (rangeD i j) w H where
  go := fun n w1 H1 S1 d ok e hd => by
    obtain ⟨h1, rfl⟩ := rng_at hd
    refine ⟨h1, fun x H2 y => ?_⟩
    obtain ⟨e2, y⟩ := y
    subst e2 y
    exact ⟨.refl, ok, .int _⟩
  stop := fun w1 H1 S1 ok e => by
    show (j - i).toNat ≤ (rangeD i j).length
    unfold rangeD
    simp
theorem rgOk_ok {i j : Int} (h : rgOk i j = true) : -(2 ^ 62) ≤ i ∧ i < 2 ^ 62 ∧ -(2 ^ 62) ≤ j ∧ j < 2 ^ 62 := by
  unfold rgOk at h
  simp only [Bool.and_eq_true, decide_eq_true_eq] at h
  exact ⟨h.1.1.1.1, h.1.1.1.2, h.1.1.2, h.1.2⟩
theorem i_rng1 {a : N} (ia : Snd g fr C a) (x : XOk g C s X W) (p : Bool) (tg e : Expr) (h : chkI s p tg (.rng1 a) e = true) : PI X tg e (tI g fr W C p (.rng1 a)) := by
  unfold chkI at h
  split at h
  · simp only [Bool.and_eq_true, decide_eq_true_eq] at h
    obtain ⟨⟨⟨⟨rfl, hg⟩, hf⟩, hs⟩, hc⟩ := h
    refine PI.imp (pi_range1 (x.gl hg) (x.free _ hf) (pa_1 (ia.e x true _ hc) hs) (star_ok hs)) fun σ H R ⟨w, env, S, G, P⟩ => ?_
    rw [evI] at P
    refine one_ G P fun d S1 w1 H1 v G1 E1 R1 P1 => ?_
    split at P1
    · rename_i n
      cases R1.t.int
      split at P1
      · rename_i hr
        obtain ⟨_, _, h3, h4⟩ := rgOk_ok hr
        have q := P1 w1 H1 (Itr 0 (n - 0).toNat) G1 E1 rng_ok
        rw [Int.sub_zero] at q
        exact ⟨n, rfl, h3, h4, q⟩
      · exact P1.elim
    · exact P1.elim
  · cases h
theorem i_rng2 {a b : N} (ia : Snd g fr C a) (ib : Snd g fr C b) (x : XOk g C s X W) (p : Bool) (tg e : Expr) (h : chkI s p tg (.rng2 a b) e = true) : PI X tg e (tI g fr W C p (.rng2 a b)) := by
  unfold chkI at h
  split at h
  · simp only [Bool.and_eq_true, decide_eq_true_eq] at h
    obtain ⟨⟨⟨⟨⟨⟨rfl, hg⟩, hf⟩, hs⟩, hs2⟩, hc⟩, hc2⟩ := h
    refine PI.imp (pi_range2 (x.gl hg) (x.free _ hf) (pa_2 (ia.e x true _ hc) (ib.e x true _ hc2) hs hs2) (by rw [star_ok hs, star_ok hs2]; rfl) (star_ok hs2)) fun σ H R ⟨w, env, S, G, P⟩ => ?_
    rw [evI] at P
    refine one_ G P fun d S1 w1 H1 v G1 E1 R1 P1 => one_ G1 P1 fun d2 S2 w2 H2 v2 G2 E2 R2 P2 => ?_
    split at P2
    · rename_i i j
      cases R1.t.int
      cases R2.t.int
      split at P2
      · rename_i hr
        exact ⟨i, j, rfl, rgOk_ok hr, P2 w2 H2 _ G2 (E1.trans E2) rng_ok⟩
      · exact P2.elim
    · exact P2.elim
  · cases h
theorem enum_at {xs : List D} {n : Nat} {d : D} (h : (enumD xs)[n]? = some d) : ∃ x, xs[n]? = some x ∧ d = .tup [.int (n : Nat), x] := by
  unfold enumD at h
  rw [List.getElem?_zipWith] at h
  cases q : xs[n]? with
  | none => rw [q] at h; cases q1 : (List.range xs.length)[n]? <;> (rw [q1] at h; cases h)
  | some x =>
    have hl := (List.getElem?_eq_some_iff.mp q).1
    rw [q, List.getElem?_range hl] at h
    cases h
    exact ⟨x, rfl, rfl⟩
theorem zip_at {xs ys : List D} {n : Nat} {d : D} (h : (zipD xs ys)[n]? = some d) : ∃ x y, xs[n]? = some x ∧ ys[n]? = some y ∧ d = .tup [x, y] := by
  unfold zipD at h
  rw [List.getElem?_zipWith] at h
  cases q : xs[n]? with
  | none => rw [q] at h; cases h
  | some x =>
    cases q2 : ys[n]? with
    | none => rw [q, q2] at h; cases h
    | some y =>
      rw [q, q2] at h
      cases h
      exact ⟨x, y, rfl, rfl, rfl⟩
theorem pair_new {w : Wd} {H : Hp} {S : Store} {T : Addr} {d e : D} {u v : V} (ok : WOk g w H S) (hn : H T = none) (r : Rep g H w d u) (r2 : Rep g H w e v) : Ext w H w (upd H T (.tup [u, v])) ∧ WOk g w (upd H T (.tup [u, v])) S ∧ Rep g (upd H T (.tup [u, v])) w (.tup [d, e]) (.ref T) := by
  have E : Ext w H w (upd H T (.tup [u, v])) := .newT hn
  exact ⟨E, ok.newT hn, .tup (.inl (.inl upd_same)) ((Reps.cons r (.cons r2 .nil)).per (E.per ok))⟩
theorem enum_ok {p k : Bool} {a : Addr} {ds : List D} {w : Wd} {H : Hp} (h : ∀ w1 H1 S1, WOk g w1 H1 S1 → RelB p w H w1 H1 → ∃ vs, SqB k g.K H1 a vs ∧ Reps g H1 w1 ds vs) : ItOk g p (IteB k g.K a) (enumD ds) w H where
  go := fun i w1 H1 S1 d ok e hd => by
    obtain ⟨vs, hq, rs⟩ := h w1 H1 S1 ok e
    obtain ⟨x, hx, rfl⟩ := enum_at hd
    obtain ⟨v, hv, r⟩ := rs.get hx
    refine ⟨⟨vs, v, hq, hv⟩, fun y H2 z => ?_⟩
    obtain ⟨T, x', rfl, hn, rfl, hx'⟩ := z
    have q := hx' vs hq
    rw [hv] at q; cases q
    exact pair_new ok hn (.int _) r
  stop := fun w1 H1 S1 ok e => by
    obtain ⟨vs, hq, rs⟩ := h w1 H1 S1 ok e
    refine ⟨vs, hq, ?_⟩
    rw [← rs.length]
    unfold enumD
    simp
theorem i_enum {a : N} (ia : Snd g fr C a) (x : XOk g C s X W) (p : Bool) (tg e : Expr) (h : chkI s p tg (.enum a) e = true) : PI X tg e (tI g fr W C p (.enum a)) := by
  unfold chkI at h
  split at h
  · simp only [Bool.and_eq_true, decide_eq_true_eq] at h
    obtain ⟨⟨⟨⟨⟨rfl, hg⟩, hf⟩, hs⟩, hc⟩, ht⟩ := h
    split at ht
    · refine PI.imp (pi_enumB (x.gl hg) (x.free _ hf) (pa_1 (ia.e x p _ hc) hs) (star_ok hs)) fun σ H R ⟨w, env, S, G, P⟩ => ?_
      rw [evI] at P
      refine one_ G P fun d S1 w1 H1 v G1 E1 R1 P1 => ?_
      obtain ⟨ds, e1, k⟩ := P1.ofO
      cases q : seqD d with
      | none => rw [q] at e1; cases e1
      | some xs =>
        rw [q] at e1
        cases e1
        obtain ⟨b, a, vs, rfl, hq, rs⟩ := R1.t.sq q
        obtain ⟨b2, later⟩ := RepP.sq R1 q
        obtain ⟨vs2, hq2, _⟩ := later w1 H1 _ G1.wok .refl
        refine ⟨b2, a, vs2, rfl, by rw [x.K]; exact hq2, ?_⟩
        rw [x.K]
        exact k w1 H1 _ G1 E1 (enum_ok fun w2 H2 S2 _ e2 => later w2 H2 _ G1.wok e2)
    · cases ht
  · cases h
theorem zip_ok {p k l : Bool} {a b : Addr} {ds es : List D} {w : Wd} {H : Hp} (h : ∀ w1 H1 S1, WOk g w1 H1 S1 → RelB p w H w1 H1 → ∃ vs, SqB k g.K H1 a vs ∧ Reps g H1 w1 ds vs) (h' : ∀ w1 H1 S1, WOk g w1 H1 S1 → RelB p w H w1 H1 → ∃ vs, SqB l g.K H1 b vs ∧ Reps g H1 w1 es vs) : ItOk g p (ItzB k l g.K a b) (zipD ds es) w H where
  go := fun i w1 H1 S1 d ok e hd => by
    obtain ⟨vs, hq, rs⟩ := h w1 H1 S1 ok e
    obtain ⟨us, hq2, rs2⟩ := h' w1 H1 S1 ok e
    obtain ⟨x, y, hx, hy, rfl⟩ := zip_at hd
    obtain ⟨v, hv, r⟩ := rs.get hx
    obtain ⟨u, hu, r2⟩ := rs2.get hy
    refine ⟨⟨vs, us, v, u, hq, hq2, hv, hu⟩, fun y H2 z => ?_⟩
    obtain ⟨T, x', y', rfl, hn, rfl, hx', hy'⟩ := z
    have q := hx' vs hq
    rw [hv] at q; cases q
    have q := hy' us hq2
    rw [hu] at q; cases q
    exact pair_new ok hn r r2
  stop := fun w1 H1 S1 ok e => by
    obtain ⟨vs, hq, rs⟩ := h w1 H1 S1 ok e
    obtain ⟨us, hq2, rs2⟩ := h' w1 H1 S1 ok e
    refine ⟨vs, us, hq, hq2, ?_⟩
    rw [← rs.length, ← rs2.length]
    unfold zipD
    simp
    omega
theorem i_zip {a b : N} (ia : Snd g fr C a) (ib : Snd g fr C b) (x : XOk g C s X W) (p : Bool) (tg e : Expr) (h : chkI s p tg (.zip a b) e = true) : PI X tg e (tI g fr W C p (.zip a b)) := by
  unfold chkI at h
  split at h
  · simp only [Bool.and_eq_true, decide_eq_true_eq] at h
    obtain ⟨⟨⟨⟨⟨⟨⟨rfl, hg⟩, hf⟩, hs⟩, hs2⟩, hc⟩, hc2⟩, ht⟩ := h
    split at ht
    · refine PI.imp (pi_zipB (x.gl hg) (x.free _ hf) (pa_2 (ia.e x p _ hc) (ib.e x p _ hc2) hs hs2) (star_ok hs) (by rw [star_ok hs2]; rfl)) fun σ H R ⟨w, env, S, G, P⟩ => ?_
      rw [evI] at P
      refine one_ G P fun d S1 w1 H1 v G1 E1 R1 P1 => one_ G1 P1 fun d2 S2 w2 H2 v2 G2 E2 R2 P2 => ?_
      split at P2
      · rename_i xs ys q q2
        have R1 := RepP.ext G1.wok E2 R1
        obtain ⟨_, a, _, rfl, _, _⟩ := R1.t.sq q
        obtain ⟨_, c, _, rfl, _, _⟩ := R2.t.sq q2
        obtain ⟨b1, l1⟩ := RepP.sq R1 q
        obtain ⟨b2, l2⟩ := RepP.sq R2 q2
        obtain ⟨vs1, hq1, _⟩ := l1 w2 H2 _ G2.wok .refl
        obtain ⟨vs2, hq2, _⟩ := l2 w2 H2 _ G2.wok .refl
        refine ⟨b1, b2, a, c, vs1, vs2, rfl, by rw [x.K]; exact hq1, by rw [x.K]; exact hq2, ?_⟩
        rw [x.K]
        exact P2 w2 H2 _ G2 (E1.trans E2) (zip_ok (fun w3 H3 S3 _ e3 => l1 w3 H3 _ G2.wok e3) fun w3 H3 S3 _ e3 => l2 w3 H3 _ G2.wok e3)
      · exact P2.elim
    · cases ht
  · cases h
theorem e_lrng {a b : N} (ia : Snd g fr C a) (ib : Snd g fr C b) (x : XOk g C s X W) (p : Bool) (e : Expr) (h : chk s p (.lrng a b) e = true) : PE X e (tQ g fr W C p (.lrng a b)) := by
  unfold chk at h
  split at h
  · rename_i l p1 r p2 y z p3 p4
    simp only [Bool.and_eq_true, decide_eq_true_eq] at h
    obtain ⟨⟨⟨⟨⟨⟨⟨⟨⟨rfl, rfl⟩, h1⟩, h2⟩, h3⟩, h4⟩, h5⟩, h6⟩, h7⟩, h8⟩ := h
    refine PE.imp (pe_listRg x.calm (x.gl h1) (x.free _ h3) (prg_2 (x.gl h2) (x.free _ h4) (ia.e x true _ h7) (ib.e x true _ h8) (star_ok h5) (star_ok h6) (by rw [star_ok h6]; rfl))) fun σ H Q ⟨w, env, S, G, P⟩ => ?_
    rw [ev] at P
    refine one_ G P fun d1 S1 w1 H1 v1 G1 E1 R1 P1 => one_ G1 P1 fun d2 S2 w2 H2 v2 G2 E2 R2 P2 => ?_
    split at P2
    · rename_i i j
      cases R1.t.int
      cases R2.t.int
      split at P2
      · rename_i hr
        obtain ⟨q1, q2, q3, q4⟩ := rgOk_ok hr
        have q5 : (j - i).toNat ≤ lim := by
          unfold rgOk at hr
          simp only [Bool.and_eq_true, decide_eq_true_eq] at hr
          exact hr.2
        refine ⟨i, j, rfl, rfl, ⟨q1, q2, q3, q4, by unfold lim at q5; omega⟩, fun q hq => ?_⟩
        have E3 : Ext w2 H2 { w2 with fz := fun a => w2.fz a ∨ a = q } (upd H2 q (.lst (rgV i j))) := .newL hq
        refine P2 _ _ (.ref q) (G2.step E3 (G2.wok.newL hq)) ((E1.trans E2).trans E3) (.of (.lst (.inl ⟨upd_same, .inr rfl⟩) ?_))
        have : rgV i j = ((List.range (j - i).toNat).map fun n => i + (n : Nat)).map V.int := by
          unfold rgV
          rw [List.map_map]
          rfl
        rw [this]
        have e2 : rangeD i j = ((List.range (j - i).toNat).map fun n => i + (n : Nat)).map D.int := by
          unfold rangeD
          rw [List.map_map]
          rfl
        rw [e2]
        exact Reps.ints
      · exact P2.elim
    · exact P2.elim
  · cases h
end
end Fx

set_option maxHeartbeats 4000000
/-! Fx7g: list comprehensions. -/
namespace Fx
open PySem PySem.Spec PyProof.Rows L2

section
variable {g : G} {fr : Frm} {W : WX} {C : Ev} {s : Sc} {X : Cx}
def blkS (s : Sc) (scope : Scope) : Sc := { s with sc := relS scope s.sc, own := scope, def_ := false }
theorem rel_keep0 {c : Str → NameKind → Bool} {x : Str} {k : NameKind} (hc : ∀ n, c n k = false) : ∀ {l : List (Str × NameKind)}, l.lookup x = some k → (l.map fun (n, k) => if c n k then (n, NameKind.cell) else (n, k)).lookup x = some k
  | (n, k') :: r, h => by
    rw [List.lookup_cons] at h
    rw [List.map_cons]
    cases hb : x == n with
    | true =>
      rw [hb] at h
      cases h
      simp only [hc, Bool.false_eq_true, if_false]
      rw [List.lookup_cons, hb]
    | false =>
      rw [hb] at h
      have q := rel_keep0 (c := c) hc h
      show List.lookup x ((if c n k' = true then (n, NameKind.cell) else (n, k')) :: _) = some k
      split
      · rw [List.lookup_cons, hb]; exact q
      · rw [List.lookup_cons, hb]; exact q
theorem rel_keep {sc scope : Scope} {x : Str} {k : NameKind} (hk : k ≠ .free) (h : scope.names.lookup x = some k) : (relS scope sc).names.lookup x = some k :=
  rel_keep0 (c := fun n k => k == .free && sc.kind == .function && sc.names.lookup n == some .cell) (fun n => by cases k <;> first | exact absurd rfl hk | rfl) h
theorem XOk.blk {scope : Scope} {own : List (Str × Nat)} (x : XOk g C s X W) (ok : BlkOk X.N X.env.scope scope own) (st : Shared) (H : Hp) (A : Addr) (cl : List (Str × Addr)) (fp : List Addr) :
    XOk g C (blkS s scope) (X.blk st H scope (compEnvC scope cl A X.env) fp) (fun _ _ _ _ => False) where
  K := x.K
  P := x.P
  wd := x.wd
  mg := x.mg
  xc := x.xc
  xi := x.xi
  xim := x.xim
  N := x.N
  sc := by rw [show (blkS s scope).sc = relS scope s.sc from rfl, ← x.sc]; rfl
  kind := ok.kind
  nd := x.nd
  calm := x.calm
  gd := x.gd
  un := x.un
  st := fun n h => by
    unfold stB at h
    simp only [Bool.or_eq_true, decide_eq_true_eq] at h
    have e : (X.blk st H scope (compEnvC scope cl A X.env) fp).env.scope = relS scope X.env.scope := rfl
    rw [e]
    rcases h with h | h
    · have q : (relS scope X.env.scope).names.lookup n = some .local := rel_keep (by decide) h
      exact ⟨.inl q, .inr q⟩
    · have q : (relS scope X.env.scope).names.lookup n = some .cell := rel_keep (by decide) h
      refine ⟨.inr q, .inl ?_⟩
      show (scope.names.lookup n == some NameKind.cell) = true
      have h' : scope.names.lookup n = some .cell := h
      rw [h']
      rfl
  pass := .never
  tk := takes0
  free := x.free
  gcd := x.gcd
  fns := fun f ps h => by
    obtain ⟨a, fd, k, h1, h2, h3, h5, h4⟩ := (x.fns f ps h).ex
    exact ⟨a, fd, k, h1, h2, h3, h5, h4⟩
  ex := x.ex
  fld := x.fld
  top := x.top
  rm := x.rm
  ci := x.ci
  cs := x.cs
  ct := x.ct
  bs := x.bs
  hear := x.hear
  stk := fun z => absurd (show false = true from z) Bool.false_ne_true
  lamOk := x.lamOk
theorem look_mem {α : Type} : ∀ {l : List (Str × α)} {x : Str} {k : α}, l.lookup x = some k → (x, k) ∈ l
  | (n, k') :: r, x, k, h => by
    rw [List.lookup_cons] at h
    cases hb : x == n with
    | true =>
      rw [hb] at h
      cases h
      have e : x = n := by simpa using hb
      subst e
      exact List.mem_cons_self
    | false =>
      rw [hb] at h
      exact List.mem_cons_of_mem _ (look_mem h)
theorem tgt_own {sc scope : Scope} {own : List (Str × Nat)} (ok : BlkOk s.N sc scope own) (nd : s.N.Nodup) (n : N) : (∀ e, chkG (blkS s scope) n e = true → ∀ i, asgT n i = true → i ∈ own.map (·.2)) ∧ ∀ es, chkGs (blkS s scope) n es = true → ∀ i, asgT n i = true → i ∈ own.map (·.2) := by
  induction n with
  | nil => exact ⟨fun e _ i h => (by cases h), fun e _ i h => (by cases h)⟩
  | tn j =>
    refine ⟨fun e h i hi => ?_, fun e h => (by unfold chkGs at h; cases h)⟩
    have ei : j = i := by simpa [asgT] using hi
    subst ei
    unfold chkG at h
    split at h
    · rename_i x pos
      simp only [Bool.and_eq_true, decide_eq_true_eq] at h
      obtain ⟨h1, h2⟩ := h
      have h1 : s.N[j]? = some x := h1
      unfold stB at h2
      simp only [Bool.or_eq_true, decide_eq_true_eq] at h2
      have key : ∀ k, scope.names.lookup x = some k → (k = .local ∨ k = .cell) → j ∈ own.map (·.2) := fun k hk hk2 => by
        have hm : (x, k) ∈ scope.names := look_mem hk
        rcases ok.own _ hm hk2 with z | z
        · obtain ⟨p, hp, e⟩ := List.mem_map.mp z
          have q := ok.ix p hp
          have e : p.1 = x := e
          rw [e] at q
          have := (List.getElem?_inj (List.getElem?_eq_some_iff.mp h1).1 nd).mp (h1.trans q.symm)
          exact List.mem_map.mpr ⟨p, hp, this.symm⟩
        · exact absurd (List.mem_of_getElem? h1) z
      rcases h2 with h2 | h2
      · exact key _ h2 (.inl rfl)
      · exact key _ h2 (.inr rfl)
    · cases h
  | tt es ih =>
    refine ⟨fun e h i hi => ?_, fun e h => (by unfold chkGs at h; cases h)⟩
    unfold chkG at h
    split at h
    · exact ih.2 _ h i hi
    · cases h
  | cons a b iha ihb =>
    refine ⟨fun e h => (by unfold chkG at h; cases h), fun es h i hi => ?_⟩
    cases es with
    | nil => unfold chkGs at h; cases h
    | cons y ys =>
      unfold chkGs at h
      simp only [Bool.and_eq_true] at h
      have hi : (asgT a i || asgT b i) = true := hi
      rcases Bool.or_eq_true_iff.mp hi with z | z
      · exact iha.1 _ h.1.2 i z
      · exact ihb.2 _ h.2 i z
  | _ => exact ⟨fun e h => (by unfold chkG at h; cases h), fun es h => (by unfold chkGs at h; cases h)⟩
theorem wipe_get {σ : L2.St} {i : Nat} : ∀ {vs : List Nat}, i ∉ vs → (L2.wipe σ vs)[i]? = σ[i]?
  | [], _ => rfl
  | v :: vs, h => by
    unfold L2.wipe
    simp only [List.mem_cons, not_or] at h
    rw [List.getElem?_set_ne (Ne.symm h.1)]
    exact wipe_get h.2
theorem wipe_in {σ : L2.St} {i : Nat} (hl : i < σ.length) : ∀ {vs : List Nat}, i ∈ vs → (L2.wipe σ vs)[i]? = some none
  | v :: vs, h => by
    unfold L2.wipe
    by_cases e : v = i
    · subst e
      rw [List.getElem?_set_self (by rw [wipe_length]; exact hl)]
    · rw [List.getElem?_set_ne e]
      rcases List.mem_cons.mp h with z | z
      · exact absurd z.symm e
      · exact wipe_in hl z
theorem wipe_eq {σ σ2 : L2.St} {vs : List Nat} (hl : σ2.length = σ.length) (h : ∀ i, i ∉ vs → σ2[i]? = σ[i]?) : L2.wipe σ2 vs = L2.wipe σ vs := by
  refine List.ext_getElem? fun i => ?_
  by_cases hi : i ∈ vs
  · by_cases hlt : i < σ.length
    · rw [wipe_in hlt hi, wipe_in (by omega) hi]
    · rw [List.getElem?_eq_none (by rw [wipe_length]; omega), List.getElem?_eq_none (by rw [wipe_length]; omega)]
  · rw [wipe_get hi, wipe_get hi, h i hi]
theorem wipe_wipe {σ : L2.St} {vs : List Nat} : L2.wipe (L2.wipe σ vs) vs = L2.wipe σ vs := wipe_eq (wipe_length _ _) fun i hi => wipe_get hi

theorem PTs.imp {es : List Expr} {t t' : TT} (h : PTs X es t) (k : ∀ σ H Q, t' σ H Q → t σ H Q) : PTs X es t' := ⟨fun pins st σ H Q I q => h.run pins st σ H Q I (k _ _ _ q)⟩
theorem c_nil {es : List Expr} (h : chkC s .nil es = true) : PTs X es (tTs g fr W C .nil) := by
  unfold chkC at h
  split at h
  · refine PTs.imp pts_nil fun σ H Q ⟨w, env, S, G, P⟩ => ?_
    rw [evT] at P
    exact P w H true G .refl rfl
  · cases h
theorem c_cons {a b : N} (ia : Snd g fr C a) (x : XOk g C s X W) (es : List Expr) (h : chkC s (.cons a b) es = true) : PTs X es (tTs g fr W C (.cons a b)) := by
  cases b with
  | nil =>
    unfold chkC at h
    split at h
    · refine PTs.imp (pts_one (ia.t x _ h)) fun σ H Q ⟨w, env, S, G, P⟩ => ⟨w, env, S, G, ?_⟩
      rw [evT] at P
      exact P
    · cases h
  | _ => unfold chkC at h; cases h

/-! ### the comprehension -/
def compF (C : Ev) (own : List (Str × Nat)) (elt tg cond : N) (env : Env) (d : D) (S : Store) : Res (Option D) :=
  match bindT tg d (wipeE env own) with
  | none => .st
  | some e => (evT C cond e S).bind fun k S => if k then (ev C elt e S).bind fun y S => .ok (some y) S else .ok none S
theorem Post.noex {α β : Type} {r : Res α} {f : α → Store → Res β} {K : β → Store → Prop} {E E' : Str → D → Store → Prop} (h : Post (r.noex.bind f) K E) : Post r (fun a S => Post (f a S) K E) E' := by
  cases r with
  | ok a S => exact h
  | ex c p S => exact h.elim
  | st => exact h.elim
theorem compL_noex {f : D → Store → Res (Option D)} {E E' : Str → D → Store → Prop} {K : List D → Store → Prop} : ∀ {ds acc : List D} {S : Store}, Post (compL f ds acc S) K E → Post (compL f ds acc S) K E'
  | [], acc, S, h => h
  | d :: ds, acc, S, h => by
    unfold compL at h ⊢
    cases q : f d S with
    | ok o S1 =>
      rw [q] at h
      cases o with
      | none => exact compL_noex (ds := ds) h
      | some y =>
        have h : Post (if acc.length < lim then compL f ds (acc ++ [y]) S1 else .st) K E := h
        show Post (if acc.length < lim then compL f ds (acc ++ [y]) S1 else .st) K E'
        split
        · rename_i hl
          rw [if_pos hl] at h
          exact compL_noex h
        · rename_i hl
          rw [if_neg hl] at h
          exact h.elim
    | ex c p S1 => rw [q] at h; exact h.elim
    | st => rw [q] at h; exact h.elim
theorem foldS {e : Expr} {env : PySem.Env} {s : Sc} {n : N} {p : Bool} {tg : Expr} (h : chkI s p tg n e = true) : ∀ x, foldedSetIterable e env x = pure x := by
  have ne : ∀ es k pos, e ≠ .Set es k pos := fun es k pos q => by
    subst q
    cases n <;> (unfold chkI at h; first | (cases h; done) | (simp at h; done))
  intro x
  cases e <;> first
    | rfl
    | exact absurd rfl (ne _ _ _)
theorem blen (n : N) : (∀ d env env', bindT n d env = some env' → env'.length = env.length) ∧ ∀ ds env env', bindT.bindTs n ds env = some env' → env'.length = env.length := by
  induction n with
  | nil =>
    refine ⟨fun d env env' h => (by unfold bindT at h; cases h), fun ds env env' h => ?_⟩
    cases ds with
    | nil => unfold bindT.bindTs at h; cases h; rfl
    | cons => unfold bindT.bindTs at h; cases h
  | tn i =>
    refine ⟨fun d env env' h => ?_, fun ds env env' h => (by unfold bindT.bindTs at h; cases h)⟩
    unfold bindT at h
    split at h
    · cases h; rw [List.length_set]
    · cases h
  | tt es ih =>
    refine ⟨fun d env env' h => ?_, fun ds env env' h => (by unfold bindT.bindTs at h; cases h)⟩
    cases d with
    | tup ds => exact ih.2 ds env env' h
    | _ => unfold bindT at h; cases h
  | cons a b iha ihb =>
    refine ⟨fun d env env' h => (by unfold bindT at h; cases h), fun ds env env' h => ?_⟩
    cases ds with
    | nil => unfold bindT.bindTs at h; cases h
    | cons d ds =>
      unfold bindT.bindTs at h
      cases q : bindT a d env with
      | none => rw [q] at h; cases h
      | some e1 =>
        rw [q] at h
        rw [ihb.2 ds e1 env' h, iha.1 d env e1 q]
  | _ => exact ⟨fun d env env' h => (by unfold bindT at h; cases h), fun ds env env' h => (by unfold bindT.bindTs at h; cases h)⟩
theorem bindT_len {d : D} {env env' : Env} {n : N} (h : bindT n d env = some env') : env'.length = env.length := (blen n).1 d env env' h
theorem ext_own {w1 w : Wd} {H1 H : Hp} {D : Addr} {o : HO} (E : Ext w1 H1 w H) (hD : H1 D = none) : Ext w1 H1 w (upd H D o) :=
  { keep := fun a u q n t => by rw [upd_ne (ne_of_none q hD)]; exact E.keep a u q n t
    dom := fun a q => by
      by_cases e : a = D
      · rw [e]; exact hD
      · rw [upd_ne e] at q; exact E.dom a q
    fz := E.fz
    fzn := E.fzn
    mu := E.mu
    mun := E.mun }
theorem per_own {w : Wd} {H : Hp} {D : Addr} {vs vs' : List V} (hq : H D = some (.lst vs)) (nf : ¬ w.fz D) : Per w H w (upd H D (.lst vs')) :=
  { tup := fun a xs h => by rw [upd_ne (fun e => by rw [e, hq] at h; cases h)]; exact h
    frz := fun a o u h => by rw [upd_ne (fun e => by rw [e, hq] at h; cases h)]; exact h
    lst := fun a xs h z => ⟨by rw [upd_ne (fun e => nf (by rw [← e]; exact z))]; exact h, z⟩
    mu := fun _ _ h => h
    xd := fun a fs h => by rw [upd_ne (fun e => by rw [e, hq] at h; cases h)]; exact h }
theorem wok_own {w : Wd} {H : Hp} {S : Store} {D : Addr} {vs vs' : List V} (k : WOk g w H S) (hq : H D = some (.lst vs)) (nf : ¬ w.fz D) (nm : D ∉ w.mu) : WOk g w (upd H D (.lst vs')) S := by
  refine ⟨k.len, k.nd, fun n a c e1 e2 => (k.cell n a c e1 e2).per (per_own hq nf) fun kus ck q => ?_, fun a z => ?_, tabs_lst k.tab hq⟩
  · rw [upd_ne (fun e => by rw [e, hq] at q; cases q; exact ck.lst)]; exact q
  · obtain ⟨z1, xs, z2⟩ := k.fz a z
    exact ⟨z1, xs, by rw [upd_ne (fun e => nf (by rw [← e]; exact z))]; exact z2⟩
/-- what the rules of comprehensions ask -/
structure CompR (g : G) (fr : Frm) (W : WX) (C : Ev) (X : Cx) (n : N) (own : List (Str × Nat)) (ex te ye : Expr) (ifs : List Expr) (scope : Scope) (wi : TI) (gg : TG) (tt : TT) (tee : TE) : Prop where
  hi : PI X te ye wi
  ok : BlkOk X.N X.env.scope scope own
  hg : ∀ (st : Shared) (H : Hp) (A : Addr) (cl : List (Str × Addr)) (fp : List Addr), PG (X.blk st H scope (compEnvC scope cl A X.env) fp) te gg
  ht : ∀ (st : Shared) (H : Hp) (A : Addr) (cl : List (Str × Addr)) (fp : List Addr), PTs (X.blk st H scope (compEnvC scope cl A X.env) fp) ifs tt
  he : ∀ (st : Shared) (H : Hp) (A : Addr) (cl : List (Str × Addr)) (fp : List Addr), PE (X.blk st H scope (compEnvC scope cl A X.env) fp) ex tee
  hs : ∀ v, foldedSetIterable ye X.env v = pure v
  im : ∀ σ H Q, tN g fr W C true n σ H Q → tLc wi gg tt tee (own.map (·.2)) σ H Q
theorem comp_parts {own : List (Str × Nat)} {elt tg it cond : N} (ie : Snd g fr C elt) (ig : Snd g fr C tg) (ii : Snd g fr C it) (ic : Snd g fr C cond) (x : XOk g C s X W) (p : Bool) (e : Expr) (h : chk s p (.comp own elt tg it cond) e = true) :
    ∃ ex te ye ifs scope pos wi gg tt tee, e = .ListComp ex [⟨te, ye, ifs, 0⟩] scope pos ∧ CompR g fr W C X (.comp own elt tg it cond) own ex te ye ifs scope wi gg tt tee := by
  unfold chk at h
  split at h
  · rename_i ex te ye ifs scope pos
    simp only [Bool.and_eq_true] at h
    obtain ⟨⟨⟨⟨h1, h2⟩, h3⟩, h4⟩, h5⟩ := h
    have h3 : chkG (blkS s scope) tg te = true := h3
    have ok0 := blkOk_by h2
    have ok : BlkOk X.N X.env.scope scope own := by rw [x.N, x.sc]; exact ok0
    refine ⟨ex, te, ye, ifs, scope, pos, tI g fr W C true it, tGt g fr tg, tTs g fr (fun _ _ _ _ => False) C cond, tE g fr (fun _ _ _ _ => False) C elt, rfl, ii.i x true te ye h1, ok, fun st H A cl fp => ig.tgt (x.blk ok st H A cl fp) _ h3, fun st H A cl fp => ic.c (x.blk ok st H A cl fp) _ h4,
      fun st H A cl fp => ie.e (x.blk ok st H A cl fp) false _ h5, foldS h1, fun σ H Q ⟨w, env, S, G, P⟩ => ?_⟩
    rw [ev] at P
    refine ⟨w, env, S, G, P.bind.imp (fun ds S1 P1 w1 H1 J G1 E1 itok D hD => ?_) fun _ _ _ x => x⟩
    have P1 : Post (compL (compF C own elt tg cond env) ds [] S1) (fun xs S' => ∀ w' H' v, OutN g true w H S' (.lst xs) w' H' v → Q v H') (fun _ _ _ => False) := compL_noex P1.bind
    have Gw := G1.wipe own
    let Pv : Nat → Hp → Prop := fun i H2 => ∃ w2 S2 acc vs, Ext w1 H1 w2 H2 ∧ WOk g w2 H2 S2 ∧ H2 D = some (.lst vs) ∧ Reps g H2 w2 acc vs ∧ ¬ w2.fz D ∧ D ∉ w2.mu ∧ Post (compL (compF C own elt tg cond env) (ds.drop i) acc S2) (fun xs S' => ∀ w' H' v, OutN g true w H S' (.lst xs) w' H' v → Q v H') (fun _ _ _ => False)
    refine ⟨fun i m H2 => m = ds.length - i ∧ i ≤ ds.length ∧ Pv i H2, ⟨ds.length, by simp, Nat.zero_le _, ?_⟩, ?_⟩
    · refine ⟨w1, S1, [], [], .newT hD, G1.wok.newT hD, upd_same, .nil, fun z => ?_, G1.wok.nmu hD, P1⟩
      obtain ⟨_, _, q⟩ := G1.wok.fz D z
      rw [q] at hD; cases hD
    · rintro i m H2 ⟨rfl, hi, w2, S2, acc, vs, E2, ok2, hq, rs, nf, nm, P2⟩
      by_cases hlt : i < ds.length
      · right
        obtain ⟨jgo, jy⟩ := itok.go i w2 H2 S2 ds[i] ok2 (show RelB true w1 H1 w2 H2 from E2) (List.getElem?_eq_getElem hlt)
        refine ⟨jgo, Pv (i + 1), fun H' q => ⟨ds.length - (i + 1), by omega, rfl, hlt, q⟩, fun v H3 y => ?_⟩
        obtain ⟨E3, ok3, r3⟩ := jy v H3 y
        rw [List.drop_eq_getElem_cons hlt] at P2
        unfold compL at P2
        have P3 : Post (compF C own elt tg cond env ds[i] S2) _ (fun _ _ _ => False) := P2.noex
        unfold compF at P3
        have hq3 : H3 D = some (.lst vs) := E3.keep D _ hq nm (fun _ z => by cases z)
        have rs3 := rs.per (E3.per ok2)
        have E13 := E2.trans E3
        split at P3
        · exact P3.elim
        · rename_i env' hb
          refine ⟨w2, wipeE env own, S2, ds[i], env', Gw.step E13 ok3, r3, hb, fun σ2 G2 A2 => ⟨?_, ?_⟩⟩
          · rw [wipe_eq (σ := L2.wipe σ (own.map (·.2))) ?_ ?_, wipe_wipe]
            · rw [← G2.len, ← Gw.len]
              exact bindT_len hb
            · intro j hj
              refine (A2 j ?_).2
              cases q : asgT tg j with
              | false => rfl
              | true => exact absurd ((tgt_own ok0 x.nd tg).1 _ h3 j q) hj
          · refine ⟨w2, env', S2, G2, (P3.bind).imp (fun k S4 P4 w4 H4 b G4 E4 eb => ?_) fun _ _ _ z => z.elim⟩
            cases eb
            have hq4 : H4 D = some (.lst vs) := E4.keep D _ hq3 nm (fun _ z => by cases z)
            have nf4 : ¬ w4.fz D := fun z => (E4.fzn D z).elim nf fun q => by rw [q] at hq3; cases hq3
            have nm4 : D ∉ w4.mu := fun z => (E4.mun D z).elim nm fun q => by rw [q] at hq3; cases hq3
            have rs4 := rs3.per (E4.per ok3)
            cases k with
            | false =>
              have P4 : Post (compL (compF C own elt tg cond env) (ds.drop (i + 1)) acc S4) _ _ := P4
              rw [if_neg Bool.false_ne_true]
              exact ⟨w4, S4, acc, vs, E13.trans E4, G4.wok, hq4, rs4, nf4, nm4, P4⟩
            | true =>
              have P4 : Post ((ev C elt env' S4).bind fun y S => Res.ok (some y) S) _ _ := P4
              rw [if_pos rfl]
              refine ⟨w4, env', S4, G4, P4.bind.imp (fun d S5 P5 w5 H5 v5 G5 E5 r5 => ?_) fun _ _ _ z => z.elim⟩
              have P5 : Post (if acc.length < lim then compL (compF C own elt tg cond env) (ds.drop (i + 1)) (acc ++ [d]) S5 else .st) _ _ := P5
              have hq5 : H5 D = some (.lst vs) := E5.keep D _ hq4 nm4 (fun _ z => by cases z)
              have nf5 : ¬ w5.fz D := fun z => (E5.fzn D z).elim nf4 fun q => by rw [q] at hq4; cases hq4
              have nm5 : D ∉ w5.mu := fun z => (E5.mun D z).elim nm4 fun q => by rw [q] at hq4; cases hq4
              have rs5 := rs4.per (E5.per G4.wok)
              split at P5
              · rename_i hl
                refine ⟨vs, hq5, by rw [← limE, ← rs.length]; exact hl, w5, S5, acc ++ [d], vs ++ [v5], ?_, ?_, upd_same, ?_, nf5, nm5, P5⟩
                · exact ext_own (E13.trans (E4.trans E5)) hD
                · exact wok_own G5.wok hq5 nf5 nm5
                · exact (rs5.snoc r5).per (per_own (vs' := vs ++ [v5]) hq5 nf5)
              · exact P5.elim
      · have e1 : i = ds.length := by omega
        subst e1
        left
        refine ⟨itok.stop w2 H2 S2 ok2 (show RelB true w1 H1 w2 H2 from E2), ?_⟩
        rw [List.drop_length] at P2
        exact P2 w2 H2 (.ref D) (.new (E1.trans E2) ok2 (E1.dom _ hD) nf nm hq rs)
  · cases h
theorem e_comp {own : List (Str × Nat)} {elt tg it cond : N} (ie : Snd g fr C elt) (ig : Snd g fr C tg) (ii : Snd g fr C it) (ic : Snd g fr C cond) (x : XOk g C s X W) (p : Bool) (e : Expr) (h : chk s p (.comp own elt tg it cond) e = true) : PE X e (tN g fr W C true (.comp own elt tg it cond)) := by
  obtain ⟨ex, te, ye, ifs, scope, pos, wi, gg, tt, tee, rfl, r⟩ := comp_parts ie ig ii ic x p e h
  exact PE.imp (pe_lc x.calm (by rw [x.N]; exact x.nd) r.hi r.ok r.hg r.ht r.he r.hs) r.im

/-! ### two clauses -/
theorem tgL_of (n : N) : ∀ i, asgT n i = true → i ∈ tgL n := by
  induction n with
  | tn j => intro i h; simp [asgT] at h; simp [tgL, h]
  | tt es ih => intro i h; exact ih i h
  | cons a b iha ihb =>
    intro i h
    have h : (asgT a i || asgT b i) = true := h
    rcases Bool.or_eq_true_iff.mp h with h | h
    · exact List.mem_append_left _ (iha i h)
    · exact List.mem_append_right _ (ihb i h)
  | _ => intro i h; cases h
/-- a target writes values -/
theorem bind_val (n : N) : (∀ d env env' i xs, bindT n d env = some env' → env'[i]? = some (.own xs) → asgT n i = false ∧ env[i]? = some (.own xs)) ∧ ∀ ds env env' i xs, bindT.bindTs n ds env = some env' → env'[i]? = some (.own xs) → asgT n i = false ∧ env[i]? = some (.own xs) := by
  induction n with
  | nil =>
    refine ⟨fun d env env' i xs h => (by unfold bindT at h; cases h), fun ds env env' i xs h h2 => ?_⟩
    cases ds with
    | nil => unfold bindT.bindTs at h; cases h; exact ⟨rfl, h2⟩
    | cons => unfold bindT.bindTs at h; cases h
  | tn j =>
    refine ⟨fun d env env' i xs h h2 => ?_, fun ds env env' i xs h => (by unfold bindT.bindTs at h; cases h)⟩
    unfold bindT at h
    split at h
    · cases h
      rcases getset h2 with ⟨_, e⟩ | ⟨e, h2⟩
      · cases e
      · exact ⟨by simpa [asgT] using e, h2⟩
    · cases h
  | tt es ih =>
    refine ⟨fun d env env' i xs h h2 => ?_, fun ds env env' i xs h => (by unfold bindT.bindTs at h; cases h)⟩
    cases d with
    | tup ds => exact ih.2 ds env env' i xs h h2
    | _ => unfold bindT at h; cases h
  | cons a b iha ihb =>
    refine ⟨fun d env env' i xs h => (by unfold bindT at h; cases h), fun ds env env' i xs h h2 => ?_⟩
    cases ds with
    | nil => unfold bindT.bindTs at h; cases h
    | cons d ds =>
      unfold bindT.bindTs at h
      cases q : bindT a d env with
      | none => rw [q] at h; cases h
      | some e1 =>
        rw [q] at h
        obtain ⟨a1, a2⟩ := ihb.2 ds e1 env' i xs h h2
        obtain ⟨a3, a4⟩ := iha.1 d env e1 i xs q a2
        exact ⟨Bool.or_eq_false_iff.mpr ⟨a3, a1⟩, a4⟩
  | _ => exact ⟨fun d env env' i xs h => (by unfold bindT at h; cases h), fun ds env env' i xs h => (by unfold bindT.bindTs at h; cases h)⟩
/-- the list that grows -/
structure AccS (g : G) (w1 : Wd) (H1 : Hp) (A : Addr) (acc : List D) (w : Wd) (H : Hp) (S : Store) : Prop where
  ex : Ext w1 H1 w H
  ok : WOk g w H S
  val : ∃ vs, H A = some (.lst vs) ∧ Reps g H w acc vs
  nf : ¬ w.fz A
  nm : A ∉ w.mu
  new : H1 A = none
section
variable {w1 w w' : Wd} {H1 H H' : Hp} {A : Addr} {acc : List D} {S S' : Store}
theorem AccS.step (a : AccS g w1 H1 A acc w H S) (e : Ext w H w' H') (k : WOk g w' H' S') : AccS g w1 H1 A acc w' H' S' := by
  obtain ⟨vs, h, r⟩ := a.val
  refine ⟨a.ex.trans e, k, ⟨vs, e.keep A _ h a.nm (fun _ z => by cases z), r.per (e.per a.ok)⟩, fun z => (e.fzn A z).elim a.nf fun q => ?_, fun z => (e.mun A z).elim a.nm fun q => ?_, a.new⟩
  · rw [q] at h; cases h
  · rw [q] at h; cases h
theorem AccS.app (a : AccS g w1 H1 A acc w H S) {d : D} {v : V} (r : Rep g H w d v) : ∃ vs, H A = some (.lst vs) ∧ vs.length = acc.length ∧ AccS g w1 H1 A (acc ++ [d]) w (upd H A (.lst (vs ++ [v]))) S ∧ Per w H w (upd H A (.lst (vs ++ [v]))) := by
  obtain ⟨vs, h, rs⟩ := a.val
  exact ⟨vs, h, rs.length.symm, ⟨ext_own a.ex a.new, wok_own a.ok h a.nf a.nm, ⟨_, upd_same, (rs.snoc r).per (per_own (vs' := vs ++ [v]) h a.nf)⟩, a.nf, a.nm, a.new⟩, per_own h a.nf⟩
theorem RepT.updL {d : D} {v : V} {vs vs' : List V} (r : RepT g H w d v) (h : H A = some (.lst vs)) (nf : ¬ w.fz A) (ne : v ≠ .ref A) : RepT g (upd H A (.lst vs')) w d v := by
  cases r with
  | rep r => exact .rep (r.per (per_own h nf))
  | own q r => exact .own (by rw [upd_ne fun z => ne (by rw [z])]; exact q) (r.per (per_own h nf))
/-- a list that no slot holds grows -/
theorem Good.grow {σ : L2.St} {env : Env} {vs vs' : List V} (G : Good g fr σ H w env S) (h : H A = some (.lst vs)) (nf : ¬ w.fz A) (nm : A ∉ w.mu) (n0 : fr.H0 A = none) (no : ∀ (i : Nat) (xs : List D), env[i]? = some (Sl.own xs) → σ[i]? ≠ some (some (V.ref A))) :
    Good g fr σ (upd H A (.lst vs')) w env S := by
  have P : Per w H w (upd H A (.lst vs')) := per_own h nf
  refine ⟨wok_own G.wok h nf nm, ext_own G.ext n0, G.len, fun j t o q1 q2 => ?_, G.sep⟩
  have z := G.sl j t o q1 q2
  cases z with
  | un => exact .un
  | val z => exact .val (z.per P)
  | @own ys b us z1 z2 z3 z4 =>
    have ne : b ≠ A := fun e' => by
      subst e'
      exact no j ys q1 q2
    exact .own (by rw [upd_ne ne]; exact z1) (z2.per P) z3 z4
  | bor z1 z2 => exact .bor (z1.updL h nf fun e => z2 _ e n0) z2
end
def comp2F (C : Ev) (own own1 : List (Str × Nat)) (elt tg cond tg1 it1 cond1 : N) (env : Env) (d : D) (acc : List D) (S : Store) : Res (List D) :=
  match bindT tg d (wipeE env own) with
  | none => .st
  | some e => (evT C cond e S).bind fun k S => if k then (evI C it1 e S).bind fun ds1 S => compL (compF C own1 elt tg1 cond1 e) ds1 acc S else .ok acc S
theorem comp2L_noex {f : D → List D → Store → Res (List D)} {E E' : Str → D → Store → Prop} {K : List D → Store → Prop} : ∀ {ds acc : List D} {S : Store}, Post (comp2L f ds acc S) K E → Post (comp2L f ds acc S) K E'
  | [], acc, S, h => h
  | d :: ds, acc, S, h => by
    unfold comp2L at h ⊢
    cases q : f d acc S with
    | ok o S1 =>
      rw [q] at h
      exact comp2L_noex (ds := ds) h
    | ex c p S1 => rw [q] at h; exact h.elim
    | st => rw [q] at h; exact h.elim
theorem e_comp2 {own own1 : List (Str × Nat)} {elt tg it cond tg1 it1 cond1 : N} (ie : Snd g fr C elt) (ig : Snd g fr C tg) (ii : Snd g fr C it) (ic : Snd g fr C cond) (ig1 : Snd g fr C tg1) (ii1 : Snd g fr C it1) (ic1 : Snd g fr C cond1) (x : XOk g C s X W) (p : Bool) (e : Expr)
    (h : chk s p (.comp2 own own1 elt tg it cond tg1 it1 cond1) e = true) : PE X e (tN g fr W C true (.comp2 own own1 elt tg it cond tg1 it1 cond1)) := by
  unfold chk at h
  split at h
  · rename_i ex te ye ifs te1 ye1 ifs1 scope pos
    simp only [Bool.and_eq_true] at h
    obtain ⟨⟨⟨⟨⟨⟨⟨⟨⟨h1, h2⟩, hsub⟩, htg1⟩, h3⟩, h4⟩, h5⟩, h6⟩, h7⟩, h8⟩ := h
    have h3 : chkG (blkS s scope) tg te = true := h3
    have ok0 := blkOk_by h2
    have ok : BlkOk X.N X.env.scope scope own := by rw [x.N, x.sc]; exact ok0
    have hv : ∀ i ∈ own1.map (·.2), i ∈ own.map (·.2) := fun i hi => by
      obtain ⟨q, hq, rfl⟩ := List.mem_map.mp hi
      have := List.all_eq_true.mp hsub q hq
      simpa using this
    have ht1 : ∀ i, asgT tg1 i = true → i ∈ own1.map (·.2) := fun i hi => by
      have := List.all_eq_true.mp htg1 i (tgL_of tg1 i hi)
      simpa using this
    refine PE.imp (pe_lc2 (vs1 := own1.map (·.2)) x.calm (by rw [x.N]; exact x.nd) (ii.i x true te ye h1) ok hv (fun st H A cl fp => ig.tgt (x.blk ok st H A cl fp) _ h3) (fun st H A cl fp => ic.c (x.blk ok st H A cl fp) _ h4)
      (fun st H A cl fp => ii1.i (x.blk ok st H A cl fp) false te1 ye1 h5) (fun st H A cl fp => ig1.tgt (x.blk ok st H A cl fp) _ h6) (fun st H A cl fp => ic1.c (x.blk ok st H A cl fp) _ h7) (fun st H A cl fp => ie.e (x.blk ok st H A cl fp) false _ h8) (foldS h1) (fun env => foldS h5)) fun σ H Q ⟨w, env, S, G, P⟩ => ?_
    rw [ev] at P
    refine ⟨w, env, S, G, P.bind.imp (fun ds S1 P1 w1 H1 J G1 E1 itok D hD => ?_) fun _ _ _ x => x⟩
    have P1 : Post (comp2L (comp2F C own own1 elt tg cond tg1 it1 cond1 env) ds [] S1) (fun xs S' => ∀ w' H' v, OutN g true w H S' (.lst xs) w' H' v → Q v H') (fun _ _ _ => False) := comp2L_noex P1.bind
    have Gw := G1.wipe own
    generalize hKK : (fun xs S' => ∀ w' H' v, OutN g true w H S' (.lst xs) w' H' v → Q v H') = KK at P1
    let Pv : Nat → Hp → Prop := fun i H2 => ∃ w2 S2 acc, AccS g w1 H1 D acc w2 H2 S2 ∧ Post (comp2L (comp2F C own own1 elt tg cond tg1 it1 cond1 env) (ds.drop i) acc S2) KK (fun _ _ _ => False)
    refine ⟨fun i m H2 => m = ds.length - i ∧ i ≤ ds.length ∧ Pv i H2, ⟨ds.length, by simp, Nat.zero_le _, ?_⟩, ?_⟩
    · refine ⟨w1, S1, [], ⟨.newT hD, G1.wok.newT hD, ⟨[], upd_same, .nil⟩, fun z => ?_, G1.wok.nmu hD, hD⟩, P1⟩
      obtain ⟨_, _, q⟩ := G1.wok.fz D z
      rw [q] at hD; cases hD
    · rintro i m H2 ⟨rfl, hi, w2, S2, acc, A2, P2⟩
      by_cases hlt : i < ds.length
      · right
        obtain ⟨jgo, jy⟩ := itok.go i w2 H2 S2 ds[i] A2.ok (show RelB true w1 H1 w2 H2 from A2.ex) (List.getElem?_eq_getElem hlt)
        refine ⟨jgo, Pv (i + 1), fun H' q => ⟨ds.length - (i + 1), by omega, rfl, hlt, q⟩, fun v H3 y => ?_⟩
        obtain ⟨E3, ok3, r3⟩ := jy v H3 y
        rw [List.drop_eq_getElem_cons hlt] at P2
        unfold comp2L at P2
        have P3 : Post (comp2F C own own1 elt tg cond tg1 it1 cond1 env ds[i] acc S2) _ (fun _ _ _ => False) := P2.noex
        unfold comp2F at P3
        have A3 := A2.step E3 ok3
        split at P3
        · exact P3.elim
        · rename_i env' hb
          refine ⟨w2, wipeE env own, S2, ds[i], env', Gw.step A3.ex ok3, r3, hb, fun σ2 G2 B2 => ⟨?_, ?_⟩⟩
          · rw [wipe_eq (σ := L2.wipe σ (own.map (·.2))) ?_ ?_, wipe_wipe]
            · rw [← G2.len, ← Gw.len]
              exact bindT_len hb
            · intro j hj
              refine (B2 j ?_).2
              cases q : asgT tg j with
              | false => rfl
              | true => exact absurd ((tgt_own ok0 x.nd tg).1 _ h3 j q) hj
          · -- no slot holds the new list
            have nsl : ∀ (j : Nat) (xs : List Fx.D), env'[j]? = some (Sl.own xs) → σ2[j]? ≠ some (some (V.ref D)) := fun j xs hj hz => by
              obtain ⟨b1, b2⟩ := (bind_val tg).1 _ _ _ j xs hb hj
              rw [(B2 j b1).2] at hz
              obtain ⟨a, us, q1, q2, _⟩ := Gw.own b2
              rw [hz] at q1
              cases q1
              rw [hD] at q2
              cases q2
            have n0 : fr.H0 D = none := G1.ext.dom _ hD
            refine ⟨w2, env', S2, G2, (P3.bind).imp (fun k S4 P4 w4 H4 b G4 E4 eb => ?_) fun _ _ _ z => z.elim⟩
            cases eb
            have A4 := A3.step E4 G4.wok
            cases k with
            | false =>
              have P4 : Post (comp2L (comp2F C own own1 elt tg cond tg1 it1 cond1 env) (ds.drop (i + 1)) acc S4) KK _ := P4
              rw [if_neg Bool.false_ne_true]
              exact ⟨w4, S4, acc, A4, P4⟩
            | true =>
              have P4 : Post ((evI C it1 env' S4).bind fun ds1 S => compL (compF C own1 elt tg1 cond1 env') ds1 acc S) (fun acc' S' => Post (comp2L (comp2F C own own1 elt tg cond tg1 it1 cond1 env) (ds.drop (i + 1)) acc' S') KK (fun _ _ _ => False)) _ := P4
              rw [if_pos rfl]
              refine ⟨w4, env', S4, G4, P4.bind.imp (fun ds1 S5 P5 w5 H5 J1 G5 E5 itok1 => ?_) fun _ _ _ z => z.elim⟩
              have P5 := compL_noex (E' := fun _ _ _ => False) P5
              have A5 := A4.step E5 G5.wok
              let Pw : Nat → Hp → Prop := fun j H6 => ∃ w6 S6 acc6, AccS g w1 H1 D acc6 w6 H6 S6 ∧ Good g fr σ2 H6 w6 env' S6 ∧ Per w5 H5 w6 H6 ∧ Post (compL (compF C own1 elt tg1 cond1 env') (ds1.drop j) acc6 S6) (fun acc' S' => Post (comp2L (comp2F C own own1 elt tg cond tg1 it1 cond1 env) (ds.drop (i + 1)) acc' S') KK (fun _ _ _ => False)) (fun _ _ _ => False)
              refine ⟨fun j m H6 => m = ds1.length - j ∧ j ≤ ds1.length ∧ Pw j H6, ⟨ds1.length, by simp, Nat.zero_le _, w5, S5, acc, A5, G5, .refl, P5⟩, ?_⟩
              rintro j m H6 ⟨rfl, hj, w6, S6, acc6, A6, G6, p6, P6⟩
              by_cases hlt1 : j < ds1.length
              · right
                obtain ⟨jgo1, jy1⟩ := itok1.go j w6 H6 S6 ds1[j] G6.wok (show RelB false w5 H5 w6 H6 from p6) (List.getElem?_eq_getElem hlt1)
                refine ⟨jgo1, Pw (j + 1), fun H' q => ⟨ds1.length - (j + 1), by omega, rfl, hlt1, q⟩, fun v1 H7 y1 => ?_⟩
                obtain ⟨E7, ok7, r7⟩ := jy1 v1 H7 y1
                rw [List.drop_eq_getElem_cons hlt1] at P6
                unfold compL at P6
                have P7 : Post (compF C own1 elt tg1 cond1 env' ds1[j] S6) _ (fun _ _ _ => False) := P6.noex
                unfold compF at P7
                have A7 := A6.step E7 ok7
                have G7 := G6.step E7 ok7
                have Gw7 := G7.wipe own1
                split at P7
                · exact P7.elim
                · rename_i env1 hb1
                  refine ⟨w6, wipeE env' own1, S6, ds1[j], env1, Gw7, r7, hb1, fun σ3 G8 B8 => ⟨?_, ?_⟩⟩
                  · rw [wipe_eq (σ := L2.wipe σ2 (own1.map (·.2))) ?_ ?_, wipe_wipe]
                    · rw [← G8.len, ← Gw7.len]
                      exact bindT_len hb1
                    · intro j' hj'
                      refine (B8 j' ?_).2
                      cases q : asgT tg1 j' with
                      | false => rfl
                      | true => exact absurd (ht1 j' q) hj'
                  · refine ⟨w6, env1, S6, G8, (P7.bind).imp (fun k1 S9 P9 w9 H9 b1 G9 E9 eb1 => ?_) fun _ _ _ z => z.elim⟩
                    cases eb1
                    have A9 := A7.step E9 G9.wok
                    have G9' := G7.step E9 G9.wok
                    have p9 := p6.trans ((E7.per G6.wok).trans (E9.per ok7))
                    cases k1 with
                    | false =>
                      have P9 : Post (compL (compF C own1 elt tg1 cond1 env') (ds1.drop (j + 1)) acc6 S9) _ _ := P9
                      rw [if_neg Bool.false_ne_true]
                      exact ⟨w9, S9, acc6, A9, G9', p9, P9⟩
                    | true =>
                      have P9 : Post ((ev C elt env1 S9).bind fun y S => Res.ok (some y) S) _ _ := P9
                      rw [if_pos rfl]
                      refine ⟨w9, env1, S9, G9, P9.bind.imp (fun dd Sa Pa wa Ha va Ga Ea ra => ?_) fun _ _ _ z => z.elim⟩
                      have Pa : Post (if acc6.length < lim then compL (compF C own1 elt tg1 cond1 env') (ds1.drop (j + 1)) (acc6 ++ [dd]) Sa else .st) _ _ := Pa
                      have Aa := A9.step Ea Ga.wok
                      have Ga' := G9'.step Ea Ga.wok
                      have pa := p9.trans (Ea.per G9.wok)
                      split at Pa
                      · rename_i hl
                        obtain ⟨vs, q1, q2, q3, q4⟩ := Aa.app ra
                        exact ⟨vs, q1, by rw [← limE, q2]; exact hl, wa, Sa, acc6 ++ [dd], q3, Ga'.grow q1 Aa.nf Aa.nm n0 nsl, pa.trans q4, Pa⟩
                      · exact Pa.elim
              · have e1 : j = ds1.length := by omega
                subst e1
                left
                refine ⟨itok1.stop w6 H6 S6 G6.wok (show RelB false w5 H5 w6 H6 from p6), ?_⟩
                rw [List.drop_length] at P6
                exact ⟨w6, S6, acc6, A6, P6⟩
      · have e1 : i = ds.length := by omega
        subst e1
        left
        refine ⟨itok.stop w2 H2 S2 A2.ok (show RelB true w1 H1 w2 H2 from A2.ex), ?_⟩
        rw [List.drop_length] at P2
        subst hKK
        obtain ⟨vs, hq, rs⟩ := A2.val
        exact P2 w2 H2 (.ref D) (.new (E1.trans A2.ex) A2.ok (E1.dom _ hD) A2.nf A2.nm hq rs)
  · cases h
end
end Fx

set_option maxHeartbeats 2000000
/-! Fd5: the expressions on dicts with tuple keys are sound. -/
namespace Fx
open PySem PySem.Spec PyProof.Rows L2
section
variable {g : G} {fr : Frm} {W : WX} {C : Ev} {s : Sc} {X : Cx}
theorem e_dnT (x : XOk g C s X W) (p : Bool) (e : Expr) (h : chk s p .dnT e = true) : PE X e (tQ g fr W C p .dnT) := by
  unfold chk at h
  split at h
  · refine PE.imp pe_dnewTT fun σ H Q ⟨w, env, S, G, P⟩ => ?_
    rw [ev] at P
    intro q hq sy
    have e2 : Ext w H { w with mu := w.mu ++ [q] } (upd H q (DtO g.P g.wd q [])) := .newC hq
    have k2 := G.wok.newX (p := q) (c0 := .dctT []) (o := DtO g.P g.wd q []) hq (cellT_mk upd_same (Nat.zero_le _) sy List.nodup_nil (fun y hy => by cases hy) .nil)
    rw [x.P, x.wd]
    refine P _ _ _ (G.step e2 k2) e2 (.of (.ref ?_))
    show (w.mu ++ [q])[S.length]? = some q
    rw [← G.wok.len]
    simp
  · cases h
theorem dtAt_of (x : XOk g C s X W) {H : Hp} {a : Addr} {xs : List Ent} {n : Nat} (h : H a = some (DtO g.P g.wd a xs)) (hn : xs.length ≤ sizeLine) (sy : (a == sysModules) = false) (nd : (xs.map (·.1)).Nodup) (at_ : ∀ y ∈ xs, SqT g.K H y.2.1 (y.1.map kV)) : DtAt X H a xs :=
  ⟨by rw [x.P, x.wd]; exact h, nd, by rw [x.K]; exact at_, sy, hn⟩
theorem e_dgetT {d k : N} (ia : Snd g fr C d) (ib : Snd g fr C k) (x : XOk g C s X W) (p : Bool) (e : Expr) (h : chk s p (.dgetT d k) e = true) : PE X e (tQ g fr W C p (.dgetT d k)) := by
  unfold chk at h
  split at h
  · rename_i o y pos
    simp only [Bool.and_eq_true] at h
    obtain ⟨⟨h0, h1⟩, h2⟩ := h
    refine PE.imp (pe_dgetT (by have := x.un; omega) (ia.e x true _ h1) (ib.e x true _ h2) (by cases y <;> first | (exact fun _ _ => rfl) | cases h0)) fun σ H Q ⟨w, env, S, G, P⟩ => ?_
    rw [ev] at P
    refine one_ G P fun d1 S1 w1 H1 v1 G1 E1 R1 P1 => one_ G1 P1 fun d2 S2 w2 H2 v2 G2 E2 R2 P2 => ?_
    obtain ⟨dv, e1, q⟩ := P2.ofO
    cases hk : tkeyD d2 with
    | none => rw [hk] at e1; cases e1
    | some ky =>
      rw [hk] at e1
      have e1 : (dCellT d1 S2).bind (fun kvs => getT kvs ky) = some dv := e1
      cases hc : dCellT d1 S2 with
      | none => rw [hc] at e1; cases e1
      | some kvs =>
        rw [hc] at e1
        have e3 : getT kvs ky = some dv := e1
        obtain ⟨n, a, xs, rfl, rfl, ha, hS, hH, hn, sy, nd, at_, pr⟩ := cellT_of G2.wok (R1.ext G1.wok E2).t hc
        obtain ⟨b, rfl, hb⟩ := tkey_sq hk R2.t
        rcases pr.get (k := ky) with ⟨z, _⟩ | ⟨d', a', u, v, z1, z2, r, ru⟩
        · rw [e3] at z; cases z
        · rw [e3] at z1
          cases z1
          exact ⟨a, b, xs, ky, _, v, rfl, rfl, dtAt_of (n := n) x hH (by rw [← pr.len]; exact hn) sy nd at_, by rw [x.K]; exact hb, z2, ru, q w2 H2 v G2 (E1.trans E2) (.of r)⟩
  · cases h
theorem e_dhasT {neg : Bool} {k d : N} (ik : Snd g fr C k) (id_ : Snd g fr C d) (x : XOk g C s X W) (p : Bool) (e : Expr) (h : chk s p (.dhasT neg k d) e = true) : PE X e (tQ g fr W C p (.dhasT neg k d)) := by
  unfold chk at h
  split at h
  · rename_i l o r pos
    simp only [Bool.and_eq_true, decide_eq_true_eq, Bool.not_eq_true'] at h
    obtain ⟨⟨⟨rfl, h0⟩, h1⟩, h2⟩ := h
    refine PE.imp (pe_cmp (pc_dinT (by have := x.un; omega) (ik.e x true _ h1) (id_.e x true _ h2) neg) h0) fun σ H Q ⟨w, env, S, G, P⟩ => ?_
    rw [ev] at P
    refine one_ G P fun d1 S1 w1 H1 v1 G1 E1 R1 P1 => one_ G1 P1 fun d2 S2 w2 H2 v2 G2 E2 R2 P2 => ?_
    obtain ⟨dv, e1, q⟩ := P2.ofO
    cases hk : tkeyD d1 with
    | none => rw [hk] at e1; cases e1
    | some ky =>
      rw [hk] at e1
      have e1 : (dCellT d2 S2).map (fun kvs => D.bl ((getT kvs ky).isSome != neg)) = some dv := e1
      cases hc : dCellT d2 S2 with
      | none => rw [hc] at e1; cases e1
      | some kvs =>
        rw [hc] at e1
        cases e1
        obtain ⟨n, a, xs, rfl, rfl, ha, hS, hH, hn, sy, nd, at_, pr⟩ := cellT_of G2.wok R2.t hc
        obtain ⟨b, rfl, hb⟩ := tkey_sq hk (R1.ext G1.wok E2).t
        have es : (atKey xs ky).isSome = (getT kvs ky).isSome := by
          rcases pr.get (k := ky) with ⟨z1, z2⟩ | ⟨d', a', u, v, z1, z2, r, ru⟩ <;> rw [z1, z2] <;> rfl
        exact ⟨a, b, xs, ky, rfl, rfl, dtAt_of (n := n) x hH (by rw [← pr.len]; exact hn) sy nd at_, by rw [x.K]; exact hb, by rw [es]; exact q w2 H2 _ G2 (E1.trans E2) (.of (.bl _))⟩
  · cases h
theorem pairs_of {H : Hp} {w : Wd} : ∀ {ds : List D} {vs : List V} {ps : List (List Key × D)}, Reps g H w ds vs → pairsT ds = some ps → ∃ (qs : List (List Key × Addr × V)) (Ts : List Addr), vs = Ts.map V.ref ∧ Paired (fun p T => SqT g.K H T [.ref p.2.1, p.2.2] ∧ SqT g.K H p.2.1 (p.1.map kV)) qs Ts ∧
    qs.length = ds.length ∧ ∀ rs : List Ent, Paired (fun p r => p.1 = r.1 ∧ p.2.1 = r.2.1 ∧ RelV p.2.2 r.2.2) qs rs → Par g H w ps rs ∧ ∀ r ∈ rs, SqT g.K H r.2.1 (r.1.map kV)
  | [], _, ps, .nil, h => by
    cases h
    exact ⟨[], [], rfl, .nil, rfl, fun rs h => by cases h; exact ⟨.nil, fun r hr => by cases hr⟩⟩
  | d :: ds, _, ps, .cons r t, h => by
    unfold pairsT at h
    split at h
    · rename_i e; cases e
    · rename_i k v ds' e
      injection e with e1 e2
      subst e1 e2
      cases h1 : tkeyD k with
      | none => rw [h1] at h; cases h
      | some ky =>
        cases h2 : pairsT ds with
        | none => rw [h1, h2] at h; cases h
        | some ps' =>
          rw [h1, h2] at h
          cases h
          obtain ⟨qs, Ts, rfl, p1, l1, im⟩ := pairs_of t h2
          cases r with
          | tup hT rT => cases rT with
            | cons rk rT => cases rT with
              | cons rv rT =>
                cases rT
                obtain ⟨b, rfl, hb⟩ := tkey_sq h1 (.rep rk)
                refine ⟨(ky, b, _) :: qs, _ :: Ts, rfl, .cons ⟨hT, hb⟩ p1, by rw [List.length_cons, List.length_cons, l1], fun rs hrs => ?_⟩
                cases hrs with
                | @cons _ r' _ rs' a1 a2 =>
                  obtain ⟨c1, c2⟩ := im _ a2
                  obtain ⟨kk, aa, uu⟩ := r'
                  obtain ⟨q1, q2, q3⟩ := a1
                  have q1 : ky = kk := q1
                  have q2 : b = aa := q2
                  subst q1 q2
                  refine ⟨.cons rv q3 c1, fun y hy => ?_⟩
                  rcases List.mem_cons.mp hy with rfl | hy
                  · exact hb
                  · exact c2 y hy
    · cases h
theorem e_dictT {es : N} (ih : Snd g fr C es) (x : XOk g C s X W) (p : Bool) (e : Expr) (h : chk s p (.dictT es) e = true) : PE X e (tQ g fr W C p (.dictT es)) := by
  unfold chk at h
  split at h
  · rename_i f fp y pos
    simp only [Bool.and_eq_true, decide_eq_true_eq] at h
    obtain ⟨⟨⟨⟨rfl, hg⟩, ho⟩, hf⟩, hs⟩ := h
    have ha := ih.as x true _ hs
    have sp : starEach [y] X.env = (false, eval y X.env) :: starEach [] X.env := by
      cases es with
      | cons a b => exact star_ok (evs_cons hs).1
      | _ => unfold chks at hs; cases hs
    have sq : (backTo pos (starEach ([] : List Expr) X.env)).any (·.1) = false := by
      cases es with
      | cons a b => exact star_all (evs_cons hs).2.2
      | _ => unfold chks at hs; cases hs
    have rule := call_dictT (X := X) x.calm (by have := x.un; omega)
    refine PE.imp (pe_callTy rule (x.gl hg) (x.free _ hf) (by decide +kernel) ha (okN_nm ho) (okN_dbg ho) sp sq) fun σ H Q ⟨w, env, S, G, P⟩ => ?_
    rw [ev] at P
    refine tG.one G P fun ds S1 w1 H1 vs G1 E1 R1 P1 => ?_
    split at P1
    · rename_i xs
      split at P1
      · rename_i ps hps
        split at P1
        · rename_i hl
          obtain ⟨v, rfl, rv⟩ := RepTs.one (by have := R1; unfold RepPs at this; exact this)
          obtain ⟨a, zs, rfl, hR, rz⟩ := rv.lst
          obtain ⟨qs, Ts, rfl, p1, l1, im⟩ := pairs_of rz hps
          refine ⟨a, qs, Ts, rfl, hR, by rw [x.K]; exact p1, by rw [l1, sizeLine_eq]; omega, fun q rs hq sy hrs => ?_⟩
          obtain ⟨par, at_⟩ := im rs hrs
          have e2 : Ext w1 H1 { w1 with mu := w1.mu ++ [q] } (upd H1 q (DtO g.P g.wd q (storedAllH [] rs))) := .newC hq
          have pp := Par.all par (.nil (g := g) (H := H1) (w := w1))
          have ln : (allT ps).length ≤ sizeLine := by
            have h1 : (allT ps).length = (storedAllH [] rs).length := pp.len
            have h2 := storedAllH_length rs ([] : List Ent)
            have h3 := paired_len hrs
            rw [h1, sizeLine_eq]
            simp only [List.length_nil] at h2
            omega
          have k2 := G1.wok.newX (p := q) (c0 := .dctT (allT ps)) (o := DtO g.P g.wd q (storedAllH [] rs)) hq (cellT_mk upd_same ln sy (storedAllH_nodup List.nodup_nil)
            (fun y hy => SqT.per (e2.per G1.wok) (storedAllH_keys (P := fun k b => SqT g.K H1 b (k.map kV)) (fun z hz => by cases hz) (fun z hz => at_ z hz) y hy)) (pp.per (e2.per G1.wok)))
          rw [x.P, x.wd]
          refine P1 _ _ _ (G1.step e2 k2) (E1.trans e2) (.of (.ref ?_))
          show (w1.mu ++ [q])[S1.length]? = some q
          rw [← G1.wok.len]
          simp
        · exact P1.elim
      · exact P1.elim
    · exact P1.elim
  · cases h
theorem e_sortT {es : N} (ih : Snd g fr C es) (x : XOk g C s X W) (e : Expr) (h : chk s false (.sortT es) e = true ∨ chk s true (.sortT es) e = true) : PE X e (tN g fr W C true (.sortT es)) := by
  have h' : chk s true (.sortT es) e = true := by
    rcases h with h | h
    · unfold chk at h ⊢; exact h
    · exact h
  unfold chk at h'
  split at h'
  · rename_i f fp y pos
    simp only [Bool.and_eq_true, decide_eq_true_eq] at h'
    obtain ⟨⟨⟨⟨rfl, hg⟩, ho⟩, hf⟩, hs⟩ := h'
    have ha := ih.as x true _ hs
    have sp : starEach [y] X.env = (false, eval y X.env) :: starEach [] X.env := by
      cases es with
      | cons a b => exact star_ok (evs_cons hs).1
      | _ => unfold chks at hs; cases hs
    have sq : (backTo pos (starEach ([] : List Expr) X.env)).any (·.1) = false := by
      cases es with
      | cons a b => exact star_all (evs_cons hs).2.2
      | _ => unfold chks at hs; cases hs
    refine PE.imp (pe_callB (call_sortedT (X := X) x.calm) (x.gl hg) (x.free _ hf) (by decide +kernel) ha (okN_nm ho) (okN_dbg ho) sp sq) fun σ H Q ⟨w, env, S, G, P⟩ => ?_
    rw [ev] at P
    refine tG.one G P fun ds S1 w1 H1 vs G1 E1 R1 P1 => ?_
    split at P1
    · rename_i d1
      obtain ⟨dv, e1, q⟩ := P1.ofO
      obtain ⟨v, rfl, rv⟩ := RepTs.one (by have := R1; unfold RepPs at this; exact this)
      cases hc : dCellT d1 S1 with
      | none => rw [hc] at e1; cases e1
      | some kvs =>
        rw [hc] at e1
        have e1 : (keysI kvs).map (fun ks => D.lst ((sortI ks).map fun k => D.tup (k.map D.int))) = some dv := e1
        cases hk : keysI kvs with
        | none => rw [hk] at e1; cases e1
        | some kk =>
          rw [hk] at e1
          cases e1
          obtain ⟨n, a, xs, rfl, rfl, ha', hS, hH, hn, sy, nd, at_, pr⟩ := cellT_of G1.wok rv hc
          obtain ⟨ek, ne⟩ := keysI_of hk
          have pe := pr.to.1
          exact ⟨a, xs, kk, rfl, dtAt_of (n := n) x hH (by rw [← pr.len]; exact hn) sy nd at_, by rw [← pe]; exact ek, ne, fun q' cs hq hcs => by
            rw [x.K] at hcs
            exact q _ _ _ ((OutN.newL G1.wok hq (reps_tups hcs)).trans E1)⟩
    · exact P1.elim
  · cases h'
end
end Fx

set_option maxHeartbeats 4000000
/-! Fd6: {k: v for ..} whose keys are tuples; a tuple backwards; int tuples side by side. -/
namespace Fx
open PySem PySem.Spec PyProof.Rows L2
section
variable {X : Cx}
theorem d_dictSetT {pins : List (Addr × Obj)} {σ : L2.St} {H : Hp} {s : Shared} {E : Value → Shared → Prop} {D b : Addr} {xs : List Ent} {k : List Key} {r : Value} {Q : Unit → Shared → Prop} (hu : X.A.units + 1 < cLine) (I : L2.Inv X pins σ H s) (g : DtAt X H D xs)
    (hk : SqT X.K H b (k.map kV)) (h : ∀ s', L2.Inv X pins σ (upd H D (DtO X.prog X.w D (storedH xs k b r))) s' → Q () s') : wpAny (model X.prog X.w) X.A (dictSet D (.ref b) r) Q E s := by
  refine wpAny_dictSet_heap (hsz := g.n) (show X.A.units < cLine by omega) (tkey_is I hk) (dt_heapH I g.h g.nd g.at_) fun h' dd' hs => h _ ?_
  obtain ⟨q, es, ep, hq, h2, h3, h4, _, h5⟩ := dd'
  exact d_write I (by rw [g.h]; exact True.intro) hs ⟨q, hq⟩ (dt_ok hq h2 h3 h4)
/-- one turn of the block: the target is bound, the tests told, key and value put -/
def dTurn (X : Cx) (g : TG) (tt : TT) (tk tv : TE) (vs : List Nat) (σ : L2.St) (D : Addr) (Nx : Hp → Prop) (x : V) (H' : Hp) : Prop :=
  g x (L2.wipe σ vs) H' fun σ2 H2 => L2.wipe σ2 vs = L2.wipe σ vs ∧ tt σ2 H2 fun b H3 =>
    if b = true then tk σ2 H3 fun y H4 => tv σ2 H4 fun z H5 => ∃ c xs k, y = .ref c ∧ DtAt X H5 D xs ∧ SqT X.K H5 c (k.map kV) ∧ ∀ u, RelV z u → Nx (upd H5 D (DtO X.prog X.w D (storedH xs k c u))) else Nx H3
def tDcT (X : Cx) (wi : TI) (g : TG) (tt : TT) (tk tv : TE) (vs : List Nat) : TE := fun σ H Q => wi σ H fun J H1 => ∀ D, H1 D = none → (D == sysModules) = false →
  ∃ W : Nat → Nat → Hp → Prop, (∃ m, W 0 m (upd H1 D (DtO X.prog X.w D []))) ∧ ∀ i m H, W i m H →
    (J.stop i H ∧ Q (.ref D) H) ∨ (J.go i H ∧ ∃ Nx : Hp → Prop, (∀ H', Nx H' → ∃ m', m' < m ∧ W (i + 1) m' H') ∧ ∀ x H', J.yld i H x H' → dTurn X g tt tk tv vs σ D Nx x H')
/-- what the block's parts promise -/
structure DcR (X : Cx) (kx vx tg : Expr) (ifs : List Expr) (scope : Scope) (g : TG) (tt : TT) (tk tv : TE) : Prop where
  g : ∀ (s : Shared) (H : Hp) (C : Addr) (cl : List (Str × Addr)) (fp : List Addr), PG (X.blk s H scope (compEnvC scope cl C X.env) fp) tg g
  t : ∀ (s : Shared) (H : Hp) (C : Addr) (cl : List (Str × Addr)) (fp : List Addr), PTs (X.blk s H scope (compEnvC scope cl C X.env) fp) ifs tt
  k : ∀ (s : Shared) (H : Hp) (C : Addr) (cl : List (Str × Addr)) (fp : List Addr), PE (X.blk s H scope (compEnvC scope cl C X.env) fp) kx tk
  v : ∀ (s : Shared) (H : Hp) (C : Addr) (cl : List (Str × Addr)) (fp : List Addr), PE (X.blk s H scope (compEnvC scope cl C X.env) fp) vx tv
theorem pe_dcT {kx vx tg iter : Expr} {ifs : List Expr} {scope : Scope} {own : List (Str × Nat)} {pos : Pos} {wi : TI} {g : TG} {tt : TT} {tk tv : TE} (hu : X.A.units + 1 < cLine) (hc : X.calm = true) (hN : X.N.Nodup) (hi : PI X tg iter wi) (ok : BlkOk X.N X.env.scope scope own)
    (R : DcR X kx vx tg ifs scope g tt tk tv) (hs : ∀ x, foldedSetIterable iter X.env x = pure x) : PE X (.DictComp kx vx [⟨tg, iter, ifs, 0⟩] scope pos) (tDcT X wi g tt tk tv (own.map (·.2))) := by
  refine ⟨fun pins s0 σ H0 Q I0 h => ?_⟩
  rw [arm_eval_DictComp]
  have free : ∀ y ∈ scope.names, y.2 = .free → ∃ c, X.env.cells.lookup y.1 = some c := fun y hy e => (ok.free y hy e).elim (fun k => I0.ok.has _ (.inl k)) fun k => I0.ok.has _ (.inr k)
  refine wpAny_comprehension_free (use := none) rfl hs (closure_ok free) ok.kind (fun y hy e => by rw [ok.uniq y hy, e]) (thn (hi.run pins s0 σ H0 _ I0 h) fun xv sa hx => thn hx fun itv sb hb => ?_)
  obtain ⟨it, fp, tn, J, Ha, rfl, Ia, T, sta, fa, q⟩ := hb
  refine wpAny_newObj_type (newEnv_comp ?_)
  generalize hD : sb.heap.objs.size = D
  have Dn : Ha D = none := Ia.hok.fresh (Nat.le_of_eq hD)
  have Dsy : (D == sysModules) = false := by rw [← hD]; exact beq_eq_false_iff_ne.mpr (Ne.symm (Nat.ne_of_lt Ia.big))
  obtain ⟨W, ⟨m0, w0⟩, turn⟩ := q D Dn Dsy
  generalize hsc : ({ sb with heap := sb.heap.push { cls := .type "dict", data := .dict #[] } } : Shared) = sc
  have hhc : sc.heap = sb.heap.push { cls := .type "dict", data := .dict #[] } := by rw [← hsc]
  have Ic : L2.Inv X pins σ (upd Ha D (DtO X.prog X.w D [])) sc := by
    rw [← hsc]
    refine Ia.laid (t' := sb.toks) (fun b o e => Heap.get?_push_of_some _ e) (Nat.le_of_eq hD) ?_
    rw [← hD]
    exact dt_ok (es := #[]) (ep := 0) (Heap.get?_push_size _ rfl) ⟨rfl, rfl, rfl⟩ rfl rfl
  have small : ∀ b ∈ fp, b < sb.heap.objs.size := fun b hb => let ⟨_, e, _⟩ := T.obj _ _ sta b hb; Heap.lt_size e
  have fc : ∀ b ∈ fp, FpOk X pins (upd Ha D (DtO X.prog X.w D [])) b ∧ b < sc.heap.objs.size := fun b hb =>
    ⟨⟨by rw [upd_ne (by rw [← hD]; exact Nat.ne_of_lt (small b hb))]; exact (fa b hb).1, (fa b hb).2⟩, by rw [hhc, Heap.size_push]; exact Nat.lt_succ_of_lt (small b hb)⟩
  have stc : tn 0 sc.heap := T.keep _ _ _ sta fun b _ o e => by rw [hhc]; exact Heap.get?_push_of_some _ e
  have Id := block_start Ic ok hN fc
  have rg := R.g sc (upd Ha D (DtO X.prog X.w D [])) sc.heap.objs.size (cellsFrom (sc.heap.objs.size + 1) scope.names (cloFrom X.env.cells scope.names [])) fp
  have rt := R.t sc (upd Ha D (DtO X.prog X.w D [])) sc.heap.objs.size (cellsFrom (sc.heap.objs.size + 1) scope.names (cloFrom X.env.cells scope.names [])) fp
  have rk := R.k sc (upd Ha D (DtO X.prog X.w D [])) sc.heap.objs.size (cellsFrom (sc.heap.objs.size + 1) scope.names (cloFrom X.env.cells scope.names [])) fp
  have rv := R.v sc (upd Ha D (DtO X.prog X.w D [])) sc.heap.objs.size (cellsFrom (sc.heap.objs.size + 1) scope.names (cloFrom X.env.cells scope.names [])) fp
  show codeAny _ _ (.compStart (.DictComp kx vx [⟨tg, iter, ifs, 0⟩] scope pos) 0 (.ref it) (.ref D) (compEnvC scope (cellsFrom (sc.heap.objs.size + 1) scope.names (cloFrom X.env.cells scope.names [])) sc.heap.objs.size X.env)) (compPost (model X.prog X.w) X.A X.xe none (EP X pins σ Q) (.ref D) sc.heap.objs.size) { sc with heap := pushCells (sc.heap.push { cls := .type "dict", data := .dict #[] }) scope.names }
  have none_fp : ∀ b ∈ fp, (upd Ha D (DtO X.prog X.w D [])) b = none := fun b hb => (fc b hb).1.1
  generalize hce : compEnvC scope (cellsFrom (sc.heap.objs.size + 1) scope.names (cloFrom X.env.cells scope.names [])) sc.heap.objs.size X.env = ce at Id rg rt rk rv ⊢
  have ceL : ce.locals = sc.heap.objs.size := by subst hce; rfl
  generalize hHc : upd Ha D (DtO X.prog X.w D []) = Hc at Ic Id rg rt rk rv w0 none_fp fc
  generalize hsd : ({ sc with heap := pushCells (sc.heap.push { cls := .type "dict", data := .dict #[] }) scope.names } : Shared) = sd at Id ⊢
  have std : tn 0 sd.heap := T.keep _ _ _ stc fun b _ o e => by rw [← hsd]; exact pushCells_keeps _ _ _ _ (Heap.get?_push_of_some _ e)
  have foot : ∀ {σ' : L2.St} {H' : Hp} {s' : Shared}, L2.Inv (X.blk sc Hc scope ce fp) [] σ' H' s' → (∀ b ∈ fp, H' b = none) → ∀ b ∈ fp, FpOk (X.blk sc Hc scope ce fp) [] H' b := fun {σ' H' s'} I' hn b hb =>
    ⟨hn b hb, (I'.ok.exf b hb).1, I'.ok.exfs b hb, .inl hb, fun x c e => (I'.ok.exf b hb).2 x c e, fun p hp => absurd (show p ∈ ([] : List (Addr × Obj)) ++ [] from hp) (by simp)⟩
  have loop : codeAny (model X.prog X.w) X.A (.compLoop (.DictComp kx vx [⟨tg, iter, ifs, 0⟩] scope pos) 0 (.ref it) (.ref D) ce) (compPost (model X.prog X.w) X.A X.xe none (EP X pins σ Q) (.ref D) sc.heap.objs.size) sd := by
    refine compLoop_anyD (fun n s' => ∃ i H', L2.Inv (X.blk sc Hc scope ce fp) [] (L2.wipe σ (own.map (·.2))) H' s' ∧ tn i s'.heap ∧ (∀ b ∈ fp, H' b = none) ∧ W i n H') ?_ m0 ⟨0, Hc, Id, std, none_fp, w0⟩
    rintro n s5 ⟨i, H5, I5, st5, n5, w5⟩
    rcases turn i n H5 w5 with ⟨stop, qq⟩ | ⟨go, Nx, hNx, step⟩
    · refine thnF (T.done (X.blk sc Hc scope ce fp) rfl rfl rfl hc i [] s5 _ H5 (fun _ _ => False) I5 (foot I5 n5) st5 stop) fun r s6 ⟨hr, I6⟩ => ?_
      subst hr
      have back : L2.Inv X pins σ H5 s6 := Ic.call' (ch := fp) I6.os I6.base I6.hok I6.bare fun b hb => ⟨(fc b hb).1.2.2.2.1, (fc b hb).1.2.1, (fc b hb).1.2.2.2.2.1, (fc b hb).1.2.2.2.2.2⟩
      have Cn : H5 sc.heap.objs.size = none := by rw [← ceL]; exact I6.free
      obtain ⟨m, hn, _⟩ := I6.loc
      have hn : s6.heap.Ns sc.heap.objs.size m := by rw [← ceL]; exact hn
      obtain ⟨f0, f1, f2, f3, f4, f5⟩ := Ic.fpOk (Nat.le_refl _) Cn
      exact ⟨m, hn, fun h'' sb' => ⟨.ref D, H5, back.turned (t' := s6.toks) (fun b o hb e => (sb'.2 b hb).trans e) f0 f1 f3 f4 f5, rfl, qq⟩⟩
    · refine thnF (T.item (X.blk sc Hc scope ce fp) rfl rfl rfl hc i [] s5 _ H5 (fun _ _ => False) I5 (foot I5 n5) st5 go) fun r s6 ⟨u, hr, h6⟩ => ?_
      subst hr
      refine thnF h6 fun _ s7 ⟨x, H7, I7, r7, y7, st7, n7⟩ => ?_
      refine thnF (rg.run _ s7 _ H7 x u _ (I7.pinned (foot I7 n7) (T.obj _ _ st7)) r7 (step x H7 y7)) fun _ s8 ⟨σ8, H8, I8, hw8, q8⟩ => ?_
      refine thnF (rt.run _ s8 σ8 H8 _ I8 q8) fun b s9 ⟨H9, I9, q9⟩ => ?_
      have fin : ∀ {s' : Shared} {H' : Hp}, L2.Inv (X.blk sc Hc scope ce fp) ([] ++ pinsAt fp s7.heap) σ8 H' s' → Nx H' → ∃ m, m < n ∧ ∃ i H', L2.Inv (X.blk sc Hc scope ce fp) [] (L2.wipe σ (own.map (·.2))) H' s' ∧ tn i s'.heap ∧ (∀ b ∈ fp, H' b = none) ∧ W i m H' := fun {s' H'} I' nx => by
        obtain ⟨m', hm, w'⟩ := hNx H' nx
        have held : ∀ b ∈ fp, ∀ o, s7.heap.get? b = some o → s'.heap.get? b = some o ∧ H' b = none := fun b hb o e => let z := I'.pin (b, o) (List.mem_append_right _ (List.mem_append_right _ (mem_pinsAt hb e))); ⟨z.1, z.2.1⟩
        refine ⟨m', hm, i + 1, H', (I'.unpinned (pins := [])).weak (by rw [← hw8, wipe_length]) (fun j v e => by rw [← hw8] at e; exact (wipe_some e).1), T.keep _ _ _ st7 fun b hb o e => (held b hb o e).1, fun b hb => ?_, w'⟩
        obtain ⟨o, e, _⟩ := T.obj _ _ st7 b hb
        exact (held b hb o e).2
      cases b with
      | false =>
        simp only [Bool.false_eq_true, if_false] at q9 ⊢
        exact fin I9 q9
      | true =>
        simp only [if_true] at q9 ⊢
        refine thnF (rk.run _ s9 σ8 H9 _ I9 q9) fun z s10 ⟨yk, H10, I10, r10, q10⟩ => ?_
        refine thnF (rv.run _ s10 σ8 H10 _ I10 q10) fun z2 s11 ⟨yv, H11, I11, r11, c, xs, k, ek, dt, sq, nx⟩ => ?_
        subst ek
        obtain rfl : z = Value.ref c := r10
        exact d_dictSetT (X := X.blk sc Hc scope ce fp) hu I11 ⟨dt.h, dt.nd, dt.at_, dt.sy, dt.n⟩ sq fun s12 I12 => fin I12 (nx z2 r11)
  exact codeAny_compStart_dict loop (T.self X.A 0 _ _ _ std loop)
end

/-! ### a tuple backwards -/
theorem rev_adj (n : Nat) : Builtin.Slice.sliceAdjust none none (-1) (n : Int) = ((n : Int) - 1, -1) := by
  unfold Builtin.Slice.sliceAdjust
  simp
theorem rev_places (n : Nat) : Builtin.Slice.slicePlaces ((n : Int) - 1) (-1) (-1) = n := by
  unfold Builtin.Slice.slicePlaces
  simp
  omega
theorem fm_congr {α β : Type} {f f' : α → Option β} : ∀ {l : List α}, (∀ a ∈ l, f a = f' a) → l.filterMap f = l.filterMap f'
  | [], _ => rfl
  | a :: l, h => by rw [List.filterMap_cons, List.filterMap_cons, h a List.mem_cons_self, fm_congr (l := l) fun b hb => h b (List.mem_cons_of_mem _ hb)]
theorem rev_pick (xs : Array Value) : ((List.range xs.size).filterMap fun (m : Nat) => xs[(((xs.size : Nat) : Int) - 1 + (m : Int) * -1).toNat]?).toArray = xs.toList.reverse.toArray := by
  rw [← PySem.W.krv_pick]
  unfold slicePick
  rw [PySem.W.krv_bounds]
  show _ = ((sliceRange ((xs.size : Int) - 1) (-1) (-1)).filterMap (xs[·]?)).toArray
  rw [PySem.W.krv_sliceRange, List.filterMap_map]
  refine congrArg List.toArray (fm_congr fun m hm => ?_)
  have := List.mem_range.mp hm
  have e : (((xs.size : Nat) : Int) - 1 + (m : Int) * -1).toNat = xs.size - 1 - m := by omega
  rw [e]
  rfl
section
variable {prog : Program} {w : World} {A : Around} {E : Value → Shared → Prop} {s : Shared}
theorem slice_back {sl : Addr} {t : Tok} {n : Nat} {Q : Int × Int × Nat → Shared → Prop} (hs : s.heap.IsSliceOf sl .none .none (.int (-1) t)) (h : Q ((n : Int) - 1, -1, n) s) :
    wpAny (model prog w) A (Builtin.Slice.sliceApplied (.ref sl) (pure (n : Int))) Q E s := by
  obtain ⟨os, hos, hcs, hds⟩ := id hs
  unfold Builtin.Slice.sliceApplied Builtin.Slice.sliceFields
  refine wpAny_bind (wpAny_bind (wpAny_field hos hds (x := .none) rfl (wpAny_bind (wpAny_field hos hds (x := .none) rfl (wpAny_bind (wpAny_field hos hds (x := .int (-1) t) rfl (wpAny_pure ?_)))))))
  refine wpAny_bind (HT.slicePart_ (.int (-1) t) ?_)
  show wpAny _ _ (if ((-1 : Int) == 0) = true then _ else _) _ _ s
  rw [if_neg (by decide)]
  refine wpAny_bind (HT.slicePart_ .none (wpAny_bind (HT.slicePart_ .none (wpAny_bind (wpAny_pure ?_)))))
  show wpAny _ _ (match Builtin.Slice.sliceAdjust none none (-1) (n : Int) with | (lo, hi) => pure (lo, (-1 : Int), Builtin.Slice.slicePlaces lo hi (-1))) _ _ s
  rw [rev_adj n]
  show wpAny _ _ (pure ((n : Int) - 1, (-1 : Int), Builtin.Slice.slicePlaces ((n : Int) - 1) (-1) (-1))) _ _ s
  rw [rev_places]
  exact wpAny_pure h
theorem getItem_tuple_back {a sl : Addr} {its : Array Value} {t : Tok} {Q : Value → Shared → Prop} (ht : IsTup s.heap a its) (hs : s.heap.IsSliceOf sl .none .none (.int (-1) t)) (hsz : its.size ≤ sizeLine)
    (h : Q (.ref s.heap.objs.size) { s with heap := s.heap.push { cls := .type "tuple", data := .seq its.toList.reverse.toArray } }) : wpAny (model prog w) A (getItem (.ref a) (.ref sl)) Q E s := by
  have big : sizeOk (.seq its.toList.reverse.toArray) := by
    show its.toList.reverse.toArray.size ≤ sizeLine
    simpa using hsz
  obtain ⟨os, hos, hcs, hds⟩ := id hs
  have ty : s.TypeIs (.ref sl) "slice" := ⟨os, hos, hcs⟩
  unfold getItem
  try with_reducible refine wpAny_holding ?_
  first | refine wpAny_bind (wpAny_pure ?_) | skip
  refine wpAny_bind (wpAny_sequenceKey ht.typeIs (by decide) ?_)
  refine wpAny_bind (wpAny_callSpecial?_slot (name := Str.ofString "__getitem__") ht.typeIs PyProof.Rows.slot_tuple_getitem (wpAny_call_entry PyProof.Rows.slot_tuple_getitem ht.typeIs entry_tuple_getitem ?_ (args_tuple_getitem _ _)))
  show wpAny _ _ (Builtin.Tuple.tupleItemsOf (.ref a) >>= _) _ _ s
  refine wpAny_bind (tupleItemsOf_ ht (wpAny_bind (wpAny_typeOf ty ?_)))
  rw [if_pos (by decide)]
  refine wpAny_bind (slice_back hs ?_)
  show wpAny _ _ (if (((its.size : Nat) : Int) - 1 == 0 && (-1 : Int) == 1 && its.size == its.size) = true then _ else _) _ _ s
  rw [if_neg (by rw [show ((-1 : Int) == 1) = false from rfl, Bool.and_false, Bool.false_and]; exact Bool.false_ne_true), rev_pick]
  first
    | exact wpAny_bind (m := Builtin.Tuple.tupleExact _) (wpAny_newObj_type (wpAny_pure ⟨_, rfl, wpAny_pure h⟩) big)
    | exact wpAny_bind (m := Builtin.Tuple.tupleExact _) (wpAny_newObj_type (wpAny_bind (wpAny_pure (wpAny_pure ⟨_, rfl, wpAny_pure h⟩))) big)
    | exact wpAny_bind (wpAny_bind (m := Builtin.Tuple.tupleExact _) (wpAny_newObj_type (wpAny_pure (wpAny_pure ⟨_, rfl, wpAny_pure h⟩)) big))
    | exact wpAny_bind (wpAny_bind (m := Builtin.Tuple.tupleExact _) (wpAny_newObj_type (wpAny_pure ⟨_, rfl, wpAny_pure h⟩) big))
end
def tBack (K : PySem.W.Frag) (te : TE) : TE := fun σ H Q => te σ H fun x H1 => ∃ a xs, x = .ref a ∧ SqT K H1 a xs ∧ ∀ p, H1 p = none → Q (.ref p) (upd H1 p (.tup xs.reverse))
theorem pe_back {X : Cx} {e : Expr} {te : TE} {k : Nat} {p1 p2 p3 pos : Pos} (he : PE X e te) : PE X (.Subscript e (.Slice none none (some (.UnaryOp .USub (.Constant (.int 1) k p1) p2)) p3) pos) (tBack X.K te) := by
  refine ⟨fun pins s σ H Q I h => Subscript_ (thn (he.run pins s σ H _ I h) fun v s1 ⟨x, H1, I1, r1, a, xs, ex, hx, q⟩ => ?_)⟩
  subst ex
  cases r1
  have step : PO X (some (.UnaryOp .USub (.Constant (.int 1) k p1) p2)) (tPart (tUn (rU fun i => .int (-i)) (tC (.int 1)))) := po_some (pe_un un_neg pe_int)
  refine wpAny_Slice (thn (po_none.run pins s1 σ H1 (fun o H2 => o = none ∧ H2 = H1) I1 ⟨rfl, rfl⟩) fun vl s2 ⟨l, H2, I2, pl, el, e2⟩ => ?_)
  subst el e2
  refine thn (po_none.run pins s2 σ H2 (fun o H3 => o = none ∧ H3 = H2) I2 ⟨rfl, rfl⟩) fun vu s3 ⟨u, H3, I3, pu, eu, e3⟩ => ?_
  subst eu e3
  refine thn (step.run pins s3 σ H3 (fun o H4 => o = some (-1) ∧ H4 = H3) I3 ⟨1, rfl, -1, rfl, rfl, rfl⟩) fun vs s4 ⟨o, H4, I4, ps, eo, e4⟩ => ?_
  subst eo e4
  cases pl
  cases pu
  cases ps
  rename_i t _
  have I5 : L2.Inv X pins σ H4 { s4 with heap := s4.heap.push { cls := .type "slice", data := .fields #[.none, .none, .int (-1) t] } } := I4.kept (t' := s4.toks) fun b ob q => Heap.get?_push_of_some _ q
  obtain ⟨its, r, ht, hz⟩ := I5.tuple hx
  have hlen := r.length
  show wpAny (model X.prog X.w) X.A (subscriptTail e (.Slice none none (some (.UnaryOp .USub (.Constant (.int 1) k p1) p2)) p3) (.ref a) (.ref s4.heap.objs.size)) (EP X pins σ Q) X.xe { s4 with heap := s4.heap.push { cls := .type "slice", data := .fields #[.none, .none, .int (-1) t] } }
  refine tail_any (ops := [.ref a, .ref s4.heap.objs.size]) ht.typeIs (PyProof.Rows.slot_tuple_getitem.lookup) ?_ (by with_unfolding_all rfl)
  refine getItem_tuple_back ht (Heap.IsSliceOf.new _ .none .none (.int (-1) t)) (by rw [List.size_toArray]; omega) ?_
  refine ⟨.ref _, _, I5.laid (t' := s4.toks) (o := .tup xs.reverse) (fun b ob q => Heap.get?_push_of_some _ q) (Nat.le_refl _) ?_, rfl, q _ (I5.hok.fresh (Nat.le_refl _))⟩
  exact ⟨by rw [List.length_reverse]; exact hz, _, r.reverse, ⟨_, Heap.get?_push_size _ rfl, rfl, _, rfl⟩⟩

end Fx

set_option maxHeartbeats 4000000
/-! Fq7: own exceptions as values: C(..), isinstance(e, C), e.f are sound. -/
namespace Fx
open PySem PySem.Spec PySem.Calls PyProof.Rows L2
section
variable {X : Cx}
theorem pe_mk1a {x f : Str} {e : Expr} {ta : TA} {p pos : Pos} (hB : nxB X.prog.main.file X.K x f = true) (htop : (X.prog.main.scope.names.lookup ("super" : Str)).isSome = false) (hg : Gl X x) (hm : X.mg x = some (.ref (He.ga X.K x))) (hr : Room 1 X.A) (ha : PA X [e] ta)
    (hdb : (x == ("__debug__" : Str)) = false) (hst : starEach [e] X.env = (false, eval e X.env) :: starEach [] X.env) : PE X (.Call (.Name x p) [e] [] pos) (tMk1k (He.ga X.K x) f ta) := by
  refine ⟨fun pins s σ H Q I h => wpAny_Call_Name_kw (ld_glob I hg hm ?_ hdb)⟩
  have kp : PySem.W.keepIn X.K (.ref (He.ga X.K x)) = true := by
    unfold nxB at hB
    simp only [Bool.and_eq_true] at hB
    exact hB.1.1.1.1.1.1.1.1.1.1.1.2
  refine PySem.W.callWith_K (h₀ := X.base) I.ok.mod.kin kp (thn (ha.run pos pins s σ H _ I h) fun us s1 ⟨zs, H1, I1, r1, y, ez, q1⟩ => ⟨I1.kIn, ?_⟩) hst (by rfl)
  subst ez
  cases r1 with
  | cons r t =>
    cases t
    exact run_mk1 (kw := false) hB (fun z => by cases z) htop hr I1 r q1
end
section
variable {g : G} {fr : Frm} {W : WX} {C : Ev} {s : Sc} {X : Cx}
/-- a new exception, that has fields -/
theorem exc_new {σ : L2.St} {H : Hp} {w : Wd} {env : Env} {S : Store} {q : Xc} {fs : List (Str × D)} {kus : List (Str × V)} {e dx : Addr} (G0 : Good g fr σ H w env S) (ok : XcOk g.K g.xi q) (n : ∀ p ∈ fs, p.1 ∈ q.fs) (k : fs.map (·.1) = kus.map (·.1)) (r : Reps g H w (fs.map (·.2)) (kus.map (·.2)))
    (h1 : H e = none) (h2 : H dx = none) (ne : dx ≠ e) : ∃ w', Good g fr σ (upd (upd H dx (.xd kus)) e (exo e (He.ga g.K q.c) (some dx))) w' env (S ++ [.exc q.ln fs]) ∧ Ext w H w' (upd (upd H dx (.xd kus)) e (exo e (He.ga g.K q.c) (some dx))) ∧ w'.mu[S.length]? = some e := by
  have E1 : Ext w H w (upd H dx (.xd kus)) := .newT h2
  have k1 := G0.wok.newT (o := .xd kus) h2
  have he : upd H dx (.xd kus) e = none := by rw [upd_ne (Ne.symm ne)]; exact h1
  have E2 : Ext w (upd H dx (.xd kus)) { w with mu := w.mu ++ [e] } (upd (upd H dx (.xd kus)) e (exo e (He.ga g.K q.c) (some dx))) := .newC he
  have r1 := r.per (E1.per G0.wok)
  have r2 := r1.per (E2.per k1)
  have k2 := k1.newX (p := e) (c0 := .exc q.ln fs) (o := exo e (He.ga g.K q.c) (some dx)) he (.ex upd_same (fun x hx => by cases hx; rw [upd_ne ne]; exact upd_same) (fun z => by cases z) ok rfl n k r2)
  refine ⟨_, G0.step (E1.trans E2) k2, E1.trans E2, ?_⟩
  show (w.mu ++ [e])[S.length]? = some e
  rw [← G0.wok.len]
  simp
theorem exc_new0 {σ : L2.St} {H : Hp} {w : Wd} {env : Env} {S : Store} {q : Xc} {e : Addr} (G0 : Good g fr σ H w env S) (ok : XcOk g.K g.xi q) (h1 : H e = none) :
    ∃ w', Good g fr σ (upd H e (exo e (He.ga g.K q.c) none)) w' env (S ++ [.exc q.ln []]) ∧ Ext w H w' (upd H e (exo e (He.ga g.K q.c) none)) ∧ w'.mu[S.length]? = some e := by
  have E2 : Ext w H { w with mu := w.mu ++ [e] } (upd H e (exo e (He.ga g.K q.c) none)) := .newC h1
  have k2 := G0.wok.newX (p := e) (c0 := .exc q.ln []) (o := exo e (He.ga g.K q.c) none) h1 (.ex (kus := []) upd_same (fun x hx => by cases hx) (fun _ => rfl) ok rfl (fun p hp => by cases hp) rfl .nil)
  refine ⟨_, G0.step E2 k2, E2, ?_⟩
  show (w.mu ++ [e])[S.length]? = some e
  rw [← G0.wok.len]
  simp
/-- the cell of an exception -/
theorem exc_of {w : Wd} {H : Hp} {S : Store} {x : D} {v : V} {ln : List Str} {fs : List (Str × D)} (k : WOk g w H S) (r : RepT g H w x v) (e : excOf x S = some (ln, fs)) :
    ∃ (a : Addr) (q : Xc) (d : Option Addr) (kus : List (Str × V)), v = .ref a ∧ H a = some (exo a (He.ga g.K q.c) d) ∧ (∀ z, d = some z → H z = some (.xd kus)) ∧ (d = none → kus = []) ∧ XcOk g.K g.xi q ∧ ln = q.ln ∧ (∀ p ∈ fs, p.1 ∈ q.fs) ∧ fs.map (·.1) = kus.map (·.1) ∧ Reps g H w (fs.map (·.2)) (kus.map (·.2)) := by
  unfold excOf at e
  split at e
  · rename_i n
    split at e
    · rename_i ln' fs' hS
      cases e
      obtain ⟨a, rfl, ha⟩ := Rep.ref_ r
      cases k.cell n a _ ha hS with
      | ex h dd d0 ok l n' k' r' => exact ⟨a, _, _, _, rfl, h, dd, d0, ok, l, n', k', r'⟩
    · cases e
  · cases e
theorem fld_of {w : Wd} {H : Hp} {f : Str} {dv : D} : ∀ {fs : List (Str × D)} {kus : List (Str × V)}, fs.map (·.1) = kus.map (·.1) → Reps g H w (fs.map (·.2)) (kus.map (·.2)) → fs.lookup f = some dv → ∃ v, kus.lookup f = some v ∧ Rep g H w dv v ∧ ∃ p ∈ fs, p.1 = f
  | [], _, _, _, h => by cases h
  | (a, b) :: fs, [], k, _, _ => by cases k
  | (a, b) :: fs, (a', b') :: kus, k, r, h => by
    have k : a :: fs.map (·.1) = a' :: kus.map (·.1) := k
    injection k with k1 k2
    subst k1
    have r : Reps g H w (b :: fs.map (·.2)) (b' :: kus.map (·.2)) := r
    cases r with
    | cons r1 r2 =>
      rw [List.lookup_cons] at h
      rw [List.lookup_cons]
      cases c : f == a with
      | true =>
        rw [c] at h
        cases h
        exact ⟨b', rfl, r1, _, List.mem_cons_self, (beq_iff_eq.mp c).symm⟩
      | false =>
        rw [c] at h
        obtain ⟨v, h1, h2, p, h3, h4⟩ := fld_of k2 r2 h
        exact ⟨v, h1, h2, p, List.mem_cons_of_mem _ h3, h4⟩
theorem e_fld {a : N} {f : Str} (ia : Snd g fr C a) (x : XOk g C s X W) (p : Bool) (e : Expr) (h : chk s p (.fld a f) e = true) : PE X e (tQ g fr W C p (.fld a f)) := by
  unfold chk at h
  split at h
  · rename_i y f' pos
    simp only [Bool.and_eq_true, decide_eq_true_eq] at h
    obtain ⟨⟨rfl, h1⟩, h2⟩ := h
    refine PE.imp (pe_fx (ia.e x true _ h1) (by cases y <;> first | rfl | cases h2)) fun σ H Q ⟨w, env, S, G, P⟩ => ?_
    rw [ev] at P
    refine one_ G P fun d1 S1 w1 H1 v1 G1 E1 R1 P1 => ?_
    obtain ⟨dv, e1, q⟩ := P1.ofO
    cases hc : excOf d1 S1 with
    | none => rw [hc] at e1; cases e1
    | some pr =>
      obtain ⟨ln, fs⟩ := pr
      rw [hc] at e1
      have e1 : fs.lookup f = some dv := e1
      obtain ⟨b, c, d, kus, rfl, ha, hd, h0, ok, hl, hn, hk, hr⟩ := exc_of G1.wok (R1 : RepT g H1 w1 d1 v1) hc
      obtain ⟨v, l1, rv, pp, hp, ep⟩ := fld_of hk hr e1
      cases d with
      | none =>
        rw [h0 rfl] at l1
        cases l1
      | some dd =>
        rw [x.K]
        exact ⟨b, He.ga g.K c.c, dd, kus, v, rfl, ha, hd _ rfl, ok.f, ok.n f (by rw [← ep]; exact hn _ hp), l1, q w1 H1 v G1 E1 (.of rv)⟩
  · cases h
theorem e_isx {a : N} {c : Str} (ia : Snd g fr C a) (x : XOk g C s X W) (p : Bool) (e : Expr) (h : chk s p (.isx a c) e = true) : PE X e (tQ g fr W C p (.isx a c)) := by
  unfold chk at h
  split at h
  · rename_i f fp y z zp pos
    simp only [Bool.and_eq_true, decide_eq_true_eq, Bool.or_eq_true] at h
    obtain ⟨⟨⟨⟨⟨⟨⟨rfl, hg⟩, hf⟩, h1⟩, hg2⟩, ho⟩, rfl⟩, hx⟩ := h
    have hst : notStar y = true := by
      cases y <;> first
        | rfl
        | (cases a <;> (unfold chk at h1; cases h1))
    obtain ⟨cv, cu, hz, hcv, kit⟩ : ∃ (cv : V) (cu : Value), PE X (.Name z zp) (tC cv) ∧ (∀ u, RelV cv u → u = cu) ∧ ∀ q, XcOk g.K g.xi q → PySem.W.kitOne g.K (.ref (He.ga g.K q.c)) cu = some (q.ln.contains z) := by
      rcases hx with hx | ⟨rfl, hf2⟩
      · have hm := x.xim z (by simpa using hx)
        refine ⟨.ref (He.ga X.K z), .ref (He.ga X.K z), pe_glob (x.gl hg2) hm rfl (okN_dbg ho), fun u r => r, fun q ok => ?_⟩
        rw [x.K]
        exact ok.i z (by rw [← x.xi]; simpa using hx)
      · refine ⟨.ty "ValueError", .type "ValueError", pe_bltn (x.gl hg2) (x.free _ hf2) (by decide +kernel) rfl (okN_nm ho) (okN_dbg ho), fun u r => r, fun q ok => ?_⟩
        rw [ok.vl]
        exact ok.v
    refine PE.imp (pe_callB call_isX (x.gl hg) (x.free _ hf) (by decide +kernel) (pa_cons (ia.e x true _ h1) (pa_cons hz pa_nil) (star_ok hst)) (by decide) (by decide) (star_ok hst) (by rfl)) fun σ H Q ⟨w, env, S, G, P⟩ => ?_
    rw [ev] at P
    refine one_ G P fun d1 S1 w1 H1 v1 G1 E1 R1 P1 => ?_
    obtain ⟨pr, e1, q⟩ := P1.mapO.ofO
    obtain ⟨ln, fs⟩ := pr
    obtain ⟨b, cc, d, kus, rfl, ha, hd, h0, ok, hl, hn, hk, hr⟩ := exc_of G1.wok (R1 : RepT g H1 w1 d1 v1) e1
    rw [x.K]
    exact ⟨b, He.ga g.K cc.c, d, cv, cu, _, rfl, ha, fun dd hdd => ⟨_, hd _ hdd⟩, ok.c, hcv, kit cc ok, q w1 H1 _ G1 E1 (by rw [hl]; exact .of (.bl _))⟩
  · cases h
theorem e_mkx {c : Str} {ln fs : List Str} {sw : Bool} {es ks : N} (ie : Snd g fr C es) (ik : Snd g fr C ks) (x : XOk g C s X W) (p : Bool) (e : Expr) (h : chk s p (.mkx c ln fs sw es ks) e = true) : PE X e (tQ g fr W C p (.mkx c ln fs sw es ks)) := by
  unfold chk at h
  split at h
  · rename_i fn fp xs kws pos
    simp only [Bool.and_eq_true, decide_eq_true_eq, Bool.not_eq_true'] at h
    obtain ⟨⟨⟨⟨⟨⟨⟨rfl, hg⟩, ho⟩, hne⟩, hq⟩, h1⟩, h2⟩, h3⟩ := h
    obtain ⟨q, hqm, hqq⟩ := List.any_eq_true.mp hq
    simp only [Bool.and_eq_true, decide_eq_true_eq] at hqq
    obtain ⟨⟨rfl, rfl⟩, rfl⟩ := hqq
    obtain ⟨ok, hm, hB⟩ := x.xc q hqm
    have htop := x.top (by intro z; rw [z] at hne; cases hne)
    have ok' : XcOk g.K g.xi q := by rw [← x.K, ← x.xi]; exact ok
    have two : ∀ {σ : L2.St} {H : Hp} {w : Wd} {env : Env} {S : Store} {Q : VK} {H0 : Hp} {w0 : Wd} {l : List (Str × D)} {kus : List (Str × V)}, Good g fr σ H w env S → Ext w0 H0 w H → (∀ p ∈ l, p.1 ∈ q.fs) → l.map (·.1) = kus.map (·.1) → Reps g H w (l.map (·.2)) (kus.map (·.2)) →
        (∀ w' H' b, Good g fr σ H' w' env (S ++ [.exc q.ln l]) → Ext w0 H0 w' H' → RepP g p H' w' (.ref S.length) b → Q b H') → ∀ e dx, H e = none → H dx = none → dx ≠ e → Q (.ref e) (upd (upd H dx (.xd kus)) e (exo e (He.ga X.K q.c) (some dx))) := by
      intro σ H w env S Q H0 w0 l kus G E n k r P e dx he hd ne
      obtain ⟨w', G', E', m⟩ := exc_new G ok' n k r he hd ne
      rw [x.K]
      exact P w' _ _ G' (E.trans E') (.of (.ref m))
    unfold mkB at hB
    cases hfs : q.fs with
    | nil =>
      rw [hfs] at h3 hB
      cases xs with
      | nil =>
        cases kws with
        | nil =>
          have e0 : es = .nil := by
            cases es <;> first
              | rfl
              | (unfold chks at h1; cases h1)
          have e1 : ks = .nil := by
            cases ks <;> first
              | rfl
              | (unfold chkw at h2; cases h2)
          subst e0 e1
          refine PE.imp (pe_mk0 hB (x.gl hg) hm (okN_dbg ho)) fun σ H Q ⟨w, env, S, G, P⟩ => ?_
          rw [ev, evs, Res.bind_ok, evs, Res.bind_ok] at P
          intro e he
          obtain ⟨w', G', E', m⟩ := exc_new0 G ok' he
          rw [x.K]
          exact P w' _ _ G' E' (.of (.ref m))
        | cons k kws => cases h3
      | cons y ys => cases h3
    | cons f fs =>
      cases fs with
      | nil =>
        rw [hfs] at h3 hB
        simp only [Bool.and_eq_true] at hB
        have fin : ∀ {σ : L2.St} {H1 : Hp} {w1 : Wd} {env : Env} {S1 : Store} {Q : VK} {H : Hp} {w : Wd} {d : D} {y : V}, Good g fr σ H1 w1 env S1 → Ext w H w1 H1 → Rep g H1 w1 d y →
            (∀ w' H' b, Good g fr σ H' w' env (S1 ++ [.exc q.ln [(f, d)]]) → Ext w H w' H' → RepP g p H' w' (.ref S1.length) b → Q b H') → kMk1 (He.ga X.K q.c) f y H1 Q := by
          intro σ H1 w1 env S1 Q H w d y G E r P
          exact two (l := [(f, d)]) (kus := [(f, y)]) G E (fun p hp => by rw [hfs]; rw [List.mem_singleton.mp hp]; exact List.mem_cons_self) rfl (.cons r .nil) P
        cases xs with
        | nil =>
          cases kws with
          | nil => cases h3
          | cons k kws =>
            cases kws with
            | nil =>
              have e0 : es = .nil := by
                cases es <;> first
                  | rfl
                  | (unfold chks at h1; cases h1)
              subst e0
              obtain ⟨k1, k2, k3, k4⟩ := kws_some (env := X.env) (pos := pos) h2
              have h3 : k.arg = some f := of_decide_eq_true h3
              refine PE.imp (pe_mk1k hB.1 hB.2 htop (x.gl hg) hm x.rm (ik.kw x _ h2) (okN_dbg ho) k1 (by rw [k2, List.filterMap_cons, h3]; rfl) (by show (false || _) = false; rw [k3]; rfl)) fun σ H Q ⟨w, env, S, G, P⟩ => ?_
              rw [ev, evs, Res.bind_ok] at P
              refine part_ (fun _ _ e => len_evk h2 e) G P fun ds S1 w1 H1 vs G1 E1 R1 lv P1 => ?_
              cases R1 with
              | nil => cases lv
              | @cons d y ds vs r t =>
                cases t with
                | cons _ _ => cases lv
                | nil => exact ⟨y, rfl, fin G1 E1 r (by cases sw <;> exact P1)⟩
            | cons _ _ => cases h3
        | cons y ys =>
          cases ys with
          | nil =>
            cases kws with
            | nil =>
              have e1 : ks = .nil := by
                cases ks <;> first
                  | rfl
                  | (unfold chkw at h2; cases h2)
              subst e1
              have sp : starEach [y] X.env = (false, eval y X.env) :: starEach [] X.env := by
                cases es with
                | cons a b => exact star_ok (evs_cons h1).1
                | _ => unfold chks at h1; cases h1
              refine PE.imp (pe_mk1a hB.1 htop (x.gl hg) hm x.rm (ie.as x false _ h1) (okN_dbg ho) sp) fun σ H Q ⟨w, env, S, G, P⟩ => ?_
              rw [ev] at P
              refine part_ (fun _ _ e => len_evs h1 e) G P fun ds S1 w1 H1 vs G1 E1 R1 lv P1 => ?_
              rw [evs, Res.bind_ok] at P1
              cases R1 with
              | nil => cases lv
              | @cons d y ds vs r t =>
                cases t with
                | cons _ _ => cases lv
                | nil => exact ⟨y, rfl, fin G1 E1 r (by cases sw <;> exact P1)⟩
            | cons _ _ => cases h3
          | cons _ _ => cases h3
      | cons f2 fs =>
        cases fs with
        | cons _ _ => rw [hfs] at hB; cases hB
        | nil =>
          rw [hfs] at h3 hB
          have fin : ∀ {σ : L2.St} {H1 : Hp} {w1 : Wd} {env : Env} {S1 : Store} {Q : VK} {H : Hp} {w : Wd} {d d2 : D} {y y2 : V}, Good g fr σ H1 w1 env S1 → Ext w H w1 H1 → Rep g H1 w1 d y → Rep g H1 w1 d2 y2 →
              (∀ w' H' b, Good g fr σ H' w' env (S1 ++ [.exc q.ln [(f2, d2), (f, d)]]) → Ext w H w' H' → RepP g p H' w' (.ref S1.length) b → Q b H') → kMk2 (He.ga X.K q.c) f f2 y y2 H1 Q := by
            intro σ H1 w1 env S1 Q H w d d2 y y2 G E r r2 P
            refine two (l := [(f2, d2), (f, d)]) (kus := [(f2, y2), (f, y)]) G E (fun p hp => ?_) rfl (.cons r2 (.cons r .nil)) P
            rw [hfs]
            rcases List.mem_cons.mp hp with rfl | hp
            · exact List.mem_cons_of_mem _ List.mem_cons_self
            · rw [List.mem_singleton.mp hp]; exact List.mem_cons_self
          cases xs with
          | cons _ _ => cases h3
          | nil =>
            have e0 : es = .nil := by
              cases es <;> first
                | rfl
                | (unfold chks at h1; cases h1)
            subst e0
            obtain ⟨k1, k2, k3, k4⟩ := kws_some (env := X.env) (pos := pos) h2
            match kws, h2, h3, k1, k2, k3, k4 with
            | [], _, h3, _, _, _, _ => cases h3
            | [_], _, h3, _, _, _, _ => cases h3
            | _ :: _ :: _ :: _, _, h3, _, _, _, _ => cases h3
            | [k, k'], h2, h3, k1, k2, k3, k4 =>
              have hks : ∀ sw : Bool, (if sw = true then decide (k.arg = some f2) && decide (k'.arg = some f) else decide (k.arg = some f) && decide (k'.arg = some f2)) = true → (backToKw pos (keywordEach [k, k'] X.env)).filterMap (·.1) = (match sw with | true => [f2, f] | false => [f, f2]) := by
                intro sw h3
                rw [k2]
                cases sw with
                | true =>
                  have h3 : (decide (k.arg = some f2) && decide (k'.arg = some f)) = true := h3
                  simp only [Bool.and_eq_true, decide_eq_true_eq] at h3
                  rw [List.filterMap_cons, h3.1, List.filterMap_cons, h3.2]; rfl
                | false =>
                  have h3 : (decide (k.arg = some f) && decide (k'.arg = some f2)) = true := h3
                  simp only [Bool.and_eq_true, decide_eq_true_eq] at h3
                  rw [List.filterMap_cons, h3.1, List.filterMap_cons, h3.2]; rfl
              refine PE.imp (pe_mk2 (sw := sw) hB htop (x.gl hg) hm x.rm (ik.kw x _ h2) (okN_dbg ho) k1 (hks sw h3) (by show (false || _) = false; rw [k3]; rfl)) fun σ H Q ⟨w, env, S, G, P⟩ => ?_
              rw [ev, evs, Res.bind_ok] at P
              refine part_ (fun _ _ e => len_evk h2 e) G P fun ds S1 w1 H1 vs G1 E1 R1 lv P1 => ?_
              cases R1 with
              | nil => cases lv
              | @cons d y ds vs r t =>
                cases t with
                | nil => cases lv
                | @cons d2 y2 ds vs r2 t =>
                  cases t with
                  | cons _ _ => cases lv
                  | nil =>
                    cases sw with
                    | false => exact ⟨y, y2, rfl, fin G1 E1 r r2 P1⟩
                    | true => exact ⟨y2, y, rfl, fin G1 E1 r2 r P1⟩
  · cases h
end
end Fx

set_option maxHeartbeats 4000000
/-! Fx7i: x(lambda: e), x a def that tells what e is, or what it raised. -/
namespace Fx
open PySem PySem.Spec PyProof.Rows L2
section
variable {g : G} {fr : Frm} {W : WX} {C : Ev} {s : Sc} {X : Cx}
theorem XOk.lamC {scope : Scope} {ps : List Str} (x : XOk g C s X W) (h : s.lam = true) (L : LamK X.env.scope scope X.N ps) (eZ : PySem.Env) (outer : List PySem.Env) (s1 : Shared) (H1 : Hp) (E : XK) (f c' : Addr) :
    XOk g C { s with sc := scope, own := scope, def_ := false, lam := false } (LamX.lamCx X (X.A.deeper eZ) outer s1 H1 E scope f c') (fun cls dd _ H' => E cls dd H') := by
  obtain ⟨_, _, _, _, _, _, hr⟩ := x.lamOk h
  have r1 : Room 1 (LamX.lamCx X (X.A.deeper eZ) outer s1 H1 E scope f c').A := (hr.deeper _).deeper _
  exact {
    K := x.K
    P := x.P
    wd := x.wd
    mg := x.mg
    xc := x.xc
    xi := x.xi
    xim := x.xim
    N := x.N
    sc := rfl
    kind := L.kind
    nd := x.nd
    calm := rfl
    gd := x.gd
    un := by have := r1.un; omega
    st := fun n h => by
      unfold stB at h
      simp only [Bool.or_eq_true, decide_eq_true_eq] at h
      rcases h with h | h
      · exact ⟨.inl h, .inr h⟩
      · exact absurd rfl (L.own _ (PySem.mem_of_lookup h)).1
    pass := passes_of rfl
    tk := takes_of rfl rfl rfl rfl
    free := x.free
    gcd := x.gcd
    fns := fun f ps hf => by
      obtain ⟨a, fd, k, h1, h2, h3, h4, h5⟩ := (x.fns f ps hf).ex
      exact ⟨a, fd, k, h1, h2, ((h4 h).deeper _).deeper _, fun z => absurd (show false = true from z) Bool.false_ne_true, h5⟩
    ex := x.ex
    fld := x.fld
    top := x.top
    rm := r1
    ci := x.ci
    cs := x.cs
    ct := x.ct
    bs := x.bs
    hear := x.hear
    stk := fun z => absurd (show false = true from z) Bool.false_ne_true
    lamOk := fun z => absurd (show false = true from z) Bool.false_ne_true }
/-- the heap behind the making of a lambda -/
theorem ext_made {w : Wd} {H H1 : Hp} {S : Store} {P c' : Addr} {q : Str} (k : WOk g w H S) (h : H1 = H ∨ ∃ us qs, H P = some (.tbl us) ∧ H c' = none ∧ H1 = upd (upd H P (.tbl qs)) c' (LamX.CodeO c' q)) (t : LamX.Tabs g.T H1) : Ext w H w H1 ∧ WOk g w H1 S := by
  rcases h with rfl | ⟨us, qs, h1, h2, rfl⟩
  · exact ⟨.refl, k⟩
  · have at_ : ∀ a o, H a = some o → (∀ ps, o ≠ .tbl ps) → upd (upd H P (.tbl qs)) c' (LamX.CodeO c' q) a = some o := fun a o e n => by
      rw [upd_ne (ne_of_none e h2), upd_ne (fun z => n us (Option.some.inj (e.symm.trans (by rw [z]; exact h1))))]
      exact e
    have E : Ext w H w (upd (upd H P (.tbl qs)) c' (LamX.CodeO c' q)) := ⟨fun a o e _ n => at_ a o e n, fun a e => by
      by_cases n1 : a = c'
      · rw [n1]; exact h2
      · rw [upd_ne n1] at e
        by_cases n2 : a = P
        · rw [n2, upd_same] at e
          cases e
        · rw [upd_ne n2] at e
          exact e, fun _ z => z, fun _ z => .inl z, fun _ _ z => z, fun _ z => .inl z⟩
    refine ⟨E, k.len, k.nd, fun n a c e1 e2 => (k.cell n a c e1 e2).per (E.per k) fun kus ck z => at_ _ _ z fun _ y => (by subst y; exact ck.tbl), fun a z => ?_, t⟩
    obtain ⟨q1, xs, q2⟩ := k.fz a z
    exact ⟨q1, xs, at_ _ _ q2 fun _ y => (by cases y)⟩
theorem e_hear {f : Str} {hs : List (Str × Str)} {e0 : N} (ie : Snd g fr C e0) (x : XOk g C s X W) (p : Bool) (e : Expr) (h : chk s p (.hear f hs e0) e = true) : PE X e (tQ g fr W C p (.hear f hs e0)) := by
  unfold chk at h
  split at h
  · rename_i y q1 params body scope lpos pos
    simp only [Bool.and_eq_true, decide_eq_true_eq] at h
    obtain ⟨⟨⟨⟨⟨⟨rfl, h2⟩, h3⟩, h4⟩, h5⟩, h6⟩, h7⟩ := h
    rw [← x.N, ← x.sc] at h6
    obtain ⟨ps, hps, L⟩ := lamB_ok h6
    obtain ⟨d, a, fd, rfl, hok, hm, F⟩ := x.hear _ _ h5
    obtain ⟨c, P, TB, hcode, hmT, hu, hr⟩ := x.lamOk h4
    refine PE.imp (pe_hearC (T := g.T) (t := fun E => tQ g fr (fun cls dd _ H' => E cls dd H') C false e0) (x.gl h2) hm F hok (okN_dbg h3) x.ex (fun c f q => (x.fld c f q).2) TB hcode hmT hu hr L hps (fun eZ outer s1 H1 E f c' => ie.e (x.lamC h4 L eZ outer s1 H1 E f c') false body h7)) fun σ H Q ⟨w, env, S, G, P0⟩ => ?_
    refine ⟨G.wok.tab, fun f c' H1 hp ht => ?_⟩
    obtain ⟨E1, k1⟩ := ext_made G.wok hp ht
    refine ⟨w, env, S, G.step E1 k1, ?_⟩
    rw [ev] at P0
    cases hr : ev C e0 env S with
    | st => rw [hr] at P0; exact P0.elim
    | ok d1 S' =>
      rw [hr] at P0
      intro w' H' b G2 E2 R2
      have R2 : Rep g H' w' d1 b := R2
      refine ⟨by simp [sizeLine_eq], fun q hq => ?_⟩
      have E3 : Ext w' H' { w' with fz := fun a => w'.fz a ∨ a = q } (upd H' q (.lst [b])) := .newL hq
      exact P0 _ _ _ (G2.step E3 (G2.wok.newL hq)) ((E1.trans E2).trans E3) (.of (.lst (.inl ⟨upd_same, .inr rfl⟩) (.cons (R2.per (E3.per G2.wok)) .nil)))
    | ex c0 p0 S' =>
      rw [hr] at P0
      cases hl : d.hs.lookup c0 with
      | none => simp only [hl] at P0; exact P0.elim
      | some w0 =>
        simp only [hl] at P0
        intro w' H' cc dd G2 E2 ⟨a0, m1, ecc, xc⟩
        subst ecc
        obtain ⟨fl, hfl⟩ := hd_in hok _ (mem_look hl)
        obtain ⟨g1, g2⟩ := x.fld _ _ hfl
        rw [g1] at xc
        obtain ⟨dx, v, rfl, hx, rv⟩ := xc
        rw [← x.mg, g2] at m1
        cases m1
        refine ⟨c0, fl, w0, dx, v, hl, hfl, rfl, rfl, hx, fun q hq => ?_⟩
        have E3 : Ext w' H' w' (upd H' q (.tup [.str w0, v])) := .newT hq
        exact P0 _ _ _ (G2.step E3 (G2.wok.newT hq)) ((E1.trans E2).trans E3) (.of (.tup (SqT.of upd_same) (.cons (.str w0) (.cons (rv.per (E3.per G2.wok)) .nil))))
  · cases h
end
end Fx

set_option maxHeartbeats 4000000
/-! Fd7: {k: v for ..}, xs[::-1]. -/
namespace Fx
open PySem PySem.Spec PyProof.Rows L2
section
variable {g : G} {fr : Frm} {W : WX} {C : Ev} {s : Sc} {X : Cx} {H : Hp} {w : Wd}
theorem Reps.rev : ∀ {ds : List D} {vs : List V}, Reps g H w ds vs → Reps g H w ds.reverse vs.reverse
  | [], _, .nil => .nil
  | d :: ds, _, .cons r t => by
    rw [List.reverse_cons, List.reverse_cons]
    exact (Reps.rev t).snoc r
theorem e_rev {a : N} (ia : Snd g fr C a) (x : XOk g C s X W) (p : Bool) (e : Expr) (h : chk s p (.rev a) e = true) : PE X e (tQ g fr W C p (.rev a)) := by
  unfold chk at h
  split at h
  · refine PE.imp (pe_back (ia.e x true _ h)) fun σ H Q ⟨w, env, S, G, P⟩ => ?_
    rw [ev] at P
    refine one_ (p := true) G P fun d S1 w1 H1 v G1 E1 R1 P1 => ?_
    split at P1
    · rename_i xs
      obtain ⟨a, vs, rfl, hq, rs⟩ := (show RepT g H1 w1 (.tup xs) v from R1).tup
      refine ⟨a, vs, rfl, by rw [x.K]; exact hq, fun q hn => ?_⟩
      have E3 : Ext w1 H1 w1 (upd H1 q (.tup vs.reverse)) := .newT hn
      exact P1 _ _ _ (G1.step E3 (G1.wok.newT hn)) (E1.trans E3) (.of (.tup (SqT.of upd_same) (rs.rev.per (E3.per G1.wok))))
    · exact P1.elim
  · cases h
def dcF (C : Ev) (own : List (Str × Nat)) (nk nv tg cond : N) (env : Env) (n : Nat) (d : D) (S : Store) : Res (Option D) :=
  match bindT tg d (wipeE env own) with
  | none => .st
  | some e => (evT C cond e S).bind fun k S => if k then (ev C nk e S).bind fun y S => (ev C nv e S).bind fun v S => match dPutT (.ref n) y v S with
    | some S' => .ok none S'
    | none => .st else .ok none S
theorem dPutT_ref {n : Nat} {y v : D} {S S' : Store} (h : dPutT (.ref n) y v S = some S') : ∃ ky kvs, tkeyD y = some ky ∧ S[n]? = some (.dctT kvs) ∧ kvs.length < 100000 ∧ S' = S.set n (.dctT (setT kvs ky v)) := by
  unfold dPutT at h
  cases hk : tkeyD y with
  | none => rw [hk] at h; cases h
  | some ky =>
    rw [hk] at h
    have h : (match S[n]? with | some (.dctT kvs) => if kvs.length < 100000 then some (S.set n (.dctT (setT kvs ky v))) else none | _ => none) = some S' := h
    cases hS : S[n]? with
    | none => rw [hS] at h; cases h
    | some c =>
      rw [hS] at h
      cases c with
      | dctT kvs =>
        have h : (if kvs.length < 100000 then some (S.set n (Cell.dctT (setT kvs ky v))) else none) = some S' := h
        split at h
        · rename_i hl
          cases h
          exact ⟨ky, kvs, rfl, rfl, hl, rfl⟩
        · cases h
      | dct kvs => cases h
      | exc ln fs => cases h
theorem e_dcmpT {own : List (Str × Nat)} {nk nv tg it cond : N} (ik : Snd g fr C nk) (iv : Snd g fr C nv) (ig : Snd g fr C tg) (ii : Snd g fr C it) (ic : Snd g fr C cond) (x : XOk g C s X W) (p : Bool) (e : Expr) (h : chk s p (.dcmpT own nk nv tg it cond) e = true) : PE X e (tQ g fr W C p (.dcmpT own nk nv tg it cond)) := by
  unfold chk at h
  split at h
  · rename_i kx vx te ye ifs scope pos
    simp only [Bool.and_eq_true] at h
    obtain ⟨⟨⟨⟨⟨h1, h2⟩, h3⟩, h4⟩, h5⟩, h6⟩ := h
    have h3 : chkG (blkS s scope) tg te = true := h3
    have ok0 := blkOk_by h2
    have ok : BlkOk X.N X.env.scope scope own := by rw [x.N, x.sc]; exact ok0
    have R : DcR X kx vx te ifs scope (tGt g fr tg) (tTs g fr (fun _ _ _ _ => False) C cond) (tE g fr (fun _ _ _ _ => False) C nk) (tE g fr (fun _ _ _ _ => False) C nv) :=
      ⟨fun st H A cl fp => ig.tgt (x.blk ok st H A cl fp) _ h3, fun st H A cl fp => ic.c (x.blk ok st H A cl fp) _ h4, fun st H A cl fp => ik.e (x.blk ok st H A cl fp) false _ h5, fun st H A cl fp => iv.e (x.blk ok st H A cl fp) false _ h6⟩
    refine PE.imp (pe_dcT (by have := x.un; omega) x.calm (by rw [x.N]; exact x.nd) (ii.i x true te ye h1) ok R (foldS h1)) fun σ H Q ⟨w, env, S, G, P⟩ => ?_
    rw [ev] at P
    refine ⟨w, env, S, G, P.bind.imp (fun ds S1 P1 w1 H1 J G1 E1 itok D hD hsy => ?_) fun _ _ _ x => x⟩
    have P1 : Post (compL (dcF C own nk nv tg cond env S1.length) ds [] (S1 ++ [.dctT []])) (fun xs S' => ∀ w' H' v, Good g fr σ H' w' env S' → Ext w H w' H' → RepP g p H' w' (.ref S1.length) v → Q v H') (fun _ _ _ => False) := compL_noex P1.bind
    have e0 : Ext w1 H1 { w1 with mu := w1.mu ++ [D] } (upd H1 D (DtO g.P g.wd D [])) := .newC hD
    have k0 := G1.wok.newX (p := D) (c0 := .dctT []) (o := DtO g.P g.wd D []) hD (cellT_mk upd_same (Nat.zero_le _) hsy List.nodup_nil (fun y hy => by cases hy) .nil)
    have Gw := G1.wipe own
    have atn : (w1.mu ++ [D])[S1.length]? = some D := by rw [← G1.wok.len]; simp
    rw [x.P, x.wd]
    let Pv : Nat → Hp → Prop := fun i H2 => ∃ w2 S2, Ext { w1 with mu := w1.mu ++ [D] } (upd H1 D (DtO g.P g.wd D [])) w2 H2 ∧ WOk g w2 H2 S2 ∧ Post (compL (dcF C own nk nv tg cond env S1.length) (ds.drop i) [] S2) (fun xs S' => ∀ w' H' v, Good g fr σ H' w' env S' → Ext w H w' H' → RepP g p H' w' (.ref S1.length) v → Q v H') (fun _ _ _ => False)
    refine ⟨fun i m H2 => m = ds.length - i ∧ i ≤ ds.length ∧ Pv i H2, ⟨ds.length, by simp, Nat.zero_le _, _, _, .refl, k0, P1⟩, ?_⟩
    rintro i m H2 ⟨rfl, hi, w2, S2, E2, ok2, P2⟩
    by_cases hlt : i < ds.length
    · right
      obtain ⟨jgo, jy⟩ := itok.go i w2 H2 S2 ds[i] ok2 (show RelB true w1 H1 w2 H2 from e0.trans E2) (List.getElem?_eq_getElem hlt)
      refine ⟨jgo, Pv (i + 1), fun H' q => ⟨ds.length - (i + 1), by omega, rfl, hlt, q⟩, fun v H3 y => ?_⟩
      obtain ⟨E3, ok3, r3⟩ := jy v H3 y
      rw [List.drop_eq_getElem_cons hlt] at P2
      unfold compL at P2
      have P3 : Post (dcF C own nk nv tg cond env S1.length ds[i] S2) _ (fun _ _ _ => False) := P2.noex
      unfold dcF at P3
      have E13 := (e0.trans E2).trans E3
      split at P3
      · exact P3.elim
      · rename_i env' hb
        refine ⟨w2, wipeE env own, S2, ds[i], env', Gw.step E13 ok3, r3, hb, fun σ2 G2 A2 => ⟨?_, ?_⟩⟩
        · rw [wipe_eq (σ := L2.wipe σ (own.map (·.2))) ?_ ?_, wipe_wipe]
          · rw [← G2.len, ← Gw.len]
            exact bindT_len hb
          · intro j hj
            refine (A2 j ?_).2
            cases q : asgT tg j with
            | false => rfl
            | true => exact absurd ((tgt_own ok0 x.nd tg).1 _ h3 j q) hj
        · refine ⟨w2, env', S2, G2, (P3.bind).imp (fun k S4 P4 w4 H4 b G4 E4 eb => ?_) fun _ _ _ z => z.elim⟩
          cases eb
          cases k with
          | false =>
            have P4 : Post (compL (dcF C own nk nv tg cond env S1.length) (ds.drop (i + 1)) [] S4) _ _ := P4
            rw [if_neg Bool.false_ne_true]
            exact ⟨w4, S4, (E2.trans E3).trans E4, G4.wok, P4⟩
          | true =>
            have P4 : Post ((ev C nk env' S4).bind fun y S => (ev C nv env' S).bind fun v S => match dPutT (.ref S1.length) y v S with | some S' => Res.ok none S' | none => .st) _ _ := P4
            rw [if_pos rfl]
            refine ⟨w4, env', S4, G4, P4.bind.imp (fun dy S5 P5 w5 H5 v5 G5 E5 r5 => ?_) fun _ _ _ z => z.elim⟩
            refine ⟨w5, env', S5, G5, P5.bind.imp (fun dv S6 P6 w6 H6 v6 G6 E6 r6 => ?_) fun _ _ _ z => z.elim⟩
            split at P6
            · rename_i S7 hS
              have P6 : Post (compL (dcF C own nk nv tg cond env S1.length) (ds.drop (i + 1)) [] S7) _ _ := P6
              obtain ⟨ky, kvs, hk, hc, hl, rfl⟩ := dPutT_ref hS
              have E06 := ((((E2.trans E3).trans E4).trans E5).trans E6)
              have rD : RepT g H6 w6 (.ref S1.length) (.ref D) := .rep (.ref (E06.mu _ _ atn))
              obtain ⟨n', a, xs, e1, e2, ha, hS', hH, hn, sy, nd, at_, pr⟩ := cellT_of (kvs := kvs) G6.wok rD (by unfold dCellT; simp only [hc])
              cases e1
              cases e2
              have r5' : RepT g H6 w6 dy v5 := .rep ((show Rep g H5 w5 dy v5 from r5).per (E6.per G5.wok))
              obtain ⟨b, rfl, hb'⟩ := tkey_sq hk r5'
              refine ⟨b, xs, ky, rfl, ⟨by rw [x.P, x.wd]; exact hH, nd, by rw [x.K]; exact at_, sy, by rw [← pr.len]; exact hn⟩, by rw [x.K]; exact hb', fun u ru => ?_⟩
              rw [x.P, x.wd]
              have hm : D ∈ w6.mu := List.mem_of_getElem? ha
              have Ex : Ext w6 H6 w6 (upd H6 D (DtO g.P g.wd D (storedH xs ky b u))) := .put hm
              have pp := pr.put (k := ky) (a := b) r6 ru
              have ln : (setT kvs ky dv).length ≤ sizeLine := by
                have h1 := pp.len
                have h2 := storedH_length xs ky b u
                have h3 := pr.len
                rw [sizeLine_eq]
                omega
              have ok7 := G6.wok.putX (c0 := .dctT (setT kvs ky dv)) ha (cellT_mk upd_same ln sy (storedH_nodup nd) (fun y hy => SqT.per (Ex.per G6.wok) (by
                rcases mem_storedH_key hy with ⟨z, hz, e1, e2⟩ | ⟨e1, e2⟩
                · rw [e1, e2]; exact at_ z hz
                · rw [e1, e2]; exact hb')) (pp.per (Ex.per G6.wok)))
              exact ⟨w6, _, E06.trans Ex, ok7, P6⟩
            · exact P6.elim
    · have e1 : i = ds.length := by omega
      subst e1
      left
      refine ⟨itok.stop w2 H2 S2 ok2 (show RelB true w1 H1 w2 H2 from e0.trans E2), ?_⟩
      rw [List.drop_length] at P2
      have EE := e0.trans E2
      exact P2 w2 H2 (.ref D) (G1.step EE ok2) (E1.trans EE) (.of (.ref (E2.mu _ _ atn)))
  · cases h
end
end Fx

set_option maxHeartbeats 4000000
/-! Fx7h: every piece. -/
namespace Fx
open PySem PySem.Spec PyProof.Rows L2

theorem snd_all {g : G} {fr : Frm} {C : Ev} (n : N) : Snd g fr C n ∧ ValsSnd g fr C n := by
  induction n with
  | nil =>
    exact ⟨⟨fun x p e h => (by unfold chk at h; first | (cases h; done) | (simp at h; done)),
      fun x e hf h => (by cases hf),
      fun x p es h => as_nil h,
      fun x es h => kw_nil h,
      fun x e h => o_nil h,
      fun x e h => (by unfold chkT at h; cases h),
      fun x op es pos h => (by unfold chkT at h; first | (cases h; done) | (simp at h; done)),
      fun x p tg e h => (by unfold chkI at h; cases h),
      fun x es h => c_nil h,
      fun x e h => (by unfold chkG at h; cases h),
      fun x es h => gs_nil h⟩, vals_snd_nil⟩
  | cons a b ha hb =>
    exact ⟨⟨fun x p e h => (by unfold chk at h; first | (cases h; done) | (simp at h; done)),
      fun x e hf h => (by cases hf),
      fun x p es h => as_cons ha.1 hb.1 x p es h,
      fun x es h => kw_cons ha.1 hb.1 x es h,
      fun x e h => o_cons ha.1 x h,
      fun x e h => (by unfold chkT at h; cases h),
      fun x op es pos h => (by unfold chkT at h; first | (cases h; done) | (simp at h; done)),
      fun x p tg e h => (by unfold chkI at h; cases h),
      fun x es h => c_cons ha.1 x es h,
      fun x e h => (by unfold chkG at h; cases h),
      fun x es h => gs_cons ha.1 hb.1 x es h⟩, (vals_snd_cons ha.1 hb.2)⟩
  | var i =>
    exact ⟨⟨fun x p e h => e_var x p e h,
      fun x e hf h => (by cases hf),
      fun x p es h => (by unfold chks at h; cases h),
      fun x es h => (by unfold chkw at h; cases h),
      fun x e h => (by unfold chkO at h; cases h),
      fun x e h => (by unfold chkT at h; cases h),
      fun x op es pos h => (by unfold chkT at h; first | (cases h; done) | (simp at h; done)),
      fun x p tg e h => (by unfold chkI at h; cases h),
      fun x es h => (by unfold chkC at h; cases h),
      fun x e h => (by unfold chkG at h; cases h),
      fun x es h => (by unfold chkGs at h; cases h)⟩, fun x ks keys es pos hk hs => (by unfold chks at hs; cases hs)⟩
  | pk i =>
    exact ⟨⟨fun x p e h => e_pk x p e h,
      fun x e hf h => (by cases hf),
      fun x p es h => (by unfold chks at h; cases h),
      fun x es h => (by unfold chkw at h; cases h),
      fun x e h => (by unfold chkO at h; cases h),
      fun x e h => (by unfold chkT at h; cases h),
      fun x op es pos h => (by unfold chkT at h; first | (cases h; done) | (simp at h; done)),
      fun x p tg e h => (by unfold chkI at h; cases h),
      fun x es h => (by unfold chkC at h; cases h),
      fun x e h => (by unfold chkG at h; cases h),
      fun x es h => (by unfold chkGs at h; cases h)⟩, fun x ks keys es pos hk hs => (by unfold chks at hs; cases hs)⟩
  | gl x =>
    exact ⟨⟨fun x p e h => (by unfold chk at h; first | (cases h; done) | (simp at h; done)),
      fun x e hf h => (by cases hf),
      fun x p es h => (by unfold chks at h; cases h),
      fun x es h => (by unfold chkw at h; cases h),
      fun x e h => (by unfold chkO at h; cases h),
      fun x e h => (by unfold chkT at h; cases h),
      fun x op es pos h => (by unfold chkT at h; first | (cases h; done) | (simp at h; done)),
      fun x p tg e h => (by unfold chkI at h; cases h),
      fun x es h => (by unfold chkC at h; cases h),
      fun x e h => (by unfold chkG at h; cases h),
      fun x es h => (by unfold chkGs at h; cases h)⟩, fun x ks keys es pos hk hs => (by unfold chks at hs; cases hs)⟩
  | cI i =>
    exact ⟨⟨fun x p e h => e_cI x p e h,
      fun x e hf h => (by cases hf),
      fun x p es h => (by unfold chks at h; cases h),
      fun x es h => (by unfold chkw at h; cases h),
      fun x e h => (by unfold chkO at h; cases h),
      fun x e h => (by unfold chkT at h; cases h),
      fun x op es pos h => (by unfold chkT at h; first | (cases h; done) | (simp at h; done)),
      fun x p tg e h => (by unfold chkI at h; cases h),
      fun x es h => (by unfold chkC at h; cases h),
      fun x e h => (by unfold chkG at h; cases h),
      fun x es h => (by unfold chkGs at h; cases h)⟩, fun x ks keys es pos hk hs => (by unfold chks at hs; cases hs)⟩
  | cS x =>
    exact ⟨⟨fun x p e h => e_cS x p e h,
      fun x e hf h => (by cases hf),
      fun x p es h => (by unfold chks at h; cases h),
      fun x es h => (by unfold chkw at h; cases h),
      fun x e h => (by unfold chkO at h; cases h),
      fun x e h => (by unfold chkT at h; cases h),
      fun x op es pos h => (by unfold chkT at h; first | (cases h; done) | (simp at h; done)),
      fun x p tg e h => (by unfold chkI at h; cases h),
      fun x es h => (by unfold chkC at h; cases h),
      fun x e h => (by unfold chkG at h; cases h),
      fun x es h => (by unfold chkGs at h; cases h)⟩, fun x ks keys es pos hk hs => (by unfold chks at hs; cases hs)⟩
  | cB b =>
    exact ⟨⟨fun x p e h => e_cB p e h,
      fun x e hf h => (by cases hf),
      fun x p es h => (by unfold chks at h; cases h),
      fun x es h => (by unfold chkw at h; cases h),
      fun x e h => (by unfold chkO at h; cases h),
      fun x e h => (by unfold chkT at h; cases h),
      fun x op es pos h => (by unfold chkT at h; first | (cases h; done) | (simp at h; done)),
      fun x p tg e h => (by unfold chkI at h; cases h),
      fun x es h => (by unfold chkC at h; cases h),
      fun x e h => (by unfold chkG at h; cases h),
      fun x es h => (by unfold chkGs at h; cases h)⟩, fun x ks keys es pos hk hs => (by unfold chks at hs; cases hs)⟩
  | cT xs =>
    exact ⟨⟨fun x p e h => e_cT x p e h,
      fun x e hf h => (by cases hf),
      fun x p es h => (by unfold chks at h; cases h),
      fun x es h => (by unfold chkw at h; cases h),
      fun x e h => (by unfold chkO at h; cases h),
      fun x e h => (by unfold chkT at h; cases h),
      fun x op es pos h => (by unfold chkT at h; first | (cases h; done) | (simp at h; done)),
      fun x p tg e h => (by unfold chkI at h; cases h),
      fun x es h => (by unfold chkC at h; cases h),
      fun x e h => (by unfold chkG at h; cases h),
      fun x es h => (by unfold chkGs at h; cases h)⟩, fun x ks keys es pos hk hs => (by unfold chks at hs; cases hs)⟩
  | cN =>
    exact ⟨⟨fun x p e h => e_cN p e h,
      fun x e hf h => (by cases hf),
      fun x p es h => (by unfold chks at h; cases h),
      fun x es h => (by unfold chkw at h; cases h),
      fun x e h => (by unfold chkO at h; cases h),
      fun x e h => (by unfold chkT at h; cases h),
      fun x op es pos h => (by unfold chkT at h; first | (cases h; done) | (simp at h; done)),
      fun x p tg e h => (by unfold chkI at h; cases h),
      fun x es h => (by unfold chkC at h; cases h),
      fun x e h => (by unfold chkG at h; cases h),
      fun x es h => (by unfold chkGs at h; cases h)⟩, fun x ks keys es pos hk hs => (by unfold chks at hs; cases hs)⟩
  | tup es hes =>
    exact ⟨⟨fun x p e h => e_tup hes.1 x p e h,
      fun x e hf h => (by cases hf),
      fun x p es h => (by unfold chks at h; cases h),
      fun x es h => (by unfold chkw at h; cases h),
      fun x e h => (by unfold chkO at h; cases h),
      fun x e h => (by unfold chkT at h; cases h),
      fun x op es pos h => (by unfold chkT at h; first | (cases h; done) | (simp at h; done)),
      fun x p tg e h => (by unfold chkI at h; cases h),
      fun x es h => (by unfold chkC at h; cases h),
      fun x e h => (by unfold chkG at h; cases h),
      fun x es h => (by unfold chkGs at h; cases h)⟩, fun x ks keys es pos hk hs => (by unfold chks at hs; cases hs)⟩
  | lst es hes =>
    exact ⟨⟨fun x p e h => PE.ofN (e_lst hes.1 x e p h) p,
      fun x e hf h => e_lst hes.1 x e false h,
      fun x p es h => (by unfold chks at h; cases h),
      fun x es h => (by unfold chkw at h; cases h),
      fun x e h => (by unfold chkO at h; cases h),
      fun x e h => (by unfold chkT at h; cases h),
      fun x op es pos h => (by unfold chkT at h; first | (cases h; done) | (simp at h; done)),
      fun x p tg e h => (by unfold chkI at h; cases h),
      fun x es h => (by unfold chkC at h; cases h),
      fun x e h => (by unfold chkG at h; cases h),
      fun x es h => (by unfold chkGs at h; cases h)⟩, fun x ks keys es pos hk hs => (by unfold chks at hs; cases hs)⟩
  | dct ks vs hvs =>
    exact ⟨⟨fun x p e h => e_dct hvs.2 x p e h,
      fun x e hf h => (by cases hf),
      fun x p es h => (by unfold chks at h; cases h),
      fun x es h => (by unfold chkw at h; cases h),
      fun x e h => (by unfold chkO at h; cases h),
      fun x e h => (by unfold chkT at h; cases h),
      fun x op es pos h => (by unfold chkT at h; first | (cases h; done) | (simp at h; done)),
      fun x p tg e h => (by unfold chkI at h; cases h),
      fun x es h => (by unfold chkC at h; cases h),
      fun x e h => (by unfold chkG at h; cases h),
      fun x es h => (by unfold chkGs at h; cases h)⟩, fun x ks keys es pos hk hs => (by unfold chks at hs; cases hs)⟩
  | bin op a b ha hb =>
    exact ⟨⟨fun x p e h => PE.ofN (e_bin ha.1 hb.1 x p e h) p,
      fun x e hf h => e_bin ha.1 hb.1 x false e h,
      fun x p es h => (by unfold chks at h; cases h),
      fun x es h => (by unfold chkw at h; cases h),
      fun x e h => (by unfold chkO at h; cases h),
      fun x e h => (by unfold chkT at h; cases h),
      fun x op es pos h => (by unfold chkT at h; first | (cases h; done) | (simp at h; done)),
      fun x p tg e h => (by unfold chkI at h; cases h),
      fun x es h => (by unfold chkC at h; cases h),
      fun x e h => (by unfold chkG at h; cases h),
      fun x es h => (by unfold chkGs at h; cases h)⟩, fun x ks keys es pos hk hs => (by unfold chks at hs; cases hs)⟩
  | neg a ha =>
    exact ⟨⟨fun x p e h => e_neg ha.1 x p e h,
      fun x e hf h => (by cases hf),
      fun x p es h => (by unfold chks at h; cases h),
      fun x es h => (by unfold chkw at h; cases h),
      fun x e h => (by unfold chkO at h; cases h),
      fun x e h => (by unfold chkT at h; cases h),
      fun x op es pos h => (by unfold chkT at h; first | (cases h; done) | (simp at h; done)),
      fun x p tg e h => (by unfold chkI at h; cases h),
      fun x es h => (by unfold chkC at h; cases h),
      fun x e h => (by unfold chkG at h; cases h),
      fun x es h => (by unfold chkGs at h; cases h)⟩, fun x ks keys es pos hk hs => (by unfold chks at hs; cases hs)⟩
  | cmp op a b ha hb =>
    exact ⟨⟨fun x p e h => e_cmp ha.1 hb.1 x p e h,
      fun x e hf h => (by cases hf),
      fun x p es h => (by unfold chks at h; cases h),
      fun x es h => (by unfold chkw at h; cases h),
      fun x e h => (by unfold chkO at h; cases h),
      fun x e h => t_cmp ha.1 hb.1 x e h,
      fun x op es pos h => (by unfold chkT at h; first | (cases h; done) | (simp at h; done)),
      fun x p tg e h => (by unfold chkI at h; cases h),
      fun x es h => (by unfold chkC at h; cases h),
      fun x e h => (by unfold chkG at h; cases h),
      fun x es h => (by unfold chkGs at h; cases h)⟩, fun x ks keys es pos hk hs => (by unfold chks at hs; cases hs)⟩
  | chn o o2 a b c ha hb hc =>
    exact ⟨⟨fun x p e h => e_chn ha.1 hb.1 hc.1 x p e h,
      fun x e hf h => (by cases hf),
      fun x p es h => (by unfold chks at h; cases h),
      fun x es h => (by unfold chkw at h; cases h),
      fun x e h => (by unfold chkO at h; cases h),
      fun x e h => t_chn ha.1 hb.1 hc.1 x e h,
      fun x op es pos h => (by unfold chkT at h; first | (cases h; done) | (simp at h; done)),
      fun x p tg e h => (by unfold chkI at h; cases h),
      fun x es h => (by unfold chkC at h; cases h),
      fun x e h => (by unfold chkG at h; cases h),
      fun x es h => (by unfold chkGs at h; cases h)⟩, fun x ks keys es pos hk hs => (by unfold chks at hs; cases hs)⟩
  | vand a b ha hb =>
    exact ⟨⟨fun x p e h => e_vand ha.1 hb.1 x p e h,
      fun x e hf h => (by cases hf),
      fun x p es h => (by unfold chks at h; cases h),
      fun x es h => (by unfold chkw at h; cases h),
      fun x e h => (by unfold chkO at h; cases h),
      fun x e h => (by unfold chkT at h; cases h),
      fun x op es pos h => (by unfold chkT at h; first | (cases h; done) | (simp at h; done)),
      fun x p tg e h => (by unfold chkI at h; cases h),
      fun x es h => (by unfold chkC at h; cases h),
      fun x e h => (by unfold chkG at h; cases h),
      fun x es h => (by unfold chkGs at h; cases h)⟩, fun x ks keys es pos hk hs => (by unfold chks at hs; cases hs)⟩
  | vor a b ha hb =>
    exact ⟨⟨fun x p e h => e_vor ha.1 hb.1 x p e h,
      fun x e hf h => (by cases hf),
      fun x p es h => (by unfold chks at h; cases h),
      fun x es h => (by unfold chkw at h; cases h),
      fun x e h => (by unfold chkO at h; cases h),
      fun x e h => (by unfold chkT at h; cases h),
      fun x op es pos h => (by unfold chkT at h; first | (cases h; done) | (simp at h; done)),
      fun x p tg e h => (by unfold chkI at h; cases h),
      fun x es h => (by unfold chkC at h; cases h),
      fun x e h => (by unfold chkG at h; cases h),
      fun x es h => (by unfold chkGs at h; cases h)⟩, fun x ks keys es pos hk hs => (by unfold chks at hs; cases hs)⟩
  | vnot a ha =>
    exact ⟨⟨fun x p e h => e_vnot ha.1 x p e h,
      fun x e hf h => (by cases hf),
      fun x p es h => (by unfold chks at h; cases h),
      fun x es h => (by unfold chkw at h; cases h),
      fun x e h => (by unfold chkO at h; cases h),
      fun x e h => (by unfold chkT at h; cases h),
      fun x op es pos h => (by unfold chkT at h; first | (cases h; done) | (simp at h; done)),
      fun x p tg e h => (by unfold chkI at h; cases h),
      fun x es h => (by unfold chkC at h; cases h),
      fun x e h => (by unfold chkG at h; cases h),
      fun x es h => (by unfold chkGs at h; cases h)⟩, fun x ks keys es pos hk hs => (by unfold chks at hs; cases hs)⟩
  | ite c a b hc ha hb =>
    exact ⟨⟨fun x p e h => e_ite hc.1 ha.1 hb.1 x p e h,
      fun x e hf h => (by cases hf),
      fun x p es h => (by unfold chks at h; cases h),
      fun x es h => (by unfold chkw at h; cases h),
      fun x e h => (by unfold chkO at h; cases h),
      fun x e h => (by unfold chkT at h; cases h),
      fun x op es pos h => (by unfold chkT at h; first | (cases h; done) | (simp at h; done)),
      fun x p tg e h => (by unfold chkI at h; cases h),
      fun x es h => (by unfold chkC at h; cases h),
      fun x e h => (by unfold chkG at h; cases h),
      fun x es h => (by unfold chkGs at h; cases h)⟩, fun x ks keys es pos hk hs => (by unfold chks at hs; cases hs)⟩
  | idx a i ha hi =>
    exact ⟨⟨fun x p e h => e_idx ha.1 hi.1 x p e h,
      fun x e hf h => (by cases hf),
      fun x p es h => (by unfold chks at h; cases h),
      fun x es h => (by unfold chkw at h; cases h),
      fun x e h => (by unfold chkO at h; cases h),
      fun x e h => (by unfold chkT at h; cases h),
      fun x op es pos h => (by unfold chkT at h; first | (cases h; done) | (simp at h; done)),
      fun x p tg e h => (by unfold chkI at h; cases h),
      fun x es h => (by unfold chkC at h; cases h),
      fun x e h => (by unfold chkG at h; cases h),
      fun x es h => (by unfold chkGs at h; cases h)⟩, fun x ks keys es pos hk hs => (by unfold chks at hs; cases hs)⟩
  | slc a lo hi ha hlo hhi =>
    exact ⟨⟨fun x p e h => PE.ofN (e_slc ha.1 hlo.1 hhi.1 x p e h) p,
      fun x e hf h => e_slc ha.1 hlo.1 hhi.1 x false e h,
      fun x p es h => (by unfold chks at h; cases h),
      fun x es h => (by unfold chkw at h; cases h),
      fun x e h => (by unfold chkO at h; cases h),
      fun x e h => (by unfold chkT at h; cases h),
      fun x op es pos h => (by unfold chkT at h; first | (cases h; done) | (simp at h; done)),
      fun x p tg e h => (by unfold chkI at h; cases h),
      fun x es h => (by unfold chkC at h; cases h),
      fun x e h => (by unfold chkG at h; cases h),
      fun x es h => (by unfold chkGs at h; cases h)⟩, fun x ks keys es pos hk hs => (by unfold chks at hs; cases hs)⟩
  | dget d k hd =>
    exact ⟨⟨fun x p e h => e_dget hd.1 x p e h,
      fun x e hf h => (by cases hf),
      fun x p es h => (by unfold chks at h; cases h),
      fun x es h => (by unfold chkw at h; cases h),
      fun x e h => (by unfold chkO at h; cases h),
      fun x e h => (by unfold chkT at h; cases h),
      fun x op es pos h => (by unfold chkT at h; first | (cases h; done) | (simp at h; done)),
      fun x p tg e h => (by unfold chkI at h; cases h),
      fun x es h => (by unfold chkC at h; cases h),
      fun x e h => (by unfold chkG at h; cases h),
      fun x es h => (by unfold chkGs at h; cases h)⟩, fun x ks keys es pos hk hs => (by unfold chks at hs; cases hs)⟩
  | call f es ks ix hes hks =>
    exact ⟨⟨fun x p e h => e_call hes.1 hks.1 x p e h,
      fun x e hf h => (by cases hf),
      fun x p es h => (by unfold chks at h; cases h),
      fun x es h => (by unfold chkw at h; cases h),
      fun x e h => (by unfold chkO at h; cases h),
      fun x e h => (by unfold chkT at h; cases h),
      fun x op es pos h => (by unfold chkT at h; first | (cases h; done) | (simp at h; done)),
      fun x p tg e h => (by unfold chkI at h; cases h),
      fun x es h => (by unfold chkC at h; cases h),
      fun x e h => (by unfold chkG at h; cases h),
      fun x es h => (by unfold chkGs at h; cases h)⟩, fun x ks keys es pos hk hs => (by unfold chks at hs; cases hs)⟩
  | hear f hs e0 he0 =>
    exact ⟨⟨fun x p e h => e_hear he0.1 x p e h,
      fun x e hf h => (by cases hf),
      fun x p es h => (by unfold chks at h; cases h),
      fun x es h => (by unfold chkw at h; cases h),
      fun x e h => (by unfold chkO at h; cases h),
      fun x e h => (by unfold chkT at h; cases h),
      fun x op es pos h => (by unfold chkT at h; first | (cases h; done) | (simp at h; done)),
      fun x p tg e h => (by unfold chkI at h; cases h),
      fun x es h => (by unfold chkC at h; cases h),
      fun x e h => (by unfold chkG at h; cases h),
      fun x es h => (by unfold chkGs at h; cases h)⟩, fun x ks keys es pos hk hs => (by unfold chks at hs; cases hs)⟩
  | bi b es hes =>
    exact ⟨⟨fun x p e h => PE.ofN (e_bi hes.1 x e (by cases p with | true => exact .inr h | false => exact .inl h)) p,
      fun x e hf h => (by have q := e_bi (fr := fr) hes.1 x e (.inl h); cases b <;> first | (cases hf; done) | exact q),
      fun x p es h => (by unfold chks at h; cases h),
      fun x es h => (by unfold chkw at h; cases h),
      fun x e h => (by unfold chkO at h; cases h),
      fun x e h => (by unfold chkT at h; cases h),
      fun x op es pos h => (by unfold chkT at h; first | (cases h; done) | (simp at h; done)),
      fun x p tg e h => (by unfold chkI at h; cases h),
      fun x es h => (by unfold chkC at h; cases h),
      fun x e h => (by unfold chkG at h; cases h),
      fun x es h => (by unfold chkGs at h; cases h)⟩, fun x ks keys es pos hk hs => (by unfold chks at hs; cases hs)⟩
  | isi a t ha =>
    exact ⟨⟨fun x p e h => e_isi ha.1 x p e h,
      fun x e hf h => (by cases hf),
      fun x p es h => (by unfold chks at h; cases h),
      fun x es h => (by unfold chkw at h; cases h),
      fun x e h => (by unfold chkO at h; cases h),
      fun x e h => (by unfold chkT at h; cases h),
      fun x op es pos h => (by unfold chkT at h; first | (cases h; done) | (simp at h; done)),
      fun x p tg e h => (by unfold chkI at h; cases h),
      fun x es h => (by unfold chkC at h; cases h),
      fun x e h => (by unfold chkG at h; cases h),
      fun x es h => (by unfold chkGs at h; cases h)⟩, fun x ks keys es pos hk hs => (by unfold chks at hs; cases hs)⟩
  | callB f es hes =>
    exact ⟨⟨fun x p e h => e_callB hes.1 x p e h,
      fun x e hf h => (by cases hf),
      fun x p es h => (by unfold chks at h; cases h),
      fun x es h => (by unfold chkw at h; cases h),
      fun x e h => (by unfold chkO at h; cases h),
      fun x e h => (by unfold chkT at h; cases h),
      fun x op es pos h => (by unfold chkT at h; first | (cases h; done) | (simp at h; done)),
      fun x p tg e h => (by unfold chkI at h; cases h),
      fun x es h => (by unfold chkC at h; cases h),
      fun x e h => (by unfold chkG at h; cases h),
      fun x es h => (by unfold chkGs at h; cases h)⟩, fun x ks keys es pos hk hs => (by unfold chks at hs; cases hs)⟩
  | comp own elt tg it cond helt htg hit hcond =>
    exact ⟨⟨fun x p e h => PE.ofN (e_comp helt.1 htg.1 hit.1 hcond.1 x p e h) p,
      fun x e hf h => e_comp helt.1 htg.1 hit.1 hcond.1 x false e h,
      fun x p es h => (by unfold chks at h; cases h),
      fun x es h => (by unfold chkw at h; cases h),
      fun x e h => (by unfold chkO at h; cases h),
      fun x e h => (by unfold chkT at h; cases h),
      fun x op es pos h => (by unfold chkT at h; first | (cases h; done) | (simp at h; done)),
      fun x p tg e h => (by unfold chkI at h; cases h),
      fun x es h => (by unfold chkC at h; cases h),
      fun x e h => (by unfold chkG at h; cases h),
      fun x es h => (by unfold chkGs at h; cases h)⟩, fun x ks keys es pos hk hs => (by unfold chks at hs; cases hs)⟩
  | comp2 own own1 elt tg it cond tg1 it1 cond1 helt htg hit hcond htg1 hit1 hcond1 =>
    exact ⟨⟨fun x p e h => PE.ofN (e_comp2 helt.1 htg.1 hit.1 hcond.1 htg1.1 hit1.1 hcond1.1 x p e h) p,
      fun x e hf h => (by cases hf),
      fun x p es h => (by unfold chks at h; cases h),
      fun x es h => (by unfold chkw at h; cases h),
      fun x e h => (by unfold chkO at h; cases h),
      fun x e h => (by unfold chkT at h; cases h),
      fun x op es pos h => (by unfold chkT at h; first | (cases h; done) | (simp at h; done)),
      fun x p tg e h => (by unfold chkI at h; cases h),
      fun x es h => (by unfold chkC at h; cases h),
      fun x e h => (by unfold chkG at h; cases h),
      fun x es h => (by unfold chkGs at h; cases h)⟩, fun x ks keys es pos hk hs => (by unfold chks at hs; cases hs)⟩
  | lrng a b ha hb =>
    exact ⟨⟨fun x p e h => e_lrng ha.1 hb.1 x p e h,
      fun x e hf h => (by cases hf),
      fun x p es h => (by unfold chks at h; cases h),
      fun x es h => (by unfold chkw at h; cases h),
      fun x e h => (by unfold chkO at h; cases h),
      fun x e h => (by unfold chkT at h; cases h),
      fun x op es pos h => (by unfold chkT at h; first | (cases h; done) | (simp at h; done)),
      fun x p tg e h => (by unfold chkI at h; cases h),
      fun x es h => (by unfold chkC at h; cases h),
      fun x e h => (by unfold chkG at h; cases h),
      fun x es h => (by unfold chkGs at h; cases h)⟩, fun x ks keys es pos hk hs => (by unfold chks at hs; cases hs)⟩
  | dgetE d k hd hk =>
    exact ⟨⟨fun x p e h => e_dgetE hd.1 hk.1 x p e h,
      fun x e hf h => (by cases hf),
      fun x p es h => (by unfold chks at h; cases h),
      fun x es h => (by unfold chkw at h; cases h),
      fun x e h => (by unfold chkO at h; cases h),
      fun x e h => (by unfold chkT at h; cases h),
      fun x op es pos h => (by unfold chkT at h; first | (cases h; done) | (simp at h; done)),
      fun x p tg e h => (by unfold chkI at h; cases h),
      fun x es h => (by unfold chkC at h; cases h),
      fun x e h => (by unfold chkG at h; cases h),
      fun x es h => (by unfold chkGs at h; cases h)⟩, fun x ks keys es pos hk' hs => (by unfold chks at hs; cases hs)⟩
  | dhas neg k d hk hd =>
    exact ⟨⟨fun x p e h => e_dhas hk.1 hd.1 x p e h,
      fun x e hf h => (by cases hf),
      fun x p es h => (by unfold chks at h; cases h),
      fun x es h => (by unfold chkw at h; cases h),
      fun x e h => (by unfold chkO at h; cases h),
      fun x e h => t_dhas hk.1 hd.1 x e h,
      fun x op es pos h => (by unfold chkT at h; first | (cases h; done) | (simp at h; done)),
      fun x p tg e h => (by unfold chkI at h; cases h),
      fun x es h => (by unfold chkC at h; cases h),
      fun x e h => (by unfold chkG at h; cases h),
      fun x es h => (by unfold chkGs at h; cases h)⟩, fun x ks keys es pos hk' hs => (by unfold chks at hs; cases hs)⟩
  | rev a ha =>
    exact ⟨⟨fun x p e h => e_rev ha.1 x p e h,
      fun x e hf h => (by cases hf),
      fun x p es h => (by unfold chks at h; cases h),
      fun x es h => (by unfold chkw at h; cases h),
      fun x e h => (by unfold chkO at h; cases h),
      fun x e h => (by unfold chkT at h; cases h),
      fun x op es pos h => (by unfold chkT at h; first | (cases h; done) | (simp at h; done)),
      fun x p tg e h => (by unfold chkI at h; cases h),
      fun x es h => (by unfold chkC at h; cases h),
      fun x e h => (by unfold chkG at h; cases h),
      fun x es h => (by unfold chkGs at h; cases h)⟩, fun x ks keys es pos hk' hs => (by unfold chks at hs; cases hs)⟩
  | dcmpT own nk nv tg it cond hnk hnv htg hit hcond =>
    exact ⟨⟨fun x p e h => e_dcmpT hnk.1 hnv.1 htg.1 hit.1 hcond.1 x p e h,
      fun x e hf h => (by cases hf),
      fun x p es h => (by unfold chks at h; cases h),
      fun x es h => (by unfold chkw at h; cases h),
      fun x e h => (by unfold chkO at h; cases h),
      fun x e h => (by unfold chkT at h; cases h),
      fun x op es pos h => (by unfold chkT at h; first | (cases h; done) | (simp at h; done)),
      fun x p tg e h => (by unfold chkI at h; cases h),
      fun x es h => (by unfold chkC at h; cases h),
      fun x e h => (by unfold chkG at h; cases h),
      fun x es h => (by unfold chkGs at h; cases h)⟩, fun x ks keys es pos hk' hs => (by unfold chks at hs; cases hs)⟩
  | dnT =>
    exact ⟨⟨fun x p e h => e_dnT x p e h,
      fun x e hf h => (by cases hf),
      fun x p es h => (by unfold chks at h; cases h),
      fun x es h => (by unfold chkw at h; cases h),
      fun x e h => (by unfold chkO at h; cases h),
      fun x e h => (by unfold chkT at h; cases h),
      fun x op es pos h => (by unfold chkT at h; first | (cases h; done) | (simp at h; done)),
      fun x p tg e h => (by unfold chkI at h; cases h),
      fun x es h => (by unfold chkC at h; cases h),
      fun x e h => (by unfold chkG at h; cases h),
      fun x es h => (by unfold chkGs at h; cases h)⟩, fun x ks keys es pos hk' hs => (by unfold chks at hs; cases hs)⟩
  | dgetT d k hd hk =>
    exact ⟨⟨fun x p e h => e_dgetT hd.1 hk.1 x p e h,
      fun x e hf h => (by cases hf),
      fun x p es h => (by unfold chks at h; cases h),
      fun x es h => (by unfold chkw at h; cases h),
      fun x e h => (by unfold chkO at h; cases h),
      fun x e h => (by unfold chkT at h; cases h),
      fun x op es pos h => (by unfold chkT at h; first | (cases h; done) | (simp at h; done)),
      fun x p tg e h => (by unfold chkI at h; cases h),
      fun x es h => (by unfold chkC at h; cases h),
      fun x e h => (by unfold chkG at h; cases h),
      fun x es h => (by unfold chkGs at h; cases h)⟩, fun x ks keys es pos hk' hs => (by unfold chks at hs; cases hs)⟩
  | dhasT neg k d hk hd =>
    exact ⟨⟨fun x p e h => e_dhasT hk.1 hd.1 x p e h,
      fun x e hf h => (by cases hf),
      fun x p es h => (by unfold chks at h; cases h),
      fun x es h => (by unfold chkw at h; cases h),
      fun x e h => (by unfold chkO at h; cases h),
      fun x e h => (by unfold chkT at h; cases h),
      fun x op es pos h => (by unfold chkT at h; first | (cases h; done) | (simp at h; done)),
      fun x p tg e h => (by unfold chkI at h; cases h),
      fun x es h => (by unfold chkC at h; cases h),
      fun x e h => (by unfold chkG at h; cases h),
      fun x es h => (by unfold chkGs at h; cases h)⟩, fun x ks keys es pos hk' hs => (by unfold chks at hs; cases hs)⟩
  | dictT es hes =>
    exact ⟨⟨fun x p e h => e_dictT hes.1 x p e h,
      fun x e hf h => (by cases hf),
      fun x p es h => (by unfold chks at h; cases h),
      fun x es h => (by unfold chkw at h; cases h),
      fun x e h => (by unfold chkO at h; cases h),
      fun x e h => (by unfold chkT at h; cases h),
      fun x op es pos h => (by unfold chkT at h; first | (cases h; done) | (simp at h; done)),
      fun x p tg e h => (by unfold chkI at h; cases h),
      fun x es h => (by unfold chkC at h; cases h),
      fun x e h => (by unfold chkG at h; cases h),
      fun x es h => (by unfold chkGs at h; cases h)⟩, fun x ks keys es pos hk' hs => (by unfold chks at hs; cases hs)⟩
  | sortT es hes =>
    exact ⟨⟨fun x p e h => PE.ofN (e_sortT hes.1 x e (by cases p with | true => exact .inr h | false => exact .inl h)) p,
      fun x e hf h => e_sortT (fr := fr) hes.1 x e (.inl h),
      fun x p es h => (by unfold chks at h; cases h),
      fun x es h => (by unfold chkw at h; cases h),
      fun x e h => (by unfold chkO at h; cases h),
      fun x e h => (by unfold chkT at h; cases h),
      fun x op es pos h => (by unfold chkT at h; first | (cases h; done) | (simp at h; done)),
      fun x p tg e h => (by unfold chkI at h; cases h),
      fun x es h => (by unfold chkC at h; cases h),
      fun x e h => (by unfold chkG at h; cases h),
      fun x es h => (by unfold chkGs at h; cases h)⟩, fun x ks keys es pos hk' hs => (by unfold chks at hs; cases hs)⟩
  | tv a ha =>
    exact ⟨⟨fun x p e h => (by unfold chk at h; first | (cases h; done) | (simp at h; done)),
      fun x e hf h => (by cases hf),
      fun x p es h => (by unfold chks at h; cases h),
      fun x es h => (by unfold chkw at h; cases h),
      fun x e h => (by unfold chkO at h; cases h),
      fun x e h => t_tv ha.1 x e h,
      fun x op es pos h => (by unfold chkT at h; first | (cases h; done) | (simp at h; done)),
      fun x p tg e h => (by unfold chkI at h; cases h),
      fun x es h => (by unfold chkC at h; cases h),
      fun x e h => (by unfold chkG at h; cases h),
      fun x es h => (by unfold chkGs at h; cases h)⟩, fun x ks keys es pos hk hs => (by unfold chks at hs; cases hs)⟩
  | tand a b ha hb =>
    exact ⟨⟨fun x p e h => (by unfold chk at h; first | (cases h; done) | (simp at h; done)),
      fun x e hf h => (by cases hf),
      fun x p es h => (by unfold chks at h; cases h),
      fun x es h => (by unfold chkw at h; cases h),
      fun x e h => (by unfold chkO at h; cases h),
      fun x e h => (by obtain ⟨op, es, pos, rfl⟩ := bool_of (.inl h); exact (tw_tand ha.1 hb.1 x op es pos h).pt),
      fun x op es pos h => tw_tand ha.1 hb.1 x op es pos h,
      fun x p tg e h => (by unfold chkI at h; cases h),
      fun x es h => (by unfold chkC at h; cases h),
      fun x e h => (by unfold chkG at h; cases h),
      fun x es h => (by unfold chkGs at h; cases h)⟩, fun x ks keys es pos hk hs => (by unfold chks at hs; cases hs)⟩
  | tor a b ha hb =>
    exact ⟨⟨fun x p e h => (by unfold chk at h; first | (cases h; done) | (simp at h; done)),
      fun x e hf h => (by cases hf),
      fun x p es h => (by unfold chks at h; cases h),
      fun x es h => (by unfold chkw at h; cases h),
      fun x e h => (by unfold chkO at h; cases h),
      fun x e h => (by obtain ⟨op, es, pos, rfl⟩ := bool_of (.inr h); exact (tw_tor ha.1 hb.1 x op es pos h).pt),
      fun x op es pos h => tw_tor ha.1 hb.1 x op es pos h,
      fun x p tg e h => (by unfold chkI at h; cases h),
      fun x es h => (by unfold chkC at h; cases h),
      fun x e h => (by unfold chkG at h; cases h),
      fun x es h => (by unfold chkGs at h; cases h)⟩, fun x ks keys es pos hk hs => (by unfold chks at hs; cases hs)⟩
  | tnot a ha =>
    exact ⟨⟨fun x p e h => (by unfold chk at h; first | (cases h; done) | (simp at h; done)),
      fun x e hf h => (by cases hf),
      fun x p es h => (by unfold chks at h; cases h),
      fun x es h => (by unfold chkw at h; cases h),
      fun x e h => (by unfold chkO at h; cases h),
      fun x e h => t_tnot ha.1 x e h,
      fun x op es pos h => (by unfold chkT at h; first | (cases h; done) | (simp at h; done)),
      fun x p tg e h => (by unfold chkI at h; cases h),
      fun x es h => (by unfold chkC at h; cases h),
      fun x e h => (by unfold chkG at h; cases h),
      fun x es h => (by unfold chkGs at h; cases h)⟩, fun x ks keys es pos hk hs => (by unfold chks at hs; cases hs)⟩
  | seq a ha =>
    exact ⟨⟨fun x p e h => (by unfold chk at h; first | (cases h; done) | (simp at h; done)),
      fun x e hf h => (by cases hf),
      fun x p es h => (by unfold chks at h; cases h),
      fun x es h => (by unfold chkw at h; cases h),
      fun x e h => (by unfold chkO at h; cases h),
      fun x e h => (by unfold chkT at h; cases h),
      fun x op es pos h => (by unfold chkT at h; first | (cases h; done) | (simp at h; done)),
      fun x p tg e h => i_seq ha.1 x p tg e h,
      fun x es h => (by unfold chkC at h; cases h),
      fun x e h => (by unfold chkG at h; cases h),
      fun x es h => (by unfold chkGs at h; cases h)⟩, fun x ks keys es pos hk hs => (by unfold chks at hs; cases hs)⟩
  | seqT a ha =>
    exact ⟨⟨fun x p e h => (by unfold chk at h; first | (cases h; done) | (simp at h; done)),
      fun x e hf h => (by cases hf),
      fun x p es h => (by unfold chks at h; cases h),
      fun x es h => (by unfold chkw at h; cases h),
      fun x e h => (by unfold chkO at h; cases h),
      fun x e h => (by unfold chkT at h; cases h),
      fun x op es pos h => (by unfold chkT at h; first | (cases h; done) | (simp at h; done)),
      fun x p tg e h => i_seqT ha.1 x p tg e h,
      fun x es h => (by unfold chkC at h; cases h),
      fun x e h => (by unfold chkG at h; cases h),
      fun x es h => (by unfold chkGs at h; cases h)⟩, fun x ks keys es pos hk hs => (by unfold chks at hs; cases hs)⟩
  | rng1 a ha =>
    exact ⟨⟨fun x p e h => (by unfold chk at h; first | (cases h; done) | (simp at h; done)),
      fun x e hf h => (by cases hf),
      fun x p es h => (by unfold chks at h; cases h),
      fun x es h => (by unfold chkw at h; cases h),
      fun x e h => (by unfold chkO at h; cases h),
      fun x e h => (by unfold chkT at h; cases h),
      fun x op es pos h => (by unfold chkT at h; first | (cases h; done) | (simp at h; done)),
      fun x p tg e h => i_rng1 ha.1 x p tg e h,
      fun x es h => (by unfold chkC at h; cases h),
      fun x e h => (by unfold chkG at h; cases h),
      fun x es h => (by unfold chkGs at h; cases h)⟩, fun x ks keys es pos hk hs => (by unfold chks at hs; cases hs)⟩
  | rng2 a b ha hb =>
    exact ⟨⟨fun x p e h => (by unfold chk at h; first | (cases h; done) | (simp at h; done)),
      fun x e hf h => (by cases hf),
      fun x p es h => (by unfold chks at h; cases h),
      fun x es h => (by unfold chkw at h; cases h),
      fun x e h => (by unfold chkO at h; cases h),
      fun x e h => (by unfold chkT at h; cases h),
      fun x op es pos h => (by unfold chkT at h; first | (cases h; done) | (simp at h; done)),
      fun x p tg e h => i_rng2 ha.1 hb.1 x p tg e h,
      fun x es h => (by unfold chkC at h; cases h),
      fun x e h => (by unfold chkG at h; cases h),
      fun x es h => (by unfold chkGs at h; cases h)⟩, fun x ks keys es pos hk hs => (by unfold chks at hs; cases hs)⟩
  | enum a ha =>
    exact ⟨⟨fun x p e h => (by unfold chk at h; first | (cases h; done) | (simp at h; done)),
      fun x e hf h => (by cases hf),
      fun x p es h => (by unfold chks at h; cases h),
      fun x es h => (by unfold chkw at h; cases h),
      fun x e h => (by unfold chkO at h; cases h),
      fun x e h => (by unfold chkT at h; cases h),
      fun x op es pos h => (by unfold chkT at h; first | (cases h; done) | (simp at h; done)),
      fun x p tg e h => i_enum ha.1 x p tg e h,
      fun x es h => (by unfold chkC at h; cases h),
      fun x e h => (by unfold chkG at h; cases h),
      fun x es h => (by unfold chkGs at h; cases h)⟩, fun x ks keys es pos hk hs => (by unfold chks at hs; cases hs)⟩
  | zip a b ha hb =>
    exact ⟨⟨fun x p e h => (by unfold chk at h; first | (cases h; done) | (simp at h; done)),
      fun x e hf h => (by cases hf),
      fun x p es h => (by unfold chks at h; cases h),
      fun x es h => (by unfold chkw at h; cases h),
      fun x e h => (by unfold chkO at h; cases h),
      fun x e h => (by unfold chkT at h; cases h),
      fun x op es pos h => (by unfold chkT at h; first | (cases h; done) | (simp at h; done)),
      fun x p tg e h => i_zip ha.1 hb.1 x p tg e h,
      fun x es h => (by unfold chkC at h; cases h),
      fun x e h => (by unfold chkG at h; cases h),
      fun x es h => (by unfold chkGs at h; cases h)⟩, fun x ks keys es pos hk hs => (by unfold chks at hs; cases hs)⟩
  | tn i =>
    exact ⟨⟨fun x p e h => (by unfold chk at h; first | (cases h; done) | (simp at h; done)),
      fun x e hf h => (by cases hf),
      fun x p es h => (by unfold chks at h; cases h),
      fun x es h => (by unfold chkw at h; cases h),
      fun x e h => (by unfold chkO at h; cases h),
      fun x e h => (by unfold chkT at h; cases h),
      fun x op es pos h => (by unfold chkT at h; first | (cases h; done) | (simp at h; done)),
      fun x p tg e h => (by unfold chkI at h; cases h),
      fun x es h => (by unfold chkC at h; cases h),
      fun x e h => g_tn x e h,
      fun x es h => (by unfold chkGs at h; cases h)⟩, fun x ks keys es pos hk hs => (by unfold chks at hs; cases hs)⟩
  | tt es hes =>
    exact ⟨⟨fun x p e h => (by unfold chk at h; first | (cases h; done) | (simp at h; done)),
      fun x e hf h => (by cases hf),
      fun x p es h => (by unfold chks at h; cases h),
      fun x es h => (by unfold chkw at h; cases h),
      fun x e h => (by unfold chkO at h; cases h),
      fun x e h => (by unfold chkT at h; cases h),
      fun x op es pos h => (by unfold chkT at h; first | (cases h; done) | (simp at h; done)),
      fun x p tg e h => (by unfold chkI at h; cases h),
      fun x es h => (by unfold chkC at h; cases h),
      fun x e h => g_tt hes.1 x e h,
      fun x es h => (by unfold chkGs at h; cases h)⟩, fun x ks keys es pos hk hs => (by unfold chks at hs; cases hs)⟩
  | mkx c ln fs sw es ks hes hks =>
    exact ⟨⟨fun x p e h => e_mkx hes.1 hks.1 x p e h,
      fun x e hf h => (by cases hf),
      fun x p es h => (by unfold chks at h; cases h),
      fun x es h => (by unfold chkw at h; cases h),
      fun x e h => (by unfold chkO at h; cases h),
      fun x e h => (by unfold chkT at h; cases h),
      fun x op es pos h => (by unfold chkT at h; first | (cases h; done) | (simp at h; done)),
      fun x p tg e h => (by unfold chkI at h; cases h),
      fun x es h => (by unfold chkC at h; cases h),
      fun x e h => (by unfold chkG at h; cases h),
      fun x es h => (by unfold chkGs at h; cases h)⟩, fun x ks keys es pos hk' hs => (by unfold chks at hs; cases hs)⟩
  | isx a c ha =>
    exact ⟨⟨fun x p e h => e_isx ha.1 x p e h,
      fun x e hf h => (by cases hf),
      fun x p es h => (by unfold chks at h; cases h),
      fun x es h => (by unfold chkw at h; cases h),
      fun x e h => (by unfold chkO at h; cases h),
      fun x e h => (by unfold chkT at h; cases h),
      fun x op es pos h => (by unfold chkT at h; first | (cases h; done) | (simp at h; done)),
      fun x p tg e h => (by unfold chkI at h; cases h),
      fun x es h => (by unfold chkC at h; cases h),
      fun x e h => (by unfold chkG at h; cases h),
      fun x es h => (by unfold chkGs at h; cases h)⟩, fun x ks keys es pos hk' hs => (by unfold chks at hs; cases hs)⟩
  | fld a f ha =>
    exact ⟨⟨fun x p e h => e_fld ha.1 x p e h,
      fun x e hf h => (by cases hf),
      fun x p es h => (by unfold chks at h; cases h),
      fun x es h => (by unfold chkw at h; cases h),
      fun x e h => (by unfold chkO at h; cases h),
      fun x e h => (by unfold chkT at h; cases h),
      fun x op es pos h => (by unfold chkT at h; first | (cases h; done) | (simp at h; done)),
      fun x p tg e h => (by unfold chkI at h; cases h),
      fun x es h => (by unfold chkC at h; cases h),
      fun x e h => (by unfold chkG at h; cases h),
      fun x es h => (by unfold chkGs at h; cases h)⟩, fun x ks keys es pos hk' hs => (by unfold chks at hs; cases hs)⟩
  | _ =>
    exact ⟨⟨fun x p e h => (by unfold chk at h; first | (cases h; done) | (simp at h; done)),
      fun x e hf h => (by cases hf),
      fun x p es h => (by unfold chks at h; cases h),
      fun x es h => (by unfold chkw at h; cases h),
      fun x e h => (by unfold chkO at h; cases h),
      fun x e h => (by unfold chkT at h; cases h),
      fun x op es pos h => (by unfold chkT at h; first | (cases h; done) | (simp at h; done)),
      fun x p tg e h => (by unfold chkI at h; cases h),
      fun x es h => (by unfold chkC at h; cases h),
      fun x e h => (by unfold chkG at h; cases h),
      fun x es h => (by unfold chkGs at h; cases h)⟩, fun x ks keys es pos hk hs => (by unfold chks at hs; cases hs)⟩

theorem snd {g : G} {fr : Frm} {C : Ev} (n : N) : Snd g fr C n := (snd_all n).1
end Fx

set_option maxHeartbeats 4000000
/-! Fx8: statements. -/
namespace Fx
open PySem PySem.Spec PyProof.Rows L2

/-- what a statement writes -/
def asg : N → Nat → Bool
  | .cons a b, j => asg a j || asg b j
  | .set i _, j => i == j
  | .setO i _, j => i == j
  | .unp tg _, j => asgT tg j
  | .par i k _ _, j => i == j || k == j
  | .par3 i k l _ _ _, j => i == j || k == j || l == j
  | .app i _, j => i == j
  | .extL i _, j => i == j
  | .frz i, j => i == j
  | .ifs _ a b, j => asg a j || asg b j
  | .for_ tg _ b, j => asgT tg j || asg b j
  | .tryB a _ _, j => asg a j
  | .tryA a _ _, j => asg a j
  | .lput i _ _, j => i == j
  | .tryE i _ _ _ n, j => i == j || n == j
  | .whl _ b, j => asg b j
  | _, _ => false
def nmS (s : Sc) (i : Nat) (x : Str) : Bool := decide (s.N[i]? = some x) && stB s x
/-- a value whose assignment swaps nothing -/
def noSwB : Expr → Bool
  | .Name .. => true
  | .Constant .. => true
  | .Tuple .. => true
  | .Call .. => true
  | .BinOp .. => true
  | .List .. => true
  | _ => false
def lcB : Expr → Bool
  | .ListComp .. => true
  | .SetComp .. => true
  | .DictComp .. => true
  | _ => false
def parB (s : Sc) (x y : Str) (px py : Pos) (a b : Expr) : Bool :=
  decide (s.sc.names.lookup x = some .local) && decide (s.sc.names.lookup y = some .local) && (px.line == py.line) && !(x == y) && notStar a && notStar b && !(foldedForSure 8 a && foldedForSure 8 b) && !(constantsAlone 8 a && constantsAlone 8 b)
def parB3 (s : Sc) (x y z : Str) (px py pz : Pos) (a b c : Expr) : Bool :=
  decide (s.sc.names.lookup x = some .local) && decide (s.sc.names.lookup y = some .local) && decide (s.sc.names.lookup z = some .local) && (px.line == py.line) && (px.line == pz.line) && !(x == y) && !(x == z) && !(y == z) && notStar a && notStar b && notStar c && !(foldedForSure 8 a && foldedForSure 8 b && foldedForSure 8 c) && !(constantsAlone 8 a && constantsAlone 8 b && constantsAlone 8 c)
/-- the plain local names among the targets, on the first one's row -/
def plainN (lk : Str → Option NameKind) (ts : List Expr) : List Str := ts.filterMap fun
  | .Name id pos => if lk id == some .local && pos.line == (ts.head?.map (·.pos.line)).getD 0 then some id else none
  | _ => none
/-- no comprehension of two clauses -/
def no2 : N → Bool
  | .comp2 .. => false
  | .dcmpT .. => false
  | _ => true
/-- no pair of stores is exchanged -/
def noSwap (lk : Str → Option NameKind) (ts : List Expr) : Expr → Bool
  | .Tuple vs _ _ => !(ts.length == 2 || ts.length == 3) || vs.length != ts.length || (plainN lk ts).length != ts.length || vs.all (foldedForSure 8)
  | _ => true
mutual
/-- a statement -/
def chkS (s : Sc) (n : N) (st : Stmt) : Bool :=
  match n with
  | .gl _ => true
  | .set i e => match st with
    | .Assign [.Name x _] v _ => no2 e && nmS s i x && chk s false e v
    | _ => false
  | .setO i e => match st with
    | .Assign [.Name x _] v _ => nmS s i x && isFresh e && chk s false e v
    | _ => false
  | .unp tg e => match st with
    | .Assign [.Tuple ts k tp] v _ => noSwap (fun x => s.sc.names.lookup x) ts v && chkG s tg (.Tuple ts k tp) && chk s false e v
    | _ => false
  | .par3 i j l a b c => match st with
    | .Assign [.Tuple [.Name x px, .Name y py, .Name z pz] _ _] (.Tuple [v, u, t] _ _) _ => decide (s.N[i]? = some x) && decide (s.N[j]? = some y) && decide (s.N[l]? = some z) && parB3 s x y z px py pz v u t && chk s false a v && chk s false b u && chk s false c t
    | _ => false
  | .par i j a b => match st with
    | .Assign [.Tuple [.Name x px, .Name y py] _ _] (.Tuple [v, u] _ _) _ => decide (s.N[i]? = some x) && decide (s.N[j]? = some y) && decide (i ≠ j) && parB s x y px py v u && chk s false a v && chk s false b u
    | _ => false
  | .app i e => match st with
    | .Expr (.Call (.Attribute (.Name x _) m ap) [v] [] cp) _ => decide (m = ("append" : Str)) && nmB s i x && (ap.endLine == cp.line) && notStar v && chk s false e v
    | _ => false
  | .extL i e => match st with
    | .Expr (.Call (.Attribute (.Name x _) m ap) [v] [] cp) _ => decide (m = ("extend" : Str)) && nmB s i x && (ap.endLine == cp.line) && notStar v && isFresh e && chk s false e v
    | _ => false
  | .dputT d k e => match st with
    | .Assign [.Subscript o i _] v _ => chk s true d o && chk s true k i && chk s false e v
    | _ => false
  | .tryA a cs b => match st with
    | .Try bs [.ExceptHandler (some (.Name y _)) none [.Return (some (.Constant (.bool v) _ _)) _] _] [] [] _ => decide (b = v) && s.def_ && glB s y && okN y && s.bases.contains y && (cs.all fun c => (s.excs.lookup c).isSome) && chkB s a bs
    | _ => false
  | .dput d k e => match st with
    | .Assign [.Subscript o (.Constant (.str y) _ _) _] v _ => decide (k = y) && chk s true d o && chk s false e v
    | _ => false
  | .expr e => match st with
    | .Expr v _ => !lcB v && chk s false e v
    | _ => false
  | .ret e => match st with
    | .Return (some v) _ => chk s false e v
    | _ => false
  | .retN => match st with
    | .Return none _ => true
    | _ => false
  | .ifs c a b => match st with
    | .If t x y _ => chkT s c t && chkB s a x && chkB s b y
    | _ => false
  | .for_ tg it b => match st with
    | .For t e body [] _ => chkI s false t it e && chkG s tg t && chkB s b body
    | _ => false
  | .whl c b => match st with
    | .While t body [] _ => chkT s c t && chkB s b body
    | _ => false
  | .tryB a c b => match st with
    | .Try bs [.ExceptHandler (some (.Name y _)) none [.Return (some (.Constant (.bool v) _ _)) _] _] [] [] _ => decide (c = y) && decide (b = v) && s.def_ && glB s y && okN y && (s.excs.lookup y).isSome && chkB s a bs
    | _ => false
  | .tryE i e c w n => match st with
    | .Try [.Assign [.Name y _] v _] [.ExceptHandler (some (.Name z _)) (some nm) [.Assign [.Name y2 _] (.Tuple [.Constant (.str w') _ _, .Attribute (.Name v2 _) fl _] _ _) _] _] [] [] _ =>
      decide (y2 = y) && decide (v2 = nm) && decide (c = z) && decide (w = w') && decide (s.N[i]? = some y) && decide (s.N[n]? = some nm) && decide (i ≠ n) && s.def_ && decide (s.sc.names.lookup y = some .local) && decide (s.sc.names.lookup nm = some .local) &&
      !(nm == ("__debug__" : Str)) && !(nm == ("__classdict__" : Str)) && glB s z && okN z && decide (s.excs.lookup z = some fl) && !lcB v && chk s false e v
    | _ => false
  | .lput i e v => match st with
    | .Assign [.Subscript (.Name x _) u _] t _ => nmB s i x && noSlB u && chk s false e u && chk s false v t
    | _ => false
  | .raise_ c e => match st with
    | .Raise (some (.Call (.Name y _) [v] [] _)) none _ => decide (c = y) && glB s y && okN y && (s.excs.lookup y).isSome && notStar v && chk s false e v
    | _ => false
  | .brk => match st with
    | .Break _ => true
    | _ => false
  | .cnt => match st with
    | .Continue _ => true
    | _ => false
  | .pass => match st with
    | .Pass _ => true
    | .Expr (.Constant (.str _) _ _) _ => true
    | _ => false
  | _ => false
/-- a block -/
def chkB (s : Sc) (n : N) (sts : List Stmt) : Bool :=
  match n with
  | .nil => match sts with
    | [] => true
    | _ => false
  | .cons (.frz _) b => chkB s b sts
  | .cons a b => match sts with
    | st :: sts => chkS s a st && chkB s b sts
    | _ => false
  | _ => false
end

section
variable {g : G} {fr : Frm} {W : WX} {C : Ev} {s : Sc} {X : Cx}
/-- what is wanted of an end -/
def KS (g : G) (fr : Frm) (E : Ends) (As : Nat → Bool) (σ : L2.St) (env : Env) (w : Wd) (H : Hp) : Fl → Store → Prop := fun fl S =>
  match fl with
  | .nx e => ∀ w' H' σ', Good g fr σ' H' w' e S → Per w H w' H' → Agree As σ σ' env e → E.nx σ' H'
  | .bk e => ∀ w' H' σ', Good g fr σ' H' w' e S → Per w H w' H' → Agree As σ σ' env e → E.bk σ' H'
  | .ct e => ∀ w' H' σ', Good g fr σ' H' w' e S → Per w H w' H' → Agree As σ σ' env e → E.ct σ' H'
  | .rt d => ∀ w' H' v, WOk g w' H' S → Ext fr.w0 fr.H0 w' H' → Rep g H' w' d v → E.rt v H'
theorem KS.step {E : Ends} {As As1 As2 : Nat → Bool} {σ σ1 : L2.St} {env env1 : Env} {w w1 : Wd} {H H1 : Hp} (p : Per w H w1 H1) (a : Agree As1 σ σ1 env env1) (h1 : ∀ i, As i = false → As1 i = false) (h2 : ∀ i, As i = false → As2 i = false) {fl : Fl} {S : Store} (k : KS g fr E As σ env w H fl S) : KS g fr E As2 σ1 env1 w1 H1 fl S := by
  cases fl with
  | rt d => exact k
  | _ => exact fun w' H' σ' G q b => k w' H' σ' G (p.trans q) ((a.mono h1).trans (b.mono h2))
theorem XP.step {As As1 As2 : Nat → Bool} {σ σ1 : L2.St} {env env1 : Env} {w w1 : Wd} {H H1 : Hp} (p : Per w H w1 H1) (a : Agree As1 σ σ1 env env1) (h1 : ∀ i, As i = false → As1 i = false) (h2 : ∀ i, As i = false → As2 i = false) {c : Str} {d : D} {S : Store} (k : XP g fr W σ env As w H c d S) : XP g fr W σ1 env1 As2 w1 H1 c d S :=
  fun w' H' σ' env' cc dd G q b x => k w' H' σ' env' cc dd G (p.trans q) ((a.mono h1).trans (b.mono h2)) x
theorem KS.per {E : Ends} {As : Nat → Bool} {σ : L2.St} {env : Env} {w w1 : Wd} {H H1 : Hp} (p : Per w H w1 H1) {fl : Fl} {S : Store} (k : KS g fr E As σ env w H fl S) : KS g fr E As σ env w1 H1 fl S :=
  k.step p (As1 := As) .refl (fun _ h => h) fun _ h => h
/-- a statement's reading -/
def tS (g : G) (fr : Frm) (W : WX) (C : Ev) (n : N) : TS := fun E σ H => ∃ w env S, Good g fr σ H w env S ∧ Post (exec C n env S) (KS g fr E (asg n) σ env w H) (XP g fr W σ env (asg n) w H)
structure SndS (g : G) (fr : Frm) (C : Ev) (n : N) : Prop where
  st : ∀ {s : Sc} {X : Cx} {W : WX} (x : XOk g C s X W) (st : Stmt), chkS s n st = true → PS X st (tS g fr W C n)
  bl : ∀ {s : Sc} {X : Cx} {W : WX} (x : XOk g C s X W) (sts : List Stmt), chkB s n sts = true → PSs X sts (tS g fr W C n)

/-- a part whose value goes on -/
theorem part {α β : Type} {r1 : Env → Store → Res α} {R1 : Hp → Wd → α → β → Prop} {r2 : α → Store → Res Fl} {E : Ends} {As : Nat → Bool} {σ : L2.St} {H : Hp} {w : Wd} {env : Env} {S : Store} {Q : β → Hp → Prop}
    (G0 : Good g fr σ H w env S) (P : Post ((r1 env S).bind r2) (KS g fr E As σ env w H) (XP g fr W σ env As w H))
    (h : ∀ a S1 w1 H1 b, Good g fr σ H1 w1 env S1 → Ext w H w1 H1 → R1 H1 w1 a b → Post (r2 a S1) (KS g fr E As σ env w1 H1) (XP g fr W σ env As w1 H1) → Q b H1) : tG g fr W r1 R1 σ H Q :=
  ⟨w, env, S, G0, P.bind.imp (fun a S1 q w1 H1 b G1 E1 R1 => h a S1 w1 H1 b G1 E1 R1 (q.imp (fun _ _ k => k.per (E1.per G0.wok)) fun _ _ _ x => x.per (E1.per G0.wok))) fun _ _ _ x => x.xx G0.wok⟩
theorem partN {n : N} {f : Bool} {r2 : D → Store → Res Fl} {E : Ends} {As : Nat → Bool} {σ : L2.St} {H : Hp} {w : Wd} {env : Env} {S : Store} {Q : VK}
    (G0 : Good g fr σ H w env S) (P : Post ((ev C n env S).bind r2) (KS g fr E As σ env w H) (XP g fr W σ env As w H))
    (h : ∀ a S1 w1 H1 b, OutN g f w H S1 a w1 H1 b → Post (r2 a S1) (KS g fr E As σ env w H) (XP g fr W σ env As w H) → Q b H1) : tN g fr W C f n σ H Q :=
  ⟨w, env, S, G0, P.bind.imp (fun a S1 q w1 H1 b o => h a S1 w1 H1 b o q) fun _ _ _ x => x.xx G0.wok⟩
theorem sw_none {v : Expr} {env : PySem.Env} {t : Option Expr} {l : Nat} (h : lcB v = false) : swapsWith v t l env = pure false := by
  cases v <;> first
    | rfl
    | cases h
theorem sw_other {v t : Expr} {env : PySem.Env} {l : Nat} (h : ∀ x p, t ≠ .Name x p) : swapsWith v (some t) l env = pure false := by
  cases v <;> first
    | rfl
    | (cases t <;> first
        | rfl
        | exact absurd rfl (h _ _))
/-- name = value, whichever way it is stored -/
theorem ps_name {i : Nat} {y : Str} {e : N} {v : Expr} {py sp : Pos} {t : TE} (x : XOk g C s X W) (h2c : no2 e = true) (hn : nmS s i y = true) (hc : chk s false e v = true) (h : PE X v t) (ht : ∀ σ H Q, isFresh e = true → t σ H Q → tN g fr W C true e σ H Q) :
    PS X (.Assign [.Name y py] v sp) (tAsg t (gName i)) := by
  unfold nmS at hn
  simp only [Bool.and_eq_true, decide_eq_true_eq] at hn
  obtain ⟨h1, h2⟩ := x.st _ hn.2
  have hN : X.N.Nodup := by rw [x.N]; exact x.nd
  have hi : X.N[i]? = some y := by rw [x.N]; exact hn.1
  cases hl : lcB v with
  | false => exact ps_set hN hi h1 h (sw_none hl) h2
  | true =>
    -- a list comprehension
    obtain ⟨own, elt, tg, it, cond, rfl⟩ : ∃ own elt tg it cond, e = .comp own elt tg it cond := by
      cases e with
      | comp own elt tg it cond => exact ⟨_, _, _, _, _, rfl⟩
      | comp2 => cases h2c
      | dcmpT => cases h2c
      | _ => exfalso; unfold chk at hc; cases v <;> first | (cases hl; done) | (cases hc; done)
    obtain ⟨ex, te', ye, ifs, scope, pos, wi, gg, tt, tee, rfl, r⟩ := comp_parts (fr := fr) (snd elt) (snd tg) (snd it) (snd cond) x false v hc
    obtain ⟨b, hb⟩ : ∃ b, swapsWith (.ListComp ex [⟨te', ye, ifs, 0⟩] scope pos) (some (.Name y py)) sp.line X.env = pure b := ⟨_, rfl⟩
    cases b with
    | false => exact ps_set hN hi h1 h hb h2
    | true =>
      have hyl : X.env.scope.names.lookup y = some .local := by
        rcases h1 with z | z
        · exact z
        · exfalso
          have e2 : (X.env.kindOf y == some NameKind.local) = false := by
            have z' : X.env.kindOf y = some .cell := z
            rw [z']; rfl
          have q : swapsWith (.ListComp ex [⟨te', ye, ifs, 0⟩] scope pos) (some (.Name y py)) sp.line X.env = pure (X.env.blockKind == .function && X.env.kindOf y == some .local && py.line == (Expr.ListComp ex [⟨te', ye, ifs, 0⟩] scope pos).pos.line && !(scope.names.any fun (n, k) => n == y && (k == .local || k == .cell))) := rfl
          rw [q, e2, Bool.and_false, Bool.false_and, Bool.false_and] at hb
          cases hb
      exact PS.imp (ps_setLc x.calm hN hi hyl hb r.hi r.ok r.hg r.ht r.he r.hs) fun E σ H q => r.im _ _ _ (ht _ _ _ rfl q)

/-! ### slots of own lists -/
theorem Good.setO {σ : L2.St} {H H' : Hp} {w w' : Wd} {env : Env} {S S' : Store} {p : Addr} {xs : List D} {vs : List V} (G : Good g fr σ H w env S) (e : Ext w H w' H') (k : WOk g w' H' S') (hp : H p = none) (nf : ¬ w'.fz p) (hl : H' p = some (.lst vs)) (r : Reps g H' w' xs vs) (i : Nat) :
    Good g fr (σ.set i (some (.ref p))) H' w' (env.set i (.own xs)) S' := by
  have G' := G.step e k
  have other : ∀ (j : Nat) ys, env[j]? = some (.own ys) → σ[j]? ≠ some (some (.ref p)) := fun j ys h z => by
    obtain ⟨a, us, h1, h2, _⟩ := G.own h
    rw [z] at h1
    cases h1
    rw [hp] at h2; cases h2
  refine ⟨k, G'.ext, by rw [List.length_set, List.length_set, G.len], fun j t o h1 h2 => ?_, fun j l a ys zs hne h1 h2 h3 h4 => ?_⟩
  · rcases getset h1 with ⟨e, rfl⟩ | ⟨e, h1⟩
    · subst e
      rcases getset h2 with ⟨_, rfl⟩ | ⟨e, _⟩
      · exact .own hl r nf (G.ext.dom _ hp)
      · exact absurd rfl e
    · rcases getset h2 with ⟨e', _⟩ | ⟨_, h2⟩
      · exact absurd e' e
      · exact G'.sl j t o h1 h2
  · rcases getset h1 with ⟨e1, _⟩ | ⟨e1, h1⟩
    · subst e1
      rcases getset h2 with ⟨e2, _⟩ | ⟨e2, h2⟩
      · exact hne e2
      · rw [List.getElem?_set_ne hne] at h4
        rcases getset h3 with ⟨_, q⟩ | ⟨q, _⟩
        · cases q; exact other l zs h2 h4
        · exact q rfl
    · rw [List.getElem?_set_ne e1] at h3
      rcases getset h2 with ⟨e2, _⟩ | ⟨e2, h2⟩
      · subst e2
        rcases getset h4 with ⟨_, q⟩ | ⟨q, _⟩
        · cases q; exact other j ys h1 h3
        · exact q rfl
      · rw [List.getElem?_set_ne e2] at h4
        exact G.sep j l a ys zs hne h1 h2 h3 h4
theorem RepT.upd {H : Hp} {w : Wd} {d : D} {v : V} {b : Addr} {o : HO} (h : RepT g H w d v) (P : Per w H w (upd H b o)) (ne : v ≠ .ref b) : RepT g (upd H b o) w d v := by
  cases h with
  | rep h => exact .rep (h.per P)
  | own h r => exact .own (by rw [upd_ne fun z => ne (by rw [z])]; exact h) (r.per P)
theorem RepT.frz1 {H : Hp} {w : Wd} {d : D} {v : V} {a : Addr} (h : RepT g H w d v) : RepT g H (w.frz a) d v := by
  cases h with
  | rep h => exact .rep (h.per Per.frz1)
  | own h r => exact .own h (r.per Per.frz1)
theorem Good.app {σ : L2.St} {H : Hp} {w : Wd} {env : Env} {S : Store} {i : Nat} {xs : List D} {d : D} {v : V} (G : Good g fr σ H w env S) (h : env[i]? = some (.own xs)) (r : Rep g H w d v) :
    ∃ a vs, σ[i]? = some (some (.ref a)) ∧ H a = some (.lst vs) ∧ vs.length = xs.length ∧ Good g fr σ (upd H a (.lst (vs ++ [v]))) w (env.set i (.own (xs ++ [d]))) S ∧ Per w H w (upd H a (.lst (vs ++ [v]))) := by
  obtain ⟨a, vs, h1, h2, rs, nz, n0⟩ := G.own h
  have nm : a ∉ w.mu := fun z => by
    obtain ⟨u, q, c⟩ := G.wok.dict z
    rw [q] at h2; cases h2; exact c.lst
  have P : Per w H w (upd H a (.lst (vs ++ [v]))) := per_own h2 nz
  refine ⟨a, vs, h1, h2, rs.length.symm, ⟨wok_own G.wok h2 nz nm, ext_own G.ext n0, by rw [List.length_set, G.len], fun j t o q1 q2 => ?_, fun j l b ys zs hne q1 q2 q3 q4 => ?_⟩, P⟩
  · rcases getset q1 with ⟨e, rfl⟩ | ⟨e, q1⟩
    · subst e
      rw [h1] at q2
      cases q2
      exact .own upd_same ((rs.snoc r).per P) nz n0
    · have z := G.sl j t o q1 q2
      cases z with
      | un => exact .un
      | val z => exact .val (z.per P)
      | @own ys b us z1 z2 z3 z4 =>
        have ne : b ≠ a := fun e' => by
          subst e'
          exact G.sep i j b xs ys e h q1 h1 q2
        exact .own (by rw [upd_ne ne]; exact z1) (z2.per P) z3 z4
      | bor z1 z2 => exact .bor (z1.upd P fun e => z2 _ e n0) z2
  · have k1 : ∃ ys, env[j]? = some (.own ys) := by
      rcases getset q1 with ⟨e, _⟩ | ⟨_, q1⟩
      · exact ⟨xs, by rw [← e]; exact h⟩
      · exact ⟨ys, q1⟩
    have k2 : ∃ ys, env[l]? = some (.own ys) := by
      rcases getset q2 with ⟨e, _⟩ | ⟨_, q2⟩
      · exact ⟨xs, by rw [← e]; exact h⟩
      · exact ⟨zs, q2⟩
    obtain ⟨_, k1⟩ := k1
    obtain ⟨_, k2⟩ := k2
    exact G.sep j l b _ _ hne k1 k2 q3 q4
theorem Good.frz {σ : L2.St} {H : Hp} {w : Wd} {env : Env} {S : Store} {i : Nat} {xs : List D} (G : Good g fr σ H w env S) (h : env[i]? = some (.own xs)) : ∃ a, Good g fr σ H (w.frz a) (env.set i (.val (.lst xs))) S := by
  obtain ⟨a, vs, h1, h2, rs, nz, n0⟩ := G.own h
  refine ⟨a, G.wok.frz1 h2, ⟨G.ext.keep, G.ext.dom, fun b z => .inl (G.ext.fz b z), fun b z => ?_, G.ext.mu, G.ext.mun⟩, by rw [List.length_set, G.len], fun j t o q1 q2 => ?_, fun j l b ys zs hne q1 q2 q3 q4 => ?_⟩
  · rcases z with z | z
    · exact G.ext.fzn b z
    · rw [z]; exact .inr n0
  · rcases getset q1 with ⟨e, rfl⟩ | ⟨e, q1⟩
    · subst e
      rw [h1] at q2
      cases q2
      exact .val (.lst (.inl ⟨h2, .inr rfl⟩) (rs.per Per.frz1))
    · have z := G.sl j t o q1 q2
      cases z with
      | un => exact .un
      | val z => exact .val (z.per Per.frz1)
      | @own ys b us z1 z2 z3 z4 =>
        refine .own z1 (z2.per Per.frz1) (fun z => ?_) z4
        rcases z with z | z
        · exact z3 z
        · subst z
          exact G.sep i j b xs ys e h q1 h1 q2
      | bor z1 z2 => exact .bor z1.frz1 z2
  · rcases getset q1 with ⟨_, q⟩ | ⟨_, q1⟩
    · cases q
    rcases getset q2 with ⟨_, q⟩ | ⟨_, q2⟩
    · cases q
    exact G.sep j l b ys zs hne q1 q2 q3 q4
theorem Agree.setE {As : Nat → Bool} {σ : L2.St} {env : Env} {i : Nat} {t : Sl} (h : As i = true) : Agree As σ σ env (env.set i t) := fun j hj => by
  have ne : i ≠ j := fun e => by rw [e, hj] at h; cases h
  exact ⟨List.getElem?_set_ne ne, rfl⟩

/-! ### small statements -/
theorem s_set {i : Nat} {e : N} (x : XOk g C s X W) (st : Stmt) (h : chkS s (.set i e) st = true) : PS X st (tS g fr W C (.set i e)) := by
  unfold chkS at h
  split at h
  · simp only [Bool.and_eq_true] at h
    refine PS.imp (ps_name (fr := fr) x h.1.1 h.1.2 h.2 ((snd (fr := fr) e).e x false _ h.2) fun _ _ _ _ q => tN.q q) fun E σ H ⟨w, env, S, G, P⟩ => ?_
    rw [exec] at P
    refine part G P fun d S1 w1 H1 v G1 E1 R1 P1 => ?_
    split at P1
    · exact P1 w1 H1 _ (G1.setV R1 i) .refl (.set (by simp [asg]))
    · exact P1.elim
  · cases h
theorem fresh_no2 {e : N} (h : isFresh e = true) : no2 e = true := by
  cases e <;> first | rfl | cases h
theorem s_setO {i : Nat} {e : N} (x : XOk g C s X W) (st : Stmt) (h : chkS s (.setO i e) st = true) : PS X st (tS g fr W C (.setO i e)) := by
  unfold chkS at h
  split at h
  · simp only [Bool.and_eq_true] at h
    refine PS.imp (ps_name (fr := fr) x (fresh_no2 h.1.2) h.1.1 h.2 ((snd (fr := fr) e).f x _ h.1.2 h.2) fun _ _ _ _ q => q) fun E σ H ⟨w, env, S, G, P⟩ => ?_
    rw [exec] at P
    refine partN G P fun d S1 w1 H1 v o P1 => ?_
    split at P1
    · split at P1
      · cases o with
        | rep hf => exact absurd rfl (hf rfl _)
        | new e k hp nf nm hl r => exact P1 _ _ _ (G.setO e k hp nf hl r i) (e.per G.wok) (.set (by simp [asg]))
      · exact P1.elim
    · exact P1.elim
  · cases h
theorem sw_stores {env : PySem.Env} {ts : List Expr} {k : Nat} {tp : Pos} {v : Expr} (hb : env.blockKind = .function) (h : noSwap (fun x => env.scope.names.lookup x) ts v = true) : swappedStores [.Tuple ts k tp] v env = pure none := by
  cases v with
  | Tuple vs k2 vp =>
    unfold noSwap at h
    unfold swappedStores
    simp only [Bool.or_eq_true] at h
    simp only
    by_cases c1 : (!(ts.length == 2 || ts.length == 3) || vs.length != ts.length || env.blockKind != .function) = true
    · rw [if_pos c1]
    · rw [if_neg c1]
      rw [Bool.not_eq_true, Bool.or_eq_false_iff, Bool.or_eq_false_iff] at c1
      rcases h with ((h | h) | h) | h
      · rw [c1.1.1] at h; cases h
      · rw [c1.1.2] at h; cases h
      · split
        · rfl
        · exact if_pos (Bool.or_eq_true_iff.mpr (.inl h))
      · split
        · rfl
        · split
          · rfl
          · first | rfl | exact if_pos h
  | _ => rfl
theorem s_unp {tg e : N} (x : XOk g C s X W) (st : Stmt) (h : chkS s (.unp tg e) st = true) : PS X st (tS g fr W C (.unp tg e)) := by
  unfold chkS at h
  split at h
  · rename_i ts k tp v sp
    simp only [Bool.and_eq_true] at h
    refine PS.imp (ps_asg ((snd (fr := fr) e).e x false _ h.2) ((snd (fr := fr) tg).tgt x _ h.1.2) (show swapsWithSole [.Tuple ts k tp] v sp.line X.env = pure false from sw_other (t := .Tuple ts k tp) (env := X.env) (l := sp.line) fun _ _ z => by cases z) (sw_stores (show X.env.blockKind = .function by unfold PySem.Env.blockKind; rw [x.kind]; rfl) (by have q := h.1.1; rw [← x.sc] at q; exact q)) rfl) fun E σ H ⟨w, env, S, G, P⟩ => ?_
    rw [exec] at P
    refine part G P fun d S1 w1 H1 v G1 E1 R1 P1 => ?_
    split at P1
    · rename_i env' hb
      exact ⟨w1, env, S1, d, env', G1, R1, hb, fun σ' G' A => P1 w1 H1 σ' G' .refl A⟩
    · exact P1.elim
  · cases h
theorem Good.appL {σ : L2.St} {H : Hp} {w : Wd} {env : Env} {S : Store} {i : Nat} {xs : List D} {ds : List D} {us' : List V} (G : Good g fr σ H w env S) (h : env[i]? = some (.own xs)) (r : Reps g H w ds us') :
    ∃ a vs, σ[i]? = some (some (.ref a)) ∧ H a = some (.lst vs) ∧ vs.length = xs.length ∧ Good g fr σ (upd H a (.lst (vs ++ us'))) w (env.set i (.own (xs ++ ds))) S ∧ Per w H w (upd H a (.lst (vs ++ us'))) := by
  obtain ⟨a, vs, h1, h2, rs, nz, n0⟩ := G.own h
  have nm : a ∉ w.mu := fun z => by
    obtain ⟨u, q, c⟩ := G.wok.dict z
    rw [q] at h2; cases h2; exact c.lst
  have P : Per w H w (upd H a (.lst (vs ++ us'))) := per_own h2 nz
  refine ⟨a, vs, h1, h2, rs.length.symm, ⟨wok_own G.wok h2 nz nm, ext_own G.ext n0, by rw [List.length_set, G.len], fun j t o q1 q2 => ?_, fun j l b ys zs hne q1 q2 q3 q4 => ?_⟩, P⟩
  · rcases getset q1 with ⟨e, rfl⟩ | ⟨e, q1⟩
    · subst e
      rw [h1] at q2
      cases q2
      exact .own upd_same ((rs.append r).per P) nz n0
    · have z := G.sl j t o q1 q2
      cases z with
      | un => exact .un
      | val z => exact .val (z.per P)
      | @own ys b us z1 z2 z3 z4 =>
        have ne : b ≠ a := fun e' => by
          subst e'
          exact G.sep i j b xs ys e h q1 h1 q2
        exact .own (by rw [upd_ne ne]; exact z1) (z2.per P) z3 z4
      | bor z1 z2 => exact .bor (z1.upd P fun e => z2 _ e n0) z2
  · have k1 : ∃ ys, env[j]? = some (.own ys) := by
      rcases getset q1 with ⟨e, _⟩ | ⟨_, q1⟩
      · exact ⟨xs, by rw [← e]; exact h⟩
      · exact ⟨ys, q1⟩
    have k2 : ∃ ys, env[l]? = some (.own ys) := by
      rcases getset q2 with ⟨e, _⟩ | ⟨_, q2⟩
      · exact ⟨xs, by rw [← e]; exact h⟩
      · exact ⟨zs, q2⟩
    obtain ⟨_, k1⟩ := k1
    obtain ⟨_, k2⟩ := k2
    exact G.sep j l b _ _ hne k1 k2 q3 q4
theorem s_app {i : Nat} {e : N} (x : XOk g C s X W) (st : Stmt) (h : chkS s (.app i e) st = true) : PS X st (tS g fr W C (.app i e)) := by
  unfold chkS at h
  split at h
  · simp only [Bool.and_eq_true, decide_eq_true_eq] at h
    obtain ⟨⟨⟨⟨rfl, h1⟩, h2⟩, h3⟩, h4⟩ := h
    refine PS.imp (ps_expr (pe_bm PySem.F.plainAttrs_list PySem.F.slot_list_append PySem.F.type_list_append mt_append (x.pv h1) (pa_1 ((snd (fr := fr) e).e x false _ h4) h3) rfl (by rw [star_ok h3]; rfl) h2 (star_ok h3) rfl)) fun E σ H ⟨w, env, S, G, P⟩ => ?_
    rw [exec] at P
    split at P
    · rename_i xs hx
      obtain ⟨a, vs, e1, e2, _⟩ := G.own hx
      refine ⟨.ref a, e1, .inl ⟨rfl, vs, .inl (.inl e2)⟩, part G P fun d S1 w1 H1 v G1 E1 R1 P1 => ?_⟩
      split at P1
      · rename_i hl
        obtain ⟨b, us, e3, e4, hlen, G2, P2⟩ := G1.app hx R1
        rw [e1] at e3; cases e3
        exact ⟨a, us, v, rfl, rfl, e4, by rw [← limE, hlen]; exact hl, P1 w1 _ σ G2 P2 (.setE (by simp [asg]))⟩
      · exact P1.elim
    · exact P.elim
  · cases h
theorem s_extL {i : Nat} {e : N} (x : XOk g C s X W) (st : Stmt) (h : chkS s (.extL i e) st = true) : PS X st (tS g fr W C (.extL i e)) := by
  unfold chkS at h
  split at h
  · simp only [Bool.and_eq_true, decide_eq_true_eq] at h
    obtain ⟨⟨⟨⟨⟨rfl, h1⟩, h2⟩, h3⟩, h4⟩, h5⟩ := h
    refine PS.imp (ps_expr (pe_bm PySem.F.plainAttrs_list PySem.F.slot_list_extend PySem.F.type_list_extend mt_extend (x.pv h1) (pa_1 ((snd (fr := fr) e).f x _ h4 h5) h3) rfl (by rw [star_ok h3]; rfl) h2 (star_ok h3) rfl)) fun E σ H ⟨w, env, S, G, P⟩ => ?_
    rw [exec] at P
    split at P
    · rename_i xs hx
      obtain ⟨a, vs, e1, e2, _⟩ := G.own hx
      refine ⟨.ref a, e1, .inl ⟨rfl, vs, .inl (.inl e2)⟩, partN G P fun d S1 w1 H1 v o P1 => ?_⟩
      split at P1
      · rename_i ys
        split at P1
        · rename_i hl
          cases o with
          | rep hf => exact absurd rfl (hf rfl _)
          | new e' k hp nf nm hl' r =>
            have G1 := G.step e' k
            obtain ⟨b, us, e3, e4, hlen, G2, P2⟩ := G1.appL hx r
            rw [e1] at e3; cases e3
            exact ⟨a, _, us, _, rfl, rfl, e4, hl', by rw [← limE, hlen, ← r.length]; exact hl, P1 w1 _ σ G2 ((e'.per G.wok).trans P2) (.setE (by simp [asg]))⟩
        · exact P1.elim
      · exact P1.elim
    · exact P.elim
  · cases h
theorem s_par {i j : Nat} {a b : N} (x : XOk g C s X W) (st : Stmt) (h : chkS s (.par i j a b) st = true) : PS X st (tS g fr W C (.par i j a b)) := by
  unfold chkS at h
  split at h
  · rename_i n px m py k1 tp v u k2 vp sp
    simp only [Bool.and_eq_true, decide_eq_true_eq] at h
    obtain ⟨⟨⟨⟨⟨hi, hj⟩, hij⟩, hp⟩, hv⟩, hu⟩ := h
    unfold parB at hp
    simp only [Bool.and_eq_true, decide_eq_true_eq, Bool.not_eq_true'] at hp
    obtain ⟨⟨⟨⟨⟨⟨⟨p1, p2⟩, p3⟩, p4⟩, p5⟩, p6⟩, p7⟩, p8⟩ := hp
    have lx : X.env.scope.names.lookup n = some .local := by rw [x.sc]; exact p1
    have ly : X.env.scope.names.lookup m = some .local := by rw [x.sc]; exact p2
    have kx : X.env.kindOf n = some .local := lx
    have ky : X.env.kindOf m = some .local := ly
    have hb : X.env.blockKind = .function := by unfold PySem.Env.blockKind; rw [x.kind]; rfl
    have hne : n ≠ m := by simpa using p4
    have hw : swappedStores [.Tuple [.Name n px, .Name m py] k1 tp] (.Tuple [v, u] k2 vp) X.env = pure (some [n, m]) := by
      unfold swappedStores
      have a1 : (List.any [v, u] fun | .Starred .. => true | _ => false) = false := by
        cases v <;> cases u <;> first | rfl | (cases p5; done) | (cases p6; done)
      have a2 : (List.all [v, u] (foldedForSure 8)) = false := by
        show (foldedForSure 8 v && (foldedForSure 8 u && true)) = false
        rw [Bool.and_true]; exact p7
      have a3 : (List.all [v, u] (constantsAlone 8)) = false := by
        show (constantsAlone 8 v && (constantsAlone 8 u && true)) = false
        rw [Bool.and_true]; exact p8
      have a4 : [n, m].eraseDups.length = 2 := by
        have ne2 : (!m == n) = true := by
          have : (m == n) = false := by simpa using Ne.symm hne
          rw [this]; rfl
        rw [List.eraseDups_cons, List.filter_cons, if_pos ne2, List.filter_nil, List.eraseDups_cons, List.filter_nil, List.eraseDups_nil]
        rfl
      have p3' : (py.line == px.line) = true := by
        have : px.line = py.line := by simpa using p3
        rw [this]; simp
      simp only [hb, a1, a2, a3]
      simp [kx, ky, p3', a4]
      have ep : (Expr.Name n px).pos = px := rfl
      have el : py.line = px.line := by simpa using p3'
      refine (if_neg ?_).trans ?_
      · intro z
        rcases z with z | z
        · split at z
          · cases p5
          · cases z
        · split at z
          · cases p6
          · cases z
      simp only [List.filterMap_cons, List.filterMap_nil, kx, ky, ep, el, and_self, if_true, a4]
      simp
    refine PS.imp (ps_par x.calm (by rw [x.N]; exact x.nd) (by rw [x.N]; exact hi) (by rw [x.N]; exact hj) hij lx ly (pa_2 ((snd (fr := fr) a).e x false _ hv) ((snd (fr := fr) b).e x false _ hu) p5 p6) hw rfl) fun E σ H ⟨w, env, S, G, P⟩ => ?_
    rw [exec] at P
    refine part G P fun d1 S1 w1 H1 v1 G1 E1 R1 P1 => part G1 P1 fun d2 S2 w2 H2 v2 G2 E2 R2 P2 => ?_
    split at P2
    · exact ⟨v1, v2, rfl, P2 w2 H2 _ ((G2.setV (RepP.ext (p := false) G1.wok E2 R1) i).setV R2 j) .refl ((Agree.set (by simp [asg])).trans (.set (by simp [asg])))⟩
    · exact P2.elim
  · cases h
theorem star_no {a : Expr} (h : notStar a = true) : (match a with | .Starred .. => true | _ => false) = false := by
  cases a <;> first | rfl | (cases h; done)
theorem s_par3 {i j l : Nat} {a b c : N} (x : XOk g C s X W) (st : Stmt) (h : chkS s (.par3 i j l a b c) st = true) : PS X st (tS g fr W C (.par3 i j l a b c)) := by
  unfold chkS at h
  split at h
  · rename_i n px m py o pz k1 tp v u t k2 vp sp
    simp only [Bool.and_eq_true, decide_eq_true_eq] at h
    obtain ⟨⟨⟨⟨⟨⟨hi, hj⟩, hl⟩, hp⟩, hv⟩, hu⟩, ht⟩ := h
    unfold parB3 at hp
    simp only [Bool.and_eq_true, decide_eq_true_eq, Bool.not_eq_true'] at hp
    obtain ⟨⟨⟨⟨⟨⟨⟨⟨⟨⟨⟨⟨p1, p2⟩, p3⟩, q1⟩, q2⟩, n1⟩, n2⟩, n3⟩, s1⟩, s2⟩, s3⟩, p7⟩, p8⟩ := hp
    have lx : X.env.scope.names.lookup n = some .local := by rw [x.sc]; exact p1
    have ly : X.env.scope.names.lookup m = some .local := by rw [x.sc]; exact p2
    have lz : X.env.scope.names.lookup o = some .local := by rw [x.sc]; exact p3
    have kx : X.env.kindOf n = some .local := lx
    have ky : X.env.kindOf m = some .local := ly
    have kz : X.env.kindOf o = some .local := lz
    have hb : X.env.blockKind = .function := by unfold PySem.Env.blockKind; rw [x.kind]; rfl
    have hnm : n ≠ m := by simpa using n1
    have hno : n ≠ o := by simpa using n2
    have hmo : m ≠ o := by simpa using n3
    have hij : i ≠ j := fun e => hnm (by subst e; rw [hi] at hj; exact Option.some.inj hj)
    have hil : i ≠ l := fun e => hno (by subst e; rw [hi] at hl; exact Option.some.inj hl)
    have hjl : j ≠ l := fun e => hmo (by subst e; rw [hj] at hl; exact Option.some.inj hl)
    have hw : swappedStores [.Tuple [.Name n px, .Name m py, .Name o pz] k1 tp] (.Tuple [v, u, t] k2 vp) X.env = pure (some [n, m, o]) := by
      unfold swappedStores
      have a2 : (List.all [v, u, t] (foldedForSure 8)) = false := by
        simp only [List.all_cons, List.all_nil, Bool.and_true]
        rw [← Bool.and_assoc]; exact p7
      have a3 : (List.all [v, u, t] (constantsAlone 8)) = false := by
        simp only [List.all_cons, List.all_nil, Bool.and_true]
        rw [← Bool.and_assoc]; exact p8
      have a4 : [n, m, o].eraseDups.length = 3 := by
        have e1 : (m == n) = false := by simpa using Ne.symm hnm
        have e2 : (o == n) = false := by simpa using Ne.symm hno
        have e3 : (o == m) = false := by simpa using Ne.symm hmo
        simp [List.eraseDups_cons, e1, e2, e3, List.eraseDups_nil]
      have l1 : px.line = py.line := by simpa using q1
      have l2 : px.line = pz.line := by simpa using q2
      have ep : (Expr.Name n px).pos = px := rfl
      have c1 : (!(List.length [Expr.Name n px, Expr.Name m py, Expr.Name o pz] == 2 || List.length [Expr.Name n px, Expr.Name m py, Expr.Name o pz] == 3) || List.length [v, u, t] != List.length [Expr.Name n px, Expr.Name m py, Expr.Name o pz] || X.env.blockKind != ScopeKind.function) = false := by rw [hb]; rfl
      simp only []
      rw [c1]
      simp only [Bool.false_eq_true, if_false]
      refine (if_neg ?_).trans ?_
      · intro z
        simp only [List.any_cons, List.any_nil, Bool.or_false, Bool.or_eq_true] at z
        rcases z with z | z | z
        · split at z
          · cases s1
          · cases z
        · split at z
          · cases s2
          · cases z
        · split at z
          · cases s3
          · cases z
      · rw [a2, a3]
        simp [kx, ky, kz, ← l1, ← l2, ep, a4]
    refine PS.imp (L2.ps_par3 x.calm (by rw [x.N]; exact x.nd) (by rw [x.N]; exact hi) (by rw [x.N]; exact hj) (by rw [x.N]; exact hl) hij hil hjl lx ly lz (PA.imp (pa_cons ((snd (fr := fr) a).e x false _ hv) (pa_cons ((snd (fr := fr) b).e x false _ hu) (pa_cons ((snd (fr := fr) c).e x false _ ht) pa_nil (star_ok s3)) (star_ok s2)) (star_ok s1)) fun _ _ _ q => q) hw rfl) fun E σ H ⟨w, env, S, G, P⟩ => ?_
    rw [exec] at P
    refine part G P fun d1 S1 w1 H1 v1 G1 E1 R1 P1 => part G1 P1 fun d2 S2 w2 H2 v2 G2 E2 R2 P2 => part G2 P2 fun d3 S3 w3 H3 v3 G3 E3 R3 P3 => ?_
    split at P3
    · exact ⟨v1, v2, v3, rfl, P3 w3 H3 _ (((G3.setV (RepP.ext (p := false) G2.wok E3 (RepP.ext (p := false) G1.wok E2 R1)) i).setV (RepP.ext (p := false) G2.wok E3 R2) j).setV R3 l) .refl (((Agree.set (by simp [asg])).trans (.set (by simp [asg]))).trans (.set (by simp [asg])))⟩
    · exact P3.elim
  · cases h
theorem any_keys {α β : Type} {k : Key} : ∀ {l : List (Key × α)} {m : List (Key × β)}, l.map (·.1) = m.map (·.1) → (l.any fun kv => decide (kv.1 = k)) = m.any fun kv => decide (kv.1 = k)
  | [], [], _ => rfl
  | [], _ :: _, h => by cases h
  | _ :: _, [], h => by cases h
  | p :: l, q :: m, h => by
    rw [List.map_cons, List.map_cons, List.cons.injEq] at h
    rw [List.any_cons, List.any_cons, h.1, any_keys h.2]
theorem set_keys {α : Type} {k : Key} {d : α} : ∀ {l : List (Key × α)}, (l.map fun kv => if kv.1 = k then (kv.1, d) else kv).map (·.1) = l.map (·.1)
  | [] => rfl
  | p :: l => by
    rw [List.map_cons, List.map_cons, List.map_cons, set_keys (l := l)]
    split <;> rfl
theorem set_vals {w : Wd} {H : Hp} {k : Key} {d : D} {v : V} (rv : Rep g H w d v) : ∀ {kvs : List (Key × D)} {kus : List (Key × V)}, kvs.map (·.1) = kus.map (·.1) → Reps g H w (kvs.map (·.2)) (kus.map (·.2)) →
    Reps g H w ((kvs.map fun kv => if kv.1 = k then (kv.1, d) else kv).map (·.2)) ((kus.map fun kv => if kv.1 = k then (kv.1, v) else kv).map (·.2))
  | [], [], _, _ => .nil
  | [], _ :: _, h, _ => by cases h
  | _ :: _, [], h, _ => by cases h
  | p :: l, q :: m, h, r => by
    rw [List.map_cons, List.map_cons, List.cons.injEq] at h
    rw [List.map_cons, List.map_cons] at r
    rw [List.map_cons, List.map_cons, List.map_cons, List.map_cons]
    cases r with
    | cons r rs =>
      refine .cons ?_ (set_vals rv h.2 rs)
      rw [h.1]
      split
      · exact rv
      · exact r
theorem setK_val {w : Wd} {H : Hp} {k : Key} {d : D} {v : V} {kvs : List (Key × D)} {kus : List (Key × V)} (e : kvs.map (·.1) = kus.map (·.1)) (r : Reps g H w (kvs.map (·.2)) (kus.map (·.2))) (rv : Rep g H w d v) :
    (setK kvs k d).map (·.1) = (L2.putK kus k v).map (·.1) ∧ Reps g H w ((setK kvs k d).map (·.2)) ((L2.putK kus k v).map (·.2)) := by
  unfold setK L2.putK
  rw [any_keys e]
  split
  · exact ⟨by rw [set_keys, set_keys, e], set_vals rv e r⟩
  · refine ⟨by rw [List.map_append, List.map_append, e]; rfl, ?_⟩
    rw [List.map_append, List.map_append]
    exact r.append (.cons rv .nil)
theorem s_dput {d e : N} {k : Str} (x : XOk g C s X W) (st : Stmt) (h : chkS s (.dput d k e) st = true) : PS X st (tS g fr W C (.dput d k e)) := by
  unfold chkS at h
  split at h
  · simp only [Bool.and_eq_true, decide_eq_true_eq] at h
    obtain ⟨⟨rfl, h1⟩, h2⟩ := h
    refine PS.imp (ps_dput (by have := x.un; omega) ((snd (fr := fr) d).e x true _ h1) pe_str ((snd (fr := fr) e).e x false _ h2) (sw_other fun _ _ z => by cases z)) fun E σ H ⟨w, env, S, G, P⟩ => ?_
    rw [exec] at P
    refine part G P fun d1 S1 w1 H1 v1 G1 E1 R1 P1 => part G1 P1 fun d2 S2 w2 H2 v2 G2 E2 R2 P2 => ?_
    split at P2
    · rename_i S3 hS
      unfold dPut at hS
      split at hS
      · rename_i n
        split at hS
        · rename_i kvs hc
          split at hS
          · rename_i hl
            cases hS
            obtain ⟨a, rfl, ha⟩ := Rep.ref_ R2.t
            obtain ⟨kus, hH, ek, rk⟩ := get_cell G2.wok ha hc
            have rv : Rep g H2 w2 d1 v1 := RepP.ext (p := false) G1.wok E2 R1
            obtain ⟨ek2, rk2⟩ := setK_val ek rk rv
            have hm : a ∈ w2.mu := List.mem_of_getElem? ha
            have Ex : Ext w2 H2 w2 (upd H2 a (.dK (L2.putK kus (keyStr k) v1))) := .put hm
            have ok3 := G2.wok.put ha ek2 rk2
            refine ⟨a, _, rfl, .k (k := keyStr k) hH ?_, P2 w2 _ σ (G2.step Ex ok3) (Ex.per G2.wok) .refl⟩
            have q : kvs.length = kus.length := by
              have := congrArg List.length ek
              simpa using this
            rw [sizeLine_eq]; omega
          · cases hS
        · cases hS
      · cases hS
    · exact P2.elim
  · cases h
theorem s_dputT {d k e : N} (x : XOk g C s X W) (st : Stmt) (h : chkS s (.dputT d k e) st = true) : PS X st (tS g fr W C (.dputT d k e)) := by
  unfold chkS at h
  split at h
  · simp only [Bool.and_eq_true] at h
    obtain ⟨⟨h1, h2⟩, h3⟩ := h
    refine PS.imp (ps_dputT (by have := x.un; omega) ((snd (fr := fr) d).e x true _ h1) ((snd (fr := fr) k).e x true _ h2) ((snd (fr := fr) e).e x false _ h3) (sw_other fun _ _ z => by cases z)) fun E σ H ⟨w, env, S, G, P⟩ => ?_
    rw [exec] at P
    refine part G P fun d1 S1 w1 H1 v1 G1 E1 R1 P1 => part G1 P1 fun d2 S2 w2 H2 v2 G2 E2 R2 P2 => part G2 P2 fun d3 S3 w3 H3 v3 G3 E3 R3 P3 => ?_
    split at P3
    · rename_i S4 hS
      have R1' : Rep g H3 w3 d1 v1 := RepP.ext (p := false) G2.wok E3 (RepP.ext (p := false) G1.wok E2 R1)
      unfold dPutT at hS
      split at hS
      · rename_i n ky hk
        split at hS
        · rename_i kvs hc
          split at hS
          · rename_i hl
            cases hS
            have R2' : RepT g H3 w3 (.ref n) v2 := (RepP.ext (p := true) G2.wok E3 R2).t
            obtain ⟨n', a, xs, e0, rfl, ha, hS', hH, hn, sy, nd, at_, pr⟩ := cellT_of (kvs := kvs) G3.wok R2' (by unfold dCellT; simp only [hc])
            cases e0
            obtain ⟨b, rfl, hb⟩ := tkey_sq hk R3.t
            refine ⟨a, b, xs, ky, rfl, rfl, dtAt_of (n := n) x hH (by rw [← pr.len]; exact hn) sy nd at_, by rw [x.K]; exact hb, fun u ru => ?_⟩
            rw [x.P, x.wd]
            have hm : a ∈ w3.mu := List.mem_of_getElem? ha
            have Ex : Ext w3 H3 w3 (upd H3 a (DtO g.P g.wd a (storedH xs ky b u))) := .put hm
            have pp := pr.put (k := ky) (a := b) R1' ru
            have ln : (setT kvs ky d1).length ≤ sizeLine := by
              have h1 := pp.len
              have h2 := storedH_length xs ky b u
              have h3 := pr.len
              rw [sizeLine_eq]
              omega
            have ok3 := G3.wok.putX (c0 := .dctT (setT kvs ky d1)) ha (cellT_mk upd_same ln sy (storedH_nodup nd) (fun y hy => SqT.per (Ex.per G3.wok) (by
              rcases mem_storedH_key hy with ⟨z, hz, e1, e2⟩ | ⟨e1, e2⟩
              · rw [e1, e2]; exact at_ z hz
              · rw [e1, e2]; exact hb)) (pp.per (Ex.per G3.wok)))
            exact P3 w3 _ σ (G3.step Ex ok3) (Ex.per G3.wok) .refl
          · cases hS
        · cases hS
      · cases hS
    · exact P3.elim
  · cases h
theorem s_expr {e : N} (x : XOk g C s X W) (st : Stmt) (h : chkS s (.expr e) st = true) : PS X st (tS g fr W C (.expr e)) := by
  unfold chkS at h
  split at h
  · simp only [Bool.and_eq_true, Bool.not_eq_true'] at h
    refine PS.imp (ps_expr ((snd (fr := fr) e).e x false _ h.2) (sw_none h.1)) fun E σ H ⟨w, env, S, G, P⟩ => ?_
    rw [exec] at P
    exact part G P fun d S1 w1 H1 v G1 E1 R1 P1 => P1 w1 H1 σ G1 .refl .refl
  · cases h
theorem s_ret {e : N} (x : XOk g C s X W) (st : Stmt) (h : chkS s (.ret e) st = true) : PS X st (tS g fr W C (.ret e)) := by
  unfold chkS at h
  split at h
  · refine PS.imp (ps_ret ((snd (fr := fr) e).e x false _ h)) fun E σ H ⟨w, env, S, G, P⟩ => ?_
    rw [exec] at P
    exact part G P fun d S1 w1 H1 v G1 E1 R1 P1 => P1 w1 H1 v G1.wok G1.ext R1
  · cases h
theorem s_raise {c : Str} {e : N} (x : XOk g C s X W) (st : Stmt) (h : chkS s (.raise_ c e) st = true) : PS X st (tS g fr W C (.raise_ c e)) := by
  unfold chkS at h
  split at h
  · simp only [Bool.and_eq_true, decide_eq_true_eq] at h
    obtain ⟨⟨⟨⟨⟨rfl, h2⟩, h3⟩, h4⟩, h5⟩, h6⟩ := h
    obtain ⟨fl, hfl⟩ := Option.isSome_iff_exists.mp h4
    obtain ⟨g1, g2⟩ := x.fld _ _ hfl
    have E := exB_ok x.ex hfl
    have ne : s.excs ≠ [] := fun z => by rw [z] at hfl; cases hfl
    refine PS.imp (ps_raise x.calm x.tk (pmk_nx E.nx (x.top ne) (x.gl h2) g2 x.rm ((snd (fr := fr) e).e x false _ h6) (okN_dbg h3) (star_ok h5))) fun En σ H ⟨w, env, S, G, P⟩ => ?_
    rw [exec] at P
    refine part G P fun d S1 w1 H1 v G1 E1 R1 P1 dx hd => ?_
    have R1 : Rep g H1 w1 d v := R1
    have E2 : Ext w1 H1 w1 (upd H1 dx (.xd [(fl, v)])) := .newT hd
    exact P1 w1 _ σ env _ _ (G1.step E2 (G1.wok.newT hd)) (E2.per G1.wok) (fun _ _ => ⟨rfl, rfl⟩) ⟨_, by rw [← x.mg]; exact g2, rfl, by rw [g1]; exact ⟨dx, v, rfl, upd_same, R1.per (E2.per G1.wok)⟩⟩
  · cases h
theorem Good.put {σ : L2.St} {H : Hp} {w : Wd} {env : Env} {S : Store} {i : Nat} {xs ys : List D} {k : Int} {d : D} {v : V} (G : Good g fr σ H w env S) (h : env[i]? = some (.own xs)) (r : Rep g H w d v) (hp : putI xs k d = some ys) :
    ∃ a vs j, σ[i]? = some (some (.ref a)) ∧ H a = some (.lst vs) ∧ ixN vs.length k = some j ∧ Good g fr σ (upd H a (.lst (vs.set j v))) w (env.set i (.own ys)) S ∧ Per w H w (upd H a (.lst (vs.set j v))) := by
  obtain ⟨a, vs, h1, h2, rs, nz, n0⟩ := G.own h
  have nm : a ∉ w.mu := fun z => by
    obtain ⟨u, q, c⟩ := G.wok.dict z
    rw [q] at h2; cases h2; exact c.lst
  unfold putI at hp
  obtain ⟨jj, hj, rfl⟩ := Option.map_eq_some_iff.mp hp
  rw [rs.length] at hj
  have P : Per w H w (upd H a (.lst (vs.set jj v))) := per_own h2 nz
  refine ⟨a, vs, jj, h1, h2, hj, ⟨wok_own G.wok h2 nz nm, ext_own G.ext n0, by rw [List.length_set, G.len], fun j t o q1 q2 => ?_, fun j l b ys zs hne q1 q2 q3 q4 => ?_⟩, P⟩
  · rcases getset q1 with ⟨e, rfl⟩ | ⟨e, q1⟩
    · subst e
      rw [h1] at q2
      cases q2
      exact .own upd_same ((rs.set r jj).per P) nz n0
    · have z := G.sl j t o q1 q2
      cases z with
      | un => exact .un
      | val z => exact .val (z.per P)
      | @own ys b us z1 z2 z3 z4 =>
        have ne : b ≠ a := fun e' => by
          subst e'
          exact G.sep i j b xs ys e h q1 h1 q2
        exact .own (by rw [upd_ne ne]; exact z1) (z2.per P) z3 z4
      | bor z1 z2 => exact .bor (z1.upd P fun e => z2 _ e n0) z2
  · have k1 : ∃ ys, env[j]? = some (.own ys) := by
      rcases getset q1 with ⟨e, _⟩ | ⟨_, q1⟩
      · exact ⟨xs, by rw [← e]; exact h⟩
      · exact ⟨ys, q1⟩
    have k2 : ∃ ys, env[l]? = some (.own ys) := by
      rcases getset q2 with ⟨e, _⟩ | ⟨_, q2⟩
      · exact ⟨xs, by rw [← e]; exact h⟩
      · exact ⟨zs, q2⟩
    obtain ⟨_, k1⟩ := k1
    obtain ⟨_, k2⟩ := k2
    exact G.sep j l b _ _ hne k1 k2 q3 q4
theorem s_lput {i : Nat} {e v : N} (x : XOk g C s X W) (st : Stmt) (h : chkS s (.lput i e v) st = true) : PS X st (tS g fr W C (.lput i e v)) := by
  unfold chkS at h
  split at h
  · rename_i y p1 u p2 t sp
    simp only [Bool.and_eq_true] at h
    obtain ⟨⟨⟨h1, h0⟩, h2⟩, h3⟩ := h
    refine PS.imp (ps_asg ((snd (fr := fr) v).e x false _ h3) (pg_sub (x.pv h1) ((snd (fr := fr) e).e x false _ h2) set_list (by intro v; cases u <;> first | rfl | cases h0)) (show swapsWithSole [.Subscript (.Name y p1) u p2] t sp.line X.env = pure false from sw_other (t := .Subscript (.Name y p1) u p2) (env := X.env) (l := sp.line) fun _ _ z => by cases z) (by cases t <;> rfl) (by rfl)) fun E σ H ⟨w, env, S, G, P⟩ => ?_
    rw [exec] at P
    refine part G P fun d S1 w1 H1 u G1 E1 R1 P1 => ?_
    split at P1
    · rename_i xs hx
      obtain ⟨a, vs, e1, e2, _⟩ := G1.own hx
      refine ⟨.ref a, e1, part G1 P1 fun d2 S2 w2 H2 u2 G2 E2 R2 P2 => ?_⟩
      split at P2
      · rename_i k
        split at P2
        · rename_i ys hys
          obtain ⟨b, us, j, e3, e4, hj, G3, P3⟩ := G2.put hx (RepP.ext (p := false) G1.wok E2 R1) hys
          rw [e1] at e3; cases e3
          have R2 : Rep g H2 w2 (.int k) u2 := R2
          cases R2
          exact ⟨a, us, k, j, rfl, rfl, e4, hj, P2 w2 _ σ G3 P3 (.setE (by simp [asg]))⟩
        · exact P2.elim
      · exact P2.elim
    · exact P1.elim
  · cases h
theorem XOk.tr (x : XOk g C s X W) {W' : WX} {pn : List (Addr × Obj)} {xe : Value → Shared → Prop} (tk : Takes (X.tr pn xe) W') (pa : PassesOwn (model X.prog X.w) X.A X.env xe) : XOk g C s (X.tr pn xe) W' :=
  { K := x.K
    P := x.P
    wd := x.wd
    mg := x.mg
    xc := x.xc
    xi := x.xi
    xim := x.xim
    N := x.N
    sc := x.sc
    kind := x.kind
    nd := x.nd
    calm := x.calm
    gd := x.gd
    un := x.un
    st := x.st
    pass := pa
    tk := tk
    free := x.free
    gcd := x.gcd
    fns := fun f ps hf => by
      obtain ⟨a, fd, k, h1, h2, h3, h4, h5⟩ := (x.fns f ps hf).ex
      exact ⟨a, fd, k, h1, h2, h3, h4, h5⟩
    ex := x.ex
    fld := x.fld
    top := x.top
    rm := x.rm
    ci := x.ci
    cs := x.cs
    ct := x.ct
    bs := x.bs
    hear := x.hear
    stk := x.stk
    lamOk := x.lamOk }
theorem s_tryB {a : N} {c : Str} {b : Bool} (ia : SndS g fr C a) (x : XOk g C s X W) (st : Stmt) (h : chkS s (.tryB a c b) st = true) : PS X st (tS g fr W C (.tryB a c b)) := by
  unfold chkS at h
  split at h
  · rename_i bs y p1 v k p2 p3 p4 p5
    simp only [Bool.and_eq_true, decide_eq_true_eq] at h
    obtain ⟨⟨⟨⟨⟨⟨rfl, rfl⟩, h1⟩, h2⟩, h3⟩, h4⟩, h5⟩ := h
    obtain ⟨fl, hfl⟩ := Option.isSome_iff_exists.mp h4
    obtain ⟨g1, g2⟩ := x.fld _ _ hfl
    have E := exB_ok x.ex hfl
    have ex := E.exm (c, fl) (mem_look hfl)
    obtain ⟨k1, k2⟩ := x.stk h1
    refine PS.imp (ps_try_only k1 k2 ⟨x.gl h2, okN_dbg h3, .inl g2⟩ x.tk (fun W' pn xe tk pa => ia.bl (x.tr tk pa) _ h5) fun a oe cls d pn z hf => pss_one (ps_ret (te := tC (.bl b)) pe_bl)) fun En σ H ⟨w, env, S, G, P⟩ => ?_
    rw [exec] at P
    refine ⟨w, env, S, G, ?_⟩
    cases hr : exec C a env S with
    | st => rw [hr] at P; exact P.elim
    | ok f1 S1 => rw [hr] at P; exact P
    | ex c' p S1 =>
      rw [hr] at P
      simp only at P
      split at P
      · rename_i hc
        subst hc
        intro w' H' σ' env' cc dd G' pe ag xc
        obtain ⟨a0, m1, ecc, _⟩ := xc
        subst ecc
        rw [← x.mg, g2] at m1
        cases m1
        refine ⟨true, ?_, fun _ a na => P w' H' _ G'.wok G'.ext (.bl b), fun z => by cases z⟩
        rw [ex]
        simp
      · exact P.elim
  · cases h
theorem s_tryA {a : N} {cs : List Str} {b : Bool} (ia : SndS g fr C a) (x : XOk g C s X W) (st : Stmt) (h : chkS s (.tryA a cs b) st = true) : PS X st (tS g fr W C (.tryA a cs b)) := by
  unfold chkS at h
  split at h
  · rename_i bs y p1 v k p2 p3 p4 p5
    simp only [Bool.and_eq_true, decide_eq_true_eq] at h
    obtain ⟨⟨⟨⟨⟨⟨rfl, h1⟩, h2⟩, h3⟩, h4⟩, h6⟩, h5⟩ := h
    obtain ⟨g2, g3⟩ := x.bs _ h4
    obtain ⟨k1, k2⟩ := x.stk h1
    refine PS.imp (ps_try_only k1 k2 ⟨x.gl h2, okN_dbg h3, .inl g2⟩ x.tk (fun W' pn xe tk pa => ia.bl (x.tr tk pa) _ h5) fun a oe cls d pn z hf => pss_one (ps_ret (te := tC (.bl b)) pe_bl)) fun En σ H ⟨w, env, S, G, P⟩ => ?_
    rw [exec] at P
    refine ⟨w, env, S, G, ?_⟩
    cases hr : exec C a env S with
    | st => rw [hr] at P; exact P.elim
    | ok f1 S1 => rw [hr] at P; exact P
    | ex c' p S1 =>
      rw [hr] at P
      simp only at P
      split at P
      · rename_i hc
        have hc1 := List.all_eq_true.mp h6 c' hc
        obtain ⟨fl, hfl⟩ := Option.isSome_iff_exists.mp hc1
        obtain ⟨_, g4⟩ := x.fld _ _ hfl
        intro w' H' σ' env' cc dd G' pe ag xc
        obtain ⟨a0, m1, ecc, _⟩ := xc
        subst ecc
        rw [← x.mg, g4] at m1
        cases m1
        exact ⟨true, g3 _ _ hfl, fun _ a na => P w' H' _ G'.wok G'.ext (.bl b), fun z => by cases z⟩
      · exact P.elim
  · cases h
theorem Good.unset {σ : L2.St} {H : Hp} {w : Wd} {env : Env} {S : Store} (G : Good g fr σ H w env S) (i : Nat) : Good g fr (σ.set i none) H w (env.set i .un) S := by
  refine ⟨G.wok, G.ext, by rw [List.length_set, List.length_set, G.len], fun j t o h1 h2 => ?_, fun j l a ys zs hne h1 h2 h3 h4 => ?_⟩
  · rcases getset h1 with ⟨e, rfl⟩ | ⟨e, h1⟩
    · exact .un
    · rcases getset h2 with ⟨e', _⟩ | ⟨_, h2⟩
      · exact absurd e' e
      · exact G.sl j t o h1 h2
  · rcases getset h1 with ⟨_, q⟩ | ⟨e1, h1⟩
    · cases q
    rcases getset h2 with ⟨_, q⟩ | ⟨e2, h2⟩
    · cases q
    rw [List.getElem?_set_ne e1] at h3
    rw [List.getElem?_set_ne e2] at h4
    exact G.sep j l a ys zs hne h1 h2 h3 h4
theorem s_tryE {i n : Nat} {e : N} {c w : Str} (x : XOk g C s X W) (st : Stmt) (h : chkS s (.tryE i e c w n) st = true) : PS X st (tS g fr W C (.tryE i e c w n)) := by
  unfold chkS at h
  split at h
  · rename_i y py v pv z pz nm y2 py2 w' kk pw v2 pv2 fl pf kt pt pa ph ptr
    simp only [Bool.and_eq_true, decide_eq_true_eq, Bool.not_eq_true'] at h
    obtain ⟨⟨⟨⟨⟨⟨⟨⟨⟨⟨⟨⟨⟨⟨⟨⟨rfl, rfl⟩, rfl⟩, rfl⟩, h5⟩, h6⟩, h7⟩, h8⟩, h9⟩, h10⟩, h11⟩, h12⟩, h13⟩, h14⟩, h15⟩, h16⟩, h17⟩ := h
    obtain ⟨g1, g2⟩ := x.fld _ _ h15
    have E := exB_ok x.ex h15
    have ex := E.exm (c, fl) (mem_look h15)
    obtain ⟨k1, k2⟩ := x.stk h8
    have hN : X.N.Nodup := by rw [x.N]; exact x.nd
    have hi : X.N[i]? = some y2 := by rw [x.N]; exact h5
    have hn : X.N[n]? = some v2 := by rw [x.N]; exact h6
    have ly : X.env.scope.names.lookup y2 = some .local := by rw [x.sc]; exact h9
    have ln : X.env.scope.names.lookup v2 = some .local := by rw [x.sc]; exact h10
    refine PS.imp (ps_try_nmd (n := v2) (i := n) (tb := fun W' => tAsg (tQ g fr W' C false e) (gName i)) (l := [(.ref (He.ga X.K c), fun a cls d => tAsg (tTup (tCons (tC (.str w)) (tCons (tXf a cls d (He.ga X.K c) fl (tVar n)) tNil))) (gName i))]) k1 k2 hN hn ln
      (fun W' pn xe tk pa => pss_one (ps_set (X := X.tr pn xe) hN hi (.inl ly) ((snd (fr := fr) e).e (x.tr tk pa) false _ h17) (sw_none h16) (.inr ly)))
      (.cons ⟨x.gl h13, okN_dbg h14, .inl g2⟩ (fun a o cls d pn zc hf => pss_one (ps_set (X := X.suite a ((a, o) :: pn)) hN hi (.inl ly) (pe_tup (pa_cons pe_str (pa_cons (pe_xf E.xf (nxB_no E.nx) zc hf (pe_var hn (.inl ln) h11 h12) (hb := by
        show attributeBase _ _ _ _ = _
        unfold attributeBase
        rfl)) pa_nil))) (by rfl) (.inr ly))) .nil)) fun En σ H ⟨w1, env, S, G, P⟩ => ?_
    rw [exec] at P
    show tQ g fr (wNmd X.K n En _) C false e σ H (fun v H1 => En.nx (σ.set i (some v)) H1)
    refine ⟨w1, env, S, G, ?_⟩
    cases hr : ev C e env S with
    | st => rw [hr] at P; exact P.elim
    | ok d S1 =>
      rw [hr] at P
      simp only at P
      split at P
      · intro w' H' b G' E' R'
        have R' : Rep g H' w' d b := R'
        exact P w' H' _ (G'.setV R' i) (E'.per G.wok) (.set (by simp [asg]))
      · exact P.elim
    | ex c' p S1 =>
      rw [hr] at P
      simp only at P
      split at P
      · rename_i hc
        obtain ⟨rfl, hl1, hl2, hne⟩ := hc
        intro w' H' cc dd G' E' xc
        obtain ⟨a0, m1, ecc, xf⟩ := xc
        subst ecc
        rw [← x.mg, g2] at m1
        cases m1
        rw [g1] at xf
        obtain ⟨dx, v, rfl, hx, rv⟩ := xf
        have hln : n < σ.length := by rw [← G.len]; exact hl2
        refine ⟨true, by rw [ex]; simp, ?_⟩
        rw [if_pos rfl]
        intro a na
        refine ⟨.ref a, List.getElem?_set_self hln, rfl, rfl, dx, [(fl, v)], v, rfl, hx, by simp, ?_, fun q hq => ?_⟩
        · simp [sizeLine_eq]
        · have E3 : Ext w' H' w' (upd H' q (.tup [.str w, v])) := .newT hq
          have G3 := G'.step E3 (G'.wok.newT hq)
          have r3 : Rep g (upd H' q (.tup [.str w, v])) w' (.tup [.str w, p]) (.ref q) := .tup (SqT.of upd_same) (.cons (.str w) (.cons (rv.per (E3.per G'.wok)) .nil))
          have G4 := (G3.setV r3 i).unset n
          have es : ((σ.set n (some (.ref a))).set i (some (.ref q))).set n none = (σ.set i (some (.ref q))).set n none := by
            rw [List.set_comm _ _ (fun z => hne z), List.set_set, ← List.set_comm _ _ (fun z => hne z)]
          show En.nx ((((σ.set n (some (.ref a))).set i (some (.ref q)))).set n none) _
          rw [es]
          refine P w' _ _ G4 ((E'.per G.wok).trans (E3.per G'.wok)) fun j hj => ?_
          have hj : (i == j || n == j) = false := hj
          obtain ⟨j1, j2⟩ := Bool.or_eq_false_iff.mp hj
          have j1 : i ≠ j := by simpa using j1
          have j2 : n ≠ j := by simpa using j2
          exact ⟨by rw [List.getElem?_set_ne j2, List.getElem?_set_ne j1], by rw [List.getElem?_set_ne j2, List.getElem?_set_ne j1]⟩
      · exact P.elim
  · cases h
theorem s_retN (x : XOk g C s X W) (st : Stmt) (h : chkS s .retN st = true) : PS X st (tS g fr W C .retN) := by
  unfold chkS at h
  split at h
  · refine PS.imp ps_retN fun E σ H ⟨w, env, S, G, P⟩ => ?_
    rw [exec] at P
    exact P w H .non G.wok G.ext .non
  · cases h
theorem s_brk (x : XOk g C s X W) (st : Stmt) (h : chkS s .brk st = true) : PS X st (tS g fr W C .brk) := by
  unfold chkS at h
  split at h
  · refine PS.imp ps_break fun E σ H ⟨w, env, S, G, P⟩ => ?_
    rw [exec] at P
    exact P w H σ G .refl .refl
  · cases h
theorem s_cnt (x : XOk g C s X W) (st : Stmt) (h : chkS s .cnt st = true) : PS X st (tS g fr W C .cnt) := by
  unfold chkS at h
  split at h
  · refine PS.imp ps_continue fun E σ H ⟨w, env, S, G, P⟩ => ?_
    rw [exec] at P
    exact P w H σ G .refl .refl
  · cases h
theorem s_pass (x : XOk g C s X W) (st : Stmt) (h : chkS s .pass st = true) : PS X st (tS g fr W C .pass) := by
  have go : ∀ E σ H, tS g fr W C .pass E σ H → tNext E σ H := fun E σ H ⟨w, env, S, G, P⟩ => by
    rw [exec] at P
    exact P w H σ G .refl .refl
  unfold chkS at h
  split at h
  · exact PS.imp ps_pass go
  · exact PS.imp ps_doc go
  · cases h
theorem s_gl {n : Str} (st : Stmt) : PS X st (tS g fr W C (.gl n)) := PS.imp ps_never fun E σ H ⟨w, env, S, G, P⟩ => (P : False)
end
end Fx

set_option maxHeartbeats 4000000
/-! Fx8b: blocks, tests, loops. -/
namespace Fx
open PySem PySem.Spec PyProof.Rows L2

section
variable {g : G} {fr : Frm} {W : WX} {C : Ev} {s : Sc} {X : Cx}
theorem s_ifs {c a b : N} (ia : SndS g fr C a) (ib : SndS g fr C b) (x : XOk g C s X W) (st : Stmt) (h : chkS s (.ifs c a b) st = true) : PS X st (tS g fr W C (.ifs c a b)) := by
  unfold chkS at h
  split at h
  · simp only [Bool.and_eq_true] at h
    refine PS.imp (ps_if ((snd (fr := fr) c).t x _ h.1.1) (ia.bl x _ h.1.2) (ib.bl x _ h.2)) fun E σ H ⟨w, env, S, G, P⟩ => ?_
    rw [exec] at P
    refine part G P fun k S1 w1 H1 b G1 E1 R1 P1 => ?_
    cases R1
    have lo : ∀ i, asg (.ifs c a b) i = false → asg a i = false ∧ asg b i = false := fun i hi => Bool.or_eq_false_iff.mp hi
    cases k with
    | true =>
      rw [if_pos rfl] at P1 ⊢
      exact ⟨w1, env, S1, G1, P1.imp (fun _ _ k => k.step .refl (As1 := no) .refl (fun _ _ => rfl) fun i hi => (lo i hi).1) fun _ _ _ x => x.step .refl (As1 := no) .refl (fun _ _ => rfl) fun i hi => (lo i hi).1⟩
    | false =>
      rw [if_neg Bool.false_ne_true] at P1 ⊢
      exact ⟨w1, env, S1, G1, P1.imp (fun _ _ k => k.step .refl (As1 := no) .refl (fun _ _ => rfl) fun i hi => (lo i hi).2) fun _ _ _ x => x.step .refl (As1 := no) .refl (fun _ _ => rfl) fun i hi => (lo i hi).2⟩
  · cases h
/-- while: as many turns as the evaluator takes -/
theorem s_whl {c b : N} (ib : SndS g fr C b) (x : XOk g C s X W) (st : Stmt) (h : chkS s (.whl c b) st = true) : PS X st (tS g fr W C (.whl c b)) := by
  unfold chkS at h
  split at h
  · simp only [Bool.and_eq_true] at h
    refine PS.imp (ps_while x.pass ((snd (fr := fr) c).t x _ h.1) (ib.bl x _ h.2)) fun E σ H ⟨w, env, S, G, P⟩ => ?_
    rw [exec] at P
    refine ⟨fun m σ2 H2 => ∃ w2 env2 S2, Good g fr σ2 H2 w2 env2 S2 ∧ Per w H w2 H2 ∧ Agree (asg b) σ σ2 env env2 ∧ Post (whileL (evT C c) (exec C b) m env2 S2) (KS g fr E (asg b) σ env w H) (XP g fr W σ env (asg b) w H), ⟨C.wf, w, env, S, G, .refl, .refl, P⟩, ?_⟩
    rintro m σ2 H2 ⟨w2, env2, S2, G2, p2, a2, P2⟩
    cases m with
    | zero => exact P2.elim
    | succ m =>
      unfold whileL at P2
      refine ⟨w2, env2, S2, G2, P2.bind.imp (fun k S3 P3 w3 H3 k' G3 E3 R3 => ?_) fun _ _ _ z => (z.step (As2 := no) p2 a2 (fun _ h => h) (fun _ _ => rfl)).xx G2.wok⟩
      cases R3
      have p3 := p2.trans (E3.per G2.wok)
      cases k with
      | true =>
        rw [if_pos rfl] at P3 ⊢
        refine ⟨fun σ4 H4 => ∃ w4 env4 S4, Good g fr σ4 H4 w4 env4 S4 ∧ Per w H w4 H4 ∧ Agree (asg b) σ σ4 env env4 ∧ Post (whileL (evT C c) (exec C b) m env4 S4) (KS g fr E (asg b) σ env w H) (XP g fr W σ env (asg b) w H), fun σ4 H4 q => ⟨m, Nat.lt_succ_self m, q⟩, w3, env2, S3, G3, ?_⟩
        refine P3.bind.imp (fun fl S4 P4 => ?_) fun _ _ _ z => z.step p3 a2 (fun _ h => h) (fun _ h => h)
        cases fl with
        | nx e => exact fun w' H' σ' G' p' a' => ⟨w', e, S4, G', p3.trans p', a2.trans a', P4⟩
        | ct e => exact fun w' H' σ' G' p' a' => ⟨w', e, S4, G', p3.trans p', a2.trans a', P4⟩
        | bk e => exact fun w' H' σ' G' p' a' => P4 w' H' σ' G' (p3.trans p') (a2.trans a')
        | rt d => exact P4
      | false =>
        rw [if_neg Bool.false_ne_true] at P3 ⊢
        exact P3 w3 H3 σ2 G3 p3 a2
  · cases h
theorem s_for {tg it b : N} (ib : SndS g fr C b) (x : XOk g C s X W) (st : Stmt) (h : chkS s (.for_ tg it b) st = true) : PS X st (tS g fr W C (.for_ tg it b)) := by
  unfold chkS at h
  split at h
  · simp only [Bool.and_eq_true] at h
    refine PS.imp (ps_for x.pass x.calm ((snd (fr := fr) it).i x false _ _ h.1.1) ((snd (fr := fr) (C := C) tg).tgt x _ h.1.2) (ib.bl x _ h.2) (foldS h.1.1)) fun E σ H ⟨w, env, S, G, P⟩ => ?_
    rw [exec] at P
    refine ⟨w, env, S, G, P.bind.imp (fun ds S1 P1 w1 H1 J G1 E1 itok => ?_) fun _ _ _ z => z.xx G.wok⟩
    have lo : ∀ i, asg (.for_ tg it b) i = false → asgT tg i = false ∧ asg b i = false := fun i hi => Bool.or_eq_false_iff.mp hi
    generalize hA : asg (.for_ tg it b) = As at P1 lo
    generalize hf : (fun d e S => match bindT tg d e with | some e => exec C b e S | none => (Res.st : Res Fl)) = f at P1
    let Pv : Nat → L2.St → Hp → Prop := fun i σ2 H2 => ∃ w2 env2 S2, Good g fr σ2 H2 w2 env2 S2 ∧ Per w1 H1 w2 H2 ∧ Agree As σ σ2 env env2 ∧ Post (forL f (ds.drop i) env2 S2) (KS g fr E As σ env w H) (XP g fr W σ env As w H)
    have p01 := E1.per G.wok
    refine ⟨fun i m σ2 H2 => m = ds.length - i ∧ i ≤ ds.length ∧ Pv i σ2 H2, ⟨ds.length, by simp, Nat.zero_le _, w1, env, S1, G1, .refl, .refl, P1⟩, ?_⟩
    rintro i m σ2 H2 ⟨rfl, hi, w2, env2, S2, G2, p2, a2, P2⟩
    by_cases hlt : i < ds.length
    · right
      obtain ⟨jgo, jy⟩ := itok.go i w2 H2 S2 ds[i] G2.wok (show RelB false w1 H1 w2 H2 from p2) (List.getElem?_eq_getElem hlt)
      refine ⟨jgo, Pv (i + 1), fun σ' H' q => ⟨ds.length - (i + 1), by omega, rfl, hlt, q⟩, fun v H3 y => ?_⟩
      obtain ⟨E3, ok3, r3⟩ := jy v H3 y
      rw [List.drop_eq_getElem_cons hlt] at P2
      unfold forL at P2
      have p3 := p2.trans (E3.per G2.wok)
      have P3 := P2.bind
      rw [← hf] at P3
      simp only at P3
      split at P3
      · rename_i env' hb
        refine ⟨w2, env2, S2, ds[i], env', G2.step E3 ok3, r3, hb, fun σ' G' a' => ?_⟩
        have a3 : Agree As σ σ' env env' := a2.trans (a'.mono fun i hi => (lo i hi).1)
        refine ⟨w2, env', S2, G', P3.imp (fun fl S4 P4 => ?_) fun _ _ _ z => z.step (p01.trans p3) a3 (fun _ h => h) (fun i hi => (lo i hi).2)⟩
        cases fl with
        | nx e => exact fun w' H' σ4 G4 p' a4 => ⟨w', e, S4, G4, p3.trans p', a3.trans (a4.mono fun i hi => (lo i hi).2), hf ▸ P4⟩
        | ct e => exact fun w' H' σ4 G4 p' a4 => ⟨w', e, S4, G4, p3.trans p', a3.trans (a4.mono fun i hi => (lo i hi).2), hf ▸ P4⟩
        | bk e => exact fun w' H' σ4 G4 p' a4 => P4 w' H' σ4 G4 (p01.trans (p3.trans p')) (a3.trans (a4.mono fun i hi => (lo i hi).2))
        | rt d => exact P4
      · exact P3.elim
    · have e1 : i = ds.length := by omega
      subst e1
      left
      rw [List.drop_length] at P2
      exact ⟨itok.stop w2 H2 S2 G2.wok (show RelB false w1 H1 w2 H2 from p2), P2 w2 H2 σ2 G2 (p01.trans p2) a2⟩
  · cases h
theorem b_nil (sts : List Stmt) (h : chkB s .nil sts = true) : PSs X sts (tS g fr W C .nil) := by
  unfold chkB at h
  split at h
  · refine PSs.imp pss_nil fun E σ H ⟨w, env, S, G, P⟩ => ?_
    rw [exec] at P
    exact P w H σ G .refl .refl
  · cases h
theorem b_frz {i : Nat} {b : N} (ib : SndS g fr C b) (x : XOk g C s X W) (sts : List Stmt) (h : chkB s (.cons (.frz i) b) sts = true) : PSs X sts (tS g fr W C (.cons (.frz i) b)) := by
  unfold chkB at h
  refine PSs.imp (ib.bl x _ h) fun E σ H ⟨w, env, S, G, P⟩ => ?_
  rw [exec, exec] at P
  have lo : ∀ j, asg (.cons (.frz i) b) j = false → i ≠ j ∧ asg b j = false := fun j hj => by
    have z : (i == j || asg b j) = false := hj
    obtain ⟨z1, z2⟩ := Bool.or_eq_false_iff.mp z
    exact ⟨by simpa using z1, z2⟩
  split at P
  · rename_i xs hx
    obtain ⟨a, G1⟩ := G.frz hx
    have A1 : Agree (fun j => i == j) σ σ env (env.set i (.val (.lst xs))) := .setE (by simp)
    have P : Post (exec C b (env.set i (.val (.lst xs))) S) _ _ := P
    exact ⟨_, _, S, G1, P.imp (fun _ _ k => k.step Per.frz1 A1 (fun j hj => by simpa using (lo j hj).1) fun j hj => (lo j hj).2) fun _ _ _ z => z.step Per.frz1 A1 (fun j hj => by simpa using (lo j hj).1) fun j hj => (lo j hj).2⟩
  · have P : Post (exec C b env S) _ _ := P
    exact ⟨w, env, S, G, P.imp (fun _ _ k => k.step .refl (As1 := no) .refl (fun _ _ => rfl) fun j hj => (lo j hj).2) fun _ _ _ z => z.step .refl (As1 := no) .refl (fun _ _ => rfl) fun j hj => (lo j hj).2⟩
theorem chkB_c {a b : N} {st : Stmt} {sts : List Stmt} (hz : ∀ i, a ≠ .frz i) : chkB s (.cons a b) (st :: sts) = (chkS s a st && chkB s b sts) := by
  cases a <;> first
    | exact absurd rfl (hz _)
    | (conv => lhs; unfold chkB)
theorem chkB_n {a b : N} (hz : ∀ i, a ≠ .frz i) : chkB s (.cons a b) [] = false := by
  cases a <;> first
    | exact absurd rfl (hz _)
    | (conv => lhs; unfold chkB)
theorem b_cons {a b : N} (ia : SndS g fr C a) (ib : SndS g fr C b) (x : XOk g C s X W) (sts : List Stmt) (h : chkB s (.cons a b) sts = true) : PSs X sts (tS g fr W C (.cons a b)) := by
  by_cases hz : ∃ i, a = .frz i
  · obtain ⟨i, rfl⟩ := hz
    exact b_frz ib x sts h
  cases sts with
  | nil => rw [chkB_n fun i q => hz ⟨i, q⟩] at h; cases h
  | cons st sts =>
    rw [chkB_c fun i q => hz ⟨i, q⟩, Bool.and_eq_true] at h
    refine PSs.imp (pss_cons (ia.st x _ h.1) (ib.bl x _ h.2)) fun E σ H ⟨w, env, S, G, P⟩ => ?_
    rw [exec] at P
    have lo : ∀ j, asg (.cons a b) j = false → asg a j = false ∧ asg b j = false := fun j hj => Bool.or_eq_false_iff.mp hj
    refine ⟨w, env, S, G, P.bind.imp (fun fl S1 P1 => ?_) fun _ _ _ z => z.step .refl (As1 := no) .refl (fun _ _ => rfl) fun j hj => (lo j hj).1⟩
    cases fl with
    | nx e =>
      intro w' H' σ' G' p' a'
      exact ⟨w', e, S1, G', P1.imp (fun _ _ k => k.step p' a' (fun j hj => (lo j hj).1) fun j hj => (lo j hj).2) fun _ _ _ z => z.step p' a' (fun j hj => (lo j hj).1) fun j hj => (lo j hj).2⟩
    | ct e => exact fun w' H' σ' G' p' a' => P1 w' H' σ' G' p' (a'.mono fun j hj => (lo j hj).1)
    | bk e => exact fun w' H' σ' G' p' a' => P1 w' H' σ' G' p' (a'.mono fun j hj => (lo j hj).1)
    | rt d => exact P1
theorem snds (n : N) : SndS g fr C n := by
  induction n with
  | gl n => exact ⟨fun x st h => s_gl st, fun x st h => (by unfold chkB at h; cases h)⟩
  | set i e => exact ⟨fun x st h => s_set x st h, fun x st h => (by unfold chkB at h; cases h)⟩
  | setO i e => exact ⟨fun x st h => s_setO x st h, fun x st h => (by unfold chkB at h; cases h)⟩
  | unp tg e => exact ⟨fun x st h => s_unp x st h, fun x st h => (by unfold chkB at h; cases h)⟩
  | par3 i j l a b c => exact ⟨fun x st h => s_par3 x st h, fun x st h => (by unfold chkB at h; cases h)⟩
  | extL i e => exact ⟨fun x st h => s_extL x st h, fun x st h => (by unfold chkB at h; cases h)⟩
  | par i j a b => exact ⟨fun x st h => s_par x st h, fun x st h => (by unfold chkB at h; cases h)⟩
  | app i e => exact ⟨fun x st h => s_app x st h, fun x st h => (by unfold chkB at h; cases h)⟩
  | dputT d k e => exact ⟨fun x st h => s_dputT x st h, fun x st h => (by unfold chkB at h; cases h)⟩
  | tryA a c b ia => exact ⟨fun x st h => s_tryA ia x st h, fun x st h => (by unfold chkB at h; cases h)⟩
  | dput d k e => exact ⟨fun x st h => s_dput x st h, fun x st h => (by unfold chkB at h; cases h)⟩
  | raise_ c e => exact ⟨fun x st h => s_raise x st h, fun x st h => (by unfold chkB at h; cases h)⟩
  | expr e => exact ⟨fun x st h => s_expr x st h, fun x st h => (by unfold chkB at h; cases h)⟩
  | ret e => exact ⟨fun x st h => s_ret x st h, fun x st h => (by unfold chkB at h; cases h)⟩
  | retN => exact ⟨fun x st h => s_retN x st h, fun x st h => (by unfold chkB at h; cases h)⟩
  | brk => exact ⟨fun x st h => s_brk x st h, fun x st h => (by unfold chkB at h; cases h)⟩
  | cnt => exact ⟨fun x st h => s_cnt x st h, fun x st h => (by unfold chkB at h; cases h)⟩
  | pass => exact ⟨fun x st h => s_pass x st h, fun x st h => (by unfold chkB at h; cases h)⟩
  | lput i e v => exact ⟨fun x st h => s_lput x st h, fun x st h => (by unfold chkB at h; cases h)⟩
  | tryE i e c w n => exact ⟨fun x st h => s_tryE x st h, fun x st h => (by unfold chkB at h; cases h)⟩
  | tryB a c b ia => exact ⟨fun x st h => s_tryB ia x st h, fun x st h => (by unfold chkB at h; cases h)⟩
  | ifs c a b _ ia ib => exact ⟨fun x st h => s_ifs ia ib x st h, fun x st h => (by unfold chkB at h; cases h)⟩
  | whl c b _ ib => exact ⟨fun x st h => s_whl ib x st h, fun x st h => (by unfold chkB at h; cases h)⟩
  | for_ tg it b _ _ ib => exact ⟨fun x st h => s_for ib x st h, fun x st h => (by unfold chkB at h; cases h)⟩
  | nil => exact ⟨fun x st h => (by unfold chkS at h; cases h), fun x st h => b_nil st h⟩
  | cons a b ia ib => exact ⟨fun x st h => (by unfold chkS at h; cases h), fun x st h => b_cons ia ib x st h⟩
  | _ => exact ⟨fun x st h => (by unfold chkS at h; cases h), fun x st h => (by unfold chkB at h; cases h)⟩
end
end Fx

set_option maxHeartbeats 4000000
/-! Fx9b: the defs of a module. -/
namespace Fx
open PySem PySem.Spec PyProof.Rows L2

/-- a def as written, with its body in the small language -/
structure Df where
  name : Str
  qual : Str
  ps : List Str
  params : Arguments
  body : List Stmt
  scope : Scope
  N : List Str
  F : Fn
  lam : Bool := false
/-- the module's constants -/
structure Cn where
  ci : List (Str × Int) := []
  cs : List (Str × Str) := []
  ct : List (Str × List Str) := []
  bs : List Str := []
  xc : List Xc := []
  xi : List Str := []
def Df.sc (d : Df) (fns : List (Str × List Str)) (free : List Str) (gc : Bool) (excs : List (Str × Str)) (hrs : List (Str × List (Str × Str))) (cn : Cn) : Sc := { N := d.N, sc := d.scope, own := d.scope, fns := fns, free := free, gcd := gc, def_ := true, excs := excs, hrs := hrs, lam := d.lam, cints := cn.ci, cstrs := cn.cs, ctups := cn.ct, bases := cn.bs, xcs := cn.xc, xis := cn.xi }
def Df.ok (d : Df) (fns : List (Str × List Str)) (free : List Str) (gc : Bool) (excs : List (Str × Str)) (hrs : List (Str × List (Str × Str))) (cn : Cn) : Bool :=
  scopeB d.N d.ps d.scope && plainP d.params && decide (d.params.args.map (·.arg) = d.ps) && chkB (d.sc fns free gc excs hrs cn) d.F.body d.body && decide (d.F.np = d.ps.length) && decide (d.F.nn = d.N.length) && decide (d.ps.length ≤ d.N.length)
def fnsOf (ds : List Df) : List (Str × List Str) := ds.map fun d => (d.name, d.ps)
def hrsOf (hds : List Hd) : List (Str × List (Str × Str)) := hds.map fun d => (d.name, d.hs)
def lamq (q : Str) : Str := (q ++ ".<locals>.") ++ "<lambda>"
/-- the defs, each an object of the module -/
structure ModOk (P : Program) (K : PySem.W.Frag) (mg : Str → Option Value) (base : Heap) (g : G) (ds : List Df) (T : Tab) (free : List Str) (gc : Bool) (excs : List (Str × Str)) (hds : List Hd) (cn : Cn) : Prop where
  fd : ∀ d ∈ ds, ∃ f fd, mg d.name = some (.ref f) ∧ FunD K d.name d.qual d.params d.body d.scope [] [] f fd
  tab : ∀ d ∈ ds, T d.name = some d.F
  ok : ∀ d ∈ ds, d.ok (fnsOf ds) free gc excs (hrsOf hds) cn = true
  free : ∀ x, free.contains x = true → mg x = none
  gcd : gc = true → mg "gcd" = some (.builtin "math.gcd")
  ex : exB P.main.file K excs = true
  fld : ∀ c f, excs.lookup c = some f → g.fld c = some f ∧ mg c = some (.ref (He.ga K c))
  top : excs ≠ [] → (P.main.scope.names.lookup ("super" : Str)).isSome = false
  hd : ∀ d ∈ hds, d.ok excs = true ∧ ∃ f fd, mg d.name = some (.ref f) ∧ FunD K d.name d.qual d.params d.body d.scope [] [] f fd
  ci : ∀ y z, cn.ci.lookup y = some z → ∃ t, mg y = some (.int z t)
  cs : ∀ y z, cn.cs.lookup y = some z → ∃ t, mg y = some (.str z t)
  bs : ∀ b, cn.bs.contains b = true → mg b = some (.ref (He.ga K b)) ∧ ∀ c f, excs.lookup c = some f → PySem.W.exmOne K (.ref (He.ga K c)) (.ref (He.ga K b)) = some true
  ct : ∀ y xs, cn.ct.lookup y = some xs → ∃ (a : Addr) (o : Obj) (its : Array Value) (n : Nat), mg y = some (.ref a) ∧ K.lookup a = some o ∧ o.cls = .type "tuple" ∧ o.data = .seq its n ∧ its.size ≤ sizeLine ∧ Vals (xs.map V.str) its.toList
  xc : ∀ q ∈ cn.xc, XcOk K cn.xi q ∧ mg q.c = some (.ref (He.ga K q.c)) ∧ mkB P.main.file K q = true
  xi : cn.xi = g.xi
  xim : ∀ z ∈ cn.xi, mg z = some (.ref (He.ga K z))
  lam : ∀ d ∈ ds, d.lam = true → ∀ f fd, mg d.name = some (.ref f) → FunD K d.name d.qual d.params d.body d.scope [] [] f fd → ∃ c Q, fd.code = .ref c ∧ LamX.TabB base mg c Q ∧ (Q, lamq d.qual) ∈ g.T ∧ ∀ p ∈ g.T, p.1 = Q → p.2 = lamq d.qual

section
variable {P : Program} {w : World} {K : PySem.W.Frag} {mg : Str → Option Value} {base : Heap} {ds : List Df} {T : Tab} {free : List Str} {gc : Bool} {wf : Nat} {excs : List (Str × Str)} {hds : List Hd} {g : G} {cn : Cn}
theorem FnR.mono {k k' : Nat} {f : Addr} {fd : FuncData} {ps : List Str} {sp : Sp} (F : FnR P w K mg base k f fd ps sp) (h : k ≤ k') : FnR P w K mg base k' f fd ps sp := ⟨F.len, fun A outer s H args us vs Q E hr => F.run A outer s H args us vs Q E (hr.mono h)⟩
theorem start_get {N : List Str} {vs : List V} {i : Nat} : (L2.start N vs)[i]? = if i < vs.length then (vs[i]?).map some else if i < vs.length + (N.length - vs.length) then some none else none := by
  unfold L2.start
  by_cases h : i < vs.length
  · rw [if_pos h, List.getElem?_append_left (by simpa using h), List.getElem?_map]
  · rw [if_neg h, List.getElem?_append_right (by simpa using Nat.le_of_not_lt h), List.length_map, List.getElem?_replicate]
    by_cases h2 : i < vs.length + (N.length - vs.length)
    · rw [if_pos h2, if_pos (by omega)]
    · rw [if_neg h2, if_neg (by omega)]
theorem startE_get {nn : Nat} {ds : List D} {i : Nat} : (startE nn ds)[i]? = if i < ds.length then (ds[i]?).map Sl.val else if i < ds.length + (nn - ds.length) then some .un else none := by
  unfold startE
  by_cases h : i < ds.length
  · rw [if_pos h, List.getElem?_append_left (by simpa using h), List.getElem?_map]
  · rw [if_neg h, List.getElem?_append_right (by simpa using Nat.le_of_not_lt h), List.length_map, List.getElem?_replicate]
    by_cases h2 : i < ds.length + (nn - ds.length)
    · rw [if_pos h2, if_pos (by omega)]
    · rw [if_neg h2, if_neg (by omega)]
/-- a body's entry -/
theorem good_start {g : G} {w : Wd} {H : Hp} {S : Store} {xs : List D} {vs : List V} {N : List Str} (k : WOk g w H S) (r : Reps g H w xs vs) : Good g ⟨w, H⟩ (L2.start N vs) H w (startE N.length xs) S := by
  have hl := r.length
  refine ⟨k, .refl, ?_, fun i t o h1 h2 => ?_, fun i j a ys zs _ h1 => ?_⟩
  · unfold L2.start startE
    rw [List.length_append, List.length_append, List.length_map, List.length_map, List.length_replicate, List.length_replicate, hl]
  · rw [startE_get] at h1
    rw [start_get] at h2
    rw [← hl] at h2
    split at h1
    · rename_i hi
      rw [if_pos hi] at h2
      have e1 : xs[i]? = some xs[i] := List.getElem?_eq_getElem hi
      obtain ⟨v, e2, rv⟩ := r.get e1
      rw [e1] at h1
      rw [e2] at h2
      cases h1
      cases h2
      exact .val rv
    · rename_i hi
      rw [if_neg hi] at h2
      split at h1
      · cases h1
        exact .un
      · cases h1
  · rw [startE_get] at h1
    split at h1
    · cases q : xs[i]? with
      | none => rw [q] at h1; cases h1
      | some d => rw [q] at h1; cases h1
    · split at h1 <;> cases h1
theorem startB_get {nn : Nat} {ds : List D} {i : Nat} : (startM true nn ds)[i]? = if i < ds.length then (ds[i]?).map lent else if i < ds.length + (nn - ds.length) then some .un else none := by
  unfold startM
  rw [if_pos rfl]
  by_cases h : i < ds.length
  · rw [if_pos h, List.getElem?_append_left (by simpa using h), List.getElem?_map]
  · rw [if_neg h, List.getElem?_append_right (by simpa using Nat.le_of_not_lt h), List.length_map, List.getElem?_replicate]
    by_cases h2 : i < ds.length + (nn - ds.length)
    · rw [if_pos h2, if_pos (by omega)]
    · rw [if_neg h2, if_neg (by omega)]
theorem lent_own {d : D} {xs : List D} (h : lent d = .own xs) : False := by
  cases d <;> cases h
theorem lent_at {g : G} {w : Wd} {H : Hp} {S : Store} {d : D} {v : V} (k : WOk g w H S) (r : RepT g H w d v) : SlAt g ⟨w, H⟩ H w (lent d) (some v) := by
  cases d with
  | lst xs =>
    refine .bor r fun a e => ?_
    subst e
    cases r with
    | rep h =>
      cases h with
      | lst h _ => rcases h with ⟨h, _⟩ | ⟨o, h⟩ <;> (show H _ ≠ none; rw [h]; simp)
    | own h _ => show H _ ≠ none; rw [h]; simp
  | _ =>
    cases r with
    | rep h => exact .val h
theorem good_startB {g : G} {w : Wd} {H : Hp} {S : Store} {xs : List D} {vs : List V} {N : List Str} (k : WOk g w H S) (r : RepTs g H w xs vs) : Good g ⟨w, H⟩ (L2.start N vs) H w (startM true N.length xs) S := by
  have hl := r.length
  refine ⟨k, .refl, ?_, fun i t o h1 h2 => ?_, fun i j a ys zs _ h1 => ?_⟩
  · unfold L2.start startM
    rw [if_pos rfl, List.length_append, List.length_append, List.length_map, List.length_map, List.length_replicate, List.length_replicate, hl]
  · rw [startB_get] at h1
    rw [start_get] at h2
    rw [← hl] at h2
    split at h1
    · rename_i hi
      rw [if_pos hi] at h2
      have e1 : xs[i]? = some xs[i] := List.getElem?_eq_getElem hi
      obtain ⟨v, e2, rv⟩ := r.get e1
      rw [e1] at h1
      rw [e2] at h2
      cases h1
      cases h2
      exact lent_at k rv
    · rename_i hi
      rw [if_neg hi] at h2
      split at h1
      · cases h1
        exact .un
      · cases h1
  · rw [startB_get] at h1
    split at h1
    · cases q : xs[i]? with
      | none => rw [q] at h1; cases h1
      | some d => rw [q] at h1; exact (lent_own (Option.some.inj h1)).elim
    · split at h1 <;> cases h1
/-- lent, or not -/
def spM (g : G) (b : Bool) (n : Nat) (cf : List D → Store → Res D) : Sp := fun vs H Q E => vs.length = n ∧ ∃ w S ds, WOk g w H S ∧ (if b = true then RepTs g H w ds vs else Reps g H w ds vs) ∧
  Post (cf ds S) (fun d S' => ∀ w' H' v, WOk g w' H' S' → Ext w H w' H' → Rep g H' w' d v → Q v H') fun c p S' => ∀ w' H' cc dd, WOk g w' H' S' → Ext w H w' H' → ExcAt g H' w' c p cc dd → E cc dd H'
theorem spM_len {g : G} {b : Bool} {H : Hp} {w : Wd} {ds : List D} {vs : List V} (h : if b = true then RepTs g H w ds vs else Reps g H w ds vs) : ds.length = vs.length := by
  cases b with
  | true => exact RepTs.length (by simpa using h)
  | false => exact Reps.length (by simpa using h)
theorem good_startM {g : G} {b : Bool} {w : Wd} {H : Hp} {S : Store} {xs : List D} {vs : List V} {N : List Str} (k : WOk g w H S) (r : if b = true then RepTs g H w xs vs else Reps g H w xs vs) : Good g ⟨w, H⟩ (L2.start N vs) H w (startM b N.length xs) S := by
  cases b with
  | true => exact good_startB k (by simpa using r)
  | false => exact good_start k (by simpa using r)
theorem fns_look {x : Str} {ps : List Str} : ∀ {ds : List Df}, (fnsOf ds).lookup x = some ps → ∃ d ∈ ds, d.name = x ∧ d.ps = ps
  | d :: ds, h => by
    unfold fnsOf at h
    rw [List.map_cons, List.lookup_cons] at h
    cases hb : x == d.name with
    | true =>
      rw [hb] at h
      cases h
      exact ⟨d, List.mem_cons_self, (by simpa using hb : x = d.name).symm, rfl⟩
    | false =>
      rw [hb] at h
      obtain ⟨e, he, q⟩ := fns_look h
      exact ⟨e, List.mem_cons_of_mem _ he, q⟩
/-- THE DEFS: each does what the evaluator tells, as deep as the room lets -/
theorem hrs_look {x : Str} {hs : List (Str × Str)} : ∀ {hds : List Hd}, (hrsOf hds).lookup x = some hs → ∃ d ∈ hds, d.name = x ∧ d.hs = hs := fun {hds} h => by
  obtain ⟨d, hd, e⟩ := List.mem_map.mp (mem_look h)
  cases e
  exact ⟨d, hd, rfl, rfl⟩
theorem fn_run (hgK : g.K = K) (hgm : g.mg = mg) (hgP : g.P = P) (hgw : g.wd = w) (M : ModOk P K mg base g ds T free gc excs hds cn) : ∀ (k : Nat), ∀ d ∈ ds, ∀ f fd, mg d.name = some (.ref f) → FunD K d.name d.qual d.params d.body d.scope [] [] f fd → ∀ b, FnR P w K mg base (3 * k + 3) f fd d.ps (spM g b d.ps.length (callM T wf k b d.name))
  | 0, d, _, f, fd, _, _ => fun b => ⟨fun vs H Q E h => h.1, fun A outer s H args us vs Q E hr hg e0 hb rv ⟨_, _, _, _, _, _, h⟩ => h.elim⟩
  | k + 1, d, hd, f, fd, hmd, F => fun b => by
    have ih := fn_run hgK hgm hgP hgw M k
    have ok := M.ok d hd
    unfold Df.ok at ok
    simp only [Bool.and_eq_true, decide_eq_true_eq] at ok
    obtain ⟨⟨⟨⟨⟨⟨o1, o2⟩, o3⟩, o4⟩, o5⟩, o6⟩, o7⟩ := ok
    have S := scopeB_ok o1
    refine ⟨fun vs H Q E h => h.1, fun A outer s H args us vs Q E hr hg e0 hb rv hsp => ?_⟩
    obtain ⟨oc, od, dV, kV, doc, pm, an, cdv, ct, osl, rfl, lk, hcd, _, _⟩ := F.ex
    obtain ⟨hl, w0, S0, xs, wok, rx, P0⟩ := hsp
    have KX : K.In s.heap := e0.mod.kin.keeps fun b o e => (e0.bs b o e).1
    have nol : s.heap.NoLimit := e0.mod.nolimit.keeps fun b o e => (e0.bs b o e).1
    have kinds : ∀ y ∈ d.ps.zip us, d.scope.names.lookup y.1 = some .local ∨ (d.scope.names.lookup y.1 = some .cell ∧ ((cellsFrom (s.heap.objs.size + 1) d.scope.names []).lookup y.1).isSome = true) := fun y hy => by
      rcases S.par y.1 (List.of_mem_zip (a := y.1) (b := y.2) hy).1 with q | q
      · exact .inl q
      · exact .inr ⟨q, PySem.W.cellsFrom_some _ _ _ (.inl q)⟩
    refine codeAny_call_function hr.depth (KX _ _ lk) rfl S.co S.gen rfl (PySem.W.codeRec_of KX hcd) (hb _ _ _ _ ?_)
    refine wpAny_newFunctionEnv_cells S.kind kinds fun env he s1 x => ?_
    subst he
    refine ⟨nol.keeps x.toInCall.keep, codeAny_func ?_⟩
    have I : L2.Inv (cxOf (L2.CX P w) P w K mg base d.N d.qual d.scope f cdv A outer s H E) [] (L2.start d.N vs) H s1 := inv_start S hr.hd e0 hl rv x
    -- the place
    let C : Ev := ⟨callM T wf k false, callM T wf k true, wf⟩
    have hr1 : Room (3 * k + 5) (A.deeper (envOfC d.qual d.scope s.heap.objs.size f cdv)) := hr.deeper (k := 3 * k + 5) _
    have hr2 : Room (3 * k + 3) (A.deeper (envOfC d.qual d.scope s.heap.objs.size f cdv)) := hr1.mono (by omega)
    have xok : XOk g C (d.sc (fnsOf ds) free gc excs (hrsOf hds) cn) (cxOf (L2.CX P w) P w K mg base d.N d.qual d.scope f cdv A outer s H E) (fun cls dd _ H' => E cls dd H') :=
      { K := hgK.symm
        P := hgP.symm
        wd := hgw.symm
        mg := hgm.symm
        N := rfl
        sc := rfl
        kind := S.kind
        nd := S.nd
        calm := rfl
        gd := hg
        un := by have := hr2.un; show (A.deeper _).units + 200 < cLine; omega
        st := fun y h => by
          unfold stB at h
          simp only [Bool.or_eq_true, decide_eq_true_eq] at h
          exact ⟨h, .inl rfl⟩
        pass := passes_of rfl
        tk := takes_of rfl rfl rfl rfl
        free := M.free
        gcd := M.gcd
        fns := fun f' ps' h => by
          obtain ⟨d', hd', rfl, rfl⟩ := fns_look h
          obtain ⟨fa, fd', hm, F'⟩ := M.fd d' hd'
          refine ⟨fa, fd', 3 * k + 3, hm, F'.kp, hr2, fun _ => hr1, ih d' hd' fa fd' hm F' false, ih d' hd' fa fd' hm F' true, fun s us ws ks hb hw => ?_⟩
          obtain ⟨oc', od', dV', kV', doc', pm', an', cdv', ct', osl', rfl, _, _, hD', _⟩ := F'.ex
          have ok' := M.ok d' hd'
          unfold Df.ok at ok'
          simp only [Bool.and_eq_true, decide_eq_true_eq] at ok'
          have e : dV' = .none := by
            rcases hD' with ⟨_, e⟩ | ⟨e, _⟩
            · exact e
            · exact absurd rfl e
          subst e
          exact .of_eq (bind_all ok'.1.1.1.1.1.2 ok'.1.1.1.1.2 hb hw)
        ex := M.ex
        fld := fun c f h => M.fld c f h
        top := M.top
        rm := hr1.mono (by omega)
        hear := fun f' hs h => by
          obtain ⟨d', hd', rfl, rfl⟩ := hrs_look h
          obtain ⟨ok', fa, fd', hm, F'⟩ := M.hd d' hd'
          exact ⟨d', fa, fd', rfl, ok', hm, F'⟩
        ci := M.ci
        cs := M.cs
        ct := M.ct
        bs := M.bs
        xc := M.xc
        xi := M.xi
        xim := M.xim
        stk := fun _ => ⟨rfl, rfl⟩
        lamOk := fun h => by
          obtain ⟨c, Q', ec, TB, hm, hu⟩ := M.lam d hd h _ _ hmd F
          exact ⟨c, Q', TB, ec, hm, hu, hr1.mono (by omega)⟩ }
    have T0 : callM T wf (k + 1) b d.name xs S0 = if xs.length = d.F.np then (exec C d.F.body (startM b d.F.nn xs) S0).bind ofFl else .st := by
      show (match T d.name with | some F => if xs.length = F.np then (exec ⟨callM T wf k false, callM T wf k true, wf⟩ F.body (startM b F.nn xs) S0).bind ofFl else .st | none => .st) = _
      rw [M.tab d hd]
    have hlen : xs.length = d.F.np := by rw [o5, ← hl, spM_len rx]
    rw [T0, if_pos hlen, o6] at P0
    have hq : tS g ⟨w0, H⟩ (fun cls dd _ H' => E cls dd H') C d.F.body { nx := fun _ H' => Q .non H', rt := Q } (L2.start d.N vs) H := by
      refine ⟨w0, startM b d.N.length xs, S0, good_startM wok rx, P0.bind.imp (fun fl S1 q => ?_) fun c p S1 q w' H' σ' env' cc dd G pe a xc => q w' H' cc dd G.wok G.ext xc⟩
      cases fl with
      | nx e => exact fun w' H' σ' G pe a => q w' H' .non G.wok G.ext .non
      | rt v => exact q
      | bk e => exact q.elim
      | ct e => exact q.elim
    refine wpAny_mono (((snds d.F.body).bl xok d.body o4).run [] s1 (L2.start d.N vs) H _ I hq) (fun fl s' hs => ?_) fun e s' hs => hs
    have fin : ∀ {σ' : L2.St} {H' : Hp} {v : V} {u : Value}, L2.Inv (cxOf (L2.CX P w) P w K mg base d.N d.qual d.scope f cdv A outer s H E) [] σ' H' s' → RelV v u → Q v H' → CE outer P w H s Q u s' :=
      fun {σ' H' v u} J rv q => ⟨v, H', J.os, J.bare, J.base, J.hok, rv, q⟩
    cases fl with
    | ret u =>
      obtain ⟨v, σ', H', J, rv, q⟩ := hs
      exact fin J rv q
    | next =>
      obtain ⟨σ', H', J, q⟩ := hs
      exact fin (v := V.non) (u := Value.none) J rfl q
    | brk =>
      obtain ⟨_, _, _, q⟩ := hs
      exact q.elim
    | cont =>
      obtain ⟨_, _, _, q⟩ := hs
      exact q.elim
end
end Fx

set_option maxHeartbeats 4000000
/-! Fx9c: from the defs to the law. -/
namespace Fx
open PySem PySem.Spec PyProof.Rows L2

/-- no list stands in the written part -/
def noL (K : PySem.W.Frag) : Bool := K.all fun p => match p.2.cls with
  | .type n => !(n == "list")
  | _ => true
theorem noL_ok {K : PySem.W.Frag} (h : noL K = true) {a : Addr} {o : Obj} (e : K.lookup a = some o) : o.cls ≠ .type "list" := fun q => by
  have hm : (a, o) ∈ K := mem_of e
  have z := List.all_eq_true.mp h _ hm
  rw [show (a, o).2.cls = .type "list" from q] at z
  cases z
where mem_of {a : Addr} {o : Obj} : ∀ {K : PySem.W.Frag}, K.lookup a = some o → (a, o) ∈ K
  | p :: r, h => by
    obtain ⟨b, u⟩ := p
    rw [List.lookup_cons] at h
    cases hb : a == b with
    | true =>
      rw [hb] at h
      cases h
      rw [show a = b by simpa using hb]
      exact List.mem_cons_self
    | false =>
      rw [hb] at h
      exact List.mem_cons_of_mem _ (mem_of h)
/-! ### what is seen of the module: K0 with the tables of code objects, K without -/
def isTab (o : Obj) : Bool := match o.cls with
  | .none => (match o.data with
    | .fields _ => true
    | _ => false)
  | _ => false
def noTab (K : PySem.W.Frag) : PySem.W.Frag := K.filter fun p => !isTab p.2
def AllIn (K : PySem.W.Frag) (h : Heap) : Prop := ∀ p ∈ K, h.get? p.1 = some p.2
theorem memA {a : Addr} {o : Obj} : ∀ {K : PySem.W.Frag}, K.lookup a = some o → (a, o) ∈ K := fun {K} h => noL_ok.mem_of h
theorem AllIn.is {K : PySem.W.Frag} {h : Heap} (x : AllIn K h) : K.In h := fun a o e => x (a, o) (memA e)
theorem AllIn.no {K : PySem.W.Frag} {h : Heap} (x : AllIn K h) : (noTab K).In h := AllIn.is fun p hp => x p (List.mem_filter.mp hp).1
theorem noTab_tab {K : PySem.W.Frag} {a : Addr} {o : Obj} (e : (noTab K).lookup a = some o) : isTab o = false := by
  have z := (List.mem_filter.mp (memA (K := noTab K) e)).2
  simpa using z
/-- the cells that functions have -/
def cellsG (g : Addr → Option Obj) (as : List Addr) : List Addr := as.flatMap fun a => match g a with
  | some ⟨_, _, .func fd, _⟩ => fd.closure.map (·.2)
  | _ => []
/-- each number once: what was met is kept as the bits of a number -/
def dedB : List Nat → Nat → List Nat
  | [], _ => []
  | a :: as, m => HandSHeadRun.frNat m fun m => match Nat.beq (Nat.land (Nat.shiftRight m a) 1) 1 with
    | true => dedB as m
    | false => a :: dedB as (Nat.lor m (Nat.shiftLeft 1 a))
def growB (g : Addr → Option Obj) (as : List Addr) : List Addr := dedB (as ++ as.flatMap fun a => match g a with
  | some o => He.refsD o
  | none => []) 0
def asB (g : Addr → Option Obj) : Nat → List Addr
  | 0 => [mainGlobals]
  | n + 1 => growB g (asB g n)
def seenG (g : Addr → Option Obj) (n : Nat) : PySem.W.Frag := He.frG g (cStatics :: (asB g n ++ cellsG g (asB g n)))
theorem frG_all {h : Heap} {as : List Addr} : AllIn (He.frG h.get? as) h := fun p hp => by
  obtain ⟨a, _, e⟩ := List.mem_filterMap.mp hp
  cases hg : h.get? a with
  | none => rw [hg] at e; cases e
  | some o => rw [hg] at e; cases e; exact hg
/-- the head's facts, and one's own word -/
def hookX (n : Nat) (fa : List He.Fa) (fn : List He.DefD) (ex : PySem.W.Frag → Bool) : PySem.W.Hook where
  α := Bool × He.AlD
  obs := fun s => (ex (seenG s.heap.get? n), He.obsD fa fn (noTab (seenG s.heap.get? n)))
  val := fun _ => (true, He.valD fn)
  says := fun _ h => ∃ K0 : PySem.W.Frag, AllIn K0 h ∧ He.SaysD fa fn (noTab K0) ∧ ex K0 = true
  of := fun _ _ e => ⟨_, frG_all, congrArg (fun z : Bool × He.AlD => z.2) e, congrArg (fun z : Bool × He.AlD => z.1) e⟩
  keeps := fun _ _ _ ⟨K, hK, c, z⟩ k => ⟨K, fun p hp => k _ _ (hK p hp), c, z⟩
def obX (n : Nat) (fa : List He.Fa) (fn : List He.DefD) (ex : PySem.W.Frag → Bool) (s : PySem.W.SharedT) : Bool × He.AlD :=
  (ex (seenG (HandSHeadRun.getT s) n), He.obsD fa fn (noTab (seenG (HandSHeadRun.getT s) n)))
theorem obX_eq {n : Nat} {fa : List He.Fa} {fn : List He.DefD} {ex : PySem.W.Frag → Bool} (s : PySem.W.SharedT) : obX n fa fn ex s = (hookX n fa fn ex).obs s.abs := by
  have e : HandSHeadRun.getT s = s.abs.heap.get? := funext (HandSHeadRun.getT_eq s)
  unfold obX
  rw [e] <;> rfl
/-- a def's code object and its table -/
def tabAd (K : PySem.W.Frag) (x : Str) : Addr × Addr := match K.lookup (He.ga K x) with
  | some ⟨_, _, .func fd, _⟩ => (match fd.code with
    | .ref c => (match K.lookup c with
      | some ⟨_, _, .fields vs, _⟩ => (match (vs[11]? : Option Value) with
        | some (.ref P) => (c, P)
        | _ => (0, 0))
      | _ => (0, 0))
    | _ => (0, 0))
  | _ => (0, 0)
def tabB (K : PySem.W.Frag) (x : Str) : Bool := (match K.lookup (He.ga K x) with
  | some ⟨_, _, .func fd, _⟩ => decide (fd.code = .ref (tabAd K x).1)
  | _ => false) && (match K.lookup (tabAd K x).1 with
  | some ⟨.type ty, _, .fields vs, _⟩ => ty == "code" && decide ((vs[11]? : Option Value) = some (.ref (tabAd K x).2)) && decide (vs.getD 11 .none = .ref (tabAd K x).2) && (match vs.getD 18 .none with
      | .str _ _ => true
      | _ => false) && (match vs.getD 7 .none with
      | .int _ _ => true
      | _ => false) && (match vs.getD 9 .none with
      | .bool _ => true
      | _ => false) && (match vs.getD 10 .none with
      | .int _ _ => true
      | _ => false)
  | _ => false) && decide ((tabAd K x).1 ≠ (tabAd K x).2) && (match K.lookup (tabAd K x).2 with
  | some ⟨.none, none, .fields vs, sl⟩ => vs.isEmpty && sl.isEmpty
  | _ => false)
theorem tabB_ok {K : PySem.W.Frag} {x : Str} {h : Heap} (X : K.In h) (hB : tabB K x = true) : PySem.W.CodeHd h (tabAd K x).1 (tabAd K x).2 ∧ K.lookup (tabAd K x).2 = some (PySem.W.tabObj #[]) ∧ ∃ oc od fd osl, K.lookup (He.ga K x) = some ⟨oc, od, .func fd, osl⟩ ∧ fd.code = .ref (tabAd K x).1 := by
  unfold tabB at hB
  simp only [Bool.and_eq_true] at hB
  obtain ⟨⟨⟨h1, h2⟩, h3⟩, h4⟩ := hB
  refine ⟨?_, ?_, ?_⟩
  · split at h2
    · rename_i ty od vs sl lk
      simp only [Bool.and_eq_true, decide_eq_true_eq, beq_iff_eq] at h2
      obtain ⟨⟨⟨⟨⟨⟨rfl, q2⟩, q3⟩, q4⟩, q5⟩, q6⟩, q7⟩ := h2
      split at q4
      · rename_i fl tf e4
        split at q5
        · rename_i fi tg e5
          split at q6
          · rename_i b e6
            split at q7
            · rename_i ti tt e7
              exact ⟨_, vs, fl, tf, fi, tg, b, ti, tt, X _ _ lk, rfl, rfl, q2, q3, e4, e5, e6, e7, of_decide_eq_true h3⟩
            · cases q7
          · cases q6
        · cases q5
      · cases q4
    · cases h2
  · split at h4
    · rename_i vs sl lk
      simp only [Bool.and_eq_true, Array.isEmpty_iff] at h4
      obtain ⟨rfl, rfl⟩ := h4
      rw [lk] <;> rfl
    · cases h4
  · split at h1
    · rename_i oc od fd osl lk
      exact ⟨oc, od, fd, osl, lk, of_decide_eq_true h1⟩
    · cases h1

theorem ints_reps {g : G} {H : Hp} {w : Wd} (ns : List Int) : Reps g H w (ns.map D.int) (ns.map V.int) := Reps.ints
/-- THE LAW'S CALL: where the evaluator tells True at every script, the def does; cs: the code objects that grow, their tables -/
theorem law_run {P : Program} {w : World} {K : PySem.W.Frag} {mg mb : Str → Option Value} {k : Nat} {fa a : Addr} {cs : List (Addr × Addr)} {fd : FuncData} {g : G} {x : Str} {cf : List D → Store → Res D} {t₁ : Shared} {us : List Value} {ns : List Int}
    (hgT : ∀ p ∈ g.T, p.1 ∈ cs.map (·.2)) (KI : K.In t₁.heap) (nl : noL K = true) (hgl : t₁.heap.Ns mainGlobals mg) (hbl : t₁.heap.Ns builtinsNs mb) (hbo : ∀ y : Str, y ≠ "__name__" → mb y = bootBuiltins y) (hlm : t₁.heap.NoLimit) (hgn : t₁.gens = #[])
    (hT : ∀ p ∈ cs, t₁.heap.get? p.2 = some (PySem.W.tabObj #[])) (nT : ∀ p ∈ cs, K.lookup p.2 = none) (hC : ∀ p ∈ cs, PySem.W.CodeHd t₁.heap p.1 p.2)
    (hbm : ∃ (bm : Addr) (ob : Obj), mg "__builtins__" = some (.ref bm) ∧ bm ≠ builtinsNs ∧ t₁.heap.get? bm = some ob ∧ ob.cls = .type "module" ∧ ob.dict = some builtinsNs ∧ ob.data = .plain)
    (hobj : t₁.heap.get? a = some { cls := .type "list", data := .seq us.toArray }) (hin : IntsAre us ns) (hln : ns.length ≤ sizeLine) (hrm : Room k callerA)
    (F : ∀ base : Heap, K.In base → base.Ns mainGlobals mg → (∀ p ∈ cs, LamX.TabB base mg p.1 p.2) → FnR P w K mg base k fa fd [x] (spF g 1 cf)) (hbd : ∀ (s : Shared) (u : Value), BindsTo s fd ⟨[u], []⟩ [(x, u)])
    (hR : ∃ S', cf [.lst (ns.map D.int)] [] = .ok (.bl true) S') :
    codeAny (model P w) callerA (.call (.ref fa) ⟨[.ref a], []⟩) (fun r s' => r = .ok (.ret (.bool true)) ∧ OldK t₁.heap s'.heap ∧ s'.os = t₁.os ∧ AllBare s'.gens) t₁ := by
  have rvs := vals_ints hin
  have hka : K.lookup a = none := by
    cases q : K.lookup a with
    | none => rfl
    | some o =>
      have e := KI a o q
      rw [hobj] at e
      exact absurd (by rw [← Option.some.inj e]) (noL_ok nl q)
  let O : Obj := { cls := .type "list", data := .seq us.toArray }
  have tabAt : ∀ b, b ∈ cs.map (·.2) → t₁.heap.get? b = some (PySem.W.tabObj #[]) := fun b hb => by
    obtain ⟨p, hp, rfl⟩ := List.mem_map.mp hb
    exact hT p hp
  have aT : a ∉ cs.map (·.2) := fun z => by
    have q := tabAt a z
    rw [hobj] at q
    cases q
  -- what is tracked: the script, the tables
  let H : Hp := fun b => if b = a then some (.frz O (.lst (ns.map V.int))) else if b ∈ cs.map (·.2) then some (.tbl #[]) else none
  have Ha : H a = some (.frz O (.lst (ns.map V.int))) := if_pos rfl
  have Ht : ∀ b, b ∈ cs.map (·.2) → H b = some (.tbl #[]) := fun b hb => by
    have n : b ≠ a := fun z => aT (by rw [← z]; exact hb)
    exact (if_neg n).trans (if_pos hb)
  have Hn : ∀ b, b ≠ a → b ∉ cs.map (·.2) → H b = none := fun b h1 h2 => (if_neg h1).trans (if_neg h2)
  have only : ∀ b u, H b = some u → (b = a ∧ u = .frz O (.lst (ns.map V.int))) ∨ (b ∈ cs.map (·.2) ∧ u = .tbl #[]) := fun b u h => by
    by_cases e : b = a
    · subst e
      rw [Ha] at h
      exact .inl ⟨rfl, (Option.some.inj h).symm⟩
    · by_cases e2 : b ∈ cs.map (·.2)
      · rw [Ht b e2] at h
        exact .inr ⟨e2, (Option.some.inj h).symm⟩
      · rw [Hn b e e2] at h; cases h
  have hok : HOk P w H t₁.heap := fun b u h => by
    rcases only b u h with ⟨rfl, rfl⟩ | ⟨h1, rfl⟩
    · exact ⟨hobj, by rw [List.length_map]; exact hln, us, _, rvs, hobj⟩
    · exact tabAt b h1
  have inB : ∀ {b : Addr} {o : Obj}, t₁.heap.get? b = some o → b ≠ a → b ∉ cs.map (·.2) → (hidT t₁.heap H).get? b = some o := fun e n m => hidT_get e (Hn _ n m)
  have un_ : ∀ {b : Addr} {o : Obj}, t₁.heap.get? b = some o → (∀ vs n, o.data ≠ .seq vs n) → o.data ≠ .fields #[] → b ≠ a ∧ b ∉ cs.map (·.2) := fun {b o} e h1 h2 => ⟨fun z => by
    rw [z, hobj] at e
    cases e
    exact h1 _ _ rfl, fun z => by
    rw [tabAt b z] at e
    cases e
    exact h2 rfl⟩
  have dct_ : ∀ {b : Addr} {o : Obj} {es : Array DictEntry} {ep : Nat}, t₁.heap.get? b = some o → o.data = .dict es ep → b ≠ a ∧ b ∉ cs.map (·.2) := fun {b o es ep} e d => un_ e (fun vs n z => by rw [d] at z; cases z) fun z => by rw [d] at z; cases z
  have nsB : ∀ {b : Addr} {m : Str → Option Value}, t₁.heap.Ns b m → (hidT t₁.heap H).Ns b m := fun {b m} ⟨o, es, ep, e, d, r⟩ => ⟨o, es, ep, inB e (dct_ e d).1 (dct_ e d).2, d, r⟩
  have KB : K.In (hidT t₁.heap H) := fun b o e => inB (KI b o e) (fun z => by
    rw [z, hka] at e; cases e) fun z => by
    obtain ⟨p, hp, rfl⟩ := List.mem_map.mp z
    rw [nT p hp] at e
    cases e
  have md : Mod K mg (hidT t₁.heap H) := by
    obtain ⟨mc, q1, q2⟩ := hlm
    exact ⟨KB, nsB hgl, ⟨mb, nsB hbl, hbo⟩, ⟨mc, nsB q1, q2⟩⟩
  have TB : ∀ p ∈ cs, LamX.TabB (hidT t₁.heap H) mg p.1 p.2 := fun p hp => by
    refine ⟨?_, ?_, fun z => ?_⟩
    · obtain ⟨o, vs, file, tf, flags, tg, inF, text, tt, e1, r1, r2, r3, r⟩ := hC p hp
      have u := un_ e1 (fun vs n z => by rw [r2] at z; cases z) fun z => by
        rw [r2] at z
        cases z
        simp at r3
      exact ⟨o, vs, file, tf, flags, tg, inF, text, tt, inB e1 u.1 u.2, r1, r2, r3, r⟩
    · obtain ⟨bm, ob, b1, b2, b3, b4, b5, b6⟩ := hbm
      have u := un_ b3 (fun vs n z => by rw [b6] at z; cases z) fun z => by rw [b6] at z; cases z
      refine ⟨bm, ob, b1, b2, fun q => ?_, fun q => u.2 (by rw [q]; exact List.mem_map.mpr ⟨p, hp, rfl⟩), inB b3 u.1 u.2, b4, b5, b6⟩
      obtain ⟨o, es, ep, e, hd, _⟩ := hgl
      rw [q, e] at b3
      cases b3
      rw [hd] at b6
      cases b6
    · obtain ⟨o, es, ep, e, hd, _⟩ := hgl
      rw [z, hT p hp] at e
      cases e
      cases hd
  have e0 : Env0 P w K mg (hidT t₁.heap H) callerA [] t₁ H :=
    { frames := rfl, mod := md, bs := fun b o e => of_hidT e, bsz := Nat.le_of_eq (hidT_size _ _), funs := trivial, frf := fun b hb => absurd (show b ∈ ([] : List Addr) from hb) (by simp), hok := hok, bare := .of_eq hgn }
  have tabs : LamX.Tabs g.T H := fun p hp => .nil (Ht _ (hgT p hp))
  have wok : WOk g ⟨[], fun _ => False⟩ H [] := ⟨rfl, .nil, fun n b c e => by simp at e, fun b z => z.elim, tabs⟩
  have rep : Rep g H ⟨[], fun _ => False⟩ (.lst (ns.map D.int)) (.ref a) := .lst (.inr ⟨O, Ha⟩) (ints_reps ns)
  have sp : spF g 1 cf [.ref a] H (fun v _ => v = .bl true) (fun _ _ _ => False) := by
    refine ⟨rfl, ⟨[], fun _ => False⟩, [], [.lst (ns.map D.int)], wok, .cons rep .nil, ?_⟩
    obtain ⟨S', e⟩ := hR
    rw [e]
    exact fun w' H' v _ _ r => r.bl_
  refine codeAny_mono ((F _ KB (nsB hgl) TB).run callerA [] t₁ H ⟨[.ref a], []⟩ [.ref a] [.ref a] _ _ hrm rfl e0 (hbd t₁ (.ref a)) (.cons rfl .nil) sp) fun r s' h => ?_
  cases r with
  | error e =>
    obtain ⟨_, _, _, _, _, _, _, _, _, _, _, _, z⟩ := h
    exact z.elim
  | ok fl =>
    cases fl with
    | next => exact h.elim
    | brk => exact h.elim
    | cont => exact h.elim
    | ret u =>
      obtain ⟨v, H', os, bare, un, hok', r', q⟩ := h
      have q : v = .bl true := q
      subst q
      obtain rfl : u = Value.bool true := r'
      have stay : ∀ b o, b ∉ cs.map (·.2) → t₁.heap.get? b = some o → s'.heap.get? b = some o := fun b o nb e => by
        by_cases hb : b = a
        · subst hb
          have z2 := un.frzs b O _ Ha
          obtain ⟨e2, _⟩ := hok' b _ z2
          rw [hobj] at e; cases e
          exact e2
        · exact un.keep b o e (Hn b hb nb) (fun z => absurd (show b ∈ ([] : List Addr) from z) (by simp)) (by simp)
      have grow : ∀ p ∈ cs, ∃ more : Array Value, s'.heap.get? p.2 = some { cls := .none, data := .fields more } := fun p hp => by
        obtain ⟨more, z⟩ := un.tbls p.2 #[] (Ht _ (List.mem_map.mpr ⟨p, hp, rfl⟩))
        exact ⟨_, hok' p.2 _ z⟩
      refine ⟨rfl, ⟨fun b o e => ?_, fun b o e => ?_⟩, os, bare⟩
      · by_cases hb : b ∈ cs.map (·.2)
        · obtain ⟨p, hp, rfl⟩ := List.mem_map.mp hb
          obtain ⟨more, hm⟩ := grow p hp
          rw [hT p hp] at e
          cases e
          exact .inr (.inl ⟨((hC p hp).tab (hT p hp)).isCodeTable, rfl, #[], more, rfl, by rw [Array.empty_append]; exact hm⟩)
        · exact .inl (stay b o hb e)
      · by_cases hb : b ∈ cs.map (·.2)
        · obtain ⟨p, hp, rfl⟩ := List.mem_map.mp hb
          obtain ⟨more, hm⟩ := grow p hp
          exact ⟨_, hm⟩
        · exact ⟨o, stay b o hb e⟩

/-! ### the module's facts -/
def Df.dd (d : Df) : He.DefD := ⟨(d.name, none), d.name, d.qual, d.params, d.body, d.scope, [], []⟩
def Hd.dd (d : Hd) : He.DefD := ⟨(d.name, none), d.name, d.qual, d.params, d.body, d.scope, [], []⟩
def factsOf (ds : List Df) (hds : List Hd) (free : List Str) : List He.Fa := (ds.map fun d => He.Fa.glo d.name) ++ ((hds.map fun d => He.Fa.glo d.name) ++ free.map He.Fa.free)
def ddsOf (ds : List Df) (hds : List Hd) : List He.DefD := ds.map Df.dd ++ hds.map Hd.dd
def tabOf (ds : List Df) : Tab := fun x => (ds.find? fun d => decide (d.name = x)).map (·.F)
def okAll (ds : List Df) (free : List Str) (gc : Bool) (excs : List (Str × Str)) (hds : List Hd) (cn : Cn) : Bool := (ds.all fun d => d.ok (fnsOf ds) free gc excs (hrsOf hds) cn) && hds.all fun d => d.ok excs
def lamsOf (ds : List Df) : List Df := ds.filter (·.lam)
/-- the module's constants as they lie -/
def strV : List Str → List Value → Bool
  | [], [] => true
  | x :: xs, .str y _ :: vs => decide (x = y) && strV xs vs
  | _, _ => false
theorem strV_ok : ∀ {xs : List Str} {vs : List Value}, strV xs vs = true → Vals (xs.map V.str) vs
  | [], [], _ => .nil
  | [], _ :: _, h => by cases h
  | x :: xs, [], h => by cases h
  | x :: xs, v :: vs, h => by
    cases v with
    | str y t =>
      unfold strV at h
      rw [Bool.and_eq_true, decide_eq_true_eq] at h
      obtain ⟨rfl, h⟩ := h
      exact .cons ⟨_, rfl⟩ (strV_ok h)
    | _ => cases h
def ciB (K : PySem.W.Frag) (p : Str × Int) : Bool := match PySem.W.nsIn K mainGlobals p.1 with
  | some (some (.int z _)) => decide (z = p.2)
  | _ => false
def csB (K : PySem.W.Frag) (p : Str × Str) : Bool := match PySem.W.nsIn K mainGlobals p.1 with
  | some (some (.str z _)) => decide (z = p.2)
  | _ => false
def ctB (K : PySem.W.Frag) (p : Str × List Str) : Bool := match PySem.W.nsIn K mainGlobals p.1 with
  | some (some (.ref a)) => (match K.lookup a with
    | some ⟨.type n, _, .seq its _, _⟩ => n == "tuple" && decide (its.size ≤ 1000) && strV p.2 its.toList
    | _ => false)
  | _ => false
def cnB (K : PySem.W.Frag) (cn : Cn) : Bool := cn.ci.all (ciB K) && cn.cs.all (csB K) && cn.ct.all (ctB K)
section
variable {K : PySem.W.Frag} {h : Heap} {mg : Str → Option Value} {cn : Cn}
theorem ci_ok (KX : K.In h) (N : h.Ns mainGlobals mg) (hB : cnB K cn = true) (y : Str) (z : Int) (hl : cn.ci.lookup y = some z) : ∃ t, mg y = some (.int z t) := by
  unfold cnB at hB
  simp only [Bool.and_eq_true] at hB
  have q := List.all_eq_true.mp hB.1.1 _ (mem_look hl)
  unfold ciB at q
  split at q
  · rename_i z' t e
    simp only [decide_eq_true_eq] at q
    subst q
    exact ⟨t, PySem.W.mg_of KX N e⟩
  · cases q
theorem cs_ok (KX : K.In h) (N : h.Ns mainGlobals mg) (hB : cnB K cn = true) (y : Str) (z : Str) (hl : cn.cs.lookup y = some z) : ∃ t, mg y = some (.str z t) := by
  unfold cnB at hB
  simp only [Bool.and_eq_true] at hB
  have q := List.all_eq_true.mp hB.1.2 _ (mem_look hl)
  unfold csB at q
  split at q
  · rename_i z' t e
    simp only [decide_eq_true_eq] at q
    subst q
    exact ⟨t, PySem.W.mg_of KX N e⟩
  · cases q
theorem ct_ok (KX : K.In h) (N : h.Ns mainGlobals mg) (hB : cnB K cn = true) (y : Str) (xs : List Str) (hl : cn.ct.lookup y = some xs) :
    ∃ (a : Addr) (o : Obj) (its : Array Value) (n : Nat), mg y = some (.ref a) ∧ K.lookup a = some o ∧ o.cls = .type "tuple" ∧ o.data = .seq its n ∧ its.size ≤ sizeLine ∧ Vals (xs.map V.str) its.toList := by
  unfold cnB at hB
  simp only [Bool.and_eq_true] at hB
  have q := List.all_eq_true.mp hB.2 _ (mem_look hl)
  unfold ctB at q
  split at q
  · rename_i a e
    split at q
    · rename_i n od its cap sl lk
      simp only [Bool.and_eq_true, decide_eq_true_eq, beq_iff_eq] at q
      obtain ⟨⟨rfl, q2⟩, q3⟩ := q
      exact ⟨a, _, its, cap, PySem.W.mg_of KX N e, lk, rfl, rfl, by rw [sizeLine_eq]; omega, strV_ok q3⟩
    · cases q
  · cases q
end
/-- the own exceptions that are values -/
def xcAll (file : Str) (K : PySem.W.Frag) (cn : Cn) : Bool := (cn.xc.all fun q => xcB K cn.xi q && He.eqO (PySem.W.nsIn K mainGlobals q.c) (some (some (.ref (He.ga K q.c)))) && mkB file K q) && cn.xi.all fun z => He.eqO (PySem.W.nsIn K mainGlobals z) (some (some (.ref (He.ga K z))))
/-- one's own word of the head -/
def word (gc : Bool) (file : Str) (excs : List (Str × Str)) (lams : List Str) (cn : Cn) (K0 : PySem.W.Frag) : Bool :=
  noL (noTab K0) && (!gc || He.eqO (PySem.W.nsIn (noTab K0) mainGlobals "gcd") (some (some (.builtin "math.gcd")))) && exB file (noTab K0) excs &&
  (lams.all fun x => He.eqO (PySem.W.nsIn K0 mainGlobals x) (some (some (.ref (He.ga K0 x)))) && tabB K0 x) && (lams.all fun x => lams.all fun y => !decide ((tabAd K0 x).2 = (tabAd K0 y).2) || decide (x = y)) && cnB (noTab K0) cn && (cn.bs.all fun b => He.eqO (PySem.W.nsIn (noTab K0) mainGlobals b) (some (some (.ref (He.ga (noTab K0) b)))) && excs.all fun p => decide (PySem.W.exmOne (noTab K0) (.ref (He.ga (noTab K0) p.1)) (.ref (He.ga (noTab K0) b)) = some true)) && xcAll file (noTab K0) cn
theorem tab_of {ds : List Df} (nd : (ds.map (·.name)).Nodup) {d : Df} (hd : d ∈ ds) : tabOf ds d.name = some d.F := by
  unfold tabOf
  induction ds with
  | nil => cases hd
  | cons e ds ih =>
    rw [List.map_cons, List.nodup_cons] at nd
    rw [List.find?_cons]
    rcases List.mem_cons.mp hd with rfl | hd
    · simp
    · have ne : e.name ≠ d.name := fun q => nd.1 (by rw [q]; exact List.mem_map.mpr ⟨d, hd, rfl⟩)
      have e2 : decide (e.name = d.name) = false := by simpa using ne
      rw [e2]
      exact ih nd.2 hd
theorem df_inj {ds : List Df} (nd : (ds.map (·.name)).Nodup) {d e : Df} (hd : d ∈ ds) (he : e ∈ ds) (h : d.name = e.name) : d = e := by
  induction ds with
  | nil => cases hd
  | cons a ds ih =>
    rw [List.map_cons, List.nodup_cons] at nd
    rcases List.mem_cons.mp hd with q1 | q1
    · rcases List.mem_cons.mp he with q2 | q2
      · rw [q1, q2]
      · exact absurd (by rw [← q1, h]; exact List.mem_map.mpr ⟨e, q2, rfl⟩) nd.1
    · rcases List.mem_cons.mp he with q2 | q2
      · exact absurd (by rw [← q2, ← h]; exact List.mem_map.mpr ⟨d, q1, rfl⟩) nd.1
      · exact ih nd.2 q1 q2
section
variable {P : Program} {K0 : PySem.W.Frag} {h : Heap} {mg : Str → Option Value} {ds : List Df} {hds : List Hd} {free : List Str} {gc : Bool} {excs : List (Str × Str)} {cn : Cn}
def gOf (P : Program) (w : World) (K0 : PySem.W.Frag) (mg : Str → Option Value) (ds : List Df) (excs : List (Str × Str)) (cn : Cn) : G := ⟨noTab K0, mg, fun c => excs.lookup c, P, w, (lamsOf ds).map fun d => ((tabAd K0 d.name).2, lamq d.qual), cn.xi⟩
def csOf (K0 : PySem.W.Frag) (ds : List Df) : List (Addr × Addr) := (lamsOf ds).map fun d => tabAd K0 d.name
theorem mod_of (K0X : AllIn K0 h) (N : h.Ns mainGlobals mg) (c : He.SaysD (factsOf ds hds free) (ddsOf ds hds) (noTab K0)) (hw : word gc P.main.file excs ((lamsOf ds).map (·.name)) cn K0 = true) (ok : okAll ds free gc excs hds cn = true) (nd : (ds.map (·.name)).Nodup) (top : excs ≠ [] → (P.main.scope.names.lookup ("super" : Str)).isSome = false)
    {base : Heap} (TB : ∀ p ∈ csOf K0 ds, LamX.TabB base mg p.1 p.2) : ModOk P (noTab K0) mg base (gOf P w K0 mg ds excs cn) ds (tabOf ds) free gc excs hds cn := by
  unfold okAll at ok
  rw [Bool.and_eq_true] at ok
  unfold word at hw
  simp only [Bool.and_eq_true] at hw
  obtain ⟨⟨⟨⟨⟨⟨⟨w1, w2⟩, w3⟩, w4⟩, w5⟩, w6⟩, w7⟩, w8⟩ := hw
  unfold xcAll at w8
  rw [Bool.and_eq_true] at w8
  have KX : (noTab K0).In h := K0X.no
  exact {
    fd := fun d hd => by
      obtain ⟨i, hi, e⟩ := List.getElem_of_mem hd
      have e1 : ds[i]? = some d := by rw [List.getElem?_eq_getElem hi, e]
      have f1 : (factsOf ds hds free)[i]? = some (.glo d.name) := by
        unfold factsOf
        rw [List.getElem?_append_left (by simpa using hi), List.getElem?_map, e1]
        rfl
      obtain ⟨fd, F⟩ := c.def_ i (d := d.dd) (by unfold ddsOf; rw [List.getElem?_append_left (by simpa using hi), List.getElem?_map, e1]; rfl)
      exact ⟨_, fd, He.glo_ok KX N (c.fact i f1), F⟩
    tab := fun d hd => tab_of nd hd
    ok := fun d hd => List.all_eq_true.mp ok.1 d hd
    free := fun x hx => by
      have hm : x ∈ free := by simpa using hx
      obtain ⟨i, hi, e⟩ := List.getElem_of_mem hm
      have f1 : (factsOf ds hds free)[ds.length + (hds.length + i)]? = some (.free x) := by
        unfold factsOf
        rw [List.getElem?_append_right (by simp), List.length_map, Nat.add_sub_cancel_left, List.getElem?_append_right (by simp), List.length_map, Nat.add_sub_cancel_left, List.getElem?_map, List.getElem?_eq_getElem hi, e]
        rfl
      exact He.free_ok KX N (c.fact _ f1)
    gcd := fun hg => by
      rw [hg] at w2
      simp only [Bool.not_true, Bool.false_or] at w2
      exact PySem.W.mg_of KX N (He.eqO_ok w2)
    ex := w3
    fld := fun x f hl => ⟨hl, nxB_mg KX N (exB_ok w3 hl).nx⟩
    top := top
    ci := ci_ok KX N w6
    cs := cs_ok KX N w6
    ct := ct_ok KX N w6
    bs := fun b hb => by
      have q := List.all_eq_true.mp w7 b (by simpa using hb)
      simp only [Bool.and_eq_true] at q
      exact ⟨PySem.W.mg_of KX N (He.eqO_ok q.1), fun c f hl => by
        have := List.all_eq_true.mp q.2 (c, f) (mem_look hl)
        simpa using this⟩
    xc := fun q hq => by
      have z := List.all_eq_true.mp w8.1 q hq
      simp only [Bool.and_eq_true] at z
      exact ⟨xcB_ok z.1.1, PySem.W.mg_of KX N (He.eqO_ok z.1.2), z.2⟩
    xi := rfl
    xim := fun q hq => PySem.W.mg_of KX N (He.eqO_ok (List.all_eq_true.mp w8.2 q hq))
    hd := fun d hd => by
      refine ⟨List.all_eq_true.mp ok.2 d hd, ?_⟩
      obtain ⟨i, hi, e⟩ := List.getElem_of_mem hd
      have e1 : hds[i]? = some d := by rw [List.getElem?_eq_getElem hi, e]
      have f1 : (factsOf ds hds free)[ds.length + i]? = some (.glo d.name) := by
        unfold factsOf
        rw [List.getElem?_append_right (by simp), List.length_map, Nat.add_sub_cancel_left, List.getElem?_append_left (by simpa using hi), List.getElem?_map, e1]
        rfl
      obtain ⟨fd, F⟩ := c.def_ (ds.length + i) (d := d.dd) (by
        unfold ddsOf
        rw [List.getElem?_append_right (by simp), List.length_map, Nat.add_sub_cancel_left, List.getElem?_map, e1]
        rfl)
      exact ⟨_, fd, He.glo_ok KX N (c.fact _ f1), F⟩
    lam := fun d hd hl f fd hm F => by
      have hin : d ∈ lamsOf ds := List.mem_filter.mpr ⟨hd, hl⟩
      have q := List.all_eq_true.mp w4 d.name (List.mem_map.mpr ⟨d, hin, rfl⟩)
      rw [Bool.and_eq_true] at q
      obtain ⟨t1, t2, oc, od, fd0, osl, t3, t4⟩ := tabB_ok K0X.is q.2
      have ha := PySem.W.mg_of K0X.is N (He.eqO_ok q.1)
      rw [hm] at ha
      cases ha
      obtain ⟨_, _, _, _, _, _, _, _, _, _, rfl, lk, _⟩ := F.ex
      have z1 := KX _ _ lk
      have z2 := K0X.is _ _ t3
      rw [z1] at z2
      cases z2
      refine ⟨_, _, t4, TB _ (List.mem_map.mpr ⟨d, hin, rfl⟩), List.mem_map.mpr ⟨d, hin, rfl⟩, fun p hp e => ?_⟩
      obtain ⟨d', hd', rfl⟩ := List.mem_map.mp hp
      have q5 := List.all_eq_true.mp (List.all_eq_true.mp w5 d'.name (List.mem_map.mpr ⟨d', hd', rfl⟩)) d.name (List.mem_map.mpr ⟨d, hin, rfl⟩)
      simp only [Bool.or_eq_true, Bool.not_eq_true', decide_eq_false_iff_not, decide_eq_true_eq] at q5
      rcases q5 with q5 | q5
      · exact absurd e q5
      · rw [df_inj nd (List.mem_filter.mp hd').1 hd q5] }
end
theorem bind1 {K : PySem.W.Frag} {d : Df} {f : Addr} {fd : FuncData} {x : Str} (F : FunD K d.name d.qual d.params d.body d.scope [] [] f fd) (h1 : plainP d.params = true) (h2 : d.params.args.map (·.arg) = [x]) (s : Shared) (u : Value) : BindsTo s fd ⟨[u], []⟩ [(x, u)] := by
  obtain ⟨oc, od, dV, kV, doc, pm, an, cdv, ct, osl, rfl, _, _, hD, _⟩ := F.ex
  have e : dV = .none := by
    rcases hD with ⟨_, e⟩ | ⟨e, _⟩
    · exact e
    · exact absurd rfl e
  subst e
  refine .of_eq ((bind_all (us := [u]) (ws := []) (ks := []) h1 h2 ?_ rfl).trans ?_)
  · unfold bindB
    simp
  · rfl
/-- THE END of a law: its defs ds, the law one of them -/
theorem law_walk {l : PySem.W.OpenLaw} {n k wf m : Nat} {q : Program} {loose : List Str} {XP : (Str → Option Value) → Heap → Prop} {d : DefRec} {x : Str} {ds : List Df} {hds : List Hd} {free : List Str} {gc : Bool} {excs : List (Str × Str)} {lams : List Str} {cn : Cn} {file : Str} {dl : Df}
    (hm : l.most = some n) (hms : n ≤ sizeLine) (hdf : d.params.defaults = []) (hrm : Room (3 * k + 3) callerA) (hn : d.name = dl.name) (hl : dl ∈ ds) (hps : dl.ps = [x]) (ok : okAll ds free gc excs hds cn = true) (nd : (ds.map (·.name)).Nodup)
    (hlm : lams = (lamsOf ds).map (·.name)) (hfl : file = l.prog.main.file) (top : (l.prog.main.scope.names.lookup ("super" : Str)).isSome = false)
    (law : ∀ ns : List Int, ns.length ≤ n → (∀ z ∈ ns, Builtin.Int.intBits z ≤ 1048576) → ∃ S', callF (tabOf ds) wf k dl.name [.lst (ns.map D.int)] [] = .ok (.bl true) S') :
    PySem.W.WalkO q loose XP (hookX m (factsOf ds hds free) (ddsOf ds hds) (word gc file excs lams cn)).says l.row.toRowW d [] (fun f vs => PySem.call f vs) := by
  subst hlm hfl
  refine Att.attach_callB hm hdf fun w s₀ s₁ mg mb fa o pm cd doc a vs ns Gr Y ho hd hcd hmg hobj hints hlen hbits hgens => ?_
  obtain ⟨K0, KX, c, hw⟩ := Y
  have tabs : ∀ x ∈ (lamsOf ds).map (·.name), tabB K0 x = true := fun x hx => by
    have hw := hw
    unfold word at hw
    simp only [Bool.and_eq_true] at hw
    have q := List.all_eq_true.mp hw.1.1.1.1.2 x hx
    rw [Bool.and_eq_true] at q
    exact q.2
  have isT : ∀ p ∈ csOf K0 ds, K0.lookup p.2 = some (PySem.W.tabObj #[]) ∧ PySem.W.CodeHd s₁.heap p.1 p.2 := fun p hp => by
    obtain ⟨d', hd', rfl⟩ := List.mem_map.mp hp
    obtain ⟨t1, t2, _⟩ := tabB_ok KX.is (tabs d'.name (List.mem_map.mpr ⟨d', hd', rfl⟩))
    exact ⟨t2, t1⟩
  have noK : ∀ p ∈ csOf K0 ds, (noTab K0).lookup p.2 = none := fun p hp => by
    cases z : (noTab K0).lookup p.2 with
    | none => rfl
    | some o' =>
      have e1 := KX.no _ _ z
      have e2 := KX.is _ _ (isT p hp).1
      rw [e1] at e2
      cases e2
      cases noTab_tab z
  have nl : noL (noTab K0) = true := by
    unfold word at hw
    simp only [Bool.and_eq_true] at hw
    exact hw.1.1.1.1.1.1.1
  have M : ∀ base : Heap, (∀ p ∈ csOf K0 ds, LamX.TabB base mg p.1 p.2) → ModOk l.prog (noTab K0) mg base (gOf l.prog w K0 mg ds excs cn) ds (tabOf ds) free gc excs hds cn := fun base TB => mod_of KX Gr.T.g c hw ok nd (fun _ => top) TB
  have okd : dl.ok (fnsOf ds) free gc excs (hrsOf hds) cn = true := by
    unfold okAll at ok
    rw [Bool.and_eq_true] at ok
    exact List.all_eq_true.mp ok.1 dl hl
  unfold Df.ok at okd
  simp only [Bool.and_eq_true, decide_eq_true_eq] at okd
  -- the law's own function
  obtain ⟨i, hi, ei⟩ := List.getElem_of_mem hl
  have e1 : ds[i]? = some dl := by rw [List.getElem?_eq_getElem hi, ei]
  have f1 : (factsOf ds hds free)[i]? = some (.glo dl.name) := by
    unfold factsOf
    rw [List.getElem?_append_left (by simpa using hi), List.getElem?_map, e1]
    rfl
  obtain ⟨fd, F⟩ := c.def_ i (d := dl.dd) (by unfold ddsOf; rw [List.getElem?_append_left (by simpa using hi), List.getElem?_map, e1]; rfl)
  have hf := He.glo_ok KX.no Gr.T.g (c.fact i f1)
  have hf2 := hf
  rw [← hn, hmg] at hf
  cases hf
  refine law_run (g := gOf l.prog w K0 mg ds excs cn) (cs := csOf K0 ds) (fun p hp => ?_) KX.no nl Gr.T.g Gr.T.b Gr.T.builtins Gr.T.nolimit hgens (fun p hp => KX.is _ _ (isT p hp).1) noK (fun p hp => (isT p hp).2) Gr.T.bmain hobj hints (Nat.le_trans hlen hms) hrm (fun base hK hG TB => ?_) (fun s u => bind1 F okd.1.1.1.1.1.2 (okd.1.1.1.1.2.trans hps) s u) (law ns hlen hbits)
  · obtain ⟨d', hd', rfl⟩ := List.mem_map.mp hp
    exact List.mem_map.mpr ⟨_, List.mem_map.mpr ⟨d', hd', rfl⟩, rfl⟩
  · have r := fn_run (P := l.prog) (w := w) (base := base) (wf := wf) (g := gOf l.prog w K0 mg ds excs cn) rfl rfl rfl rfl (M base TB) k dl hl _ fd hf2 F false
    have r : FnR l.prog w (noTab K0) mg base (3 * k + 3) _ fd dl.ps (spF (gOf l.prog w K0 mg ds excs cn) dl.ps.length (callF (tabOf ds) wf k dl.name)) := r
    rw [hps] at r
    rw [hn]
    exact r
end Fx

set_option maxHeartbeats 4000000
/-! Fp1: the evaluator, step by step; integers. -/
namespace Fx
open PySem (Str)

theorem call_step {T : Tab} {wf k : Nat} {f : Str} {F : Fn} {ds : List D} {S : Store} (h : T f = some F) (hl : ds.length = F.np) :
    callF T wf (k + 1) f ds S = (exec ⟨callF T wf k, callM T wf k true, wf⟩ F.body (startE F.nn ds) S).bind ofFl := by
  show (match T f with | some F => if ds.length = F.np then (exec ⟨callF T wf k, callM T wf k true, wf⟩ F.body (startE F.nn ds) S).bind ofFl else .st | none => .st) = _
  rw [h]
  exact if_pos hl
theorem lent_step {T : Tab} {wf k : Nat} {f : Str} {F : Fn} {ds : List D} {S : Store} (h : T f = some F) (hl : ds.length = F.np) :
    callM T wf (k + 1) true f ds S = (exec ⟨callF T wf k, callM T wf k true, wf⟩ F.body (startM true F.nn ds) S).bind ofFl := by
  show (match T f with | some F => if ds.length = F.np then (exec ⟨callF T wf k, callM T wf k true, wf⟩ F.body (startM true F.nn ds) S).bind ofFl else .st | none => .st) = _
  rw [h]
  exact if_pos hl
@[simp] theorem eqD_int (i j : Int) : eqD (.int i) (.int j) = some (i == j) := by
  show (if PySem.SeqAt.shaped (.int i) && PySem.SeqAt.shaped (.int j) then some (PySem.PyData.eqv (.int i) (.int j)) else none) = _
  rw [if_pos]
  · show some (i == j) = _
    rfl
  · have h : ∀ n : Int, PySem.SeqAt.shaped (.int n) = true := fun n => rfl
    rw [h, h]
    rfl
/-- smaller than 2 ^ n -/
def Bd (n : Nat) (i : Int) : Prop := i.natAbs < 2 ^ n
theorem Bd.mono {n m : Nat} {i : Int} (h : Bd n i) (l : n ≤ m) : Bd m i := Nat.lt_of_lt_of_le h (Nat.pow_le_pow_right (by decide) l)
theorem Bd.log {n : Nat} {i : Int} (h : Bd n i) (h0 : 0 < n) : i.natAbs.log2 < n := by
  by_cases e : i.natAbs = 0
  · rw [e]; exact h0
  · exact (Nat.log2_lt e).mpr h
theorem Bd.mul {n m : Nat} {i j : Int} (h : Bd n i) (h2 : Bd m j) : Bd (n + m) (i * j) := by
  unfold Bd at *
  rw [Int.natAbs_mul, Nat.pow_add]
  exact Nat.mul_lt_mul'' h h2
theorem Bd.add {n : Nat} {i j : Int} (h : Bd n i) (h2 : Bd n j) : Bd (n + 1) (i + j) := by
  unfold Bd at *
  have := Int.natAbs_add_le i j
  rw [Nat.pow_succ]
  omega
theorem Bd.neg {n : Nat} {i : Int} (h : Bd n i) : Bd n (-i) := by unfold Bd at *; rwa [Int.natAbs_neg]
theorem mul_ok {n m : Nat} {i j : Int} (h : Bd n i) (h2 : Bd m j) (l : n + m ≤ 900000) : mulOk i j = true := by
  unfold mulOk
  have a := (h.mono (Nat.le_succ n)).log (Nat.succ_pos n)
  have b := (h2.mono (Nat.le_succ m)).log (Nat.succ_pos m)
  simp only [Bool.or_eq_true, decide_eq_true_eq]
  right; omega
theorem mul_bin {n m : Nat} {i j : Int} (h : Bd n i) (h2 : Bd m j) (l : n + m ≤ 900000) : binOp .mul (.int i) (.int j) = some (.int (i * j)) := by
  show (if mulOk i j then some (D.int (i * j)) else none) = _
  rw [mul_ok h h2 l]
  rfl
theorem div_bin {n : Nat} {i j : Int} (h : Bd n j) (h0 : j ≠ 0) (l : n ≤ 8000) : binOp .fdiv (.int i) (.int j) = some (.int (i.fdiv j)) := by
  show (if divOk j then some (D.int (i.fdiv j)) else none) = _
  have a := (h.mono (Nat.le_succ n)).log (Nat.succ_pos n)
  rw [if_pos]
  unfold divOk
  simp only [Bool.and_eq_true, decide_eq_true_eq]
  exact ⟨h0, by omega⟩
theorem mod_bin {i j : Int} (h0 : j ≠ 0) : binOp .mod (.int i) (.int j) = some (.int (i.fmod j)) := by
  show (if j ≠ 0 then some (D.int (i.fmod j)) else none) = _
  rw [if_pos h0]

/-! ### one rule a node -/
section
variable {C : Ev} {env : Env} {S : Store}
@[simp] theorem ev_var {i : Nat} {d : D} (h : env[i]? = some (.val d)) : ev C (.var i) env S = .ok d S := by
  show (match env[i]? with | some (.val d) => Res.ok d S | _ => .st) = _
  rw [h]
@[simp] theorem ev_pkV {i : Nat} {d : D} (h : env[i]? = some (.val d)) : ev C (.pk i) env S = .ok d S := by
  show (match env[i]? with | some (.val d) => Res.ok d S | some (.own xs) => .ok (.lst xs) S | some (.bor xs) => .ok (.lst xs) S | _ => .st) = _
  rw [h]
@[simp] theorem ev_pkO {i : Nat} {xs : List D} (h : env[i]? = some (.own xs)) : ev C (.pk i) env S = .ok (.lst xs) S := by
  show (match env[i]? with | some (.val d) => Res.ok d S | some (.own xs) => .ok (.lst xs) S | some (.bor xs) => .ok (.lst xs) S | _ => .st) = _
  rw [h]
@[simp] theorem ev_pkB {i : Nat} {xs : List D} (h : env[i]? = some (.bor xs)) : ev C (.pk i) env S = .ok (.lst xs) S := by
  show (match env[i]? with | some (.val d) => Res.ok d S | some (.own xs) => .ok (.lst xs) S | some (.bor xs) => .ok (.lst xs) S | _ => .st) = _
  rw [h]
@[simp] theorem ev_cT {xs : List Str} : ev C (.cT xs) env S = .ok (.tup (xs.map .str)) S := id rfl
@[simp] theorem ev_callB {f : Str} {es : N} : ev C (.callB f es) env S = (evs C es env S).bind fun ds S => C.act f ds S := id rfl
@[simp] theorem ex_expr {e : N} : exec C (.expr e) env S = (ev C e env S).bind fun _ S => .ok (.nx env) S := id rfl
@[simp] theorem ex_tryB {body : N} {c : Str} {b : Bool} : exec C (.tryB body c b) env S = match exec C body env S with | .ok fl S => .ok fl S | .ex c' p S => if c' = c then .ok (.rt (.bl b)) S else .st | .st => .st := id rfl
@[simp] theorem ex_lput {i : Nat} {e v : N} : exec C (.lput i e v) env S = (ev C v env S).bind fun x S => match env[i]? with | some (.own xs) => ((ev C e env S).bind fun y S => match y with | .int k => (match putI xs k x with | some ys => .ok (.nx (env.set i (.own ys))) S | none => .st) | _ => .st) | _ => .st := id rfl
@[simp] theorem ev_cI {z : Int} : ev C (.cI z) env S = .ok (.int z) S := id rfl
@[simp] theorem ev_cS {z : Str} : ev C (.cS z) env S = .ok (.str z) S := id rfl
@[simp] theorem ev_cB {z : Bool} : ev C (.cB z) env S = .ok (.bl z) S := id rfl
@[simp] theorem ev_cN : ev C .cN env S = .ok .non S := id rfl
@[simp] theorem ev_tup {es : N} : ev C (.tup es) env S = (evs C es env S).bind fun ds S => .ok (.tup ds) S := id rfl
@[simp] theorem ev_lst {es : N} : ev C (.lst es) env S = (evs C es env S).bind fun ds S => .ok (.lst ds) S := id rfl
@[simp] theorem ev_dct {ks : List Str} {vs : N} : ev C (.dct ks vs) env S = (evs C vs env S).bind fun ds S => if ks.length = ds.length then .ok (.ref S.length) (S ++ [.dct ((ks.map keyStr).zip ds)]) else .st := id rfl
@[simp] theorem ev_bin {op : Op} {a b : N} : ev C (.bin op a b) env S = (ev C a env S).bind fun x S => (ev C b env S).bind fun y S => ofO (binOp op x y) S := id rfl
@[simp] theorem ev_neg {a : N} : ev C (.neg a) env S = (ev C a env S).bind fun x S => match x with | .int i => .ok (.int (-i)) S | _ => .st := id rfl
@[simp] theorem ev_cmp {op : Cp} {a b : N} : ev C (.cmp op a b) env S = (ev C a env S).bind fun x S => (ev C b env S).bind fun y S => ofO ((cmpOp op x y).map .bl) S := id rfl
@[simp] theorem ev_vand {a b : N} : ev C (.vand a b) env S = (ev C a env S).bind fun x S => match x with | .bl true => ev C b env S | .bl false => .ok (.bl false) S | _ => .st := id rfl
@[simp] theorem ev_vor {a b : N} : ev C (.vor a b) env S = (ev C a env S).bind fun x S => match x with | .bl true => .ok (.bl true) S | .bl false => ev C b env S | _ => .st := id rfl
@[simp] theorem ev_vnot {a : N} : ev C (.vnot a) env S = (ev C a env S).bind fun x S => match x with | .bl k => .ok (.bl (!k)) S | _ => .st := id rfl
@[simp] theorem ev_ite {c a b : N} : ev C (.ite c a b) env S = (evT C c env S).bind fun k S => if k then ev C a env S else ev C b env S := id rfl
@[simp] theorem ev_idx {a i : N} : ev C (.idx a i) env S = (ev C a env S).bind fun x S => (ev C i env S).bind fun y S => ofO (ixD x y) S := id rfl
@[simp] theorem ev_slc {a lo hi : N} : ev C (.slc a lo hi) env S = (ev C a env S).bind fun x S => (evO C lo env S).bind fun l S => (evO C hi env S).bind fun h S => ofO (slD x l h) S := id rfl
@[simp] theorem ev_dget {d : N} {k : Str} : ev C (.dget d k) env S = (ev C d env S).bind fun x S => ofO (dGet x k S) S := id rfl
@[simp] theorem ev_call {f : Str} {es ks : N} {ix : List Nat} : ev C (.call f es ks ix) env S = (evs C es env S).bind fun ds S => (evs C ks env S).bind fun dk S => match pickIx ix (ds ++ dk) with | some ds => C.call f ds S | none => .st := id rfl
@[simp] theorem ev_bi {b : Bi} {es : N} : ev C (.bi b es) env S = (evs C es env S).bind fun ds S => ofO (biOp b ds) S := id rfl
@[simp] theorem ev_isi {a : N} {t : String} : ev C (.isi a t) env S = (ev C a env S).bind fun x S => ofO ((isTy x t).map .bl) S := id rfl
@[simp] theorem ev_comp {own : List (Str × Nat)} {elt tg it cond : N} : ev C (.comp own elt tg it cond) env S = (evI C it env S).bind fun ds S => (compL (compF C own elt tg cond env) ds [] S).bind fun xs S => .ok (.lst xs) S := id rfl
@[simp] theorem evs_nil : evs C .nil env S = .ok [] S := id rfl
@[simp] theorem evs_cons_ {a b : N} : evs C (.cons a b) env S = (ev C a env S).bind fun x S => (evs C b env S).bind fun xs S => .ok (x :: xs) S := id rfl
@[simp] theorem evO_nil : evO C .nil env S = .ok none S := id rfl
@[simp] theorem evO_cons {a : N} : evO C (.cons a .nil) env S = (ev C a env S).bind fun x S => match x with | .int i => .ok (some i) S | _ => .st := id rfl
@[simp] theorem evT_nil : evT C .nil env S = .ok true S := id rfl
@[simp] theorem evT_cons {a b : N} : evT C (.cons a b) env S = evT C a env S := id rfl
@[simp] theorem evT_tv {a : N} : evT C (.tv a) env S = (ev C a env S).bind fun x S => ofO (truthy x) S := id rfl
@[simp] theorem evT_tand {a b : N} : evT C (.tand a b) env S = (evT C a env S).bind fun k S => if k then evT C b env S else .ok false S := id rfl
@[simp] theorem evT_tor {a b : N} : evT C (.tor a b) env S = (evT C a env S).bind fun k S => if k then .ok true S else evT C b env S := id rfl
@[simp] theorem evT_tnot {a : N} : evT C (.tnot a) env S = (evT C a env S).bind fun k S => .ok (!k) S := id rfl
@[simp] theorem evT_cmp {op : Cp} {a b : N} : evT C (.cmp op a b) env S = (ev C a env S).bind fun x S => (ev C b env S).bind fun y S => ofO (cmpOp op x y) S := id rfl
@[simp] theorem evI_seq {a : N} : evI C (.seq a) env S = (ev C a env S).bind fun x S => ofO (seqD x) S := id rfl
@[simp] theorem evI_rng1 {a : N} : evI C (.rng1 a) env S = (ev C a env S).bind fun x S => match x with | .int n => if rgOk 0 n then .ok (rangeD 0 n) S else .st | _ => .st := id rfl
@[simp] theorem evI_enum {a : N} : evI C (.enum a) env S = (ev C a env S).bind fun x S => ofO ((seqD x).map enumD) S := id rfl
@[simp] theorem evI_zip {a b : N} : evI C (.zip a b) env S = (ev C a env S).bind fun x S => (ev C b env S).bind fun y S => match seqD x, seqD y with | some xs, some ys => .ok (zipD xs ys) S | _, _ => .st := id rfl
@[simp] theorem ex_nil : exec C .nil env S = .ok (.nx env) S := id rfl
@[simp] theorem ex_cons {a b : N} : exec C (.cons a b) env S = (exec C a env S).bind fun fl S => match fl with | .nx e => exec C b e S | fl => .ok fl S := id rfl
@[simp] theorem ex_set {i : Nat} {e : N} : exec C (.set i e) env S = (ev C e env S).bind fun x S => if i < env.length then .ok (.nx (env.set i (.val x))) S else .st := id rfl
@[simp] theorem ex_setO {i : Nat} {e : N} : exec C (.setO i e) env S = (ev C e env S).bind fun x S => match x with | .lst xs => if i < env.length then .ok (.nx (env.set i (.own xs))) S else .st | _ => .st := id rfl
@[simp] theorem ex_unp {tg e : N} : exec C (.unp tg e) env S = (ev C e env S).bind fun x S => match bindT tg x env with | some e => .ok (.nx e) S | none => .st := id rfl
@[simp] theorem ex_par3 {i j l : Nat} {a b c : N} : exec C (.par3 i j l a b c) env S = (ev C a env S).bind fun x S => (ev C b env S).bind fun y S => (ev C c env S).bind fun z S => if i < env.length ∧ j < env.length ∧ l < env.length then .ok (.nx (((env.set i (.val x)).set j (.val y)).set l (.val z))) S else .st := id rfl
@[simp] theorem ex_par {i j : Nat} {a b : N} : exec C (.par i j a b) env S = (ev C a env S).bind fun x S => (ev C b env S).bind fun y S => if i < env.length ∧ j < env.length then .ok (.nx ((env.set i (.val x)).set j (.val y))) S else .st := id rfl
@[simp] theorem ex_app {i : Nat} {e : N} : exec C (.app i e) env S = match env[i]? with | some (.own xs) => (ev C e env S).bind fun x S => if xs.length < lim then .ok (.nx (env.set i (.own (xs ++ [x])))) S else .st | _ => .st := id rfl
@[simp] theorem ex_dput {d e : N} {k : Str} : exec C (.dput d k e) env S = (ev C e env S).bind fun x S => (ev C d env S).bind fun y S => match dPut y k x S with | some S => .ok (.nx env) S | none => .st := id rfl
@[simp] theorem ex_frz {i : Nat} : exec C (.frz i) env S = match env[i]? with | some (.own xs) => .ok (.nx (env.set i (.val (.lst xs)))) S | _ => .ok (.nx env) S := id rfl
@[simp] theorem ex_ret {e : N} : exec C (.ret e) env S = (ev C e env S).bind fun x S => .ok (.rt x) S := id rfl
@[simp] theorem ex_ifs {c a b : N} : exec C (.ifs c a b) env S = (evT C c env S).bind fun k S => if k then exec C a env S else exec C b env S := id rfl
def forF (C : Ev) (tg body : N) (d : D) (e : Env) (S : Store) : Res Fl := match bindT tg d e with
  | some e => exec C body e S
  | none => .st
@[simp] theorem ex_for {tg it body : N} : exec C (.for_ tg it body) env S = (evI C it env S).bind fun ds S => forL (forF C tg body) ds env S := id rfl
@[simp] theorem ex_whl {c body : N} : exec C (.whl c body) env S = whileL (evT C c) (exec C body) C.wf env S := id rfl
@[simp] theorem ofFl_rt {d : D} : ofFl (.rt d) S = .ok d S := id rfl
@[simp] theorem ofFl_nx {e : Env} : ofFl (.nx e) S = .ok .non S := id rfl
@[simp] theorem cmp_eq {i j : Int} : cmpOp .eq (.int i) (.int j) = some (i == j) := eqD_int i j
@[simp] theorem cmp_ne {i j : Int} : cmpOp .ne (.int i) (.int j) = some (!(i == j)) := by
  show (eqD (.int i) (.int j)).map (!·) = _
  rw [eqD_int]
  rfl
@[simp] theorem cmp_lt {i j : Int} : cmpOp .lt (.int i) (.int j) = some (decide (i < j)) := id rfl
@[simp] theorem cmp_gt {i j : Int} : cmpOp .gt (.int i) (.int j) = some (decide (j < i)) := id rfl
@[simp] theorem cmp_le {i j : Int} : cmpOp .le (.int i) (.int j) = some (decide (i ≤ j)) := id rfl
@[simp] theorem cmp_ge {i j : Int} : cmpOp .ge (.int i) (.int j) = some (decide (j ≤ i)) := id rfl
@[simp] theorem cmp_isn {d : D} : cmpOp .isn d .non = some (!isNone d) := id rfl
@[simp] theorem bin_add {i j : Int} : binOp .add (.int i) (.int j) = some (.int (i + j)) := id rfl
@[simp] theorem bin_sub {i j : Int} : binOp .sub (.int i) (.int j) = some (.int (i - j)) := id rfl
@[simp] theorem bi_gcd {i j : Int} : biOp .gcd [.int i, .int j] = some (.int ((Nat.gcd i.natAbs j.natAbs : Nat) : Int)) := id rfl
@[simp] theorem bi_abs {i : Int} : biOp .abs [.int i] = some (.int (if i < 0 then -i else i)) := id rfl
@[simp] theorem bi_int {i : Int} : biOp .int [.int i] = some (.int i) := id rfl
@[simp] theorem bi_intB {b : Bool} : biOp .int [.bl b] = some (.int (if b then 1 else 0)) := id rfl
@[simp] theorem bi_tupL {xs : List D} : biOp .tuple [.lst xs] = some (.tup xs) := id rfl
@[simp] theorem bi_tupT {xs : List D} : biOp .tuple [.tup xs] = some (.tup xs) := id rfl
@[simp] theorem bi_lstL {xs : List D} : biOp .list [.lst xs] = some (.lst xs) := id rfl
@[simp] theorem bi_lstT {xs : List D} : biOp .list [.tup xs] = some (.lst xs) := id rfl
@[simp] theorem bi_lenL {xs : List D} : biOp .len [.lst xs] = some (.int xs.length) := id rfl
@[simp] theorem bi_lenT {xs : List D} : biOp .len [.tup xs] = some (.int xs.length) := id rfl
@[simp] theorem seqD_l {xs : List D} : seqD (.lst xs) = some xs := id rfl
@[simp] theorem seqD_t {xs : List D} : seqD (.tup xs) = some xs := id rfl
@[simp] theorem isTy_int {i : Int} {t : String} : isTy (.int i) t = some (t == "int") := id rfl
@[simp] theorem isTy_tup {xs : List D} {t : String} : isTy (.tup xs) t = some (t == "tuple") := id rfl
@[simp] theorem bindT_tn {i : Nat} {d : D} {env : Env} : bindT (.tn i) d env = if i < env.length then some (env.set i (.val d)) else none := id rfl
@[simp] theorem bindT_tt {es : N} {ds : List D} {env : Env} : bindT (.tt es) (.tup ds) env = bindT.bindTs es ds env := id rfl
@[simp] theorem bindTs_nil {env : Env} : bindT.bindTs .nil [] env = some env := id rfl
@[simp] theorem bindTs_cons {t r : N} {d : D} {ds : List D} {env : Env} : bindT.bindTs (.cons t r) (d :: ds) env = (bindT t d env).bind (bindT.bindTs r ds) := id rfl
end
end Fx

set_option maxHeartbeats 4000000
/-! Fp2: rows of integers over one bottom, lowered. -/
namespace Fx

def gcdF (g : Nat) (ns : List Int) : Nat := ns.foldl (fun g n => Nat.gcd g n.natAbs) g
def gcdL (ns : List Int) : Nat := gcdF 0 ns
theorem gcdF_cons {g : Nat} {n : Int} {ns : List Int} : gcdF g (n :: ns) = gcdF (Nat.gcd g n.natAbs) ns := rfl
theorem gcdF_dvd : ∀ {ns : List Int} {g : Nat}, gcdF g ns ∣ g ∧ ∀ n ∈ ns, gcdF g ns ∣ n.natAbs
  | [], g => ⟨Nat.dvd_refl g, fun n h => by cases h⟩
  | n :: ns, g => by
    rw [gcdF_cons]
    obtain ⟨h1, h2⟩ := gcdF_dvd (ns := ns) (g := Nat.gcd g n.natAbs)
    refine ⟨Nat.dvd_trans h1 (Nat.gcd_dvd_left _ _), fun m hm => ?_⟩
    rcases List.mem_cons.mp hm with rfl | hm
    · exact Nat.dvd_trans h1 (Nat.gcd_dvd_right _ _)
    · exact h2 m hm
theorem gcdL_dvd {ns : List Int} {n : Int} (h : n ∈ ns) : gcdL ns ∣ n.natAbs := gcdF_dvd.2 n h
theorem gcdL_dvdI {ns : List Int} {n : Int} (h : n ∈ ns) : ((gcdL ns : Nat) : Int) ∣ n := Int.ofNat_dvd_left.mpr (gcdL_dvd h)
theorem gcdF_mul {c : Nat} : ∀ {ns : List Int} {g : Nat}, gcdF (c * g) (ns.map fun n => (c : Int) * n) = c * gcdF g ns
  | [], g => rfl
  | n :: ns, g => by
    rw [List.map_cons, gcdF_cons, gcdF_cons]
    have e : ((c : Int) * n).natAbs = c * n.natAbs := by rw [Int.natAbs_mul, Int.natAbs_natCast]
    rw [e, Nat.gcd_mul_left, gcdF_mul]
theorem gcdL_mul {c : Nat} {ns : List Int} : gcdL (ns.map fun n => (c : Int) * n) = c * gcdL ns := gcdF_mul (g := 0)
theorem gcdL_pos {ns : List Int} {b : Int} (h : b ∈ ns) (hb : b ≠ 0) : 0 < gcdL ns := by
  have := gcdL_dvd h
  rcases Nat.eq_zero_or_pos (gcdL ns) with e | e
  · rw [e] at this
    exact absurd (Int.natAbs_eq_zero.mp (Nat.eq_zero_of_zero_dvd this)) hb
  · exact e
/-- divided by the common part -/
def low (ns : List Int) : List Int := if gcdL ns < 2 then ns else ns.map fun n => n.fdiv (gcdL ns)
theorem low_mul {ns : List Int} {b : Int} (h : b ∈ ns) (hb : b ≠ 0) : (low ns).map (fun n => ((gcdL ns : Nat) : Int) * n) = ns := by
  unfold low
  have hp := gcdL_pos h hb
  split
  · have e : gcdL ns = 1 := by omega
    rw [e]
    simp
  · rw [List.map_map]
    have : ∀ n ∈ ns, ((fun n => ((gcdL ns : Nat) : Int) * n) ∘ fun n => n.fdiv (gcdL ns)) n = n := fun n hn => Int.mul_fdiv_cancel' (gcdL_dvdI hn)
    rw [List.map_congr_left this]
    simp
theorem low_one {ns : List Int} {b : Int} (h : b ∈ ns) (hb : b ≠ 0) : gcdL (low ns) = 1 := by
  have e := congrArg gcdL (low_mul h hb)
  rw [gcdL_mul] at e
  have hp := gcdL_pos h hb
  exact Nat.eq_of_mul_eq_mul_left hp (by rw [e, Nat.mul_one])
theorem low_len {ns : List Int} : (low ns).length = ns.length := by
  unfold low
  split
  · rfl
  · rw [List.length_map]

/-- values over one bottom, in lowest terms -/
structure IsRow (R : List Int) (qs : List Rat) : Prop where
  ex : ∃ xs b, R = xs ++ [b] ∧ 0 < b ∧ gcdL R = 1 ∧ xs.map (fun x => Rat.divInt x b) = qs
theorem split_last {R : List Int} {n : Nat} (h : R.length = n + 1) : ∃ xs b, R = xs ++ [b] ∧ xs.length = n := by
  have hne : R ≠ [] := fun e => by rw [e] at h; cases h
  refine ⟨R.dropLast, R.getLast hne, (List.dropLast_concat_getLast hne).symm, ?_⟩
  rw [List.length_dropLast]; omega
theorem low_row {xs : List Int} {b : Int} (hb : 0 < b) : IsRow (low (xs ++ [b])) (xs.map fun x => Rat.divInt x b) := by
  have hm : b ∈ xs ++ [b] := by simp
  have h0 : b ≠ 0 := by omega
  have e := low_mul hm h0
  have hp := gcdL_pos hm h0
  obtain ⟨ys, c, e1, hl⟩ := split_last (R := low (xs ++ [b])) (n := xs.length) (by rw [low_len]; simp)
  rw [e1, List.map_append] at e
  obtain ⟨e2, e3⟩ := List.append_inj e (by rw [List.length_map, hl])
  have e3 : ((gcdL (xs ++ [b]) : Nat) : Int) * c = b := by simpa using e3
  have hg : (0 : Int) < ((gcdL (xs ++ [b]) : Nat) : Int) := by omega
  have hl1 := low_one hm h0
  generalize ((gcdL (xs ++ [b]) : Nat) : Int) = G at e e2 e3 hg
  have hc : 0 < c := by
    rcases Int.lt_trichotomy c 0 with z | z | z
    · have := Int.mul_neg_of_pos_of_neg hg z
      omega
    · rw [z, Int.mul_zero] at e3; omega
    · exact z
  refine ⟨ys, c, e1, hc, hl1, ?_⟩
  rw [← e2, List.map_map]
  refine List.map_congr_left fun y _ => ?_
  show Rat.divInt y c = Rat.divInt (G * y) b
  rw [← e3, Rat.divInt_mul_left (by omega)]
theorem row_uniq {R R' : List Int} {qs : List Rat} (h : IsRow R qs) (h' : IsRow R' qs) : R = R' := by
  obtain ⟨xs, b, rfl, hb, g1, e1⟩ := h.ex
  obtain ⟨ys, c, rfl, hc, g2, e2⟩ := h'.ex
  have hl : xs.length = ys.length := by
    have := congrArg List.length (e1.trans e2.symm)
    simpa using this
  have cross : ∀ i (h1 : i < xs.length) (h2 : i < ys.length), xs[i] * c = ys[i] * b := fun i h1 h2 => by
    have q : (xs.map fun x => Rat.divInt x b)[i]? = (ys.map fun x => Rat.divInt x c)[i]? := by rw [e1, e2]
    rw [List.getElem?_map, List.getElem?_map, List.getElem?_eq_getElem h1, List.getElem?_eq_getElem h2] at q
    exact (Rat.divInt_eq_divInt_iff (by omega) (by omega)).mp (Option.some.inj q)
  obtain ⟨B, rfl⟩ : ∃ B : Nat, b = (B : Int) := ⟨b.toNat, by omega⟩
  obtain ⟨C, rfl⟩ : ∃ C : Nat, c = (C : Int) := ⟨c.toNat, by omega⟩
  have e : (xs ++ [(B : Int)]).map (fun n => (C : Int) * n) = (ys ++ [(C : Int)]).map (fun n => (B : Int) * n) := by
    rw [List.map_append, List.map_append]
    congr 1
    · refine List.ext_getElem (by simpa using hl) fun i h1 h2 => ?_
      rw [List.getElem_map, List.getElem_map, Int.mul_comm, cross i (by simpa using h1) (by simpa using h2), Int.mul_comm]
    · simp [Int.mul_comm]
  have g := congrArg gcdL e
  rw [gcdL_mul, gcdL_mul, g1, g2, Nat.mul_one, Nat.mul_one] at g
  subst g
  congr 1
  refine List.ext_getElem hl fun i h1 h2 => ?_
  exact Int.eq_of_mul_eq_mul_right (by omega) (cross i h1 h2)
/-- two lowered rows of the same values -/
theorem low_eq {xs ys : List Int} {b c : Int} (hb : 0 < b) (hc : 0 < c) (h : xs.map (fun x => Rat.divInt x b) = ys.map fun y => Rat.divInt y c) : low (xs ++ [b]) = low (ys ++ [c]) :=
  row_uniq (low_row hb) (h ▸ low_row hc)
theorem IsRow.low {R : List Int} {qs : List Rat} (h : IsRow R qs) : Fx.low R = R := by
  obtain ⟨xs, b, rfl, hb, g1, e1⟩ := h.ex
  unfold Fx.low
  rw [g1]
  rfl
def BdL (n : Nat) (ns : List Int) : Prop := ∀ x ∈ ns, Bd n x
theorem fdiv_bd {n : Nat} {x : Int} {g : Nat} (h : Bd n x) (hd : (g : Int) ∣ x) (hg : 0 < g) : Bd n (x.fdiv g) := by
  have e : (g : Int) * x.fdiv g = x := Int.mul_fdiv_cancel' hd
  unfold Bd at *
  have e2 := congrArg Int.natAbs e
  rw [Int.natAbs_mul, Int.natAbs_natCast] at e2
  refine Nat.lt_of_le_of_lt ?_ h
  rw [← e2]
  exact Nat.le_mul_of_pos_left _ hg
theorem low_bd {n : Nat} {ns : List Int} (h : BdL n ns) : BdL n (low ns) := by
  unfold low
  split
  · exact h
  · intro x hx
    obtain ⟨y, hy, rfl⟩ := List.mem_map.mp hx
    exact fdiv_bd (h y hy) (gcdL_dvdI hy) (by omega)
theorem gcdL_bd {n : Nat} {ns : List Int} {b : Int} (h : BdL n ns) (hm : b ∈ ns) (hb : b ≠ 0) : Bd n ((gcdL ns : Nat) : Int) := by
  unfold Bd
  rw [Int.natAbs_natCast]
  refine Nat.lt_of_le_of_lt (Nat.le_of_dvd ?_ (gcdL_dvd hm)) (h b hm)
  omega
theorem gcdF_zero : ∀ {ns : List Int}, (∀ n ∈ ns, n = 0) → gcdF 0 ns = 0
  | [], _ => rfl
  | n :: ns, h => by
    rw [gcdF_cons, h n List.mem_cons_self]
    exact gcdF_zero fun m hm => h m (List.mem_cons_of_mem _ hm)
theorem gcdL_bd' {n : Nat} {ns : List Int} (h : BdL n ns) : Bd n ((gcdL ns : Nat) : Int) := by
  by_cases z : ∀ x ∈ ns, x = 0
  · have e : gcdL ns = 0 := gcdF_zero z
    rw [e]
    unfold Bd
    simp
    exact Nat.pow_pos (by decide)
  · obtain ⟨x, hx⟩ := Classical.not_forall.mp z
    obtain ⟨hm, hx⟩ := Classical.not_imp.mp hx
    exact gcdL_bd h hm hx
end Fx

set_option maxHeartbeats 4000000
/-! Fp3: lists and tuples of integers in the evaluator. -/
namespace Fx
abbrev V (ns : List Int) : D := .tup (ns.map D.int)
abbrev L (ns : List Int) : D := .lst (ns.map D.int)
@[simp] theorem forL_nil {f : D → Env → Store → Res Fl} {env : Env} {S : Store} : forL f [] env S = .ok (.nx env) S := id rfl
@[simp] theorem forL_cons {f : D → Env → Store → Res Fl} {d : D} {ds : List D} {env : Env} {S : Store} : forL f (d :: ds) env S = (f d env S).bind fun fl S => match fl with
    | .nx e => forL f ds e S
    | .ct e => forL f ds e S
    | .bk e => .ok (.nx e) S
    | .rt v => .ok (.rt v) S := id rfl
theorem compL_map {α : Type} {emb g : α → D} {f : D → Store → Res (Option D)} {S : Store} : ∀ {l : List α} {acc : List D}, (∀ a ∈ l, f (emb a) S = .ok (some (g a)) S) → acc.length + l.length ≤ lim → compL f (l.map emb) acc S = .ok (acc ++ l.map g) S
  | [], acc, _, _ => by simp [compL]
  | a :: l, acc, h, hl => by
    rw [List.map_cons]
    unfold compL
    rw [h a List.mem_cons_self]
    rw [List.length_cons] at hl
    show (if acc.length < lim then compL f (l.map emb) (acc ++ [g a]) S else .st) = _
    rw [if_pos (by omega), compL_map (fun b hb => h b (List.mem_cons_of_mem _ hb)) (by rw [List.length_append, List.length_singleton]; omega)]
    simp
@[simp] theorem zipD_map {α β : Type} {f : α → D} {g : β → D} : ∀ {xs : List α} {ys : List β}, zipD (xs.map f) (ys.map g) = (xs.zip ys).map fun p => .tup [f p.1, g p.2]
  | [], _ => by simp [zipD]
  | _ :: _, [] => by simp [zipD]
  | x :: xs, y :: ys => by
    have := zipD_map (f := f) (g := g) (xs := xs) (ys := ys)
    unfold zipD at this ⊢
    simp [this]
theorem sumD_fold : ∀ {ns : List Int} {a : Int}, sumD a (ns.map D.int) = some (ns.foldl (· + ·) a)
  | [], a => rfl
  | n :: ns, a => by
    show sumD (a + n) (ns.map D.int) = _
    rw [sumD_fold]
    rfl
@[simp] theorem bi_sumL {ns : List Int} : biOp .sum [L ns] = some (.int (ns.foldl (· + ·) 0)) := by
  show (sumD 0 (ns.map D.int)).map D.int = _
  rw [sumD_fold]
  rfl
theorem cut_1 {ds : List D} {d : D} : cutD (ds ++ [d]) none (some (-1)) = ds := by
  unfold cutD HT.sIx
  simp only [List.length_append, List.length_singleton, Nat.sub_zero, List.drop_zero]
  rw [if_pos (by omega), show (-1 + ((ds.length + 1 : Nat) : Int)).toNat = ds.length by omega]
  simp
theorem cut_2 {ds : List D} {d e : D} : cutD (ds ++ [d, e]) none (some (-2)) = ds := by
  unfold cutD HT.sIx
  simp only [List.length_append, List.length_cons, List.length_nil, Nat.sub_zero, List.drop_zero]
  rw [if_pos (by omega), show (-2 + ((ds.length + (0 + 1 + 1) : Nat) : Int)).toNat = ds.length by omega]
  simp
theorem at_1 {ds : List D} {d : D} : L2.atI (ds ++ [d]) (-1) = some d := by
  unfold L2.atI L2.ixN
  simp only [List.length_append, List.length_singleton]
  rw [if_neg (by omega), if_pos (by omega)]
  show (ds ++ [d])[((-1 : Int) + ((ds.length + 1 : Nat) : Int)).toNat]? = _
  rw [show ((-1 : Int) + ((ds.length + 1 : Nat) : Int)).toNat = ds.length by omega]
  simp
theorem at_2 {ds : List D} {d e : D} : L2.atI (ds ++ [d, e]) (-2) = some d := by
  unfold L2.atI L2.ixN
  simp only [List.length_append, List.length_cons, List.length_nil]
  rw [if_neg (by omega), if_pos (by omega)]
  show (ds ++ [d, e])[((-2 : Int) + ((ds.length + (0 + 1 + 1) : Nat) : Int)).toNat]? = _
  rw [show ((-2 : Int) + ((ds.length + (0 + 1 + 1) : Nat) : Int)).toNat = ds.length by omega]
  simp
theorem at_nat {ds : List D} {i : Nat} {d : D} (h : ds[i]? = some d) : L2.atI ds (i : Int) = some d := by
  have hl := (List.getElem?_eq_some_iff.mp h).1
  unfold L2.atI L2.ixN
  rw [if_pos (by omega), if_pos (by omega)]
  show ds[(i : Int).toNat]? = _
  rw [Int.toNat_natCast]
  exact h
end Fx

set_option maxHeartbeats 4000000
/-! Fp4: THE row of given values. -/
namespace Fx
def dens : List Rat → Nat
  | [] => 1
  | q :: qs => q.den * dens qs
theorem dens_pos : ∀ {qs : List Rat}, 0 < dens qs
  | [] => by decide
  | q :: qs => Nat.mul_pos q.den_pos dens_pos
theorem den_dvd {q : Rat} : ∀ {qs : List Rat}, q ∈ qs → q.den ∣ dens qs
  | p :: qs, h => by
    rcases List.mem_cons.mp h with rfl | h
    · exact Nat.dvd_mul_right _ _
    · exact Nat.dvd_trans (den_dvd h) (Nat.dvd_mul_left _ _)
/-- the one row of these values -/
def cn (qs : List Rat) : List Int := low (qs.map (fun q => q.num * ((dens qs / q.den : Nat) : Int)) ++ [((dens qs : Nat) : Int)])
theorem cn_row (qs : List Rat) : IsRow (cn qs) qs := by
  have h := low_row (xs := qs.map (fun q => q.num * ((dens qs / q.den : Nat) : Int))) (b := ((dens qs : Nat) : Int)) (by have := dens_pos (qs := qs); omega)
  have e : (qs.map (fun q => q.num * ((dens qs / q.den : Nat) : Int))).map (fun x => Rat.divInt x ((dens qs : Nat) : Int)) = qs := by
    rw [List.map_map]
    have : ∀ q ∈ qs, ((fun x => Rat.divInt x ((dens qs : Nat) : Int)) ∘ fun q : Rat => q.num * ((dens qs / q.den : Nat) : Int)) q = q := fun q hq => by
      obtain ⟨c, hc⟩ := den_dvd hq
      show Rat.divInt (q.num * ((dens qs / q.den : Nat) : Int)) ((dens qs : Nat) : Int) = q
      have hp := dens_pos (qs := qs)
      have c0 : c ≠ 0 := fun z => by rw [z, Nat.mul_zero] at hc; omega
      rw [hc, Nat.mul_div_cancel_left _ q.den_pos, Int.natCast_mul, Rat.divInt_mul_right (by omega), Rat.num_divInt_den]
    rw [List.map_congr_left this]
    simp
  rw [e] at h
  exact h
theorem cn_eq {R : List Int} {qs : List Rat} (h : IsRow R qs) : R = cn qs := row_uniq h (cn_row qs)
theorem low_cn {xs : List Int} {b : Int} (hb : 0 < b) : low (xs ++ [b]) = cn (xs.map fun x => Rat.divInt x b) := cn_eq (low_row hb)
theorem cn_ex (qs : List Rat) : ∃ xs b, cn qs = xs ++ [b] ∧ 0 < b ∧ gcdL (cn qs) = 1 ∧ xs.map (fun x => Rat.divInt x b) = qs := (cn_row qs).ex
theorem cn_len {qs : List Rat} : (cn qs).length = qs.length + 1 := by
  unfold cn
  rw [low_len]
  simp
/-- how large its numbers are -/
def Bq (m : Nat) (qs : List Rat) : Prop := BdL m (cn qs)
theorem Bq.of {m : Nat} {xs : List Int} {b : Int} (hb : 0 < b) (h : BdL m (xs ++ [b])) : Bq m (xs.map fun x => Rat.divInt x b) := by
  unfold Bq
  rw [← low_cn hb]
  exact low_bd h
theorem Bq.mono {m n : Nat} {qs : List Rat} (h : Bq m qs) (l : m ≤ n) : Bq n qs := fun x hx => (h x hx).mono l
/-- a fraction -/
abbrev fr (q : Rat) : D := V (cn [q])
theorem low_fr {t b : Int} (hb : 0 < b) : low [t, b] = cn [Rat.divInt t b] := low_cn (xs := [t]) hb
theorem fr_ex (q : Rat) : ∃ t b, cn [q] = [t, b] ∧ 0 < b ∧ Rat.divInt t b = q := by
  obtain ⟨xs, b, h1, h2, _, h4⟩ := cn_ex [q]
  match xs, h4 with
  | [t], h4 =>
    refine ⟨t, b, h1, h2, ?_⟩
    simpa using h4
def dotQ (qs vs : List Rat) : Rat := ((qs.zip vs).map fun p => p.1 * p.2).foldl (· + ·) 0
theorem foldQ {ns : List Int} {c : Int} (hc : c ≠ 0) : ∀ {a : Int}, Rat.divInt (ns.foldl (· + ·) a) c = (ns.map fun n => Rat.divInt n c).foldl (· + ·) (Rat.divInt a c) := by
  induction ns with
  | nil => intro a; rfl
  | cons n ns ih =>
    intro a
    rw [List.foldl_cons, ih, List.map_cons, List.foldl_cons]
    congr 1
    rw [Rat.divInt_add_divInt _ _ hc hc, ← Int.add_mul, Rat.divInt_mul_right hc]
theorem zipD2 {xs ps : List Int} {b p : Int} : (xs.zip ps).map (fun z => Rat.divInt (z.1 * z.2) (b * p)) = ((xs.map fun x => Rat.divInt x b).zip (ps.map fun x => Rat.divInt x p)).map fun z => z.1 * z.2 := by
  induction xs generalizing ps with
  | nil => simp
  | cons x xs ih =>
    cases ps with
    | nil => simp
    | cons y ps =>
      simp only [List.map_cons, List.zip_cons_cons, ih]
      rw [Rat.divInt_mul_divInt]
theorem zipS2 {xs ys : List Int} {b c : Int} (hb : b ≠ 0) (hc : c ≠ 0) : ((xs.zip ys).map fun p => c * p.1 + b * p.2).map (fun z => Rat.divInt z (b * c)) = List.zipWith (· + ·) (xs.map fun x => Rat.divInt x b) (ys.map fun x => Rat.divInt x c) := by
  induction xs generalizing ys with
  | nil => simp
  | cons x xs ih =>
    cases ys with
    | nil => simp
    | cons y ys =>
      simp only [List.map_cons, List.zip_cons_cons, List.zipWith_cons_cons, ih]
      rw [Rat.divInt_add_divInt _ _ hb hc, Int.mul_comm c x, Int.mul_comm b y]
end Fx

set_option maxHeartbeats 4000000
/-! Fp5: rules of the later words: raise, hear, is, isinstance of other kinds; what stands at which place. -/
namespace Fx
open PySem (Str)
section
variable {C : Ev} {env : Env} {S : Store}
@[simp] theorem ex_raise {c : Str} {e : N} : exec C (.raise_ c e) env S = (ev C e env S).bind fun x S => .ex c x S := id rfl
theorem hear_ok {f : Str} {hs : List (Str × Str)} {e : N} {d : D} {S' : Store} (h : ev C e env S = .ok d S') : ev C (.hear f hs e) env S = .ok (.lst [d]) S' := by
  rw [ev, h]
theorem hear_ex {f c w : Str} {hs : List (Str × Str)} {e : N} {p : D} {S' : Store} (h : ev C e env S = .ex c p S') (hl : hs.lookup c = some w) : ev C (.hear f hs e) env S = .ok (.tup [.str w, p]) S' := by
  rw [ev, h]
  simp only [hl]
@[simp] theorem cmp_is {d : D} : cmpOp .is d .non = some (isNone d) := id rfl
@[simp] theorem isNone_non : isNone .non = true := id rfl
@[simp] theorem isNone_int {i : Int} : isNone (.int i) = false := id rfl
@[simp] theorem isTy_bl {b : Bool} {t : String} : isTy (.bl b) t = some (t == "bool" || t == "int") := id rfl
@[simp] theorem isTy_str {x : Str} {t : String} : isTy (.str x) t = some (t == "str") := id rfl
@[simp] theorem isTy_lst {xs : List D} {t : String} : isTy (.lst xs) t = some (t == "list") := id rfl
@[simp] theorem isTy_non {t : String} : isTy .non t = some (t == "NoneType") := id rfl
@[simp] theorem bi_all {xs : List D} : biOp .all [.lst xs] = (allD xs).map .bl := id rfl
@[simp] theorem cmp_mem {x : Str} {ys : List D} : cmpOp .mem (.str x) (.tup ys) = (strsD ys).map fun l => l.any (· == x) := id rfl
@[simp] theorem cmp_nin {x : Str} {ys : List D} : cmpOp .nin (.str x) (.tup ys) = (strsD ys).map fun l => !l.any (· == x) := id rfl
@[simp] theorem truthy_bl {b : Bool} : truthy (.bl b) = some b := id rfl
end
/-- each with its place -/
def prs : Nat → List D → List (Nat × D)
  | _, [] => []
  | i, d :: ds => (i, d) :: prs (i + 1) ds
def prD (p : Nat × D) : D := .tup [.int (p.1 : Int), p.2]
theorem prs_zip : ∀ {xs : List D} {i : Nat}, (List.range' i xs.length).zipWith (fun i d => D.tup [.int (i : Nat), d]) xs = (prs i xs).map prD
  | [], _ => rfl
  | d :: ds, i => by
    rw [List.length_cons, List.range'_succ, List.zipWith_cons_cons, prs_zip]
    rfl
theorem enum_prs {xs : List D} : enumD xs = (prs 0 xs).map prD := by
  unfold enumD
  rw [List.range_eq_range', prs_zip]
theorem prs_len : ∀ {xs : List D} {i : Nat}, (prs i xs).length = xs.length
  | [], _ => rfl
  | _ :: ds, i => by rw [prs, List.length_cons, prs_len, List.length_cons]
theorem prs_mem : ∀ {xs : List D} {i : Nat} {p : Nat × D}, p ∈ prs i xs → p.2 ∈ xs ∧ p.1 < i + xs.length
  | d :: ds, i, p, h => by
    rcases List.mem_cons.mp h with rfl | h
    · exact ⟨List.mem_cons_self, by simp⟩
    · obtain ⟨a, b⟩ := prs_mem h
      exact ⟨List.mem_cons_of_mem _ a, by rw [List.length_cons]; omega⟩
def isI : D → Bool
  | .int _ => true
  | _ => false
/-- the places of what is no integer -/
def odds (xs : List D) : List (Nat × D) := (prs 0 xs).filter fun p => !isI p.2
theorem ints_of : ∀ {xs : List D} {i : Nat}, (prs i xs).filter (fun p => !isI p.2) = [] → ∃ ns : List Int, xs = ns.map D.int
  | [], _, _ => ⟨[], rfl⟩
  | d :: ds, i, h => by
    rw [prs, List.filter_cons] at h
    cases d with
    | int z =>
      obtain ⟨ns, e⟩ := ints_of (xs := ds) (i := i + 1) (by simpa [isI] using h)
      exact ⟨z :: ns, by rw [e]; rfl⟩
    | _ => simp [isI] at h
end Fx
namespace Fx
open PySem (Str)
section
variable {C : Ev} {env : Env} {S : Store}
@[simp] theorem evI_rng2 {a b : N} : evI C (.rng2 a b) env S = (ev C a env S).bind fun x S => (ev C b env S).bind fun y S => match x, y with | .int i, .int j => if rgOk i j then .ok (rangeD i j) S else .st | _, _ => .st := id rfl
@[simp] theorem evI_seqT {a : N} : evI C (.seqT a) env S = (ev C a env S).bind fun x S => ofO (lettersD x) S := id rfl
@[simp] theorem ev_lrng {a b : N} : ev C (.lrng a b) env S = (ev C a env S).bind fun x S => (ev C b env S).bind fun y S => match x, y with | .int i, .int j => if rgOk i j then .ok (.lst (rangeD i j)) S else .st | _, _ => .st := id rfl
@[simp] theorem ev_dgetE {d k : N} : ev C (.dgetE d k) env S = (ev C d env S).bind fun x S => (ev C k env S).bind fun y S => ofO ((keyD y).bind fun ky => (dCell x S).bind fun kvs => getK kvs ky) S := id rfl
@[simp] theorem ev_dhas {neg : Bool} {k d : N} : ev C (.dhas neg k d) env S = (ev C k env S).bind fun y S => (ev C d env S).bind fun x S => ofO ((keyD y).bind fun ky => (dCell x S).map fun kvs => .bl ((getK kvs ky).isSome != neg)) S := id rfl
@[simp] theorem evT_dhas {neg : Bool} {k d : N} : evT C (.dhas neg k d) env S = (ev C k env S).bind fun y S => (ev C d env S).bind fun x S => ofO ((keyD y).bind fun ky => (dCell x S).map fun kvs => (getK kvs ky).isSome != neg) S := id rfl
theorem ev_chn {o o' : Cp} {a b c : N} : ev C (.chn o o' a b c) env S = (ev C a env S).bind fun x S => (ev C b env S).bind fun y S => (ofO (cmpOp o x y) S).bind fun k S => if k then (ev C c env S).bind fun z S => ofO ((cmpOp o' y z).map .bl) S else .ok (.bl false) S := id rfl
theorem evT_chn {o o' : Cp} {a b c : N} : evT C (.chn o o' a b c) env S = (ev C a env S).bind fun x S => (ev C b env S).bind fun y S => (ofO (cmpOp o x y) S).bind fun k S => if k then (ev C c env S).bind fun z S => ofO (cmpOp o' y z) S else .ok false S := id rfl
@[simp] theorem ex_tryE {i n : Nat} {e : N} {c w : Str} : exec C (.tryE i e c w n) env S = match ev C e env S with | .ok d S => if i < env.length then .ok (.nx (env.set i (.val d))) S else .st | .ex c' p S => if c' = c ∧ i < env.length ∧ n < env.length ∧ i ≠ n then .ok (.nx ((env.set i (.val (.tup [.str w, p]))).set n .un)) S else .st | .st => .st := id rfl
@[simp] theorem ex_retN : exec C .retN env S = .ok (.rt .non) S := id rfl
@[simp] theorem ex_brk : exec C .brk env S = .ok (.bk env) S := id rfl
@[simp] theorem ex_cnt : exec C .cnt env S = .ok (.ct env) S := id rfl
@[simp] theorem ex_pass : exec C .pass env S = .ok (.nx env) S := id rfl
end
end Fx

set_option maxHeartbeats 4000000
/-! Fp6: what may be shown, by weight and depth. -/
namespace Fx
open PySem (Str PyData)
mutual
/-- weight -/
def wt : D → Nat
  | .tup xs => wts xs
  | .lst xs => wts xs
  | .str x => x.cps.size
  | _ => 0
def wts : List D → Nat
  | [] => 0
  | d :: ds => wt d + 1 + wts ds
end
mutual
/-- depth -/
def dp : D → Nat
  | .tup xs => dps xs + 1
  | .lst xs => dps xs + 1
  | _ => 0
def dps : List D → Nat
  | [] => 0
  | d :: ds => max (dp d) (dps ds)
end
mutual
/-- leaves that may be shown -/
def lf : D → Bool
  | .tup xs => lfs xs
  | .lst xs => lfs xs
  | .int i => decide (i.natAbs.log2 < 59)
  | .str x => (PyData.str x).showable && (PyData.str x).leavesShort 60 && PyData.strOk (PyData.str x).shown
  | .non => true
  | .bl _ => true
  | _ => false
def lfs : List D → Bool
  | [] => true
  | d :: ds => lf d && lfs ds
end
theorem ok_of' (s : String) : PyData.strOk (Str.ofString s) = true := by
  unfold PyData.strOk
  rw [Str.ofString_eq_toList]
  simp only [List.all_toArray, List.all_eq_true, decide_eq_true_eq]
  intro c hc
  obtain ⟨a, _, rfl⟩ := List.mem_map.mp hc
  have := a.valid
  rcases this with h | h
  · have h : a.toNat < 0xd800 := h
    omega
  · have h : 0xdfff < a.toNat ∧ a.toNat < 0x110000 := h
    exact h.2
theorem ok_app' {x y : Str} (h : PyData.strOk x = true) (h2 : PyData.strOk y = true) : PyData.strOk (x ++ y) = true := by
  unfold PyData.strOk at *
  show ((x.cps ++ y.cps).all fun c => decide (c < 0x110000)) = true
  rw [Array.all_append, h, h2]
  rfl
theorem ok_text' : ∀ {ts : List Str} {k : Nat} {acc : Str}, PyData.strOk acc = true → (∀ t ∈ ts, PyData.strOk t = true) → PyData.strOk (PySem.textFrom k acc ts) = true
  | [], _, _, h, _ => h
  | t :: ts, k, acc, h, ht => ok_text' (ts := ts) (k := k + 1) (ok_app' (ok_app' h (ok_of' _)) (ht t List.mem_cons_self)) fun u hu => ht u (List.mem_cons_of_mem _ hu)
theorem ok_join' : ∀ {ts : List Str}, (∀ t ∈ ts, PyData.strOk t = true) → PyData.strOk (Str.join ", " ts) = true
  | [], _ => by
    unfold PyData.strOk
    show (#[] : Array Nat).all (fun c => decide (c < 0x110000)) = true
    simp
  | [x], h => h x List.mem_cons_self
  | x :: y :: r, h => ok_app' (ok_app' (h x List.mem_cons_self) (ok_of' _)) (ok_join' (ts := y :: r) fun u hu => h u (List.mem_cons_of_mem _ hu))
mutual
theorem show_all : ∀ {d : D}, lf d = true → ∃ p, d.py = some p ∧ p.showable = true ∧ p.leavesShort 60 = true ∧ PyData.strOk p.shown = true ∧ p.bulk = wt d ∧ p.depth = dp d
  | .int i, h => by
    have h : i.natAbs.log2 < 59 := of_decide_eq_true h
    refine ⟨.int i, rfl, decide_eq_true (by omega), decide_eq_true ?_, ok_of' _, rfl, rfl⟩
    show (Str.ofString (toString i)).length ≤ 60
    rw [PySem.ofString_length]
    exact PySem.int_text_length_le (k := 59) (by decide) h
  | .lst xs, h => by
    obtain ⟨ps, e, h1, h2, h3, h4, h5⟩ := shows_all (xs := xs) h
    exact ⟨.list ps, by show (D.pys xs).map PyData.list = _; rw [e]; rfl, h1, h2, ok_app' (ok_text' (ok_of' _) h3) (ok_of' _), h4, by show PyData.depthAll ps + 1 = dps xs + 1; rw [h5]⟩
  | .tup xs, h => by
    obtain ⟨ps, e, h1, h2, h3, h4, h5⟩ := shows_all (xs := xs) h
    exact ⟨.tuple ps, by show (D.pys xs).map PyData.tuple = _; rw [e]; rfl, h1, h2, ok_app' (ok_app' (ok_of' _) (ok_join' h3)) (ok_of' _), h4, by show PyData.depthAll ps + 1 = dps xs + 1; rw [h5]⟩
  | .non, _ => ⟨.none, rfl, rfl, by decide +kernel, by decide +kernel, rfl, rfl⟩
  | .bl b, _ => by cases b <;> exact ⟨_, rfl, rfl, by decide +kernel, by decide +kernel, rfl, rfl⟩
  | .str x, h => by
    have h : ((PyData.str x).showable && (PyData.str x).leavesShort 60 && PyData.strOk (PyData.str x).shown) = true := h
    simp only [Bool.and_eq_true] at h
    exact ⟨.str x, rfl, h.1.1, h.1.2, h.2, rfl, rfl⟩
theorem shows_all : ∀ {xs : List D}, lfs xs = true → ∃ ps, D.pys xs = some ps ∧ PyData.showableAll ps = true ∧ PyData.leavesShortAll 60 ps = true ∧ (∀ t ∈ PyData.shownAll ps, PyData.strOk t = true) ∧ PyData.bulkAll ps = wts xs ∧ PyData.depthAll ps = dps xs
  | [], _ => ⟨[], rfl, rfl, rfl, fun t h => (by cases h), rfl, rfl⟩
  | x :: xs, h => by
    have h : (lf x && lfs xs) = true := h
    obtain ⟨a, b⟩ := Bool.and_eq_true_iff.mp h
    obtain ⟨p, e1, a1, a2, a3, a4, a5⟩ := show_all a
    obtain ⟨ps, e2, b1, b2, b3, b4, b5⟩ := shows_all b
    refine ⟨p :: ps, ?_, ?_, ?_, fun t ht => ?_, ?_, ?_⟩
    · show (match x.py, D.pys xs with | some p, some ps => some (p :: ps) | _, _ => none) = _
      rw [e1, e2]
    · show (p.showable && PyData.showableAll ps) = true
      rw [a1, b1]; rfl
    · show (p.leavesShort 60 && PyData.leavesShortAll 60 ps) = true
      rw [a2, b2]; rfl
    · rcases List.mem_cons.mp ht with rfl | ht
      · exact a3
      · exact b3 t ht
    · show p.bulk + 1 + PyData.bulkAll ps = wt x + 1 + wts xs
      rw [a4, b4]
    · show max p.depth (PyData.depthAll ps) = max (dp x) (dps xs)
      rw [a5, b5]
end
theorem repr_w {d : D} (h : lf d = true) (hd : dp d ≤ 64) (hw : wt d ≤ 260000) : ∃ t, biOp .repr [d] = some (.str t) ∧ PyData.strOk t = true := by
  obtain ⟨p, e, a1, a2, a3, a4, a5⟩ := show_all h
  have l := PyData.shown_le_bulk 60 (by decide) p a2
  have hl : p.shown.length ≤ lim := by
    unfold lim
    rw [a4] at l
    omega
  refine ⟨p.shown, ?_, a3⟩
  show reprD d = _
  unfold reprD
  simp only [e]
  rw [if_pos]
  simp only [Bool.and_eq_true, decide_eq_true_eq]
  exact ⟨⟨a1, by omega⟩, hl⟩
end Fx

set_option maxHeartbeats 4000000
/-! Fp7: simp walks through a body: only what comes first is looked at (what follows stands in a place that simp leaves alone). -/
namespace Fx
open PySem (Str)
structure Tag {α : Type} (a : α) : Type where
  mk ::
def Res.bindT {α β : Type} (r : Res α) (f : α → Store → Res β) (_ : Tag f) : Res β := r.bind f
@[simp ↓] theorem Res.bind_T {α β : Type} {r : Res α} {f : α → Store → Res β} : r.bind f = r.bindT f ⟨⟩ := id rfl
@[simp ↓] theorem Res.bindT_ok {α β : Type} {a : α} {S : Store} {f : α → Store → Res β} {t : Tag f} : (Res.ok a S).bindT f t = f a S := id rfl
@[simp ↓] theorem Res.bindT_ex {α β : Type} {c : Str} {p : D} {S : Store} {f : α → Store → Res β} {t : Tag f} : (Res.ex c p S : Res α).bindT f t = .ex c p S := id rfl
@[simp ↓] theorem Res.bindT_st {α β : Type} {f : α → Store → Res β} {t : Tag f} : (Res.st : Res α).bindT f t = .st := id rfl
@[simp] theorem Res.bindT_ok' {α β : Type} {a : α} {S : Store} {f : α → Store → Res β} {t : Tag f} : (Res.ok a S).bindT f t = f a S := id rfl
@[simp] theorem Res.bindT_ex' {α β : Type} {c : Str} {p : D} {S : Store} {f : α → Store → Res β} {t : Tag f} : (Res.ex c p S : Res α).bindT f t = .ex c p S := id rfl
@[simp] theorem Res.bindT_st' {α β : Type} {f : α → Store → Res β} {t : Tag f} : (Res.st : Res α).bindT f t = .st := id rfl
@[simp] theorem Res.bindT_ite {α β : Type} {c : Prop} [Decidable c] {x y : Res α} {f : α → Store → Res β} {t : Tag f} : (if c then x else y).bindT f t = if c then x.bindT f t else y.bindT f t := by split <;> rfl
@[simp] theorem ite_and {a b : Bool} {S : Store} : (if a = true then Res.ok b S else Res.ok false S) = Res.ok (a && b) S := by cases a <;> rfl
@[simp] theorem ite_or {a b : Bool} {S : Store} : (if a = true then Res.ok true S else Res.ok b S) = Res.ok (a || b) S := by cases a <;> rfl
@[simp] theorem ite_andP {c : Prop} [Decidable c] {b : Bool} {S : Store} : (if c then Res.ok b S else Res.ok false S) = Res.ok (decide c && b) S := by by_cases h : c <;> simp [h]
@[simp] theorem ite_orP {c : Prop} [Decidable c] {b : Bool} {S : Store} : (if c then Res.ok true S else Res.ok b S) = Res.ok (decide c || b) S := by by_cases h : c <;> simp [h]
theorem Res.bind_assoc {α β γ : Type} {r : Res α} {f : α → Store → Res β} {g : β → Store → Res γ} : (r.bind f).bind g = r.bind fun a S => (f a S).bind g := by cases r <;> rfl
end Fx

set_option maxHeartbeats 4000000
/-! Fp8: dicts with int tuples as keys, told by their keys. -/
namespace Fx
open PySem (Str)
open L2 (Key)
variable {C : Ev} {env : Env} {S : Store}
@[simp] theorem ev_dnT : ev C .dnT env S = .ok (.ref S.length) (S ++ [.dctT []]) := id rfl
@[simp] theorem ev_dgetT {d k : N} : ev C (.dgetT d k) env S = (ev C d env S).bind fun x S => (ev C k env S).bind fun y S => ofO ((tkeyD y).bind fun ky => (dCellT x S).bind fun kvs => getT kvs ky) S := id rfl
@[simp] theorem ev_rev {a : N} : ev C (.rev a) env S = (ev C a env S).bind fun x S => match x with | .tup xs => .ok (.tup xs.reverse) S | _ => .st := id rfl
@[simp] theorem ev_dictT {es : N} : ev C (.dictT es) env S = (evs C es env S).bind fun ds S => match ds with
    | [.lst xs] => match pairsT xs with
      | some ps => if xs.length < 100000 then .ok (.ref S.length) (S ++ [.dctT (allT ps)]) else .st
      | none => .st
    | _ => .st := id rfl
@[simp] theorem ev_sortT {es : N} : ev C (.sortT es) env S = (evs C es env S).bind fun ds S => match ds with
    | [x] => ofO ((dCellT x S).bind fun kvs => (keysI kvs).map fun ks => .lst ((sortI ks).map fun k => .tup (k.map .int))) S
    | _ => .st := id rfl
@[simp] theorem ex_dputT {d k e : N} : exec C (.dputT d k e) env S = (ev C e env S).bind fun v S => (ev C d env S).bind fun x S => (ev C k env S).bind fun y S => match dPutT x y v S with | some S => .ok (.nx env) S | none => .st := id rfl
@[simp] theorem ex_extL {i : Nat} {e : N} : exec C (.extL i e) env S = match env[i]? with
    | some (.own xs) => (ev C e env S).bind fun d S => match d with
      | .lst ys => if xs.length + ys.length ≤ lim then .ok (.nx (env.set i (.own (xs ++ ys)))) S else .st
      | _ => .st
    | _ => .st := id rfl
@[simp] theorem ex_tryA {body : N} {cs : List Str} {b : Bool} : exec C (.tryA body cs b) env S = match exec C body env S with | .ok fl S => .ok fl S | .ex c p S => if c ∈ cs then .ok (.rt (.bl b)) S else .st | .st => .st := id rfl
theorem cmp_leT {ns ms : List Int} : cmpOp .le (V ns) (V ms) = some (leI ns ms) := by
  have h : ∀ {ns : List Int}, intsD (ns.map D.int) = some ns := fun {ns} => by
    induction ns with
    | nil => rfl
    | cons n ns ih => show (intsD (ns.map D.int)).map (n :: ·) = _; rw [ih]; rfl
  show (intsD (ns.map D.int)).bind (fun ns => (intsD (ms.map D.int)).map fun ms => leI ns ms) = _
  rw [h, h]
  rfl
abbrev kI (i : Int) : Key := .inl i
/-- the keys, each once -/
def ddI (ns : List (List Int)) : List (List Int) := ns.foldl (fun acc k => if k ∈ acc then acc else acc ++ [k]) []
def uD (ns : List (List Int)) : List (List Key × D) := ns.map fun n => (n.map kI, .bl true)
theorem inl_inj : ∀ {a b : List Int}, a.map kI = b.map kI → a = b
  | [], [], _ => rfl
  | [], _ :: _, h => by cases h
  | _ :: _, [], h => by cases h
  | x :: a, y :: b, h => by
    rw [List.map_cons, List.map_cons, List.cons.injEq] at h
    rw [inl_inj h.2, Sum.inl.inj h.1]
theorem get_uD {k : List Int} : ∀ {ns : List (List Int)}, getT (uD ns) (k.map kI) = if k ∈ ns then some (.bl true) else none
  | [] => rfl
  | n :: ns => by
    have ih := get_uD (k := k) (ns := ns)
    unfold getT uD at ih ⊢
    rw [List.map_cons, List.find?_cons]
    by_cases h : n = k
    · subst h
      simp
    · have h1 : ¬ ((n.map kI) = k.map kI) := fun e => h (inl_inj e)
      have h2 : ¬ k = n := fun e => h e.symm
      simp only [h1, decide_false, List.mem_cons, h2, false_or]
      exact ih
theorem set_uD {k : List Int} {ns : List (List Int)} : setT (uD ns) (k.map kI) (.bl true) = uD (if k ∈ ns then ns else ns ++ [k]) := by
  unfold setT
  rw [get_uD]
  by_cases h : k ∈ ns
  · rw [if_pos h, if_pos h]
    simp only [Option.isSome_some, if_true]
    unfold uD
    rw [List.map_map]
    refine List.map_congr_left fun n _ => ?_
    simp only [Function.comp]
    split <;> rfl
  · rw [if_neg h, if_neg h]
    simp [uD]
theorem all_uD : ∀ {ms acc : List (List Int)}, (uD ms).foldl (fun acc p => setT acc p.1 p.2) (uD acc) = uD (ms.foldl (fun acc k => if k ∈ acc then acc else acc ++ [k]) acc)
  | [], _ => rfl
  | m :: ms, acc => by
    show (uD ms).foldl (fun acc p => setT acc p.1 p.2) (setT (uD acc) (m.map kI) (.bl true)) = _
    rw [set_uD, all_uD]
    rfl
theorem allT_uD {ms : List (List Int)} : allT (uD ms) = uD (ddI ms) := all_uD (acc := [])
theorem intsK_inl : ∀ {n : List Int}, intsK (n.map kI) = some n
  | [] => rfl
  | n :: ns => by show (intsK (ns.map kI)).map (n :: ·) = _; rw [intsK_inl]; rfl
theorem keysI_uD : ∀ {ns : List (List Int)}, (∀ n ∈ ns, n ≠ []) → keysI (uD ns) = some ns
  | [], _ => rfl
  | n :: ns, h => by
    show (match intsK (n.map kI), keysI (uD ns) with | some (n :: ns), some kk => some ((n :: ns) :: kk) | _, _ => none) = _
    rw [intsK_inl, keysI_uD (ns := ns) fun m hm => h m (List.mem_cons_of_mem _ hm)]
    cases n with
    | nil => exact absurd rfl (h [] List.mem_cons_self)
    | cons => rfl
theorem keysD_ints : ∀ {ns : List Int}, keysD (ns.map D.int) = some (ns.map kI)
  | [] => rfl
  | n :: ns => by
    show (match keyD (.int n), keysD (ns.map D.int) with | some k, some ks => some (k :: ks) | _, _ => none) = _
    rw [keysD_ints]
    rfl
theorem tkey_V {ns : List Int} : tkeyD (V ns) = some (ns.map kI) := keysD_ints
theorem pairs_uD : ∀ {ns : List (List Int)}, pairsT (ns.map fun n => .tup [V n, .bl true]) = some (uD ns)
  | [] => rfl
  | n :: ns => by
    show (match tkeyD (V n), pairsT (ns.map fun n => .tup [V n, .bl true]) with | some ky, some ps => some ((ky, D.bl true) :: ps) | _, _ => none) = _
    rw [tkey_V, pairs_uD]
    rfl
theorem mem_ddF {k : List Int} : ∀ {ns acc : List (List Int)}, k ∈ ns.foldl (fun acc k => if k ∈ acc then acc else acc ++ [k]) acc ↔ k ∈ acc ∨ k ∈ ns
  | [], acc => by simp
  | n :: ns, acc => by
    rw [List.foldl_cons, mem_ddF]
    by_cases h : n ∈ acc
    · rw [if_pos h]
      constructor
      · rintro (h1 | h1)
        · exact .inl h1
        · exact .inr (List.mem_cons_of_mem _ h1)
      · rintro (h1 | h1)
        · exact .inl h1
        · rcases List.mem_cons.mp h1 with rfl | h1
          · exact .inl h
          · exact .inr h1
    · rw [if_neg h]
      simp [List.mem_append, List.mem_cons, or_assoc]
theorem mem_dd {k : List Int} {ns : List (List Int)} : k ∈ ddI ns ↔ k ∈ ns := by
  unfold ddI
  rw [mem_ddF]
  simp
theorem ddF_len : ∀ {ns acc : List (List Int)}, (ns.foldl (fun acc k => if k ∈ acc then acc else acc ++ [k]) acc).length ≤ acc.length + ns.length
  | [], acc => by simp
  | n :: ns, acc => by
    rw [List.foldl_cons]
    refine Nat.le_trans ddF_len ?_
    split <;> simp <;> omega
theorem dd_len {ns : List (List Int)} : (ddI ns).length ≤ ns.length := by
  have := ddF_len (ns := ns) (acc := [])
  unfold ddI
  simpa using this
theorem dd_map {α : Type} [DecidableEq α] {f : α → List Int} (hf : ∀ a b, f a = f b → a = b) : ∀ {ns acc : List α}, (ns.map f).foldl (fun acc k => if k ∈ acc then acc else acc ++ [k]) (acc.map f) = (ns.foldl (fun acc k => if k ∈ acc then acc else acc ++ [k]) acc).map f
  | [], _ => rfl
  | n :: ns, acc => by
    rw [List.map_cons, List.foldl_cons, List.foldl_cons, ← dd_map hf]
    congr 1
    by_cases h : n ∈ acc
    · rw [if_pos h, if_pos (List.mem_map.mpr ⟨n, h, rfl⟩)]
    · rw [if_neg h, if_neg fun z => by
        obtain ⟨m, hm, e⟩ := List.mem_map.mp z
        exact h (by rw [← hf _ _ e]; exact hm)]
      simp
/-- the sorted keys -/
def topI (ns : List (List Int)) : List (List Int) := sortI (ddI ns)
theorem insI_mem {x y : List Int} : ∀ {ys : List (List Int)}, y ∈ insI x ys ↔ y = x ∨ y ∈ ys
  | [] => by simp [insI]
  | z :: zs => by
    unfold insI
    split
    · rw [List.mem_cons, insI_mem, List.mem_cons]
      constructor
      · rintro (h | h | h)
        · exact .inr (.inl h)
        · exact .inl h
        · exact .inr (.inr h)
      · rintro (h | h | h)
        · exact .inr (.inl h)
        · exact .inl h
        · exact .inr (.inr h)
    · simp
theorem insI_len {x : List Int} : ∀ {ys : List (List Int)}, (insI x ys).length = ys.length + 1
  | [] => rfl
  | z :: zs => by
    unfold insI
    split
    · rw [List.length_cons, insI_len, List.length_cons]
    · rfl
theorem sortI_mem {y : List Int} : ∀ {xs : List (List Int)}, y ∈ sortI xs ↔ y ∈ xs
  | [] => by simp [sortI]
  | x :: xs => by
    show y ∈ insI x (sortI xs) ↔ _
    rw [insI_mem, sortI_mem, List.mem_cons]
theorem sortI_len : ∀ {xs : List (List Int)}, (sortI xs).length = xs.length
  | [] => rfl
  | x :: xs => by
    show (insI x (sortI xs)).length = _
    rw [insI_len, sortI_len, List.length_cons]
theorem topI_mem {y : List Int} {xs : List (List Int)} : y ∈ topI xs ↔ y ∈ xs := by unfold topI; rw [sortI_mem, mem_dd]
theorem topI_len {xs : List (List Int)} : (topI xs).length ≤ xs.length := by unfold topI; rw [sortI_len]; exact dd_len
theorem topI_ne {xs : List (List Int)} (h : xs ≠ []) : topI xs ≠ [] := fun e => by
  cases xs with
  | nil => exact h rfl
  | cons x xs => have := topI_mem (y := x) (xs := x :: xs); rw [e] at this; simp at this
/-- a dict of keys in the store -/
theorem cell_uD {n : Nat} {ns : List (List Int)} (h : S[n]? = some (.dctT (uD ns))) : dCellT (.ref n) S = some (uD ns) := by
  unfold dCellT
  simp only [h]
theorem sorted_uD {n : Nat} {ns : List (List Int)} (h : S[n]? = some (.dctT (uD (ddI ns)))) (hn : ∀ m ∈ ns, m ≠ []) :
    ((dCellT (.ref n) S).bind fun kvs => (keysI kvs).map fun ks => D.lst ((sortI ks).map fun k => .tup (k.map .int))) = some (.lst ((topI ns).map V)) := by
  rw [cell_uD h, Option.bind_some, keysI_uD fun m hm => hn m (mem_dd.mp hm)]
  rfl
theorem put_uD {n : Nat} {ns : List (List Int)} {k : List Int} (h : S[n]? = some (.dctT (uD ns))) (hl : ns.length < 100000) : dPutT (.ref n) (V k) (.bl true) S = some (S.set n (.dctT (uD (if k ∈ ns then ns else ns ++ [k])))) := by
  unfold dPutT
  rw [tkey_V]
  simp only [h]
  rw [if_pos (by unfold uD; simpa using hl), set_uD]
/-- {row: True for row in rows} -/
@[simp] theorem ev_dcmpT {own : List (Str × Nat)} {nk nv tg it cond : N} : ev C (.dcmpT own nk nv tg it cond) env S = (evI C it env S).bind fun ds S => (compL (dcF C own nk nv tg cond env S.length) ds [] (S ++ [.dctT []])).bind fun _ S' => .ok (.ref S.length) S' := id rfl
theorem dcF_u {own : List (Str × Nat)} {i n : Nat} {m : List Int} {acc : List (List Int)} (hi : i < (wipeE env own).length) (h : S[n]? = some (.dctT (uD acc))) (hl : acc.length < 100000) :
    dcF C own (.var i) (.cB true) (.tn i) .nil env n (V m) S = .ok none (S.set n (.dctT (uD (if m ∈ acc then acc else acc ++ [m])))) := by
  have g : ((wipeE env own).set i (.val (V m)))[i]? = some (.val (V m)) := List.getElem?_set_self hi
  have b : bindT (.tn i) (V m) (wipeE env own) = some ((wipeE env own).set i (.val (V m))) := by unfold bindT; rw [if_pos hi]
  unfold dcF
  rw [b]
  simp only [evT_nil, Res.bind_T, Res.bindT_ok, if_true, ev_var g, ev_cB, put_uD h hl]
theorem comp_uD {own : List (Str × Nat)} {i n : Nat} (hi : i < (wipeE env own).length) : ∀ {ms acc : List (List Int)} {S : Store}, S[n]? = some (.dctT (uD acc)) → acc.length + ms.length < 100000 →
    compL (dcF C own (.var i) (.cB true) (.tn i) .nil env n) (ms.map V) [] S = .ok [] (S.set n (.dctT (uD (ms.foldl (fun acc k => if k ∈ acc then acc else acc ++ [k]) acc))))
  | [], acc, S, h, _ => by
    have : S.set n (.dctT (uD acc)) = S := by
      refine List.ext_getElem? fun j => ?_
      by_cases e : n = j
      · subst e
        rw [List.getElem?_set_self (List.getElem?_eq_some_iff.mp h).1, h]
      · rw [List.getElem?_set_ne e]
    rw [List.foldl_nil, this]
    rfl
  | m :: ms, acc, S, h, hl => by
    rw [List.length_cons] at hl
    rw [List.map_cons]
    unfold compL
    have hn := (List.getElem?_eq_some_iff.mp h).1
    rw [dcF_u hi h (by omega)]
    have q := comp_uD (own := own) (i := i) hi (ms := ms) (acc := if m ∈ acc then acc else acc ++ [m]) (S := S.set n (.dctT (uD (if m ∈ acc then acc else acc ++ [m])))) (by rw [List.getElem?_set_self hn]) (by split <;> (try simp only [List.length_append, List.length_singleton]) <;> omega)
    show compL (dcF C own (.var i) (.cB true) (.tn i) .nil env n) (ms.map V) [] (S.set n (.dctT (uD (if m ∈ acc then acc else acc ++ [m])))) = _
    rw [q, List.set_set]
    rfl
end Fx

set_option maxHeartbeats 4000000
namespace K00
open PySem PySem.Spec PyProof.Rows L2 Fx
def top (i : Nat) : PySem.Stmt := PySem.Challenge.pw_everyfont_k00_numbers_and_errors.main.body.getD i (.Pass ⟨0, 0, 0, 0⟩)
def n_is_integer : N := (.cons (.ret (.vand (.isi (.var 0) "int") (.vnot (.isi (.var 0) "bool")))) .nil)
def d_is_integer : Df := { name := "is_integer", qual := "is_integer", ps := ["value"], params := defArgs (top 21), body := defBody (top 21), scope := defScope (top 21), N := ["value"], F := ⟨1, 1, n_is_integer⟩ }
def n_sign_of : N := (.cons (.ifs (.cmp .eq (.var 0) (.cI 0)) (.cons (.ret (.cI 0)) .nil) .nil) (.cons (.ret (.ite (.cmp .gt (.var 0) (.cI 0)) (.cI 1) (.neg (.cI 1)))) .nil))
def d_sign_of : Df := { name := "sign_of", qual := "sign_of", ps := ["number"], params := defArgs (top 22), body := defBody (top 22), scope := defScope (top 22), N := ["number"], F := ⟨1, 1, n_sign_of⟩ }
def n_check_fraction : N := (.cons (.ifs (.tor (.tnot (.tv (.isi (.var 0) "tuple"))) (.cmp .ne (.bi .len (.cons (.var 0) .nil)) (.cI 2))) (.cons (.raise_ "NotNumber" (.var 0)) .nil) .nil) (.cons (.unp (.tt (.cons (.tn 1) (.cons (.tn 2) .nil))) (.var 0)) (.cons (.ifs (.tor (.tnot (.tv (.call "is_integer" (.cons (.var 1) .nil) .nil [0]))) (.tor (.tnot (.tv (.call "is_integer" (.cons (.var 2) .nil) .nil [0]))) (.tor (.cmp .lt (.var 2) (.cI 1)) (.cmp .ne (.bi .gcd (.cons (.var 1) (.cons (.var 2) .nil))) (.cI 1))))) (.cons (.raise_ "NotNumber" (.var 0)) .nil) .nil) (.cons (.ret (.var 0)) .nil))))
def d_check_fraction : Df := { name := "check_fraction", qual := "check_fraction", ps := ["value"], params := defArgs (top 23), body := defBody (top 23), scope := defScope (top 23), N := ["value", "top", "bottom"], F := ⟨1, 3, n_check_fraction⟩ }
def n_lowest : N := (.cons (.ifs (.cmp .eq (.var 1) (.cI 0)) (.cons (.raise_ "NotNumber" (.var 1)) .nil) .nil) (.cons (.set 2 (.bi .gcd (.cons (.var 0) (.cons (.var 1) .nil)))) (.cons (.ifs (.cmp .lt (.var 1) (.cI 0)) (.cons (.set 2 (.neg (.var 2))) .nil) .nil) (.cons (.ret (.tup (.cons (.bin .fdiv (.var 0) (.var 2)) (.cons (.bin .fdiv (.var 1) (.var 2)) .nil)))) .nil))))
def d_lowest : Df := { name := "lowest", qual := "lowest", ps := ["top", "bottom"], params := defArgs (top 24), body := defBody (top 24), scope := defScope (top 24), N := ["top", "bottom", "part"], F := ⟨2, 3, n_lowest⟩ }
def n_added : N := (.cons (.ret (.call "lowest" (.cons (.bin .add (.bin .mul (.idx (.var 0) (.cI 0)) (.idx (.var 1) (.cI 1))) (.bin .mul (.idx (.var 1) (.cI 0)) (.idx (.var 0) (.cI 1)))) (.cons (.bin .mul (.idx (.var 0) (.cI 1)) (.idx (.var 1) (.cI 1))) .nil)) .nil [0, 1])) .nil)
def d_added : Df := { name := "added", qual := "added", ps := ["one", "other"], params := defArgs (top 25), body := defBody (top 25), scope := defScope (top 25), N := ["one", "other"], F := ⟨2, 2, n_added⟩ }
def n_minus : N := (.cons (.ret (.call "lowest" (.cons (.bin .sub (.bin .mul (.idx (.var 0) (.cI 0)) (.idx (.var 1) (.cI 1))) (.bin .mul (.idx (.var 1) (.cI 0)) (.idx (.var 0) (.cI 1)))) (.cons (.bin .mul (.idx (.var 0) (.cI 1)) (.idx (.var 1) (.cI 1))) .nil)) .nil [0, 1])) .nil)
def d_minus : Df := { name := "minus", qual := "minus", ps := ["one", "other"], params := defArgs (top 26), body := defBody (top 26), scope := defScope (top 26), N := ["one", "other"], F := ⟨2, 2, n_minus⟩ }
def n_times : N := (.cons (.ret (.call "lowest" (.cons (.bin .mul (.idx (.var 0) (.cI 0)) (.idx (.var 1) (.cI 0))) (.cons (.bin .mul (.idx (.var 0) (.cI 1)) (.idx (.var 1) (.cI 1))) .nil)) .nil [0, 1])) .nil)
def d_times : Df := { name := "times", qual := "times", ps := ["one", "other"], params := defArgs (top 27), body := defBody (top 27), scope := defScope (top 27), N := ["one", "other"], F := ⟨2, 2, n_times⟩ }
def n_divided : N := (.cons (.ifs (.cmp .eq (.idx (.var 1) (.cI 0)) (.cI 0)) (.cons (.raise_ "NotNumber" (.var 1)) .nil) .nil) (.cons (.ret (.call "lowest" (.cons (.bin .mul (.idx (.var 0) (.cI 0)) (.idx (.var 1) (.cI 1))) (.cons (.bin .mul (.idx (.var 0) (.cI 1)) (.idx (.var 1) (.cI 0))) .nil)) .nil [0, 1])) .nil))
def d_divided : Df := { name := "divided", qual := "divided", ps := ["one", "other"], params := defArgs (top 28), body := defBody (top 28), scope := defScope (top 28), N := ["one", "other"], F := ⟨2, 2, n_divided⟩ }
def n_halfway : N := (.cons (.ret (.call "lowest" (.cons (.bin .add (.bin .mul (.idx (.var 0) (.cI 0)) (.idx (.var 1) (.cI 1))) (.bin .mul (.idx (.var 1) (.cI 0)) (.idx (.var 0) (.cI 1)))) (.cons (.bin .mul (.bin .mul (.cI 2) (.idx (.var 0) (.cI 1))) (.idx (.var 1) (.cI 1))) .nil)) .nil [0, 1])) .nil)
def d_halfway : Df := { name := "halfway", qual := "halfway", ps := ["one", "other"], params := defArgs (top 29), body := defBody (top 29), scope := defScope (top 29), N := ["one", "other"], F := ⟨2, 2, n_halfway⟩ }
def n_compared : N := (.cons (.ret (.call "sign_of" (.cons (.bin .sub (.bin .mul (.idx (.var 0) (.cI 0)) (.idx (.var 1) (.cI 1))) (.bin .mul (.idx (.var 1) (.cI 0)) (.idx (.var 0) (.cI 1)))) .nil) .nil [0])) .nil)
def d_compared : Df := { name := "compared", qual := "compared", ps := ["one", "other"], params := defArgs (top 30), body := defBody (top 30), scope := defScope (top 30), N := ["one", "other"], F := ⟨2, 2, n_compared⟩ }
def n__law_begun : N := (.cons (.set 2 (.bin .add (.slc (.var 0) (.cons (.var 1) .nil) .nil) (.slc (.var 0) .nil (.cons (.var 1) .nil)))) (.cons (.set 3 (.comp [("cell", 5)] (.var 5) (.tn 5) (.seq (.var 2)) (.cons (.cmp .ge (.var 5) (.bin .pow (.cI 10) (.cI 18))) .nil))) (.cons (.set 4 (.bin .add (.cI 91) (.var 1))) (.cons (.for_ (.tn 5) (.seq (.var 2)) (.cons (.set 4 (.bin .mod (.bi .int (.cons (.bin .add (.bin .mul (.var 4) (.cI 48271)) (.var 5)) .nil)) (.cI 2147483647))) .nil)) (.cons (.ret (.dct ["left", "seed", "cells", "spot"] (.cons (.ite (.cmp .ne (.var 3) (.lst .nil)) (.idx (.var 3) (.cI 0)) (.cI 0)) (.cons (.var 4) (.cons (.bin .add (.var 2) (.lst (.cons (.bin .add (.bin .mul (.cI 61) (.var 1)) (.cI 17)) .nil))) (.cons (.cI 0) .nil)))))) .nil)))))
def d__law_begun : Df := { name := "_law_begun", qual := "_law_begun", ps := ["script", "k"], params := defArgs (top 32), body := defBody (top 32), scope := defScope (top 32), N := ["script", "k", "cells", "great", "seed", "cell"], F := ⟨2, 6, n__law_begun⟩ }
def n__law_draw : N := (.cons (.ifs (.cmp .gt (.dget (.var 0) "left") (.cI 0)) (.cons (.set 5 (.bin .mod (.bi .int (.cons (.dget (.var 0) "left") .nil)) (.var 1))) (.cons (.dput (.var 0) "left" (.bin .fdiv (.dget (.var 0) "left") (.var 1))) (.cons (.ret (.var 5)) .nil))) .nil) (.cons (.set 2 (.dget (.var 0) "spot")) (.cons (.dput (.var 0) "spot" (.bin .add (.var 2) (.cI 1))) (.cons (.par 6 7 (.dget (.var 0) "cells") (.bin .add (.dget (.var 0) "seed") (.bin .mul (.bin .mul (.cI 40503) (.var 2)) (.var 2)))) (.cons (.set 3 (.idx (.var 6) (.bin .mod (.bi .int (.cons (.var 2) .nil)) (.bi .len (.cons (.var 6) .nil))))) (.cons (.set 4 (.bin .mod (.bi .int (.cons (.bin .add (.bin .mul (.var 3) (.bin .add (.bin .mul (.cI 2) (.var 2)) (.cI 3))) (.var 7)) .nil)) (.cI 2147483647))) (.cons (.set 4 (.bin .mod (.bi .int (.cons (.bin .add (.bin .add (.bin .mul (.var 4) (.var 4)) (.bin .mul (.cI 69621) (.var 2))) (.dget (.var 0) "seed")) .nil)) (.cI 2147483629))) (.cons (.ret (.bin .mod (.bin .fdiv (.bin .mod (.bi .int (.cons (.bin .add (.bin .mul (.var 4) (.cI 48271)) (.var 2)) .nil)) (.cI 2147483647)) (.cI 11)) (.var 1))) .nil))))))))
def d__law_draw : Df := { name := "_law_draw", qual := "_law_draw", ps := ["m", "bound"], params := defArgs (top 33), body := defBody (top 33), scope := defScope (top 33), N := ["m", "bound", "spot", "cell", "blend", "found", "cells", "extra"], F := ⟨2, 8, n__law_draw⟩ }
def n__law_of : N := (.cons (.ret (.idx (.var 1) (.call "_law_draw" (.cons (.var 0) (.cons (.bi .len (.cons (.var 1) .nil)) .nil)) .nil [0, 1]))) .nil)
def d__law_of : Df := { name := "_law_of", qual := "_law_of", ps := ["m", "some"], params := defArgs (top 34), body := defBody (top 34), scope := defScope (top 34), N := ["m", "some"], F := ⟨2, 2, n__law_of⟩ }
def n__law_like : N := (.cons (.ret (.cmp .eq (.bi .repr (.cons (.var 0) .nil)) (.bi .repr (.cons (.var 1) .nil)))) .nil)
def d__law_like : Df := { name := "_law_like", qual := "_law_like", ps := ["told", "due"], params := defArgs (top 35), body := defBody (top 35), scope := defScope (top 35), N := ["told", "due"], F := ⟨2, 2, n__law_like⟩ }
def n__law_sign : N := (.cons (.ret (.bin .sub (.bi .int (.cons (.cmp .gt (.var 0) (.cI 0)) .nil)) (.bi .int (.cons (.cmp .lt (.var 0) (.cI 0)) .nil)))) .nil)
def d__law_sign : Df := { name := "_law_sign", qual := "_law_sign", ps := ["number_so"], params := defArgs (top 36), body := defBody (top 36), scope := defScope (top 36), N := ["number_so"], F := ⟨1, 1, n__law_sign⟩ }
def n__law_common : N := (.cons (.set 1 (.cI 0)) (.cons (.for_ (.tn 2) (.seq (.var 0)) (.cons (.set 3 (.bi .abs (.cons (.var 2) .nil))) (.cons (.whl (.cmp .ne (.var 3) (.cI 0)) (.cons (.par 1 3 (.var 3) (.bin .mod (.bi .int (.cons (.var 1) .nil)) (.var 3))) .nil)) .nil))) (.cons (.ret (.var 1)) .nil)))
def d__law_common : Df := { name := "_law_common", qual := "_law_common", ps := ["numbers"], params := defArgs (top 37), body := defBody (top 37), scope := defScope (top 37), N := ["numbers", "found", "number_so", "remnant"], F := ⟨1, 4, n__law_common⟩ }
def n__law_lowered : N := (.cons (.set 1 (.call "_law_common" (.cons (.var 0) .nil) .nil [0])) (.cons (.ret (.ite (.cmp .gt (.var 1) (.cI 1)) (.bi .tuple (.cons (.comp [("number_so", 2)] (.bin .fdiv (.var 2) (.var 1)) (.tn 2) (.seq (.var 0)) .nil) .nil)) (.bi .tuple (.cons (.var 0) .nil)))) .nil))
def d__law_lowered : Df := { name := "_law_lowered", qual := "_law_lowered", ps := ["numbers"], params := defArgs (top 38), body := defBody (top 38), scope := defScope (top 38), N := ["numbers", "whole", "number_so"], F := ⟨1, 3, n__law_lowered⟩ }
def n__law_fraction : N := (.cons (.set 2 (.call "_law_lowered" (.cons (.lst (.cons (.var 0) (.cons (.var 1) .nil))) .nil) .nil [0])) (.cons (.ret (.ite (.cmp .gt (.var 1) (.cI 0)) (.var 2) (.tup (.cons (.neg (.idx (.var 2) (.cI 0))) (.cons (.neg (.idx (.var 2) (.cI 1))) .nil))))) .nil))
def d__law_fraction : Df := { name := "_law_fraction", qual := "_law_fraction", ps := ["top_so", "bottom_so"], params := defArgs (top 39), body := defBody (top 39), scope := defScope (top 39), N := ["top_so", "bottom_so", "found"], F := ⟨2, 3, n__law_fraction⟩ }
def n__law_integer : N := (.cons (.set 1 (.bin .sub (.call "_law_draw" (.cons (.var 0) (.cons (.cI 19) .nil)) .nil [0, 1]) (.cI 9))) (.cons (.ifs (.cmp .gt (.call "_law_draw" (.cons (.var 0) (.cons (.cI 3) .nil)) .nil [0, 1]) (.cI 0)) (.cons (.ret (.var 1)) .nil) .nil) (.cons (.for_ (.tn 2) (.rng1 (.call "_law_draw" (.cons (.var 0) (.cons (.cI 20) .nil)) .nil [0, 1])) (.cons (.set 1 (.bin .sub (.bin .add (.bin .mul (.var 1) (.cI 1000003)) (.call "_law_draw" (.cons (.var 0) (.cons (.cI 1000) .nil)) .nil [0, 1])) (.cI 500))) .nil)) (.cons (.ret (.var 1)) .nil))))
def d__law_integer : Df := { name := "_law_integer", qual := "_law_integer", ps := ["m"], params := defArgs (top 40), body := defBody (top 40), scope := defScope (top 40), N := ["m", "found", "turn"], F := ⟨1, 3, n__law_integer⟩ }
def n__law_pair : N := (.cons (.set 1 (.call "_law_integer" (.cons (.var 0) .nil) .nil [0])) (.cons (.ret (.call "_law_fraction" (.cons (.call "_law_integer" (.cons (.var 0) .nil) .nil [0]) (.cons (.ite (.cmp .ne (.var 1) (.cI 0)) (.var 1) (.cI 1)) .nil)) .nil [0, 1])) .nil))
def d__law_pair : Df := { name := "_law_pair", qual := "_law_pair", ps := ["m"], params := defArgs (top 42), body := defBody (top 42), scope := defScope (top 42), N := ["m", "low"], F := ⟨1, 2, n__law_pair⟩ }
def n__law_two_right : N := (.cons (.unp (.tt (.cons (.tn 4) (.cons (.tn 5) .nil))) (.var 0)) (.cons (.unp (.tt (.cons (.tn 6) (.cons (.tn 7) .nil))) (.var 1)) (.cons (.set 2 (.lst (.cons (.call "_law_fraction" (.cons (.bin .add (.bin .mul (.var 4) (.var 7)) (.bin .mul (.var 6) (.var 5))) (.cons (.bin .mul (.var 5) (.var 7)) .nil)) .nil [0, 1]) (.cons (.call "_law_fraction" (.cons (.bin .sub (.bin .mul (.var 4) (.var 7)) (.bin .mul (.var 6) (.var 5))) (.cons (.bin .mul (.var 5) (.var 7)) .nil)) .nil [0, 1]) (.cons (.call "_law_fraction" (.cons (.bin .mul (.var 4) (.var 6)) (.cons (.bin .mul (.var 5) (.var 7)) .nil)) .nil [0, 1]) .nil))))) (.cons (.ifs (.tnot (.tv (.call "_law_like" (.cons (.lst (.cons (.call "added" (.cons (.var 0) (.cons (.var 1) .nil)) .nil [0, 1]) (.cons (.call "minus" (.cons (.var 0) (.cons (.var 1) .nil)) .nil [0, 1]) (.cons (.call "times" (.cons (.var 0) (.cons (.var 1) .nil)) .nil [0, 1]) .nil)))) (.cons (.var 2) .nil)) .nil [0, 1]))) (.cons (.ret (.cB false)) .nil) .nil) (.cons (.set 2 (.ite (.cmp .ne (.var 6) (.cI 0)) (.lst (.cons (.call "_law_fraction" (.cons (.bin .mul (.var 4) (.var 7)) (.cons (.bin .mul (.var 5) (.var 6)) .nil)) .nil [0, 1]) .nil)) (.tup (.cons (.cS "number") (.cons (.var 1) .nil))))) (.cons (.ifs (.tnot (.tv (.call "_law_like" (.cons (.hear "_law_heard" [("NotNumber", "number")] (.call "divided" (.cons (.var 0) (.cons (.var 1) .nil)) .nil [0, 1])) (.cons (.var 2) .nil)) .nil [0, 1]))) (.cons (.ret (.cB false)) .nil) .nil) (.cons (.set 3 (.lst (.cons (.call "halfway" (.cons (.var 0) (.cons (.var 1) .nil)) .nil [0, 1]) (.cons (.call "compared" (.cons (.var 0) (.cons (.var 1) .nil)) .nil [0, 1]) (.cons (.call "compared" (.cons (.var 0) (.cons (.var 0) .nil)) .nil [0, 1]) .nil))))) (.cons (.ret (.call "_law_like" (.cons (.var 3) (.cons (.lst (.cons (.call "_law_fraction" (.cons (.bin .add (.bin .mul (.var 4) (.var 7)) (.bin .mul (.var 6) (.var 5))) (.cons (.bin .mul (.bin .mul (.cI 2) (.var 5)) (.var 7)) .nil)) .nil [0, 1]) (.cons (.call "_law_sign" (.cons (.bin .sub (.bin .mul (.var 4) (.var 7)) (.bin .mul (.var 6) (.var 5))) .nil) .nil [0]) (.cons (.cI 0) .nil)))) .nil)) .nil [0, 1])) .nil))))))))
def d__law_two_right : Df := { name := "_law_two_right", qual := "_law_two_right", ps := ["near", "far"], params := defArgs (top 43), body := defBody (top 43), scope := defScope (top 43), N := ["near", "far", "due", "told", "a", "b", "c", "d"], F := ⟨2, 8, n__law_two_right⟩, lam := true }
def n__law_lowest_right : N := (.cons (.unp (.tt (.cons (.tn 5) (.cons (.tn 6) .nil))) (.tup (.cons (.call "_law_integer" (.cons (.var 0) .nil) .nil [0]) (.cons (.call "_law_integer" (.cons (.var 0) .nil) .nil [0]) .nil)))) (.cons (.set 1 (.ite (.cmp .ne (.var 6) (.cI 0)) (.lst (.cons (.call "_law_fraction" (.cons (.var 5) (.cons (.var 6) .nil)) .nil [0, 1]) .nil)) (.tup (.cons (.cS "number") (.cons (.cI 0) .nil))))) (.cons (.ifs (.tnot (.tv (.call "_law_like" (.cons (.hear "_law_heard" [("NotNumber", "number")] (.call "lowest" (.cons (.var 5) (.cons (.var 6) .nil)) .nil [0, 1])) (.cons (.var 1) .nil)) .nil [0, 1]))) (.cons (.ret (.cB false)) .nil) .nil) (.cons (.set 2 (.call "_law_pair" (.cons (.var 0) .nil) .nil [0])) (.cons (.set 3 (.lst (.cons (.var 2) (.cons (.tup (.cons (.idx (.var 2) (.cI 0)) (.cons (.neg (.idx (.var 2) (.cI 1))) .nil))) (.cons (.tup (.cons (.bin .mul (.cI 2) (.idx (.var 2) (.cI 0))) (.cons (.bin .mul (.cI 2) (.idx (.var 2) (.cI 1))) .nil))) (.cons (.bi .list (.cons (.var 2) .nil)) (.cons (.bin .add (.var 2) (.tup (.cons (.cI 1) .nil))) (.cons (.tup (.cons (.idx (.var 2) (.cI 0)) (.cons .cN .nil))) (.cons (.tup (.cons (.idx (.var 2) (.cI 0)) (.cons (.cI 0) .nil))) .nil))))))))) (.cons (.set 4 (.call "_law_of" (.cons (.var 0) (.cons (.var 3) .nil)) .nil [0, 1])) (.cons (.set 1 (.ite (.tand (.cmp .eq (.var 4) (.var 2)) (.tv (.isi (.var 4) "tuple"))) (.lst (.cons (.var 4) .nil)) (.tup (.cons (.cS "number") (.cons (.var 4) .nil))))) (.cons (.ret (.call "_law_like" (.cons (.hear "_law_heard" [("NotNumber", "number")] (.call "check_fraction" (.cons (.var 4) .nil) .nil [0])) (.cons (.var 1) .nil)) .nil [0, 1])) .nil))))))))
def d__law_lowest_right : Df := { name := "_law_lowest_right", qual := "_law_lowest_right", ps := ["m"], params := defArgs (top 44), body := defBody (top 44), scope := defScope (top 44), N := ["m", "due", "pair", "some", "odd", "up", "low"], F := ⟨1, 7, n__law_lowest_right⟩, lam := true }
def n__law_hand_right : N := (.cons (.for_ (.tn 0) (.seq (.tup (.cons .cN (.cons (.cI 1) (.cons (.cS "1") (.cons (.tup .nil) (.cons (.tup (.cons (.cI 1) .nil)) (.cons (.tup (.cons (.cI 1) (.cons (.cI 2) (.cons (.cI 3) .nil)))) (.cons (.lst (.cons (.cI 1) (.cons (.cI 2) .nil))) (.cons (.tup (.cons (.cB true) (.cons (.cI 1) .nil))) (.cons (.tup (.cons (.cI 1) (.cons (.cB true) .nil))) (.cons (.tup (.cons (.cI 0) (.cons (.cI 2) .nil))) (.cons (.tup (.cons (.cI 0) (.cons (.cI 0) .nil))) (.cons (.tup (.cons (.cI 4) (.cons (.cI 6) .nil))) (.cons (.tup (.cons (.cI 1) (.cons (.neg (.cI 1)) .nil))) (.cons (.tup (.cons (.cS "1") (.cons (.cI 2) .nil))) .nil)))))))))))))))) (.cons (.ifs (.tnot (.tv (.call "_law_like" (.cons (.hear "_law_heard" [("NotNumber", "number")] (.call "check_fraction" (.cons (.var 0) .nil) .nil [0])) (.cons (.tup (.cons (.cS "number") (.cons (.var 0) .nil))) .nil)) .nil [0, 1]))) (.cons (.ret (.cB false)) .nil) .nil) .nil)) (.cons (.setO 1 (.lst (.cons (.call "lowest" .nil (.cons (.cI 0) (.cons (.neg (.cI 7)) .nil)) [0, 1]) (.cons (.call "added" .nil (.cons (.tup (.cons (.cI 1) (.cons (.cI 2) .nil))) (.cons (.tup (.cons (.cI 1) (.cons (.cI 3) .nil))) .nil)) [0, 1]) (.cons (.call "minus" .nil (.cons (.tup (.cons (.cI 1) (.cons (.cI 2) .nil))) (.cons (.tup (.cons (.cI 1) (.cons (.cI 2) .nil))) .nil)) [1, 0]) (.cons (.call "check_fraction" .nil (.cons (.tup (.cons (.cI 3) (.cons (.cI 2) .nil))) .nil) [0]) .nil)))))) (.cons (.setO 1 (.bin .add (.pk 1) (.lst (.cons (.call "times" .nil (.cons (.tup (.cons (.cI 2) (.cons (.cI 3) .nil))) (.cons (.tup (.cons (.cI 3) (.cons (.cI 4) .nil))) .nil)) [1, 0]) (.cons (.call "divided" .nil (.cons (.tup (.cons (.cI 1) (.cons (.cI 2) .nil))) (.cons (.tup (.cons (.cI 3) (.cons (.cI 1) .nil))) .nil)) [0, 1]) (.cons (.call "halfway" .nil (.cons (.tup (.cons (.cI 0) (.cons (.cI 1) .nil))) (.cons (.tup (.cons (.cI 1) (.cons (.cI 1) .nil))) .nil)) [0, 1]) .nil)))))) (.cons (.app 1 (.call "compared" .nil (.cons (.tup (.cons (.cI 1) (.cons (.cI 2) .nil))) (.cons (.tup (.cons (.cI 1) (.cons (.cI 3) .nil))) .nil)) [1, 0])) (.cons (.set 2 (.lst (.cons (.tup (.cons (.cI 0) (.cons (.cI 1) .nil))) (.cons (.tup (.cons (.cI 5) (.cons (.cI 6) .nil))) (.cons (.tup (.cons (.cI 0) (.cons (.cI 1) .nil))) (.cons (.tup (.cons (.cI 3) (.cons (.cI 2) .nil))) (.cons (.tup (.cons (.cI 1) (.cons (.cI 2) .nil))) (.cons (.tup (.cons (.cI 1) (.cons (.cI 6) .nil))) (.cons (.tup (.cons (.cI 1) (.cons (.cI 2) .nil))) (.cons (.neg (.cI 1)) .nil)))))))))) (.cons (.frz 1) (.cons (.ret (.vand (.call "_law_like" (.cons (.var 1) (.cons (.var 2) .nil)) .nil [0, 1]) (.call "_law_like" (.cons (.hear "_law_heard" [("NotNumber", "number")] (.call "lowest" (.cons (.cI 5) (.cons (.cI 0) .nil)) .nil [0, 1])) (.cons (.tup (.cons (.cS "number") (.cons (.cI 0) .nil))) .nil)) .nil [0, 1]))) .nil)))))))
def d__law_hand_right : Df := { name := "_law_hand_right", qual := "_law_hand_right", ps := [], params := defArgs (top 45), body := defBody (top 45), scope := defScope (top 45), N := ["odd", "told", "due"], F := ⟨0, 3, n__law_hand_right⟩, lam := true }
def n__law_kinds : N := (.cons (.set 1 (.lst (.cons (.tup (.cons (.cS "number") (.cons (.isx (.var 0) "NotNumber") .nil))) (.cons (.tup (.cons (.cS "row") (.cons (.isx (.var 0) "NotRow") .nil))) (.cons (.tup (.cons (.cS "point") (.cons (.isx (.var 0) "NotPoint") .nil))) .nil))))) (.cons (.set 1 (.bin .add (.var 1) (.lst (.cons (.tup (.cons (.cS "formula") (.cons (.isx (.var 0) "NotFormula") .nil))) (.cons (.tup (.cons (.cS "text") (.cons (.isx (.var 0) "NotText") .nil))) .nil))))) (.cons (.set 1 (.bin .add (.var 1) (.lst (.cons (.tup (.cons (.cS "font") (.cons (.isx (.var 0) "NotFont") .nil))) (.cons (.tup (.cons (.cS "system") (.cons (.isx (.var 0) "NotSystem") .nil))) (.cons (.tup (.cons (.cS "claim") (.cons (.isx (.var 0) "NotClaim") .nil))) .nil)))))) (.cons (.set 1 (.bin .add (.var 1) (.lst (.cons (.tup (.cons (.cS "family") (.cons (.isx (.var 0) "NotFamily") .nil))) (.cons (.tup (.cons (.cS "paper") (.cons (.isx (.var 0) "NotPaper") .nil))) (.cons (.tup (.cons (.cS "name") (.cons (.isx (.var 0) "NotName") .nil))) .nil)))))) (.cons (.set 1 (.bin .add (.var 1) (.lst (.cons (.tup (.cons (.cS "picture") (.cons (.isx (.var 0) "NotPicture") .nil))) (.cons (.tup (.cons (.cS "grid") (.cons (.isx (.var 0) "NotGrid") .nil))) .nil))))) (.cons (.set 1 (.bin .add (.var 1) (.lst (.cons (.tup (.cons (.cS "unlike") (.cons (.isx (.var 0) "Unlike") .nil))) (.cons (.tup (.cons (.cS "empty") (.cons (.isx (.var 0) "Empty") .nil))) .nil))))) (.cons (.set 1 (.bin .add (.var 1) (.lst (.cons (.tup (.cons (.cS "endless") (.cons (.isx (.var 0) "Endless") .nil))) (.cons (.tup (.cons (.cS "great") (.cons (.isx (.var 0) "TooGreat") .nil))) .nil))))) (.cons (.ifs (.tor (.tnot (.tv (.isx (.var 0) "FontError"))) (.tnot (.tv (.isx (.var 0) "ValueError")))) (.cons (.ret (.lst .nil)) .nil) .nil) (.cons (.ret (.comp [("word_so", 2), ("is_one", 3)] (.var 2) (.tt (.cons (.tn 2) (.cons (.tn 3) .nil))) (.seq (.var 1)) (.cons (.tv (.var 3)) .nil))) .nil)))))))))
def d__law_kinds : Df := { name := "_law_kinds", qual := "_law_kinds", ps := ["error"], params := defArgs (top 46), body := defBody (top 46), scope := defScope (top 46), N := ["error", "found", "word_so", "is_one"], F := ⟨1, 4, n__law_kinds⟩ }
def n__law_errors_right : N := (.cons (.set 0 (.lst (.cons (.tup (.cons (.mkx "NotNumber" ["NotNumber", "FontError", "ValueError"] ["value"] false .nil (.cons (.tup (.cons (.cI 1) (.cons (.cI 0) .nil))) .nil)) (.cons (.cS "number") .nil))) (.cons (.tup (.cons (.mkx "NotRow" ["NotRow", "FontError", "ValueError"] ["place"] false .nil (.cons (.neg (.cI 2)) .nil)) (.cons (.cS "row") .nil))) (.cons (.tup (.cons (.mkx "NotPoint" ["NotPoint", "FontError", "ValueError"] ["place"] false .nil (.cons (.cI 3) .nil)) (.cons (.cS "point") .nil))) (.cons (.tup (.cons (.mkx "NotFormula" ["NotFormula", "FontError", "ValueError"] ["path"] false (.cons (.tup (.cons (.cI 1) (.cons (.cI 2) .nil))) .nil) .nil) (.cons (.cS "formula") .nil))) .nil)))))) (.cons (.set 0 (.bin .add (.var 0) (.lst (.cons (.tup (.cons (.mkx "NotText" ["NotText", "FontError", "ValueError"] ["line", "word"] true .nil (.cons (.cI 4) (.cons .cN .nil))) (.cons (.cS "text") .nil))) (.cons (.tup (.cons (.mkx "NotFont" ["NotFont", "FontError", "ValueError"] ["name"] false .nil (.cons (.tup (.cons (.cS "gap") (.cons (.cI 0) .nil))) .nil)) (.cons (.cS "font") .nil))) (.cons (.tup (.cons (.mkx "NotSystem" ["NotSystem", "FontError", "ValueError"] ["number"] false .nil (.cons (.cI 5) .nil)) (.cons (.cS "system") .nil))) (.cons (.tup (.cons (.mkx "NotClaim" ["NotClaim", "FontError", "ValueError"] ["path"] false .nil (.cons (.tup (.cons (.cI 1) .nil)) .nil)) (.cons (.cS "claim") .nil))) .nil))))))) (.cons (.set 0 (.bin .add (.var 0) (.lst (.cons (.tup (.cons (.mkx "NotFamily" ["NotFamily", "FontError", "ValueError"] ["place"] false .nil (.cons (.neg (.cI 1)) .nil)) (.cons (.cS "family") .nil))) (.cons (.tup (.cons (.mkx "NotPaper" ["NotPaper", "FontError", "ValueError"] ["path"] false .nil (.cons (.tup .nil) .nil)) (.cons (.cS "paper") .nil))) (.cons (.tup (.cons (.mkx "NotName" ["NotName", "FontError", "ValueError"] ["name"] false .nil (.cons (.lst (.cons (.cS "a") .nil)) .nil)) (.cons (.cS "name") .nil))) (.cons (.tup (.cons (.mkx "NotPicture" ["NotPicture", "FontError", "ValueError"] ["number"] false .nil (.cons (.cI 7) .nil)) (.cons (.cS "picture") .nil))) .nil))))))) (.cons (.set 0 (.bin .add (.var 0) (.lst (.cons (.tup (.cons (.mkx "NotGrid" ["NotGrid", "FontError", "ValueError"] ["number"] false (.cons (.cI 2) .nil) .nil) (.cons (.cS "grid") .nil))) (.cons (.tup (.cons (.mkx "Unlike" ["Unlike", "FontError", "ValueError"] [] false .nil .nil) (.cons (.cS "unlike") .nil))) (.cons (.tup (.cons (.mkx "Empty" ["Empty", "FontError", "ValueError"] [] false .nil .nil) (.cons (.cS "empty") .nil))) (.cons (.tup (.cons (.mkx "Endless" ["Endless", "FontError", "ValueError"] [] false .nil .nil) (.cons (.cS "endless") .nil))) (.cons (.tup (.cons (.mkx "TooGreat" ["TooGreat", "FontError", "ValueError"] ["most"] false .nil (.cons (.cI 400) .nil)) (.cons (.cS "great") .nil))) .nil)))))))) (.cons (.ifs (.cmp .ne (.comp [("error", 2), ("word_so", 3)] (.cI 1) (.tt (.cons (.tn 2) (.cons (.tn 3) .nil))) (.seq (.var 0)) (.cons (.cmp .ne (.call "_law_kinds" (.cons (.var 2) .nil) .nil [0]) (.lst (.cons (.var 3) .nil))) .nil)) (.lst .nil)) (.cons (.ret (.cB false)) .nil) .nil) (.cons (.set 1 (.lst (.cons (.fld (.idx (.idx (.var 0) (.cI 0)) (.cI 0)) "value") (.cons (.fld (.idx (.idx (.var 0) (.cI 1)) (.cI 0)) "place") (.cons (.fld (.idx (.idx (.var 0) (.cI 2)) (.cI 0)) "place") (.cons (.fld (.idx (.idx (.var 0) (.cI 3)) (.cI 0)) "path") (.cons (.fld (.idx (.idx (.var 0) (.cI 4)) (.cI 0)) "line") (.cons (.fld (.idx (.idx (.var 0) (.cI 4)) (.cI 0)) "word") .nil)))))))) (.cons (.set 1 (.bin .add (.var 1) (.lst (.cons (.fld (.idx (.idx (.var 0) (.cI 5)) (.cI 0)) "name") (.cons (.fld (.idx (.idx (.var 0) (.cI 6)) (.cI 0)) "number") (.cons (.fld (.idx (.idx (.var 0) (.cI 7)) (.cI 0)) "path") (.cons (.fld (.idx (.idx (.var 0) (.cI 8)) (.cI 0)) "place") (.cons (.fld (.idx (.idx (.var 0) (.cI 9)) (.cI 0)) "path") (.cons (.fld (.idx (.idx (.var 0) (.cI 10)) (.cI 0)) "name") .nil))))))))) (.cons (.set 1 (.bin .add (.var 1) (.lst (.cons (.fld (.idx (.idx (.var 0) (.cI 11)) (.cI 0)) "number") (.cons (.fld (.idx (.idx (.var 0) (.cI 12)) (.cI 0)) "number") (.cons (.fld (.idx (.idx (.var 0) (.cI 16)) (.cI 0)) "most") .nil)))))) (.cons (.ret (.call "_law_like" (.cons (.var 1) (.cons (.lst (.cons (.tup (.cons (.cI 1) (.cons (.cI 0) .nil))) (.cons (.neg (.cI 2)) (.cons (.cI 3) (.cons (.tup (.cons (.cI 1) (.cons (.cI 2) .nil))) (.cons .cN (.cons (.cI 4) (.cons (.tup (.cons (.cS "gap") (.cons (.cI 0) .nil))) (.cons (.cI 5) (.cons (.tup (.cons (.cI 1) .nil)) (.cons (.neg (.cI 1)) (.cons (.tup .nil) (.cons (.lst (.cons (.cS "a") .nil)) (.cons (.cI 7) (.cons (.cI 2) (.cons (.cI 400) .nil)))))))))))))))) .nil)) .nil [0, 1])) .nil)))))))))
def d__law_errors_right : Df := { name := "_law_errors_right", qual := "_law_errors_right", ps := [], params := defArgs (top 47), body := defBody (top 47), scope := defScope (top 47), N := ["some", "told", "error", "word_so"], F := ⟨0, 4, n__law_errors_right⟩ }
def n_law : N := (.cons (.ifs (.tor (.tnot (.tv (.call "_law_hand_right" .nil .nil []))) (.tnot (.tv (.call "_law_errors_right" .nil .nil [])))) (.cons (.ret (.cB false)) .nil) .nil) (.cons (.for_ (.tn 1) (.rng1 (.bi .max (.cons (.cI 2) (.cons (.bi .min (.cons (.bi .len (.cons (.var 0) .nil)) (.cons (.cI 4) .nil))) .nil)))) (.cons (.set 2 (.call "_law_begun" (.cons (.var 0) (.cons (.var 1) .nil)) .nil [0, 1])) (.cons (.for_ (.tn 3) (.rng1 (.cI 3)) (.cons (.ifs (.tor (.tnot (.tv (.call "_law_lowest_right" (.cons (.var 2) .nil) .nil [0]))) (.tnot (.tv (.call "_law_two_right" (.cons (.call "_law_pair" (.cons (.var 2) .nil) .nil [0]) (.cons (.call "_law_pair" (.cons (.var 2) .nil) .nil [0]) .nil)) .nil [0, 1])))) (.cons (.ret (.cB false)) .nil) .nil) .nil)) .nil))) (.cons (.ret (.cB true)) .nil)))
def d_law : Df := { name := "law", qual := "law", ps := ["script"], params := defArgs (top 48), body := defBody (top 48), scope := defScope (top 48), N := ["script", "k", "m", "turn"], F := ⟨1, 4, n_law⟩ }
def d__law_heard : Hd := { name := "_law_heard", qual := "_law_heard", params := defArgs (top 41), body := defBody (top 41), scope := defScope (top 41), a := "call", n := "caught", hs := [("NotNumber", "number")] }
def hds : List Hd := [d__law_heard]
def excs : List (PySem.Str × PySem.Str) := [("NotNumber", "value")]
def cons : Cn := { ci := [], cs := [], ct := [], bs := [], xc := [⟨"Empty", ["Empty", "FontError", "ValueError"], []⟩, ⟨"Endless", ["Endless", "FontError", "ValueError"], []⟩, ⟨"NotClaim", ["NotClaim", "FontError", "ValueError"], ["path"]⟩, ⟨"NotFamily", ["NotFamily", "FontError", "ValueError"], ["place"]⟩, ⟨"NotFont", ["NotFont", "FontError", "ValueError"], ["name"]⟩, ⟨"NotFormula", ["NotFormula", "FontError", "ValueError"], ["path"]⟩, ⟨"NotGrid", ["NotGrid", "FontError", "ValueError"], ["number"]⟩, ⟨"NotName", ["NotName", "FontError", "ValueError"], ["name"]⟩, ⟨"NotNumber", ["NotNumber", "FontError", "ValueError"], ["value"]⟩, ⟨"NotPaper", ["NotPaper", "FontError", "ValueError"], ["path"]⟩, ⟨"NotPicture", ["NotPicture", "FontError", "ValueError"], ["number"]⟩, ⟨"NotPoint", ["NotPoint", "FontError", "ValueError"], ["place"]⟩, ⟨"NotRow", ["NotRow", "FontError", "ValueError"], ["place"]⟩, ⟨"NotSystem", ["NotSystem", "FontError", "ValueError"], ["number"]⟩, ⟨"NotText", ["NotText", "FontError", "ValueError"], ["line", "word"]⟩, ⟨"TooGreat", ["TooGreat", "FontError", "ValueError"], ["most"]⟩, ⟨"Unlike", ["Unlike", "FontError", "ValueError"], []⟩], xi := ["Empty", "Endless", "FontError", "NotClaim", "NotFamily", "NotFont", "NotFormula", "NotGrid", "NotName", "NotNumber", "NotPaper", "NotPicture", "NotPoint", "NotRow", "NotSystem", "NotText", "TooGreat", "Unlike"] }
def lams : List PySem.Str := ["_law_two_right", "_law_lowest_right", "_law_hand_right"]
def defs : List Df := [d_is_integer, d_sign_of, d_check_fraction, d_lowest, d_added, d_minus, d_times, d_divided, d_halfway, d_compared, d__law_begun, d__law_draw, d__law_of, d__law_like, d__law_sign, d__law_common, d__law_lowered, d__law_fraction, d__law_integer, d__law_pair, d__law_two_right, d__law_lowest_right, d__law_hand_right, d__law_kinds, d__law_errors_right, d_law]
def free : List PySem.Str := ["ValueError", "abs", "bool", "int", "isinstance", "len", "list", "max", "min", "range", "repr", "str", "tuple"]
def isGcd : Bool := true
/-- the defs by name -/
def tab : Tab := fun x => (defs.find? fun d => decide (d.name = x)).map (·.F)
end K00

set_option maxHeartbeats 4000000
namespace K00
open Fx
theorem nd : (defs.map (·.name)).Nodup := by decide +kernel
abbrev T : Tab := tabOf defs
theorem T_is_integer : T "is_integer" = some ⟨1, 1, n_is_integer⟩ := tab_of nd (d := d_is_integer) (List.mem_of_getElem? (i := 0) rfl)
theorem T_sign_of : T "sign_of" = some ⟨1, 1, n_sign_of⟩ := tab_of nd (d := d_sign_of) (List.mem_of_getElem? (i := 1) rfl)
theorem T_check_fraction : T "check_fraction" = some ⟨1, 3, n_check_fraction⟩ := tab_of nd (d := d_check_fraction) (List.mem_of_getElem? (i := 2) rfl)
theorem T_lowest : T "lowest" = some ⟨2, 3, n_lowest⟩ := tab_of nd (d := d_lowest) (List.mem_of_getElem? (i := 3) rfl)
theorem T_added : T "added" = some ⟨2, 2, n_added⟩ := tab_of nd (d := d_added) (List.mem_of_getElem? (i := 4) rfl)
theorem T_minus : T "minus" = some ⟨2, 2, n_minus⟩ := tab_of nd (d := d_minus) (List.mem_of_getElem? (i := 5) rfl)
theorem T_times : T "times" = some ⟨2, 2, n_times⟩ := tab_of nd (d := d_times) (List.mem_of_getElem? (i := 6) rfl)
theorem T_divided : T "divided" = some ⟨2, 2, n_divided⟩ := tab_of nd (d := d_divided) (List.mem_of_getElem? (i := 7) rfl)
theorem T_halfway : T "halfway" = some ⟨2, 2, n_halfway⟩ := tab_of nd (d := d_halfway) (List.mem_of_getElem? (i := 8) rfl)
theorem T_compared : T "compared" = some ⟨2, 2, n_compared⟩ := tab_of nd (d := d_compared) (List.mem_of_getElem? (i := 9) rfl)
theorem T__law_begun : T "_law_begun" = some ⟨2, 6, n__law_begun⟩ := tab_of nd (d := d__law_begun) (List.mem_of_getElem? (i := 10) rfl)
theorem T__law_draw : T "_law_draw" = some ⟨2, 8, n__law_draw⟩ := tab_of nd (d := d__law_draw) (List.mem_of_getElem? (i := 11) rfl)
theorem T__law_of : T "_law_of" = some ⟨2, 2, n__law_of⟩ := tab_of nd (d := d__law_of) (List.mem_of_getElem? (i := 12) rfl)
theorem T__law_like : T "_law_like" = some ⟨2, 2, n__law_like⟩ := tab_of nd (d := d__law_like) (List.mem_of_getElem? (i := 13) rfl)
theorem T__law_sign : T "_law_sign" = some ⟨1, 1, n__law_sign⟩ := tab_of nd (d := d__law_sign) (List.mem_of_getElem? (i := 14) rfl)
theorem T__law_common : T "_law_common" = some ⟨1, 4, n__law_common⟩ := tab_of nd (d := d__law_common) (List.mem_of_getElem? (i := 15) rfl)
theorem T__law_lowered : T "_law_lowered" = some ⟨1, 3, n__law_lowered⟩ := tab_of nd (d := d__law_lowered) (List.mem_of_getElem? (i := 16) rfl)
theorem T__law_fraction : T "_law_fraction" = some ⟨2, 3, n__law_fraction⟩ := tab_of nd (d := d__law_fraction) (List.mem_of_getElem? (i := 17) rfl)
theorem T__law_integer : T "_law_integer" = some ⟨1, 3, n__law_integer⟩ := tab_of nd (d := d__law_integer) (List.mem_of_getElem? (i := 18) rfl)
theorem T__law_pair : T "_law_pair" = some ⟨1, 2, n__law_pair⟩ := tab_of nd (d := d__law_pair) (List.mem_of_getElem? (i := 19) rfl)
theorem T__law_two_right : T "_law_two_right" = some ⟨2, 8, n__law_two_right⟩ := tab_of nd (d := d__law_two_right) (List.mem_of_getElem? (i := 20) rfl)
theorem T__law_lowest_right : T "_law_lowest_right" = some ⟨1, 7, n__law_lowest_right⟩ := tab_of nd (d := d__law_lowest_right) (List.mem_of_getElem? (i := 21) rfl)
theorem T__law_hand_right : T "_law_hand_right" = some ⟨0, 3, n__law_hand_right⟩ := tab_of nd (d := d__law_hand_right) (List.mem_of_getElem? (i := 22) rfl)
theorem T__law_kinds : T "_law_kinds" = some ⟨1, 4, n__law_kinds⟩ := tab_of nd (d := d__law_kinds) (List.mem_of_getElem? (i := 23) rfl)
theorem T__law_errors_right : T "_law_errors_right" = some ⟨0, 4, n__law_errors_right⟩ := tab_of nd (d := d__law_errors_right) (List.mem_of_getElem? (i := 24) rfl)
theorem T_law : T "law" = some ⟨1, 4, n_law⟩ := tab_of nd (d := d_law) (List.mem_of_getElem? (i := 25) rfl)
end K00

set_option maxHeartbeats 0
namespace K00
open PySem PySem.Spec PyProof.Rows L2 Fx
def loose0 : List PySem.Str := ["FontError", "NotNumber", "NotPoint", "NotRow", "NotFormula", "NotFont", "NotFamily", "NotSystem", "NotClaim", "NotPicture", "NotText", "NotPaper", "NotName", "NotGrid", "Unlike"]
def loose1 : List PySem.Str := ["Empty", "Endless", "TooGreat", "is_integer", "sign_of", "check_fraction", "lowest", "added", "minus", "times", "divided", "halfway", "compared", "_law_begun", "_law_draw"]
def loose2 : List PySem.Str := ["_law_of", "_law_like", "_law_sign", "_law_common", "_law_lowered", "_law_fraction", "_law_integer", "_law_heard", "_law_pair", "_law_two_right", "_law_lowest_right", "_law_hand_right", "_law_kinds", "_law_errors_right"]
def loose : List PySem.Str := loose0 ++ loose1 ++ loose2
abbrev RR : PySem.W.OpenRow := PySem.W.OpenLaw.row PySem.Challenge.rw_everyfont_k00_numbers_and_errors
abbrev hk : PySem.W.Hook := hookX 4 (factsOf defs hds free) (ddsOf defs hds) (word isGcd RR.prog.main.file excs lams cons)
def ob (s : PySem.W.SharedT) : Bool × He.AlD := obX 4 (factsOf defs hds free) (ddsOf defs hds) (word isGcd RR.prog.main.file excs lams cons) s
theorem run1 (w : World) : (HandSHeadRun.wholeF (fun p => HandSHeadRun.stepQ (HandSHeadRun.denQ HandSHeadRun.tabQ) p w) HandSHeadRun.fenceQ 6000 RR.prog).map (fun x => (HandSHeadRun.looksF RR.prog x.1.heap x.2.abs, HandSHeadRun.seenQ (PySem.W.view RR.prog [0, 48]) loose (importedModules RR.prog.main.body) (fun s => PySem.W.xlAt (PySem.W.view RR.prog [0, 48]) [] s && PySem.W.recOk RR.toRowW.records s) x.2.abs)) = some ((true, PySem.W.openGood (PySem.W.view RR.prog [0, 48]) loose)) := by
  kernel_rfl
theorem run2 (w : World) : (HandSHeadRun.wholeF (fun p => HandSHeadRun.stepQ (HandSHeadRun.denQ HandSHeadRun.tabQ) p w) HandSHeadRun.fenceQ 6000 RR.prog).map (fun x => (ob x.2).1) = some (true) := by
  kernel_rfl
theorem run3 (w : World) : (HandSHeadRun.wholeF (fun p => HandSHeadRun.stepQ (HandSHeadRun.denQ HandSHeadRun.tabQ) p w) HandSHeadRun.fenceQ 6000 RR.prog).map (fun x => (ob x.2).2) = some (He.valD (ddsOf defs hds)) := by
  kernel_rfl
theorem run (w : World) : HandSHeadRun.RunEqI RR (PySem.W.view RR.prog [0, 48]) hk ob 6000 loose w := by
  unfold HandSHeadRun.RunEqI
  have h1 := run1 w
  have h2 := run2 w
  have h3 := run3 w
  generalize HandSHeadRun.wholeF (fun p => HandSHeadRun.stepQ (HandSHeadRun.denQ HandSHeadRun.tabQ) p w) HandSHeadRun.fenceQ 6000 RR.prog = o at h1 h2 h3 ⊢
  cases o with
  | none => cases h1
  | some x =>
    have e1 := Option.some.inj h1
    have e2 := Option.some.inj h2
    have e3 := Option.some.inj h3
    have p1 := (Prod.mk.inj e1).1
    have p2 := (Prod.mk.inj e1).2
    have q : ob x.2 = (true, He.valD (ddsOf defs hds)) := Prod.ext e2 e3
    show some (_, _, ob x.2) = _
    rw [q, p1, p2]
    rfl
end K00

set_option maxHeartbeats 4000000
namespace K00
open Fx
open PySem (Str)
variable {wf k : Nat} {S : Store}
def sg (n : Int) : Int := if n = 0 then 0 else if 0 < n then 1 else -1
theorem s_sign_of (n : Int) : callF T wf (k + 1) "sign_of" [.int n] S = .ok (.int (sg n)) S := by
  rw [call_step T_sign_of rfl]
  unfold sg
  by_cases h : n = 0
  · simp [n_sign_of, startE, h]
  · by_cases h2 : 0 < n <;> simp [n_sign_of, startE, h, h2]
theorem s_is_integer (n : Int) : callF T wf (k + 1) "is_integer" [.int n] S = .ok (.bl true) S := by
  rw [call_step T_is_integer rfl]
  simp [n_is_integer, startE]
theorem c_low {C : Ev} {env : Env} {ns : List Int} {own : List (Str × Nat)} {i j g m : Nat} (hi : i < (wipeE env own).length) (hij : i ≠ j) (hj : (wipeE env own)[j]? = some (.val (.int (g : Int)))) (hg : 0 < g) (hb : Bd m (g : Int)) (hm : m ≤ 8000) (hl : ns.length ≤ lim) :
    compL (compF C own (.bin .fdiv (.var i) (.var j)) (.tn i) .nil env) (ns.map D.int) [] S = .ok (ns.map fun n => D.int (n.fdiv g)) S := by
  have := compL_map (emb := D.int) (g := fun n : Int => D.int (n.fdiv g)) (f := compF C own (.bin .fdiv (.var i) (.var j)) (.tn i) .nil env) (S := S) (l := ns) (acc := []) (fun n _ => ?_) (by simpa using hl)
  · simpa using this
  · have h1 : ((wipeE env own).set i (.val (.int n)))[i]? = some (.val (.int n)) := List.getElem?_set_self hi
    have h2 : ((wipeE env own).set i (.val (.int n)))[j]? = some (.val (.int (g : Int))) := by rw [List.getElem?_set_ne hij]; exact hj
    simp [compF, hi, h1, h2, div_bin hb (by omega) hm]
theorem low2 {t b : Int} (hb : 0 < b) : low [t, b] = [t.fdiv (Nat.gcd t.natAbs b.natAbs : Nat), b.fdiv (Nat.gcd t.natAbs b.natAbs : Nat)] := by
  have e : gcdL [t, b] = Nat.gcd t.natAbs b.natAbs := by
    show Nat.gcd (Nat.gcd 0 t.natAbs) b.natAbs = _
    rw [Nat.gcd_zero_left]
  have hp : 0 < Nat.gcd t.natAbs b.natAbs := Nat.gcd_pos_of_pos_right _ (by omega)
  unfold low
  rw [e]
  split
  · have e1 : Nat.gcd t.natAbs b.natAbs = 1 := by omega
    rw [e1]
    simp
  · rfl
theorem s_lowest {t b : Int} {m : Nat} (hb : 0 < b) (h : Bd m b) (hm : m ≤ 8000) : callF T wf (k + 1) "lowest" [.int t, .int b] S = .ok (V (low [t, b])) S := by
  rw [call_step T_lowest rfl, low2 hb]
  have hp : 0 < Nat.gcd t.natAbs b.natAbs := Nat.gcd_pos_of_pos_right _ (by omega)
  have hd : Bd m ((Nat.gcd t.natAbs b.natAbs : Nat) : Int) := by
    unfold Bd at *
    rw [Int.natAbs_natCast]
    exact Nat.lt_of_le_of_lt (Nat.le_of_dvd (by omega) (Nat.gcd_dvd_right _ _)) h
  have h0 : ¬ b = 0 := by omega
  have h1 : ¬ b < 0 := by omega
  simp [n_lowest, startE, h0, h1, div_bin hd (by omega) hm]
theorem sl_1 {ns : List Int} {b : Int} : slD (V (ns ++ [b])) none (some (-1)) = some (V ns) := by
  show some (D.tup (cutD ((ns ++ [b]).map D.int) none (some (-1)))) = _
  rw [List.map_append]
  exact congrArg (fun z => some (D.tup z)) cut_1
theorem ix_1 {ns : List Int} {b : Int} : ixD (V (ns ++ [b])) (.int (-1)) = some (.int b) := by
  show L2.atI ((ns ++ [b]).map D.int) (-1) = _
  rw [List.map_append]
  exact at_1
end K00

set_option maxHeartbeats 4000000
namespace K00
open Fx
open PySem (Str)
variable {wf k : Nat} {S : Store}
theorem fmod_nat {f r : Nat} : ((f : Nat) : Int).fmod ((r : Nat) : Int) = ((f % r : Nat) : Int) := by
  rw [Int.fmod_eq_emod_of_nonneg _ (by omega)]
  rfl
abbrev wB : N := .cons (.par 1 3 (.var 3) (.bin .mod (.bi .int (.cons (.var 1) .nil)) (.var 3))) .nil
theorem l_euclid {C : Ev} (v x : Sl) : ∀ (n f r fuel : Nat), r < 2 ^ n → 2 * n + 1 ≤ fuel →
    whileL (evT C (.cmp .ne (.var 3) (.cI 0))) (exec C wB) fuel [v, .val (.int (f : Int)), x, .val (.int (r : Int))] S = .ok (.nx [v, .val (.int (Nat.gcd f r : Nat)), x, .val (.int 0)]) S
  | n, f, 0, fuel + 1, _, _ => by
    unfold whileL
    simp
  | 0, f, r + 1, fuel, h, _ => by
    exfalso
    simp at h
  | n + 1, f, r + 1, 0, h, hf => by omega
  | n + 1, f, r + 1, 1, h, hf => by omega
  | n + 1, f, r + 1, fuel + 2, h, hf => by
    have e1 : (((r + 1 : Nat) : Int) == 0) = false := by
      have : ((r + 1 : Nat) : Int) ≠ 0 := by omega
      simpa using this
    have m1 : binOp .mod (.int (f : Int)) (.int ((r + 1 : Nat) : Int)) = some (.int ((f % (r + 1) : Nat) : Int)) := by
      rw [mod_bin (by omega), fmod_nat]
    have one : ∀ fuel, whileL (evT C (.cmp .ne (.var 3) (.cI 0))) (exec C wB) (fuel + 1) [v, .val (.int (f : Int)), x, .val (.int ((r + 1 : Nat) : Int))] S = whileL (evT C (.cmp .ne (.var 3) (.cI 0))) (exec C wB) fuel [v, .val (.int ((r + 1 : Nat) : Int)), x, .val (.int ((f % (r + 1) : Nat) : Int))] S := fun fuel => by
      rw [whileL]
      simp only [evT_cmp, ev_var (i := 3) (env := [v, .val (.int (f : Int)), x, .val (.int ((r + 1 : Nat) : Int))]) rfl, Res.bind_ok, ev_cI, cmp_ne, e1, ofO_some, Bool.not_false, if_true]
      simp only [wB, ex_cons, ex_par, ev_var (i := 3) (env := [v, .val (.int (f : Int)), x, .val (.int ((r + 1 : Nat) : Int))]) rfl, ev_bin, ev_bi, evs_cons_, evs_nil, ev_var (i := 1) (env := [v, .val (.int (f : Int)), x, .val (.int ((r + 1 : Nat) : Int))]) rfl, Res.bind_ok, bi_int, ofO_some, m1]
      simp
    rw [one]
    have g1 : Nat.gcd f (r + 1) = Nat.gcd (r + 1) (f % (r + 1)) := by rw [Nat.gcd_comm f, Nat.gcd_rec, Nat.gcd_comm]
    rw [g1]
    have hlt : f % (r + 1) < r + 1 := Nat.mod_lt _ (by omega)
    generalize hs : f % (r + 1) = s at hlt
    cases s with
    | zero => exact l_euclid v x 0 (r + 1) 0 (fuel + 1) (by decide) (by omega)
    | succ s =>
      have e2 : (((s + 1 : Nat) : Int) == 0) = false := by
        have : ((s + 1 : Nat) : Int) ≠ 0 := by omega
        simpa using this
      have m2 : binOp .mod (.int ((r + 1 : Nat) : Int)) (.int ((s + 1 : Nat) : Int)) = some (.int (((r + 1) % (s + 1) : Nat) : Int)) := by
        rw [mod_bin (by omega), fmod_nat]
      have two : whileL (evT C (.cmp .ne (.var 3) (.cI 0))) (exec C wB) (fuel + 1) [v, .val (.int ((r + 1 : Nat) : Int)), x, .val (.int ((s + 1 : Nat) : Int))] S = whileL (evT C (.cmp .ne (.var 3) (.cI 0))) (exec C wB) fuel [v, .val (.int ((s + 1 : Nat) : Int)), x, .val (.int (((r + 1) % (s + 1) : Nat) : Int))] S := by
        rw [whileL]
        simp only [evT_cmp, ev_var (i := 3) (env := [v, .val (.int ((r + 1 : Nat) : Int)), x, .val (.int ((s + 1 : Nat) : Int))]) rfl, Res.bind_ok, ev_cI, cmp_ne, e2, ofO_some, Bool.not_false, if_true]
        simp only [wB, ex_cons, ex_par, ev_var (i := 3) (env := [v, .val (.int ((r + 1 : Nat) : Int)), x, .val (.int ((s + 1 : Nat) : Int))]) rfl, ev_bin, ev_bi, evs_cons_, evs_nil, ev_var (i := 1) (env := [v, .val (.int ((r + 1 : Nat) : Int)), x, .val (.int ((s + 1 : Nat) : Int))]) rfl, Res.bind_ok, bi_int, ofO_some, m2]
        simp
      rw [two]
      have g2 : Nat.gcd (r + 1) (s + 1) = Nat.gcd (s + 1) ((r + 1) % (s + 1)) := by rw [Nat.gcd_comm (r + 1), Nat.gcd_rec, Nat.gcd_comm]
      rw [g2]
      have h3 : (r + 1) % (s + 1) < s + 1 := Nat.mod_lt _ (by omega)
      have h4 : (r + 1) % (s + 1) + (s + 1) ≤ r + 1 := by
        have := Nat.div_add_mod (r + 1) (s + 1)
        have hq : 1 ≤ (r + 1) / (s + 1) := (Nat.le_div_iff_mul_le (by omega)).mpr (by omega)
        have := Nat.mul_le_mul_left (s + 1) hq
        omega
      refine l_euclid v x n (s + 1) ((r + 1) % (s + 1)) fuel ?_ (by omega)
      rw [Nat.pow_succ] at h
      omega
end K00

set_option maxHeartbeats 4000000
namespace K00
open Fx
open PySem (Str)
variable {wf k : Nat} {S : Store}
theorem abs_nat {n : Int} : (if n < 0 then -n else n) = ((n.natAbs : Nat) : Int) := by split <;> omega
theorem l__law_common {C : Ev} (v : Sl) {m : Nat} (hw : 2 * m + 1 ≤ C.wf) : ∀ (ns : List Int) (f : Nat) (x y : Sl), BdL m ns → ∃ x' y', forL (forF C (.tn 2) (.cons (.set 3 (.bi .abs (.cons (.var 2) .nil))) (.cons (.whl (.cmp .ne (.var 3) (.cI 0)) wB) .nil))) (ns.map D.int) [v, .val (.int (f : Int)), x, y] S = .ok (.nx [v, .val (.int (gcdF f ns : Nat)), x', y']) S
  | [], f, x, y, _ => ⟨x, y, rfl⟩
  | n :: ns, f, x, y, h => by
    obtain ⟨x', y', ih⟩ := l__law_common (C := C) (m := m) v hw ns (Nat.gcd f n.natAbs) (.val (.int n)) (.val (.int 0)) (fun a ha => h a (List.mem_cons_of_mem _ ha))
    refine ⟨x', y', ?_⟩
    have e := l_euclid (C := C) (S := S) v (.val (.int n)) m f n.natAbs C.wf (h n List.mem_cons_self) hw
    rw [List.map_cons, forL_cons]
    simp only [forF, bindT_tn, List.length_cons, List.length_nil]
    simp [abs_nat, e]
    exact ih
theorem s__law_common {d : D} {ns : List Int} {m : Nat} (h : seqD d = some (ns.map D.int)) (hb : BdL m ns) (hw : 2 * m + 1 ≤ wf) : callF T wf (k + 1) "_law_common" [d] S = .ok (.int (gcdL ns : Nat)) S := by
  rw [call_step T__law_common rfl]
  obtain ⟨x, y, e⟩ := l__law_common (C := ⟨callF T wf k, callM T wf k true, wf⟩) (S := S) (.val d) hw ns 0 .un .un hb
  rw [show ((0 : Nat) : Int) = 0 from rfl] at e
  simp only [wB] at e
  simp [n__law_common, startE, h, e, gcdL]
theorem s__law_lowered {d : D} {ns : List Int} {m : Nat} (h : d = V ns ∨ d = L ns) (hb : BdL m ns) (hm : m ≤ 8000) (hw : 2 * m + 1 ≤ wf) (hl : ns.length ≤ lim) : callF T wf (k + 2) "_law_lowered" [d] S = .ok (V (low ns)) S := by
  have hd : seqD d = some (ns.map D.int) := by rcases h with rfl | rfl <;> rfl
  have ht : biOp .tuple [d] = some (V ns) := by rcases h with rfl | rfl <;> rfl
  rw [call_step T__law_lowered rfl]
  have e := s__law_common (wf := wf) (k := k) (S := S) hd hb hw
  unfold low
  by_cases h2 : gcdL ns < 2
  · have h3 : ¬ 1 < ((gcdL ns : Nat) : Int) := by omega
    simp [n__law_lowered, startE, pickIx, e, h2, h3, ht]
  · have h3 : 1 < ((gcdL ns : Nat) : Int) := by omega
    have c := c_low (C := ⟨callF T wf (k + 1), callM T wf (k + 1) true, wf⟩) (S := S) (env := [.val d, .val (.int (gcdL ns : Nat)), .un]) (own := [("number_so", 2)]) (i := 2) (j := 1) (ns := ns) (by simp [wipeE]) (by decide) (by simp [wipeE]) (by omega) (gcdL_bd' hb) hm hl
    simp [n__law_lowered, startE, pickIx, e, h2, h3, hd, c]
theorem s__law_fraction {t b : Int} {m : Nat} (hb : 0 < b) (ht : Bd m t) (h : Bd m b) (hm : m ≤ 8000) (hw : 2 * m + 1 ≤ wf) : callF T wf (k + 3) "_law_fraction" [.int t, .int b] S = .ok (V (low [t, b])) S := by
  rw [call_step T__law_fraction rfl]
  have e := s__law_lowered (wf := wf) (k := k) (S := S) (d := L [t, b]) (.inr rfl) (m := m) (fun x hx => by
    rcases List.mem_cons.mp hx with rfl | hx
    · exact ht
    · rw [List.mem_singleton.mp hx]; exact h) hm hw (by simp [lim])
  simp only [L, List.map_cons, List.map_nil] at e
  simp [n__law_fraction, startE, pickIx, e, hb]
theorem add_lst {xs ys : List D} (h : xs.length + ys.length ≤ lim) : binOp .add (.lst xs) (.lst ys) = some (.lst (xs ++ ys)) := if_pos h
end K00

set_option maxHeartbeats 4000000
namespace K00
open Fx
open PySem (Str)
variable {wf k : Nat} {S : Store}
theorem q_lowest {t b : Int} {m : Nat} (hb : 0 < b) (h : Bd m b) (hm : m ≤ 8000) : callF T wf (k + 1) "lowest" [.int t, .int b] S = .ok (fr (Rat.divInt t b)) S := by
  rw [s_lowest hb h hm, low_fr hb]
end K00

set_option maxHeartbeats 4000000
namespace K00
open Fx
open PySem (Str)
variable {wf k : Nat} {S : Store}
theorem mapT {xs : List Int} {b t l : Int} : (xs.map (t * ·)).map (fun z => Rat.divInt z (l * b)) = (xs.map fun x => Rat.divInt x b).map (Rat.divInt t l * ·) := by
  rw [List.map_map, List.map_map]
  refine List.map_congr_left fun x _ => ?_
  show Rat.divInt (t * x) (l * b) = Rat.divInt t l * Rat.divInt x b
  rw [Rat.divInt_mul_divInt]
theorem at0 {a b : D} : ixD (.tup [a, b]) (.int 0) = some a := rfl
theorem at1 {a b : D} : ixD (.tup [a, b]) (.int 1) = some b := rfl
theorem flat_rep {d : D} : ∀ {n : Nat}, (List.replicate n [d]).flatten = List.replicate n d
  | 0 => rfl
  | n + 1 => by rw [List.replicate_succ, List.flatten_cons, flat_rep, List.replicate_succ]; rfl
theorem mul_eq {xs : List D} {j : Int} : binOp .mul (.lst xs) (.int j) = if -(2 ^ 63) ≤ j ∧ j < 2 ^ 63 ∧ xs.length * j.toNat ≤ lim then some (.lst (List.replicate j.toNat xs).flatten) else none := by
  rw [binOp]
theorem mul_rep {d : D} {n : Nat} (hn : n ≤ 1000000) : binOp .mul (.lst [d]) (.int (n : Int)) = some (.lst (List.replicate n d)) := by
  rw [mul_eq, if_pos, Int.toNat_natCast, flat_rep]
  rw [List.length_singleton, Int.toNat_natCast]
  unfold lim
  omega
end K00

set_option maxHeartbeats 4000000
namespace K00
open Fx
open PySem (Str)
variable {wf k : Nat} {S : Store}
theorem cn1 (q : Rat) : cn [q] = [q.num, (q.den : Int)] := by
  refine (cn_eq (R := [q.num, (q.den : Int)]) ⟨[q.num], (q.den : Int), rfl, ?_, ?_, ?_⟩).symm
  · have := q.den_pos; omega
  · show Nat.gcd (Nat.gcd 0 q.num.natAbs) ((q.den : Int)).natAbs = 1
    rw [Nat.gcd_zero_left, Int.natAbs_natCast]
    exact q.reduced
  · simp [Rat.num_divInt_den]
theorem fr_eq (q : Rat) : fr q = .tup [.int q.num, .int (q.den : Int)] := by
  unfold fr
  rw [cn1]
  rfl
theorem Bq1 {m : Nat} {q : Rat} (h : Bq m [q]) : Bd m q.num ∧ Bd m (q.den : Int) := by
  unfold Bq at h
  rw [cn1] at h
  exact ⟨h _ (by simp), h _ (by simp)⟩
theorem Bq_mem {m : Nat} {qs : List Rat} (h : Bq m qs) {q : Rat} (hq : q ∈ qs) : Bq m [q] := by
  obtain ⟨xs, b, e1, hb, _, rfl⟩ := cn_ex qs
  obtain ⟨x, hx, rfl⟩ := List.mem_map.mp hq
  unfold Bq at h
  rw [e1] at h
  refine Bq.of (xs := [x]) hb fun y hy => ?_
  rcases List.mem_append.mp hy with hy | hy
  · rw [List.mem_singleton.mp hy]; exact h x (List.mem_append_left _ hx)
  · rw [List.mem_singleton.mp hy]; exact h b (by simp)
end K00

set_option maxHeartbeats 4000000
namespace K00
open Fx
open PySem (Str)
variable {wf k : Nat} {S : Store}
def mD (l s : Int) (cs : List Int) (sp : Nat) : Cell := .dct [(keyStr "left", .int l), (keyStr "seed", .int s), (keyStr "cells", D.lst (cs.map D.int)), (keyStr "spot", .int (sp : Int))]
section
variable {n sp : Nat} {l s : Int} {cs : List Int}
theorem g_left (h : S[n]? = some (mD l s cs sp)) : dGet (.ref n) "left" S = some (.int l) := by
  unfold dGet
  simp only [h]
  rfl
theorem g_seed (h : S[n]? = some (mD l s cs sp)) : dGet (.ref n) "seed" S = some (.int s) := by
  unfold dGet
  simp only [h]
  rfl
theorem g_cells (h : S[n]? = some (mD l s cs sp)) : dGet (.ref n) "cells" S = some (.lst (cs.map D.int)) := by
  unfold dGet
  simp only [h]
  rfl
theorem g_spot (h : S[n]? = some (mD l s cs sp)) : dGet (.ref n) "spot" S = some (.int (sp : Int)) := by
  unfold dGet
  simp only [h]
  rfl
theorem p_left {l' : Int} (h : S[n]? = some (mD l s cs sp)) : dPut (.ref n) "left" (.int l') S = some (S.set n (mD l' s cs sp)) := by
  unfold dPut
  simp only [h]
  rfl
theorem p_spot {sp' : Int} (h : S[n]? = some (mD l s cs sp)) : dPut (.ref n) "spot" (.int sp') S = some (S.set n (.dct [(keyStr "left", .int l), (keyStr "seed", .int s), (keyStr "cells", D.lst (cs.map D.int)), (keyStr "spot", .int sp')])) := by
  unfold dPut
  simp only [h]
  rfl
end
/-- the drawing dict -/
def MOk (S : Store) (n j : Nat) : Prop := ∃ l s cs sp, S[n]? = some (mD l s cs sp) ∧ cs ≠ [] ∧ sp ≤ j
theorem MOk.set {n j : Nat} {l s : Int} {cs : List Int} {sp : Nat} (hn : n < S.length) (hc : cs ≠ []) (h : sp ≤ j) : MOk (S.set n (mD l s cs sp)) n j := ⟨l, s, cs, sp, by rw [List.getElem?_set_self hn], hc, h⟩
theorem mul_sm {i j : Int} (h : j.natAbs < 2 ^ 64) : binOp .mul (.int i) (.int j) = some (.int (i * j)) := by
  have e : mulOk i j = true := by
    unfold mulOk
    simp [h]
  show (if mulOk i j then some (D.int (i * j)) else none) = _
  rw [e]
  rfl
theorem mul_sm' {i j : Int} (h : i.natAbs < 2 ^ 64) : binOp .mul (.int i) (.int j) = some (.int (i * j)) := by
  have e : mulOk i j = true := by
    unfold mulOk
    simp [h]
  show (if mulOk i j then some (D.int (i * j)) else none) = _
  rw [e]
  rfl
theorem div_sm {i j : Int} (h : 0 < j) (h2 : j < 1024) : binOp .fdiv (.int i) (.int j) = some (.int (i.fdiv j)) := div_bin (n := 10) (by unfold Bd; omega) (by omega) (by decide)
theorem s__law_draw {n j : Nat} {b : Int} (hm : MOk S n j) (hj : j < 1000000) (hb : 0 < b) (hb2 : b < 1024) : ∃ r S', callF T wf (k + 1) "_law_draw" [.ref n, .int b] S = .ok (.int r) S' ∧ 0 ≤ r ∧ r < b ∧ MOk S' n (j + 1) := by
  obtain ⟨l, s, cs, sp, h, hc, hs⟩ := hm
  have hn := (List.getElem?_eq_some_iff.mp h).1
  rw [call_step T__law_draw rfl]
  by_cases hl : 0 < l
  · refine ⟨l.fmod b, S.set n (mD (l.fdiv b) s cs sp), ?_, Int.fmod_nonneg_of_pos _ hb, Int.fmod_lt_of_pos _ hb, .set hn hc (by omega)⟩
    simp [n__law_draw, startE, g_left h, hl, mod_bin (i := l) (show b ≠ 0 by omega), div_sm (i := l) hb hb2, p_left h]
  · have h1 : (S.set n (.dct [(keyStr "left", .int l), (keyStr "seed", .int s), (keyStr "cells", D.lst (cs.map D.int)), (keyStr "spot", .int ((sp : Int) + 1))]))[n]? = some (mD l s cs (sp + 1)) := by
      rw [List.getElem?_set_self hn]
      rfl
    have hpos : 0 < cs.length := List.length_pos_iff.mpr hc
    have i1 : binOp .mod (.int (sp : Int)) (.int (cs.length : Int)) = some (.int ((sp % cs.length : Nat) : Int)) := by
      rw [mod_bin (by omega), fmod_nat]
    have hlt : sp % cs.length < cs.length := Nat.mod_lt _ hpos
    have i2 : ixD (.lst (cs.map D.int)) (.int ((sp % cs.length : Nat) : Int)) = some (.int cs[sp % cs.length]) := at_nat (by rw [List.getElem?_map, List.getElem?_eq_getElem hlt]; rfl)
    generalize cs[sp % cs.length] = c at i2
    generalize ((sp % cs.length : Nat) : Int) = I at i1 i2
    generalize hS : S.set n (.dct [(keyStr "left", .int l), (keyStr "seed", .int s), (keyStr "cells", D.lst (cs.map D.int)), (keyStr "spot", .int ((sp : Int) + 1))]) = S1 at h1
    have ps := p_spot (sp' := (sp : Int) + 1) h
    rw [hS] at ps
    have ln : biOp .len [.lst (cs.map D.int)] = some (.int (cs.length : Int)) := by
      show some (D.int ((cs.map D.int).length : Nat)) = _
      rw [List.length_map]
    have m1 := mul_sm' (i := 40503) (j := (sp : Int)) (by decide)
    have m2 := mul_sm (i := 40503 * (sp : Int)) (j := (sp : Int)) (by omega)
    have m3 := mul_sm' (i := 2) (j := (sp : Int)) (by decide)
    have m4 := mul_sm (i := c) (j := 2 * (sp : Int) + 3) (by omega)
    have q1 := mod_bin (i := c * (2 * (sp : Int) + 3) + (s + 40503 * (sp : Int) * (sp : Int))) (j := 2147483647) (by decide)
    generalize hb1 : (c * (2 * (sp : Int) + 3) + (s + 40503 * (sp : Int) * (sp : Int))).fmod 2147483647 = B1 at q1
    have r1 : 0 ≤ B1 ∧ B1 < 2147483647 := by
      rw [← hb1]
      exact ⟨Int.fmod_nonneg_of_pos _ (by decide), Int.fmod_lt_of_pos _ (by decide)⟩
    have m5 := mul_sm (i := B1) (j := B1) (by omega)
    have m6 := mul_sm' (i := 69621) (j := (sp : Int)) (by decide)
    have q2 := mod_bin (i := B1 * B1 + 69621 * (sp : Int) + s) (j := 2147483629) (by decide)
    generalize hb2' : (B1 * B1 + 69621 * (sp : Int) + s).fmod 2147483629 = B2 at q2
    have m7 := mul_sm (i := B2) (j := 48271) (by decide)
    have q3 := mod_bin (i := B2 * 48271 + (sp : Int)) (j := 2147483647) (by decide)
    have q4 := div_sm (i := (B2 * 48271 + (sp : Int)).fmod 2147483647) (j := 11) (by decide) (by decide)
    have q5 := mod_bin (i := ((B2 * 48271 + (sp : Int)).fmod 2147483647).fdiv 11) (show b ≠ 0 by omega)
    refine ⟨(((B2 * 48271 + (sp : Int)).fmod 2147483647).fdiv 11).fmod b, S1, ?_, Int.fmod_nonneg_of_pos _ hb, Int.fmod_lt_of_pos _ hb, ⟨l, s, cs, sp + 1, h1, hc, by omega⟩⟩
    have gl := g_left h
    have gs := g_spot h
    have gc := g_cells h1
    have gd := g_seed h1
    simp [n__law_draw, startE, gl, hl, gs, ps, gc, gd, m1, m2, ln, i1, i2, m3, m4, q1, m5, m6, q2, m7, q3, q4, q5]
end K00

set_option maxHeartbeats 4000000
namespace K00
open Fx
open PySem (Str)
variable {wf k : Nat} {S : Store}
theorem pys_ints : ∀ {ns : List Int}, D.pys (ns.map D.int) = some (ns.map PySem.PyData.int)
  | [] => rfl
  | n :: ns => by
    show (match (D.int n).py, D.pys (ns.map D.int) with | some p, some ps => some (p :: ps) | _, _ => none) = _
    rw [pys_ints]
    rfl
theorem lay_ints : ∀ {ns : List Int}, PySem.PyData.canLayAll0 (ns.map PySem.PyData.int) = true
  | [] => rfl
  | n :: ns => by
    show (true && PySem.PyData.canLayAll0 (ns.map PySem.PyData.int)) = true
    rw [lay_ints]
    rfl
theorem compL_fil {α : Type} {emb g : α → D} {p : α → Bool} {f : D → Store → Res (Option D)} : ∀ {l : List α} {acc : List D}, (∀ a ∈ l, f (emb a) S = .ok (if p a then some (g a) else none) S) → acc.length + l.length ≤ lim → compL f (l.map emb) acc S = .ok (acc ++ (l.filter p).map g) S
  | [], acc, _, _ => by simp [compL]
  | a :: l, acc, h, hl => by
    rw [List.map_cons]
    unfold compL
    rw [h a List.mem_cons_self]
    rw [List.length_cons] at hl
    cases hp : p a with
    | true =>
      rw [List.filter_cons_of_pos hp]
      show (if acc.length < lim then compL f (l.map emb) (acc ++ [g a]) S else .st) = _
      rw [if_pos (by omega), compL_fil (fun b hb => h b (List.mem_cons_of_mem _ hb)) (by rw [List.length_append, List.length_singleton]; omega)]
      simp
    | false =>
      rw [List.filter_cons_of_neg (by rw [hp]; decide)]
      show compL f (l.map emb) acc S = _
      exact compL_fil (fun b hb => h b (List.mem_cons_of_mem _ hb)) (by omega)
theorem cut_ints {ns : List Int} {lo hi : Option Int} : ∃ cs : List Int, slD (L ns) lo hi = some (L cs) ∧ cs.length ≤ ns.length := by
  refine ⟨(ns.drop (HT.sIx ns.length 0 lo)).take (HT.sIx ns.length ns.length hi - HT.sIx ns.length 0 lo), ?_, ?_⟩
  · show some (D.lst (cutD (ns.map D.int) lo hi)) = _
    unfold cutD
    rw [List.length_map, ← List.map_drop, ← List.map_take]
  · rw [List.length_take, List.length_drop]
    omega
theorem l_seed {C : Ev} {v0 v1 v2 v3 : Sl} : ∀ (cs : List Int) (s : Int) (x : Sl), ∃ s' y, forL (forF C (.tn 5) (.cons (.set 4 (.bin .mod (.bi .int (.cons (.bin .add (.bin .mul (.var 4) (.cI 48271)) (.var 5)) .nil)) (.cI 2147483647))) .nil)) (cs.map D.int) [v0, v1, v2, v3, .val (.int s), x] S = .ok (.nx [v0, v1, v2, v3, .val (.int s'), y]) S
  | [], s, x => ⟨s, x, rfl⟩
  | c :: cs, s, x => by
    obtain ⟨s', y, e⟩ := l_seed (C := C) (v0 := v0) (v1 := v1) (v2 := v2) (v3 := v3) cs ((s * 48271 + c).fmod 2147483647) (.val (.int c))
    refine ⟨s', y, ?_⟩
    have m := mul_sm (i := s) (j := 48271) (by decide)
    have q := mod_bin (i := s * 48271 + c) (j := 2147483647) (by decide)
    rw [List.map_cons, forL_cons]
    simp [forF, m, q]
    exact e
theorem pow_bin {i j : Int} (h : powOk i j = true) : binOp .pow (.int i) (.int j) = some (.int (i ^ j.toNat)) := by
  show (if powOk i j then some (D.int (i ^ j.toNat)) else none) = _
  rw [h]
  rfl
theorem pow18 : binOp .pow (.int 10) (.int 18) = some (.int 1000000000000000000) := by
  rw [pow_bin (by decide)]
  rfl
theorem dep_ints : ∀ {ns : List Int}, PySem.PyData.depthAll (ns.map PySem.PyData.int) = 0
  | [] => rfl
  | n :: ns => by
    show max 0 (PySem.PyData.depthAll (ns.map PySem.PyData.int)) = 0
    rw [dep_ints]
    rfl
theorem ne_nil {ns : List Int} : cmpOp .ne (L ns) (.lst []) = some (!ns.isEmpty) := by
  have h1 : (L ns).py = some (.list (ns.map PySem.PyData.int)) := by
    show (D.pys (ns.map D.int)).map PySem.PyData.list = _
    rw [pys_ints]
    rfl
  have h2 : (D.lst []).py = some (.list []) := rfl
  have s1 : PySem.SeqAt.shaped (.list (ns.map PySem.PyData.int)) = true := by
    show (PySem.PyData.canLayAll0 (ns.map PySem.PyData.int) && decide (PySem.PyData.depthAll (ns.map PySem.PyData.int) + 1 ≤ 64)) = true
    rw [lay_ints, dep_ints]
    rfl
  have s2 : PySem.SeqAt.shaped (.list []) = true := rfl
  show (eqD (L ns) (.lst [])).map (!·) = _
  unfold eqD
  simp only [h1, h2, s1, s2]
  cases ns <;> rfl
theorem s__law_begun {ns : List Int} {k0 : Nat} (hn : ns.length ≤ 1000) : ∃ S', callF T wf (k + 1) "_law_begun" [L ns, .int (k0 : Int)] S = .ok (.ref S.length) S' ∧ MOk S' S.length 0 := by
  rw [call_step T__law_begun rfl]
  obtain ⟨c1, e1, l1⟩ := cut_ints (ns := ns) (lo := some (k0 : Int)) (hi := none)
  obtain ⟨c2, e2, l2⟩ := cut_ints (ns := ns) (lo := none) (hi := some (k0 : Int))
  have a1 : binOp .add (L c1) (L c2) = some (L (c1 ++ c2)) := by
    rw [add_lst (by simp; unfold lim; omega), ← List.map_append]
  have hc : (c1 ++ c2).length ≤ 2000 := by rw [List.length_append]; omega
  generalize c1 ++ c2 = cs at a1 hc
  obtain ⟨s', y, es⟩ := l_seed (C := ⟨callF T wf k, callM T wf k true, wf⟩) (S := S) (v0 := .val (L ns)) (v1 := .val (.int (k0 : Int))) (v2 := .val (L cs)) (v3 := .val (L (cs.filter fun c => decide (1000000000000000000 ≤ c)))) cs (91 + (k0 : Int)) .un
  have cm := compL_fil (emb := D.int) (g := D.int) (p := fun c => decide (1000000000000000000 ≤ c)) (f := compF ⟨callF T wf k, callM T wf k true, wf⟩ [("cell", 5)] (.var 5) (.tn 5) (.cons (.cmp .ge (.var 5) (.bin .pow (.cI 10) (.cI 18))) .nil) [.val (L ns), .val (.int (k0 : Int)), .val (L cs), .un, .un, .un]) (S := S) (l := cs) (acc := []) (fun c _ => ?_) (by simp; unfold lim; omega)
  · rw [List.nil_append] at cm
    have a2 : binOp .add (L cs) (.lst [.int (61 * (k0 : Int) + 17)]) = some (L (cs ++ [61 * (k0 : Int) + 17])) := by
      rw [add_lst (by simp; unfold lim; omega)]
      simp
    have m1 := mul_sm' (i := 61) (j := (k0 : Int)) (by decide)
    have nn := ne_nil (ns := cs.filter fun c => decide (1000000000000000000 ≤ c))
    have fin : ∀ left : Int, MOk (S ++ [mD left s' (cs ++ [61 * (k0 : Int) + 17]) 0]) S.length 0 := fun left => ⟨left, s', cs ++ [61 * (k0 : Int) + 17], 0, by simp, by simp, Nat.le_refl _⟩
    cases hg : cs.filter (fun c => decide (1000000000000000000 ≤ c)) with
    | nil =>
      rw [hg] at cm es nn
      refine ⟨_, ?_, fin 0⟩
      simp only [L, List.map_nil] at cm es nn a1 a2 e1 e2
      simp [n__law_begun, startE, e1, e2, a1, cm, es, nn, m1, a2, L, mD, -List.map_append]
    | cons g gs =>
      rw [hg] at cm es nn
      refine ⟨_, ?_, fin g⟩
      have i0 : ixD (L (g :: gs)) (.int 0) = some (.int g) := at_nat (i := 0) rfl
      simp only [L] at cm es nn a1 a2 e1 e2 i0
      simp only [List.map_cons] at cm es nn i0
      simp [n__law_begun, startE, e1, e2, a1, cm, es, nn, i0, m1, a2, L, mD, -List.map_append]
  · by_cases hp : (1000000000000000000 : Int) ≤ c <;> simp [compF, wipeE, pow18, hp]
end K00

set_option maxHeartbeats 4000000
namespace K00
open Fx
open PySem (Str)
variable {wf k : Nat} {S : Store}
/-! ### statement by statement -/
theorem run_step {C : Ev} {a b : N} {env e : Env} {S' : Store} {X : Res D} (h : exec C a env S = .ok (.nx e) S') (q : (exec C b e S').bind ofFl = X) : (exec C (.cons a b) env S).bind ofFl = X := by
  rw [ex_cons, h, Res.bind_ok]
  exact q
theorem run_ret {C : Ev} {a b : N} {env : Env} {S' : Store} {d : D} (h : ev C a env S = .ok d S') : (exec C (.cons (.ret a) b) env S).bind ofFl = .ok d S' := by
  rw [ex_cons, ex_ret, h, Res.bind_ok, Res.bind_ok]
  rfl
theorem run_no {C : Ev} {c a r : N} {env : Env} {S' : Store} {X : Res D} (h : evT C c env S = .ok false S') (q : (exec C r env S').bind ofFl = X) : (exec C (.cons (.ifs c a .nil) r) env S).bind ofFl = X := by
  refine run_step (e := env) (S' := S') ?_ q
  rw [ex_ifs, h, Res.bind_ok, if_neg Bool.false_ne_true]
  rfl
/-- a list drawn item by item -/
theorem c_draw {β : Type} {emb : β → D} {n c J : Nat} {P : β → Prop} {f : D → Store → Res (Option D)} : ∀ (l : List D) (acc : List D) (S : Store) (j : Nat), (∀ d ∈ l, ∀ S j, MOk S n j → j + c ≤ J → ∃ r S', f d S = .ok (some (emb r)) S' ∧ P r ∧ MOk S' n (j + c)) → MOk S n j → j + l.length * c ≤ J → acc.length + l.length ≤ lim →
    ∃ (rs : List β) (S' : Store), compL f l acc S = .ok (acc ++ rs.map emb) S' ∧ rs.length = l.length ∧ (∀ r ∈ rs, P r) ∧ MOk S' n (j + l.length * c)
  | [], acc, S, j, _, h, _, _ => ⟨[], S, by simp [compL], rfl, fun r hr => (by cases hr), by simpa using h⟩
  | d :: l, acc, S, j, hf, h, hj, hl => by
    rw [List.length_cons, Nat.succ_mul] at hj
    rw [List.length_cons] at hl
    obtain ⟨r, S1, e1, p1, m1⟩ := hf d List.mem_cons_self S j h (by omega)
    obtain ⟨rs, S2, e2, l2, p2, m2⟩ := c_draw l (acc ++ [emb r]) S1 (j + c) (fun a ha => hf a (List.mem_cons_of_mem _ ha)) m1 (by omega) (by rw [List.length_append, List.length_singleton]; omega)
    refine ⟨r :: rs, S2, ?_, by rw [List.length_cons, List.length_cons, l2], fun a ha => ?_, ?_⟩
    · unfold compL
      rw [e1]
      show (if acc.length < lim then compL f l (acc ++ [emb r]) S1 else .st) = _
      rw [if_pos (by omega), e2]
      simp
    · rcases List.mem_cons.mp ha with rfl | ha
      · exact p1
      · exact p2 a ha
    · rw [List.length_cons, Nat.succ_mul]
      have : j + (l.length * c + c) = j + c + l.length * c := by omega
      rw [this]
      exact m2
theorem rg_ok {n : Nat} (h : n ≤ 1000) : rgOk 0 (n : Int) = true := by
  unfold rgOk
  simp only [Bool.and_eq_true, decide_eq_true_eq]
  refine ⟨⟨⟨⟨by decide, by decide⟩, by omega⟩, by omega⟩, ?_⟩
  unfold lim
  omega
theorem rg_len {n : Nat} : (rangeD 0 (n : Int)).length = n := by
  unfold rangeD
  simp
theorem Bd_of {n : Nat} {i : Int} (h : -(2 ^ n : Nat) < i) (h2 : i < (2 ^ n : Nat)) : Bd n i := by
  unfold Bd
  omega
end K00

set_option maxHeartbeats 4000000
namespace Fx
open PySem (Str PyData)
theorem ok_of (s : String) : PyData.strOk (Str.ofString s) = true := by
  unfold PyData.strOk
  rw [Str.ofString_eq_toList]
  simp only [List.all_toArray, List.all_eq_true, decide_eq_true_eq]
  intro c hc
  obtain ⟨a, _, rfl⟩ := List.mem_map.mp hc
  have := a.valid
  rcases this with h | h
  · have h : a.toNat < 0xd800 := h
    omega
  · have h : 0xdfff < a.toNat ∧ a.toNat < 0x110000 := h
    exact h.2
theorem ok_app {x y : Str} (h : PyData.strOk x = true) (h2 : PyData.strOk y = true) : PyData.strOk (x ++ y) = true := by
  unfold PyData.strOk at *
  show ((x.cps ++ y.cps).all fun c => decide (c < 0x110000)) = true
  rw [Array.all_append, h, h2]
  rfl
theorem ok_text : ∀ {ts : List Str} {k : Nat} {acc : Str}, PyData.strOk acc = true → (∀ t ∈ ts, PyData.strOk t = true) → PyData.strOk (PySem.textFrom k acc ts) = true
  | [], _, _, h, _ => h
  | t :: ts, k, acc, h, ht => ok_text (ts := ts) (k := k + 1) (ok_app (ok_app h (ok_of _)) (ht t List.mem_cons_self)) fun u hu => ht u (List.mem_cons_of_mem _ hu)
theorem ok_join : ∀ {ts : List Str}, (∀ t ∈ ts, PyData.strOk t = true) → PyData.strOk (Str.join ", " ts) = true
  | [], _ => by
    unfold PyData.strOk
    show (#[] : Array Nat).all (fun c => decide (c < 0x110000)) = true
    simp
  | [x], h => h x List.mem_cons_self
  | x :: y :: r, h => ok_app (ok_app (h x List.mem_cons_self) (ok_of _)) (ok_join (ts := y :: r) fun u hu => h u (List.mem_cons_of_mem _ hu))
mutual
def okD : PyData → Bool
  | .int i => decide (i.natAbs.log2 < 1920)
  | .list xs => okDs xs
  | .tuple xs => okDs xs
  | .none => true
  | .bool _ => true
  | .str x => (PyData.str x).showable && (PyData.str x).leavesShort 1921 && PyData.strOk (PyData.str x).shown
  | .dict _ => false
def okDs : List PyData → Bool
  | [] => true
  | x :: xs => okD x && okDs xs
end
mutual
theorem okD_all : ∀ {d : PyData}, okD d = true → d.showable = true ∧ d.leavesShort 1921 = true ∧ PyData.strOk d.shown = true
  | .int i, h => by
    have h : i.natAbs.log2 < 1920 := of_decide_eq_true h
    refine ⟨decide_eq_true h, decide_eq_true ?_, ok_of _⟩
    show (Str.ofString (toString i)).length ≤ 1921
    rw [PySem.ofString_length]
    exact PySem.int_text_length_le (k := 1920) (by decide) h
  | .list xs, h => by
    obtain ⟨h1, h2, h3⟩ := okDs_all (xs := xs) h
    exact ⟨h1, h2, ok_app (ok_text (ok_of _) h3) (ok_of _)⟩
  | .tuple xs, h => by
    obtain ⟨h1, h2, h3⟩ := okDs_all (xs := xs) h
    exact ⟨h1, h2, ok_app (ok_app (ok_of _) (ok_join h3)) (ok_of _)⟩
  | .none, _ => ⟨rfl, by decide +kernel, by decide +kernel⟩
  | .bool b, _ => by cases b <;> exact ⟨rfl, by decide +kernel, by decide +kernel⟩
  | .str x, h => by
    have h : ((PyData.str x).showable && (PyData.str x).leavesShort 1921 && PyData.strOk (PyData.str x).shown) = true := h
    simp only [Bool.and_eq_true] at h
    exact ⟨h.1.1, h.1.2, h.2⟩
  | .dict _, h => by cases h
theorem okDs_all : ∀ {xs : List PyData}, okDs xs = true → PyData.showableAll xs = true ∧ PyData.leavesShortAll 1921 xs = true ∧ ∀ t ∈ PyData.shownAll xs, PyData.strOk t = true
  | [], _ => ⟨rfl, rfl, fun t h => by cases h⟩
  | x :: xs, h => by
    have h : (okD x && okDs xs) = true := h
    obtain ⟨a, b⟩ := Bool.and_eq_true_iff.mp h
    obtain ⟨a1, a2, a3⟩ := okD_all a
    obtain ⟨b1, b2, b3⟩ := okDs_all b
    refine ⟨?_, ?_, fun t ht => ?_⟩
    · show (x.showable && PyData.showableAll xs) = true
      rw [a1, b1]; rfl
    · show (x.leavesShort 1921 && PyData.leavesShortAll 1921 xs) = true
      rw [a2, b2]; rfl
    · rcases List.mem_cons.mp ht with rfl | ht
      · exact a3
      · exact b3 t ht
end
end Fx
namespace K00
open Fx
open PySem (Str PyData)
variable {wf k : Nat} {S : Store}
theorem eqD_str {x : Str} (h : PyData.strOk x = true) : cmpOp .eq (.str x) (.str x) = some true := by
  have s1 : PySem.SeqAt.shaped (.str x) = true := by
    show (PyData.strOk x && decide (0 ≤ 64)) = true
    rw [h]
    rfl
  show (if PySem.SeqAt.shaped (.str x) && PySem.SeqAt.shaped (.str x) then some (PyData.eqv (.str x) (.str x)) else none) = _
  rw [s1]
  show some (x == x) = _
  rw [beq_self_eq_true]
theorem s__law_like {d : D} {p : PyData} (hp : d.py = some p) (ok : okD p = true) (hd : p.depth ≤ 64) (hb : p.bulk ≤ 8000) : callF T wf (k + 1) "_law_like" [d, d] S = .ok (.bl true) S := by
  obtain ⟨a1, a2, a3⟩ := okD_all ok
  have l := PyData.shown_le_bulk 1921 (by decide) p a2
  have hl : p.shown.length ≤ lim := by
    unfold lim
    have := Nat.mul_le_mul_left (1921 + 2) hb
    omega
  have r : biOp .repr [d] = some (.str p.shown) := by
    show reprD d = _
    unfold reprD
    simp only [hp]
    rw [if_pos]
    simp only [Bool.and_eq_true, decide_eq_true_eq]
    exact ⟨⟨a1, hd⟩, hl⟩
  rw [call_step T__law_like rfl]
  exact run_ret (by simp [startE, r, eqD_str a3])
end K00

set_option maxHeartbeats 4000000
namespace K00
open Fx
open PySem (Str PyData)
variable {wf k : Nat} {S : Store}
/-- may be shown -/
def GD (n h : Nat) (d : D) : Prop := ∃ p, d.py = some p ∧ okD p = true ∧ p.depth ≤ h ∧ p.bulk ≤ n
theorem GD.mono {n h m g : Nat} {d : D} (q : GD n h d) (l : n ≤ m) (l2 : h ≤ g) : GD m g d := by
  obtain ⟨p, a, b, c, e⟩ := q
  exact ⟨p, a, b, Nat.le_trans c l2, Nat.le_trans e l⟩
theorem GD_int {i : Int} (h : Bd 1900 i) : GD 0 0 (.int i) := ⟨.int i, rfl, decide_eq_true (Nat.lt_trans (h.log (by decide)) (by decide)), Nat.le_refl _, Nat.le_refl _⟩
theorem GD_non : GD 0 0 .non := ⟨.none, rfl, rfl, Nat.le_refl _, Nat.le_refl _⟩
theorem GD_bl {b : Bool} : GD 0 0 (.bl b) := ⟨.bool b, rfl, rfl, Nat.le_refl _, Nat.le_refl _⟩
theorem GD_str {x : Str} {n : Nat} (h : okD (.str x) = true) (hx : x.cps.size ≤ n) : GD n 0 (.str x) := ⟨.str x, rfl, h, Nat.le_refl _, by unfold PyData.bulk; exact hx⟩
theorem GDs {n h : Nat} : ∀ {ds : List D}, (∀ d ∈ ds, GD n h d) → ∃ ps, D.pys ds = some ps ∧ okDs ps = true ∧ PyData.depthAll ps ≤ h ∧ PyData.bulkAll ps ≤ ds.length * (n + 1)
  | [], _ => ⟨[], rfl, rfl, Nat.zero_le _, Nat.zero_le _⟩
  | d :: ds, q => by
    obtain ⟨p, a, b, c, e⟩ := q d List.mem_cons_self
    obtain ⟨ps, a', b', c', e'⟩ := GDs (ds := ds) fun x hx => q x (List.mem_cons_of_mem _ hx)
    refine ⟨p :: ps, ?_, ?_, ?_, ?_⟩
    · show (match d.py, D.pys ds with | some p, some ps => some (p :: ps) | _, _ => none) = _
      rw [a, a']
    · show (okD p && okDs ps) = true
      rw [b, b']; rfl
    · show max p.depth (PyData.depthAll ps) ≤ h
      omega
    · show p.bulk + 1 + PyData.bulkAll ps ≤ _
      rw [List.length_cons, Nat.succ_mul]
      omega
theorem GD_tup {n h : Nat} {ds : List D} (q : ∀ d ∈ ds, GD n h d) : GD (ds.length * (n + 1)) (h + 1) (.tup ds) := by
  obtain ⟨ps, a, b, c, e⟩ := GDs q
  refine ⟨.tuple ps, ?_, b, Nat.succ_le_succ c, e⟩
  show (D.pys ds).map PyData.tuple = _
  rw [a]; rfl
theorem GD_lst {n h : Nat} {ds : List D} (q : ∀ d ∈ ds, GD n h d) : GD (ds.length * (n + 1)) (h + 1) (.lst ds) := by
  obtain ⟨ps, a, b, c, e⟩ := GDs q
  refine ⟨.list ps, ?_, b, Nat.succ_le_succ c, e⟩
  show (D.pys ds).map PyData.list = _
  rw [a]; rfl
theorem GD_row {m : Nat} {qs : List Rat} (h : Bq m qs) (hm : m ≤ 1900) : GD (qs.length + 1) 1 (V (cn qs)) := by
  have q := GD_tup (n := 0) (h := 0) (ds := (cn qs).map D.int) fun d hd => by
    obtain ⟨x, hx, rfl⟩ := List.mem_map.mp hd
    exact GD_int ((h x hx).mono hm)
  rw [List.length_map, cn_len] at q
  exact q.mono (by omega) (Nat.le_refl _)
theorem like_of {n h : Nat} {d : D} (q : GD n h d) (hn : n ≤ 8000) (hh : h ≤ 64) : callF T wf (k + 1) "_law_like" [d, d] S = .ok (.bl true) S := by
  obtain ⟨p, a, b, c, e⟩ := q
  exact s__law_like a b (by omega) (by omega)
end K00

set_option maxHeartbeats 4000000
namespace K00
open Fx
open PySem (Str)
variable {wf k : Nat} {S : Store}
theorem MOk.mono {n j j' : Nat} (h : MOk S n j) (l : j ≤ j') : MOk S n j' := by
  obtain ⟨l1, s, cs, sp, q1, q2, q3⟩ := h
  exact ⟨l1, s, cs, sp, q1, q2, by omega⟩
theorem low2n {t b : Int} (hb : b < 0) : low [t, b] = [t.fdiv (Nat.gcd t.natAbs b.natAbs : Nat), b.fdiv (Nat.gcd t.natAbs b.natAbs : Nat)] := by
  have e : gcdL [t, b] = Nat.gcd t.natAbs b.natAbs := by
    show Nat.gcd (Nat.gcd 0 t.natAbs) b.natAbs = _
    rw [Nat.gcd_zero_left]
  have hp : 0 < Nat.gcd t.natAbs b.natAbs := Nat.gcd_pos_of_pos_right _ (by omega)
  unfold low
  rw [e]
  split
  · have e1 : Nat.gcd t.natAbs b.natAbs = 1 := by omega
    rw [e1]
    simp
  · rfl
theorem neg_fdiv {a : Int} {g : Nat} (h0 : 0 < g) (h : (g : Int) ∣ a) : -(a.fdiv (g : Int)) = (-a).fdiv (g : Int) := by
  obtain ⟨c, rfl⟩ := h
  have hg : (g : Int) ≠ 0 := by omega
  rw [Int.mul_fdiv_cancel_left _ hg, ← Int.mul_neg, Int.mul_fdiv_cancel_left _ hg]
theorem low_neg {t b : Int} (hb : b < 0) : (low [t, b]).map (fun z => -z) = low [-t, -b] := by
  have hp : 0 < Nat.gcd t.natAbs b.natAbs := Nat.gcd_pos_of_pos_right _ (by omega)
  have d1 : ((Nat.gcd t.natAbs b.natAbs : Nat) : Int) ∣ t := Int.ofNat_dvd_left.mpr (Nat.gcd_dvd_left _ _)
  have d2 : ((Nat.gcd t.natAbs b.natAbs : Nat) : Int) ∣ b := Int.ofNat_dvd_left.mpr (Nat.gcd_dvd_right _ _)
  rw [low2n hb, low2 (by omega : 0 < -b), Int.natAbs_neg, Int.natAbs_neg, List.map_cons, List.map_cons, List.map_nil, neg_fdiv hp d1, neg_fdiv hp d2]
theorem divInt_nn {t b : Int} : Rat.divInt (-t) (-b) = Rat.divInt t b := Rat.neg_divInt_neg t b
theorem q_frac {t b : Int} {m : Nat} (hw : 20000 ≤ wf) (hb : b ≠ 0) (ht : Bd m t) (h : Bd m b) (hm : m ≤ 8000) : callF T wf (k + 3) "_law_fraction" [.int t, .int b] S = .ok (fr (Rat.divInt t b)) S ∧ Bq m [Rat.divInt t b] := by
  by_cases h0 : 0 < b
  · refine ⟨by rw [s__law_fraction h0 ht h hm (by omega), low_fr h0], Bq.of (xs := [t]) h0 fun y hy => ?_⟩
    rcases List.mem_append.mp hy with hy | hy
    · rw [List.mem_singleton.mp hy]; exact ht
    · rw [List.mem_singleton.mp hy]; exact h
  · have h1 : b < 0 := by omega
    have e := s__law_lowered (wf := wf) (k := k) (S := S) (d := L [t, b]) (.inr rfl) (m := m) (fun x hx => by
      rcases List.mem_cons.mp hx with rfl | hx
      · exact ht
      · rw [List.mem_singleton.mp hx]; exact h) hm (by omega) (by simp [lim])
    have e2 := low_neg (t := t) h1
    have h2 : 0 < -b := by omega
    rw [low_fr h2, divInt_nn] at e2
    refine ⟨?_, ?_⟩
    · rw [call_step T__law_fraction rfl]
      show _ = Res.ok (V (cn [Rat.divInt t b])) S
      rw [← e2]
      rw [low2n h1] at e ⊢
      simp only [L, V, List.map_cons, List.map_nil] at e ⊢
      simp [n__law_fraction, startE, pickIx, e, h0, at0, at1]
    · rw [← divInt_nn]
      refine Bq.of (xs := [-t]) h2 fun y hy => ?_
      rcases List.mem_append.mp hy with hy | hy
      · rw [List.mem_singleton.mp hy]; exact ht.neg
      · rw [List.mem_singleton.mp hy]; exact h.neg
theorem q_low {t b : Int} {m : Nat} (hb : b ≠ 0) (ht : Bd m t) (h : Bd m b) (hm : m ≤ 8000) : callF T wf (k + 1) "lowest" [.int t, .int b] S = .ok (fr (Rat.divInt t b)) S := by
  by_cases h0 : 0 < b
  · rw [s_lowest h0 h hm, low_fr h0]
  · have h1 : b < 0 := by omega
    have h2 : 0 < -b := by omega
    have hp : 0 < Nat.gcd t.natAbs b.natAbs := Nat.gcd_pos_of_pos_right _ (by omega)
    have hd : Bd m (-((Nat.gcd t.natAbs b.natAbs : Nat) : Int)) := by
      unfold Bd at *
      rw [Int.natAbs_neg, Int.natAbs_natCast]
      exact Nat.lt_of_le_of_lt (Nat.le_of_dvd (by omega) (Nat.gcd_dvd_right _ _)) h
    have e2 := low_neg (t := t) h1
    rw [low_fr h2, divInt_nn] at e2
    have e3 : low [-t, -b] = [t.fdiv (-((Nat.gcd t.natAbs b.natAbs : Nat) : Int)), b.fdiv (-((Nat.gcd t.natAbs b.natAbs : Nat) : Int))] := by
      rw [low2 h2, Int.natAbs_neg, Int.natAbs_neg, ← Int.neg_fdiv_neg t, ← Int.neg_fdiv_neg b, Int.neg_neg]
    rw [call_step T_lowest rfl]
    show _ = Res.ok (V (cn [Rat.divInt t b])) S
    rw [← e2, low_neg h1, e3]
    simp [n_lowest, startE, hb, h1, div_bin hd (by omega) hm]
theorem q_low0 {t : Int} : callF T wf (k + 1) "lowest" [.int t, .int 0] S = .ex "NotNumber" (.int 0) S := by
  rw [call_step T_lowest rfl]
  simp [n_lowest, startE]
theorem l_int {n : Nat} {m0 : Sl} (hm0 : m0 = .val (.ref n)) : ∀ (ds : List D) (S : Store) (j b : Nat) (i : Int) (x : Sl), MOk S n j → j + ds.length ≤ 900000 → 20 ≤ b → Bd b i → b + 22 * ds.length ≤ 10000 → ∃ i' S' y,
    forL (forF ⟨callF T wf (k + 1), callM T wf (k + 1) true, wf⟩ (.tn 2) (.cons (.set 1 (.bin .sub (.bin .add (.bin .mul (.var 1) (.cI 1000003)) (.call "_law_draw" (.cons (.var 0) (.cons (.cI 1000) .nil)) .nil [0, 1])) (.cI 500))) .nil)) ds [m0, .val (.int i), x] S = .ok (.nx [m0, .val (.int i'), y]) S' ∧ Bd (b + 22 * ds.length) i' ∧ MOk S' n (j + ds.length)
  | [], S, j, b, i, x, hm, _, _, hb, _ => ⟨i, S, x, rfl, by simpa using hb, by simpa using hm⟩
  | d :: ds, S, j, b, i, x, hm, hj, h20, hb, hl => by
    rw [List.length_cons] at hj hl ⊢
    subst hm0
    obtain ⟨r, S1, e1, p0, p1, m1⟩ := s__law_draw (wf := wf) (k := k) (b := 1000) hm (by omega) (by omega) (by omega)
    have c20 : Bd 20 1000003 := by unfold Bd; decide
    have b1 := hb.mul c20
    have br : Bd (b + 20) (r - 500) := (Bd_of (n := 10) (by omega) (by omega)).mono (by omega)
    have b2 : Bd (b + 22) (i * 1000003 + r - 500) := by
      have := (b1.add br).mono (by omega : b + 20 + 1 ≤ b + 22)
      rwa [show i * 1000003 + (r - 500) = i * 1000003 + r - 500 by omega] at this
    obtain ⟨i', S', y, e, b', m'⟩ := l_int (n := n) rfl ds S1 (j + 1) (b + 22) (i * 1000003 + r - 500) (.val d) m1 (by omega) (by omega) b2 (by omega)
    refine ⟨i', S', y, ?_, b'.mono (by omega), m'.mono (by omega)⟩
    rw [forL_cons]
    simp [forF, pickIx, mul_bin hb c20 (by omega), e1]
    exact e
end K00

set_option maxHeartbeats 4000000
namespace K00
open Fx
open PySem (Str)
variable {wf k : Nat} {S : Store}
theorem q__law_integer {n j : Nat} (hm : MOk S n j) (hj : j < 90000) : ∃ z S', callF T wf (k + 2) "_law_integer" [.ref n] S = .ok (.int z) S' ∧ Bd 460 z ∧ MOk S' n (j + 24) := by
  obtain ⟨a, S1, e1, a0, a1, m1⟩ := s__law_draw (wf := wf) (k := k) (b := 19) hm (by omega) (by omega) (by omega)
  obtain ⟨c, S2, e2, c0, c1, m2⟩ := s__law_draw (wf := wf) (k := k) (b := 3) m1 (by omega) (by omega) (by omega)
  have ba : Bd 20 (a - 9) := Bd_of (by omega) (by omega)
  by_cases h : 0 < c
  · refine ⟨a - 9, S2, ?_, ba.mono (by omega), m2.mono (by omega)⟩
    rw [call_step T__law_integer rfl]
    simp [n__law_integer, startE, pickIx, e1, e2, h]
  · obtain ⟨d, S3, e3, d0, d1, m3⟩ := s__law_draw (wf := wf) (k := k) (b := 20) m2 (by omega) (by omega) (by omega)
    have hd : ((d.toNat : Nat) : Int) = d := Int.toNat_of_nonneg d0
    have ln : (rangeD 0 d).length = d.toNat := by rw [← hd, rg_len, Int.toNat_natCast]
    obtain ⟨i', S4, y, e4, b4, m4⟩ := l_int (wf := wf) (k := k) (n := n) rfl (rangeD 0 d) S3 _ 20 (a - 9) .un m3 (by omega) (by omega) ba (by omega)
    have rgc : rgOk 0 d = true := by rw [← hd]; exact rg_ok (by omega)
    refine ⟨i', S4, ?_, b4.mono (by omega), m4.mono (by omega)⟩
    rw [call_step T__law_integer rfl]
    simp [n__law_integer, startE, pickIx, e1, e2, h, e3, rgc, e4]
theorem q__law_pair {n j : Nat} (hw : 20000 ≤ wf) (hm : MOk S n j) (hj : j < 80000) : ∃ p S', callF T wf (k + 4) "_law_pair" [.ref n] S = .ok (fr p) S' ∧ Bq 460 [p] ∧ MOk S' n (j + 48) := by
  obtain ⟨a, S1, e1, ba, m1⟩ := q__law_integer (wf := wf) (k := k + 1) hm (by omega)
  obtain ⟨c, S2, e2, bc, m2⟩ := q__law_integer (wf := wf) (k := k + 1) m1 (by omega)
  by_cases h : a = 0
  · subst h
    obtain ⟨e3, b3⟩ := q_frac (wf := wf) (k := k) (S := S2) (t := c) (b := 1) (m := 460) hw (by omega) bc (by unfold Bd; exact Nat.one_lt_two_pow (by decide)) (by omega)
    refine ⟨_, S2, ?_, b3, m2.mono (by omega)⟩
    rw [call_step T__law_pair rfl]
    simp [n__law_pair, startE, pickIx, e1, e2, e3]
  · obtain ⟨e3, b3⟩ := q_frac (wf := wf) (k := k) (S := S2) (t := c) (b := a) (m := 460) hw h bc ba (by omega)
    refine ⟨_, S2, ?_, b3, m2.mono (by omega)⟩
    rw [call_step T__law_pair rfl]
    simp [n__law_pair, startE, pickIx, e1, e2, e3, h]
theorem q__law_sign (x : Int) : callF T wf (k + 1) "_law_sign" [.int x] S = .ok (.int (sg x)) S := by
  rw [call_step T__law_sign rfl]
  unfold sg
  by_cases h : x = 0
  · subst h; simp [n__law_sign, startE]
  · by_cases h2 : 0 < x
    · have h3 : ¬ x < 0 := by omega
      simp [n__law_sign, startE, h, h2, h3]
    · have h3 : x < 0 := by omega
      simp [n__law_sign, startE, h, h2, h3]
end K00

set_option maxHeartbeats 4000000
namespace K00
open Fx
open PySem (Str)
variable {wf k : Nat} {S : Store}
theorem dd (p : Rat) : Rat.divInt p.num (p.den : Int) = p := Rat.num_divInt_den p
theorem pos_den (p : Rat) : (0 : Int) < (p.den : Int) := by have := p.den_pos; omega
/-- a fraction of a top and a bottom -/
theorem q_at {t b : Int} {m : Nat} (hb : 0 < b) (ht : Bd m t) (h : Bd m b) (hm : m ≤ 8000) : callF T wf (k + 1) "lowest" [.int t, .int b] S = .ok (fr (Rat.divInt t b)) S ∧ Bq m [Rat.divInt t b] :=
  ⟨q_lowest hb h hm, Bq.of (xs := [t]) hb fun y hy => by
    rcases List.mem_cons.mp hy with rfl | hy
    · exact ht
    · rw [List.mem_singleton.mp hy]; exact h⟩
theorem sum_div {p q : Rat} : Rat.divInt (p.num * q.den + q.num * p.den) (p.den * q.den) = p + q := by
  have := pos_den p
  have := pos_den q
  rw [← Rat.divInt_add_divInt _ _ (by omega) (by omega), dd, dd]
theorem dif_div {p q : Rat} : Rat.divInt (p.num * q.den - q.num * p.den) (p.den * q.den) = p - q := by
  have := pos_den p
  have := pos_den q
  rw [← Rat.divInt_sub_divInt _ _ (by omega) (by omega), dd, dd]
theorem mul_div {p q : Rat} : Rat.divInt (p.num * q.num) (p.den * q.den) = p * q := by
  rw [← Rat.divInt_mul_divInt, dd, dd]
theorem q_added {p q : Rat} {m n : Nat} (hp : Bq m [p]) (hq : Bq n [q]) (hm : m + n ≤ 7000) : callF T wf (k + 2) "added" [fr p, fr q] S = .ok (fr (p + q)) S ∧ Bq (m + n + 1) [p + q] := by
  obtain ⟨a1, a2⟩ := Bq1 hp
  obtain ⟨b1, b2⟩ := Bq1 hq
  have c1 := a1.mul b2
  have c2 := (b1.mul a2).mono (by omega : n + m ≤ m + n)
  have c3 := c1.add c2
  have c4 := (a2.mul b2).mono (by omega : m + n ≤ m + n + 1)
  have l := q_at (wf := wf) (k := k) (S := S) (Int.mul_pos (pos_den p) (pos_den q)) c3 c4 (by omega)
  rw [sum_div] at l
  refine ⟨?_, l.2⟩
  rw [call_step T_added rfl, fr_eq p, fr_eq q]
  simp [n_added, startE, pickIx, at0, at1, mul_bin a1 b2 (by omega), mul_bin b1 a2 (by omega), mul_bin a2 b2 (by omega), l.1]
theorem q_minus {p q : Rat} {m n : Nat} (hp : Bq m [p]) (hq : Bq n [q]) (hm : m + n ≤ 7000) : callF T wf (k + 2) "minus" [fr p, fr q] S = .ok (fr (p - q)) S ∧ Bq (m + n + 1) [p - q] := by
  obtain ⟨a1, a2⟩ := Bq1 hp
  obtain ⟨b1, b2⟩ := Bq1 hq
  have c1 := a1.mul b2
  have c2 := ((b1.mul a2).mono (by omega : n + m ≤ m + n)).neg
  have c3 := c1.add c2
  rw [← Int.sub_eq_add_neg] at c3
  have c4 := (a2.mul b2).mono (by omega : m + n ≤ m + n + 1)
  have l := q_at (wf := wf) (k := k) (S := S) (Int.mul_pos (pos_den p) (pos_den q)) c3 c4 (by omega)
  rw [dif_div] at l
  refine ⟨?_, l.2⟩
  rw [call_step T_minus rfl, fr_eq p, fr_eq q]
  simp [n_minus, startE, pickIx, at0, at1, mul_bin a1 b2 (by omega), mul_bin b1 a2 (by omega), mul_bin a2 b2 (by omega), l.1]
theorem q_times {p q : Rat} {m n : Nat} (hp : Bq m [p]) (hq : Bq n [q]) (hm : m + n ≤ 7000) : callF T wf (k + 2) "times" [fr p, fr q] S = .ok (fr (p * q)) S ∧ Bq (m + n) [p * q] := by
  obtain ⟨a1, a2⟩ := Bq1 hp
  obtain ⟨b1, b2⟩ := Bq1 hq
  have l := q_at (wf := wf) (k := k) (S := S) (Int.mul_pos (pos_den p) (pos_den q)) (a1.mul b1) (a2.mul b2) (by omega)
  rw [mul_div] at l
  refine ⟨?_, l.2⟩
  rw [call_step T_times rfl, fr_eq p, fr_eq q]
  simp [n_times, startE, pickIx, at0, at1, mul_bin a1 b1 (by omega), mul_bin a2 b2 (by omega), l.1]
end K00

set_option maxHeartbeats 4000000
namespace K00
open Fx
open PySem (Str)
variable {wf k : Nat} {S : Store}
def hearR (hs : List (Str × Str)) : Res D → Res D
  | .ok d S => .ok (.lst [d]) S
  | .ex c p S => match hs.lookup c with
    | some w => .ok (.tup [.str w, p]) S
    | none => .st
  | .st => .st
theorem ev_hear {C : Ev} {f : Str} {hs : List (Str × Str)} {e : N} {env : Env} : ev C (.hear f hs e) env S = hearR hs (ev C e env S) := by
  rw [ev]
  cases ev C e env S <;> rfl
abbrev hsN : List (Str × Str) := [("NotNumber", "number")]
theorem hr_ok {d : D} {hs : List (Str × Str)} : hearR hs (.ok d S) = .ok (.lst [d]) S := rfl
theorem hr_ex {d : D} : hearR hsN (.ex "NotNumber" d S) = .ok (.tup [.str "number", d]) S := rfl
theorem q_divided {p q : Rat} {m n : Nat} (hp : Bq m [p]) (hq : Bq n [q]) (hm : m + n ≤ 7000) (h0 : q.num ≠ 0) : callF T wf (k + 2) "divided" [fr p, fr q] S = .ok (fr (Rat.divInt (p.num * q.den) (p.den * q.num))) S := by
  obtain ⟨a1, a2⟩ := Bq1 hp
  obtain ⟨b1, b2⟩ := Bq1 hq
  have l := q_low (wf := wf) (k := k) (S := S) (m := m + n) (Int.mul_ne_zero (by have := pos_den p; omega : (p.den : Int) ≠ 0) h0) (a1.mul b2) (a2.mul b1) (by omega)
  rw [call_step T_divided rfl, fr_eq p, fr_eq q]
  simp [n_divided, startE, pickIx, at0, at1, h0, mul_bin a1 b2 (by omega), mul_bin a2 b1 (by omega), l]
theorem q_divided0 {p q : Rat} (h0 : q.num = 0) : callF T wf (k + 2) "divided" [fr p, fr q] S = .ex "NotNumber" (fr q) S := by
  rw [call_step T_divided rfl, fr_eq p, fr_eq q]
  simp [n_divided, startE, pickIx, at0, at1, h0]
theorem b2 : Bd 2 2 := by unfold Bd; decide
theorem q_halfway {p q : Rat} {m n : Nat} (hp : Bq m [p]) (hq : Bq n [q]) (hm : m + n ≤ 7000) :
    callF T wf (k + 2) "halfway" [fr p, fr q] S = .ok (fr (Rat.divInt (p.num * q.den + q.num * p.den) (2 * p.den * q.den))) S := by
  obtain ⟨a1, a2⟩ := Bq1 hp
  obtain ⟨c1, c2⟩ := Bq1 hq
  have d1 := b2.mul a2
  have s := ((a1.mul c2).add ((c1.mul a2).mono (by omega : n + m ≤ m + n)))
  have l := q_low (wf := wf) (k := k) (S := S) (m := m + n + 2) (t := p.num * q.den + q.num * p.den) (b := 2 * p.den * q.den) (Int.mul_ne_zero (Int.mul_ne_zero (by decide) (by have := pos_den p; omega)) (by have := pos_den q; omega)) (s.mono (by omega)) ((d1.mul c2).mono (by omega)) (by omega)
  rw [call_step T_halfway rfl, fr_eq p, fr_eq q]
  simp [n_halfway, startE, pickIx, at0, at1, mul_bin a1 c2 (by omega), mul_bin c1 a2 (by omega), mul_bin b2 a2 (by omega), mul_bin d1 c2 (by omega), l]
theorem q_compared {p q : Rat} {m n : Nat} (hp : Bq m [p]) (hq : Bq n [q]) (hm : m + n ≤ 7000) : callF T wf (k + 2) "compared" [fr p, fr q] S = .ok (.int (sg (p.num * q.den - q.num * p.den))) S := by
  obtain ⟨a1, a2⟩ := Bq1 hp
  obtain ⟨c1, c2⟩ := Bq1 hq
  rw [call_step T_compared rfl, fr_eq p, fr_eq q]
  simp [n_compared, startE, pickIx, at0, at1, mul_bin a1 c2 (by omega), mul_bin c1 a2 (by omega), s_sign_of]
theorem GD_fr {m : Nat} {p : Rat} (h : Bq m [p]) (hm : m ≤ 1900) : GD 2 1 (fr p) := GD_row h hm
theorem GD_num : GD 6 0 (.str "number") := GD_str (by decide +kernel) (by decide +kernel)
theorem sg_bd {z : Int} : Bd 2 (sg z) := by
  unfold sg
  split
  · unfold Bd; decide
  · split <;> (unfold Bd; decide)
theorem two_right {p q : Rat} (hw : 20000 ≤ wf) (hp : Bq 460 [p]) (hq : Bq 460 [q]) : callF T wf (k + 5) "_law_two_right" [fr p, fr q] S = .ok (.bl true) S := by
  obtain ⟨a1, a2⟩ := Bq1 hp
  obtain ⟨c1, c2⟩ := Bq1 hq
  have pp := pos_den p
  have pq := pos_den q
  have s := (a1.mul c2).add (c1.mul a2)
  have s2 := (a1.mul c2).add (c1.mul a2).neg
  rw [← Int.sub_eq_add_neg] at s2
  have bd := a2.mul c2
  have nbd : (p.den : Int) * q.den ≠ 0 := Int.mul_ne_zero (by omega) (by omega)
  obtain ⟨x1, z1⟩ := q_added (wf := wf) (k := k + 2) (S := S) hp hq (by omega)
  obtain ⟨x2, z2⟩ := q_minus (wf := wf) (k := k + 2) (S := S) hp hq (by omega)
  obtain ⟨x3, z3⟩ := q_times (wf := wf) (k := k + 2) (S := S) hp hq (by omega)
  have y1 := (q_frac (wf := wf) (k := k + 1) (S := S) (m := 921) hw nbd (s.mono (by omega)) (bd.mono (by omega)) (by omega)).1
  have y2 := (q_frac (wf := wf) (k := k + 1) (S := S) (m := 921) hw nbd (s2.mono (by omega)) (bd.mono (by omega)) (by omega)).1
  have y3 := (q_frac (wf := wf) (k := k + 1) (S := S) (m := 920) hw nbd (a1.mul c1) bd (by omega)).1
  rw [sum_div] at y1
  rw [dif_div] at y2
  rw [mul_div] at y3
  have l1 := like_of (wf := wf) (k := k + 3) (S := S) (GD_lst (n := 2) (h := 1) (ds := [fr (p + q), fr (p - q), fr (p * q)]) (by
    intro d hd
    rcases List.mem_cons.mp hd with rfl | hd
    · exact GD_fr z1 (by omega)
    · rcases List.mem_cons.mp hd with rfl | hd
      · exact GD_fr z2 (by omega)
      · rw [List.mem_singleton.mp hd]; exact GD_fr z3 (by omega))) (by simp) (by decide)
  have d1 := b2.mul a2
  have hh : (2 : Int) * p.den * q.den ≠ 0 := Int.mul_ne_zero (Int.mul_ne_zero (by decide) (by omega)) (by omega)
  obtain ⟨y5, z5⟩ := q_frac (wf := wf) (k := k + 1) (S := S) (m := 922) (t := p.num * q.den + q.num * p.den) (b := 2 * p.den * q.den) hw hh (s.mono (by omega)) ((d1.mul c2).mono (by omega)) (by omega)
  have x5 := q_halfway (wf := wf) (k := k + 2) (S := S) hp hq (by omega)
  have x6 := q_compared (wf := wf) (k := k + 2) (S := S) hp hq (by omega)
  have x7 := q_compared (wf := wf) (k := k + 2) (S := S) hp hp (by omega)
  have y6 := q__law_sign (wf := wf) (k := k + 3) (S := S) (p.num * q.den - q.num * p.den)
  rw [show p.num * (p.den : Int) - p.num * (p.den : Int) = 0 by omega, show sg 0 = 0 from rfl] at x7
  have l3 := like_of (wf := wf) (k := k + 3) (S := S) (GD_lst (n := 2) (h := 1) (ds := [fr (Rat.divInt (p.num * q.den + q.num * p.den) (2 * p.den * q.den)), .int (sg (p.num * q.den - q.num * p.den)), .int 0]) (by
    intro d hd
    rcases List.mem_cons.mp hd with rfl | hd
    · exact GD_fr z5 (by omega)
    · rcases List.mem_cons.mp hd with rfl | hd
      · exact (GD_int (sg_bd.mono (by omega))).mono (by omega) (by omega)
      · rw [List.mem_singleton.mp hd]; exact (GD_int (by unfold Bd; exact Nat.two_pow_pos _)).mono (by omega) (by omega))) (by simp) (by decide)
  rw [call_step T__law_two_right rfl]
  generalize hP : fr (p + q) = P1 at x1 y1 l1
  generalize fr (p - q) = P2 at x2 y2 l1
  generalize fr (p * q) = P3 at x3 y3 l1
  generalize fr (Rat.divInt (p.num * q.den + q.num * p.den) (2 * p.den * q.den)) = P5 at x5 y5 l3
  generalize sg (p.num * q.den - q.num * p.den) = Z at x6 y6 l3
  by_cases h0 : q.num = 0
  · have x4 := q_divided0 (wf := wf) (k := k + 2) (S := S) (p := p) h0
    have l2 := like_of (wf := wf) (k := k + 3) (S := S) (GD_tup (n := 6) (h := 1) (ds := [.str "number", fr q]) (by
      intro d hd
      rcases List.mem_cons.mp hd with rfl | hd
      · exact GD_num.mono (by omega) (by omega)
      · rw [List.mem_singleton.mp hd]; exact (GD_fr hq (by omega)).mono (by omega) (by omega))) (by simp) (by decide)
    simp only [fr_eq p, fr_eq q] at x1 x2 x3 x4 x5 x6 x7 l2 ⊢
    simp [n__law_two_right, startE, pickIx, mul_bin a1 c2 (by omega), mul_bin c1 a2 (by omega), mul_bin a2 c2 (by omega), mul_bin a1 c1 (by omega), mul_bin b2 a2 (by omega), mul_bin d1 c2 (by omega), y1, y2, y3, x1, x2, x3, l1, eq_true h0, ev_hear, x4, hr_ex, l2, x5, x6, x7, y5, y6, l3]
  · have x4 := q_divided (wf := wf) (k := k + 2) (S := S) hp hq (by omega) h0
    obtain ⟨y4, z4⟩ := q_frac (wf := wf) (k := k + 1) (S := S) (m := 920) (t := p.num * q.den) (b := p.den * q.num) hw (Int.mul_ne_zero (by omega) h0) (a1.mul c2) (a2.mul c1) (by omega)
    have l2 := like_of (wf := wf) (k := k + 3) (S := S) (GD_lst (n := 2) (h := 1) (ds := [fr (Rat.divInt (p.num * q.den) (p.den * q.num))]) (by
      intro d hd
      rw [List.mem_singleton.mp hd]; exact GD_fr z4 (by omega))) (by simp) (by decide)
    generalize fr (Rat.divInt (p.num * q.den) (p.den * q.num)) = P4 at x4 y4 l2
    simp only [fr_eq p, fr_eq q] at x1 x2 x3 x4 x5 x6 x7 ⊢
    simp [n__law_two_right, startE, pickIx, mul_bin a1 c2 (by omega), mul_bin c1 a2 (by omega), mul_bin a2 c2 (by omega), mul_bin a1 c1 (by omega), mul_bin b2 a2 (by omega), mul_bin d1 c2 (by omega), mul_bin a2 c1 (by omega), y1, y2, y3, x1, x2, x3, l1, h0, ev_hear, x4, y4, hr_ok, l2, x5, x6, x7, y5, y6, l3]
end K00

set_option maxHeartbeats 4000000
namespace K00
open Fx
open PySem (Str PyData)
variable {wf k : Nat} {S : Store}
theorem q__law_of {n j : Nat} {ds : List D} (hm : MOk S n j) (hj : j < 100000) (h0 : 0 < ds.length) (h1 : ds.length < 1000) : ∃ d S', callF T wf (k + 2) "_law_of" [.ref n, .lst ds] S = .ok d S' ∧ d ∈ ds ∧ MOk S' n (j + 1) := by
  obtain ⟨r, S1, e1, p0, p1, m1⟩ := s__law_draw (wf := wf) (k := k) (b := (ds.length : Int)) hm (by omega) (by omega) (by omega)
  have hr : r.toNat < ds.length := by omega
  have i : ixD (.lst ds) (.int r) = some ds[r.toNat] := by
    have := at_nat (ds := ds) (i := r.toNat) (d := ds[r.toNat]) (List.getElem?_eq_getElem hr)
    rw [Int.toNat_of_nonneg p0] at this
    exact this
  refine ⟨ds[r.toNat], S1, ?_, List.getElem_mem _, m1⟩
  rw [call_step T__law_of rfl]
  simp [n__law_of, startE, pickIx, e1, i]
/-- plain values: whole numbers of n bits, tuples and lists of at most m -/
inductive Gn (n m : Nat) : D → Prop
  | int {i : Int} (h : Bd n i) : Gn n m (.int i)
  | non : Gn n m .non
  | bl (b : Bool) : Gn n m (.bl b)
  | tup {xs : List D} (h : ∀ d, d ∈ xs → Gn n m d) (l : xs.length ≤ m) : Gn n m (.tup xs)
  | lst {xs : List D} (h : ∀ d, d ∈ xs → Gn n m d) (l : xs.length ≤ m) : Gn n m (.lst xs)
section
variable {n m : Nat} {d : D}
theorem is_int (h : Gn n m d) : callF T wf (k + 1) "is_integer" [d] S = .ok (.bl (isI d)) S := by
  rw [call_step T_is_integer rfl]
  cases h <;> simp [n_is_integer, startE, isI]
/-- a fraction in its lowest form -/
def isW : D → Bool
  | .tup [.int a, .int b] => decide (0 < b) && decide (gcdL [a, b] = 1)
  | _ => false
theorem nat1 (g : Nat) : (((g : Nat) : Int) == 1) = decide (g = 1) := by
  by_cases q : g = 1
  · rw [decide_eq_true q, q]; rfl
  · have : ¬ ((g : Nat) : Int) = 1 := by omega
    rw [decide_eq_false q]; simpa using this
theorem gcdL2 {a b : Int} : gcdL [a, b] = Nat.gcd a.natAbs b.natAbs := by
  show gcdF (gcdF 0 [a]) [b] = _
  simp [gcdF]
theorem q_check_fraction (h : Gn n m d) : callF T wf (k + 2) "check_fraction" [d] S = if isW d then .ok d S else .ex "NotNumber" d S := by
  rw [call_step T_check_fraction rfl]
  cases h with
  | tup h l =>
    rename_i xs
    rcases xs with _ | ⟨x, _ | ⟨y, _ | ⟨z, r⟩⟩⟩
    · simp [n_check_fraction, startE, isW]
    · simp [n_check_fraction, startE, isW]
    · have hx := is_int (wf := wf) (k := k) (S := S) (h x (by simp))
      have hy := is_int (wf := wf) (k := k) (S := S) (h y (by simp))
      cases ix : isI x with
      | false =>
        rw [ix] at hx
        have : isW (.tup [x, y]) = false := by
          cases x <;> first | rfl | (simp [isI] at ix)
        rw [this]
        simp [n_check_fraction, startE, pickIx, hx]
      | true =>
        cases iy : isI y with
        | false =>
          rw [ix] at hx
          rw [iy] at hy
          have : isW (.tup [x, y]) = false := by
            cases x <;> cases y <;> first | rfl | (simp [isI] at iy)
          rw [this]
          simp [n_check_fraction, startE, pickIx, hx, hy]
        | true =>
          obtain ⟨a, rfl⟩ : ∃ a, x = .int a := by cases x <;> first | exact ⟨_, rfl⟩ | (simp [isI] at ix)
          obtain ⟨b, rfl⟩ : ∃ b, y = .int b := by cases y <;> first | exact ⟨_, rfl⟩ | (simp [isI] at iy)
          rw [ix] at hx
          rw [iy] at hy
          have e : isW (.tup [.int a, .int b]) = (decide (0 < b) && decide (gcdL [a, b] = 1)) := rfl
          rw [e]
          have g2 := nat1 (gcdL [a, b])
          by_cases h1 : b < 1
          · have h2 : ¬ 0 < b := by omega
            simp [n_check_fraction, startE, pickIx, hx, hy, h1, h2]
          · have h2 : 0 < b := by omega
            have bg : biOp .gcd [.int a, .int b] = some (.int ((gcdL [a, b] : Nat) : Int)) := by rw [gcdL2]; rfl
            by_cases h3 : gcdL [a, b] = 1
            · rw [h3] at bg
              simp [n_check_fraction, startE, pickIx, hx, hy, h1, h2, h3, bg, -bi_gcd]
            · rw [decide_eq_false h3] at g2
              generalize ((gcdL [a, b] : Nat) : Int) = g at bg g2
              have g3 : ¬ g = 1 := by simpa using g2
              simp [n_check_fraction, startE, pickIx, hx, hy, h1, h2, h3, bg, -bi_gcd, g3]
    · have e : ¬ ((r.length : Int) + 1 + 1 + 1 = 2) := by omega
      simp [n_check_fraction, startE, isW, e]
  | _ => simp [n_check_fraction, startE, isW]
end
end K00

set_option maxHeartbeats 4000000
namespace K00
open Fx
open PySem (Str PyData)
variable {wf k : Nat} {S : Store}
theorem eq_tt {a b c d : Int} : cmpOp .eq (.tup [.int a, .int b]) (.tup [.int c, .int d]) = some (decide (a = c) && decide (b = d)) := by
  show some (PyData.eqv (.tuple [.int a, .int b]) (.tuple [.int c, .int d])) = _
  have h1 : (a == c) = decide (a = c) := rfl
  have h2 : (b == d) = decide (b = d) := rfl
  rw [← h1, ← h2]
  simp only [PyData.eqv, PyData.eqvAll, Bool.and_true]
theorem eq_lt {a b c d : Int} : cmpOp .eq (.lst [.int a, .int b]) (.tup [.int c, .int d]) = some false := rfl
theorem eq_t3 {a b e c d : Int} : cmpOp .eq (.tup [.int a, .int b, .int e]) (.tup [.int c, .int d]) = some false := by
  show some (PyData.eqv (.tuple [.int a, .int b, .int e]) (.tuple [.int c, .int d])) = _
  simp [PyData.eqv, PyData.eqvAll]
theorem eq_tn {a c d : Int} : cmpOp .eq (.tup [.int a, .non]) (.tup [.int c, .int d]) = some false := by
  show some (PyData.eqv (.tuple [.int a, .none]) (.tuple [.int c, .int d])) = _
  simp [PyData.eqv, PyData.eqvAll]
theorem add_t1 {a b c : Int} : binOp .add (.tup [.int a, .int b]) (.tup [.int c]) = some (.tup [.int a, .int b, .int c]) := rfl
/-- the pair and what is near it -/
def oddS (a b : Int) : List D := [.tup [.int a, .int b], .tup [.int a, .int (-b)], .tup [.int (2 * a), .int (2 * b)], .lst [.int a, .int b], .tup [.int a, .int b, .int 1], .tup [.int a, .non], .tup [.int a, .int 0]]
theorem gn_i {n m : Nat} {xs : List Int} (h : BdL n xs) (l : xs.length ≤ m) : Gn n m (.tup (xs.map D.int)) ∧ Gn n m (.lst (xs.map D.int)) :=
  ⟨.tup (fun d hd => by obtain ⟨z, hz, rfl⟩ := List.mem_map.mp hd; exact .int (h z hz)) (by rwa [List.length_map]), .lst (fun d hd => by obtain ⟨z, hz, rfl⟩ := List.mem_map.mp hd; exact .int (h z hz)) (by rwa [List.length_map])⟩
theorem gd_i {n : Nat} {xs : List Int} (h : BdL n xs) (hn : n ≤ 1900) (l : xs.length ≤ 3) : GD 3 1 (.tup (xs.map D.int)) ∧ GD 3 1 (.lst (xs.map D.int)) := by
  have q : ∀ d ∈ xs.map D.int, GD 0 0 d := fun d hd => by obtain ⟨z, hz, rfl⟩ := List.mem_map.mp hd; exact GD_int ((h z hz).mono hn)
  exact ⟨(GD_tup q).mono (by simp; omega) (by omega), (GD_lst q).mono (by simp; omega) (by omega)⟩
theorem Bd0 {n : Nat} : Bd n 0 := by unfold Bd; exact Nat.two_pow_pos _
theorem Bd1 {n : Nat} (h : 1 ≤ n) : Bd n 1 := by unfold Bd; exact Nat.one_lt_two_pow (by omega)
theorem odd_at {a b : Int} (hb : 0 < b) (hg : gcdL [a, b] = 1) (h1 : Bd 460 a) (h2 : Bd 460 b) : ∀ d ∈ oddS a b, Gn 462 3 d ∧ GD 3 1 d ∧ cmpOp .eq d (.tup [.int a, .int b]) = some (isW d) ∧ (isW d = true → d = .tup [.int a, .int b]) := by
  intro d hd
  have k1 := h1.mono (by omega : 460 ≤ 462)
  have k2 := h2.mono (by omega : 460 ≤ 462)
  have k3 : Bd 462 (2 * a) := (b2.mul h1).mono (by omega)
  have k4 : Bd 462 (2 * b) := (b2.mul h2).mono (by omega)
  have two : ∀ {x y : Int}, Bd 462 x → Bd 462 y → BdL 462 [x, y] := fun {x y} hx hy z hz => by
    rcases List.mem_cons.mp hz with rfl | hz
    · exact hx
    · rw [List.mem_singleton.mp hz]; exact hy
  unfold oddS at hd
  simp only [List.mem_cons, List.not_mem_nil, or_false] at hd
  rcases hd with rfl | rfl | rfl | rfl | rfl | rfl | rfl
  · refine ⟨(gn_i (two k1 k2) (by simp)).1, (gd_i (two k1 k2) (by decide) (by simp)).1, ?_, fun _ => rfl⟩
    rw [eq_tt]
    simp [isW, hb, hg]
  · refine ⟨(gn_i (two k1 k2.neg) (by simp)).1, (gd_i (two k1 k2.neg) (by decide) (by simp)).1, ?_, fun h => ?_⟩
    · rw [eq_tt]
      have e1 : ¬ (-b = b) := by omega
      have e2 : ¬ (0 < -b) := by omega
      simp only [isW, e1, e2, decide_false, Bool.and_false, Bool.false_and]
    · have e2 : ¬ (0 < -b) := by omega
      simp only [isW, e2, decide_false, Bool.false_and] at h
      cases h
  · have hw : isW (.tup [.int (2 * a), .int (2 * b)]) = false := by
      have e : ¬ gcdL [2 * a, 2 * b] = 1 := fun e => by
        rw [gcdL2, Int.natAbs_mul, Int.natAbs_mul, Nat.gcd_mul_left] at e
        rw [show (2 : Int).natAbs = 2 from rfl] at e
        omega
      simp only [isW, e, decide_false, Bool.and_false]
    refine ⟨(gn_i (two k3 k4) (by simp)).1, (gd_i (two k3 k4) (by decide) (by simp)).1, ?_, fun h => by rw [hw] at h; cases h⟩
    rw [eq_tt, hw]
    have e1 : ¬ (2 * b = b) := by omega
    simp only [e1, decide_false, Bool.and_false]
  · exact ⟨(gn_i (two k1 k2) (by simp)).2, (gd_i (two k1 k2) (by decide) (by simp)).2, eq_lt, fun h => by cases h⟩
  · have three : BdL 462 [a, b, 1] := fun z hz => by
      rcases List.mem_cons.mp hz with rfl | hz
      · exact k1
      · rcases List.mem_cons.mp hz with rfl | hz
        · exact k2
        · rw [List.mem_singleton.mp hz]; exact Bd1 (by decide)
    exact ⟨(gn_i three (by simp)).1, (gd_i three (by decide) (by simp)).1, eq_t3, fun h => by cases h⟩
  · refine ⟨.tup (fun d hd => ?_) (by simp), (GD_tup (n := 0) (h := 0) fun d hd => ?_).mono (by simp) (by omega), eq_tn, fun h => by cases h⟩
    · rcases List.mem_cons.mp hd with rfl | hd
      · exact .int k1
      · rw [List.mem_singleton.mp hd]; exact .non
    · rcases List.mem_cons.mp hd with rfl | hd
      · exact GD_int (k1.mono (by decide))
      · rw [List.mem_singleton.mp hd]; exact GD_non
  · refine ⟨(gn_i (two k1 Bd0) (by simp)).1, (gd_i (two k1 Bd0) (by decide) (by simp)).1, ?_, fun h => by simp [isW] at h⟩
    rw [eq_tt]
    have e1 : ¬ ((0 : Int) = b) := by omega
    simp [isW, e1]
theorem lowest_right {n j : Nat} (hw : 20000 ≤ wf) (hm : MOk S n j) (hj : j < 70000) : ∃ S', callF T wf (k + 5) "_law_lowest_right" [.ref n] S = .ok (.bl true) S' ∧ MOk S' n (j + 100) := by
  obtain ⟨a, S1, e1, ba, m1⟩ := q__law_integer (wf := wf) (k := k + 2) hm (by omega)
  obtain ⟨c, S2, e2, bc, m2⟩ := q__law_integer (wf := wf) (k := k + 2) m1 (by omega)
  obtain ⟨p, S3, e3, bp, m3⟩ := q__law_pair (wf := wf) (k := k) hw m2 (by omega)
  obtain ⟨p1, p2⟩ := Bq1 bp
  have hg : gcdL [p.num, (p.den : Int)] = 1 := by
    rw [gcdL2, Int.natAbs_natCast]
    exact p.reduced
  have hl : (oddS p.num p.den).length = 7 := rfl
  obtain ⟨d, S4, e4, d4, m4⟩ := q__law_of (wf := wf) (k := k + 2) (ds := oddS p.num p.den) m3 (by omega) (by rw [hl]; decide) (by rw [hl]; decide)
  obtain ⟨g1, g2, g3, g4⟩ := odd_at (pos_den p) hg p1 p2 d d4
  have ck := q_check_fraction (wf := wf) (k := k + 2) (S := S4) g1
  refine ⟨S4, ?_, m4.mono (by omega)⟩
  rw [fr_eq p] at e3
  simp only [oddS] at e4
  have f1 := b2.mul p1
  have tail : ∃ v, callF T wf (k + 4) "_law_like" [v, v] S4 = .ok (.bl true) S4 ∧ hearR hsN (callF T wf (k + 4) "check_fraction" [d] S4) = .ok v S4 ∧ v = (if isW d then .lst [d] else .tup [.str "number", d]) := by
    cases hd : isW d with
    | true =>
      rw [hd, if_pos rfl] at ck
      refine ⟨.lst [d], like_of (k := k + 3) (GD_lst (n := 3) (h := 1) fun z hz => ?_) (by simp) (by decide), by rw [ck]; rfl, rfl⟩
      rw [List.mem_singleton.mp hz]; exact g2
    | false =>
      rw [hd, if_neg Bool.false_ne_true] at ck
      refine ⟨.tup [.str "number", d], like_of (k := k + 3) (GD_tup (n := 6) (h := 1) fun z hz => ?_) (by simp) (by decide), by rw [ck]; rfl, rfl⟩
      rcases List.mem_cons.mp hz with rfl | hz
      · exact GD_num.mono (by omega) (by omega)
      · rw [List.mem_singleton.mp hz]; exact g2.mono (by omega) (by omega)
  obtain ⟨v, v1, v2, v3⟩ := tail
  rw [call_step T__law_lowest_right rfl]
  by_cases h : c = 0
  · subst h
    have x1 := q_low0 (wf := wf) (k := k + 3) (S := S2) (t := a)
    have l1 := like_of (wf := wf) (k := k + 3) (S := S2) (GD_tup (n := 6) (h := 0) (ds := [.str "number", .int 0]) fun d hd => by
      rcases List.mem_cons.mp hd with rfl | hd
      · exact GD_num
      · rw [List.mem_singleton.mp hd]; exact (GD_int Bd0).mono (by omega) (by omega)) (by simp) (by decide)
    cases hd : isW d with
    | true =>
      rw [hd] at g3
      rw [hd, if_pos rfl] at v3
      have := g4 hd
      subst this
      subst v3
      simp [n__law_lowest_right, startE, pickIx, e1, e2, ev_hear, x1, hr_ex, l1, e3, at0, at1, mul_bin b2 p1 (by omega), mul_bin b2 p2 (by omega), add_t1, e4, g3, v1, v2]
    | false =>
      rw [hd] at g3
      rw [hd, if_neg Bool.false_ne_true] at v3
      subst v3
      simp [n__law_lowest_right, startE, pickIx, e1, e2, ev_hear, x1, hr_ex, l1, e3, at0, at1, mul_bin b2 p1 (by omega), mul_bin b2 p2 (by omega), add_t1, e4, g3, v1, v2]
  · obtain ⟨y1, z1⟩ := q_frac (wf := wf) (k := k + 1) (S := S2) (t := a) (b := c) hw h ba bc (by decide)
    have x1 := q_low (wf := wf) (k := k + 3) (S := S2) h ba bc (by decide)
    have l1 := like_of (wf := wf) (k := k + 3) (S := S2) (GD_lst (n := 2) (h := 1) (ds := [fr (Rat.divInt a c)]) fun d hd => by
      rw [List.mem_singleton.mp hd]; exact GD_fr z1 (by decide)) (by simp) (by decide)
    generalize fr (Rat.divInt a c) = P at x1 y1 l1
    cases hd : isW d with
    | true =>
      rw [hd] at g3
      rw [hd, if_pos rfl] at v3
      have := g4 hd
      subst this
      subst v3
      simp [n__law_lowest_right, startE, pickIx, e1, e2, h, y1, ev_hear, x1, hr_ok, l1, e3, at0, at1, mul_bin b2 p1 (by omega), mul_bin b2 p2 (by omega), add_t1, e4, g3, v1, v2]
    | false =>
      rw [hd] at g3
      rw [hd, if_neg Bool.false_ne_true] at v3
      subst v3
      simp [n__law_lowest_right, startE, pickIx, e1, e2, h, y1, ev_hear, x1, hr_ok, l1, e3, at0, at1, mul_bin b2 p1 (by omega), mul_bin b2 p2 (by omega), add_t1, e4, g3, v1, v2]
end K00

set_option maxHeartbeats 4000000
namespace K00
open Fx
open PySem (Str PyData)
variable {wf k : Nat} {S : Store}
def okR : Res D → Bool
  | .ok (.bl b) _ => b
  | _ => false
theorem okR_ex {r : Res D} (h : okR r = true) : ∃ S', r = .ok (.bl true) S' := by
  unfold okR at h
  split at h
  · exact ⟨_, by rw [h]⟩
  · cases h
theorem q__law_hand_right : callF T wf (k + 8) "_law_hand_right" [] S = .ok (.bl true) S := by
  rw [call_step T__law_hand_right rfl]
  kernel_rfl
theorem q__law_errors_right : ∃ S', callF T wf (k + 8) "_law_errors_right" [] [] = .ok (.bl true) S' := by
  refine okR_ex ?_
  rw [call_step T__law_errors_right rfl]
  kernel_rfl
end K00

set_option maxHeartbeats 4000000
namespace K00
open Fx
open PySem (Str PyData)
variable {wf k : Nat} {S : Store}
section
variable {C : Ev} {a b c r : N} {env e : Env} {S' S2 : Store} {d : D} {X : Res Fl}
theorem x_step (h : exec C a env S = .ok (.nx e) S') (q : exec C b e S' = X) : exec C (.cons a b) env S = X := by
  rw [ex_cons, h]; exact q
theorem x_ret (h : ev C a env S = .ok d S') : exec C (.cons (.ret a) b) env S = .ok (.rt d) S' := by
  rw [ex_cons, ex_ret, h]; rfl
theorem x_no (h : evT C c env S = .ok false S') (q : exec C r env S' = X) : exec C (.cons (.ifs c a .nil) r) env S = X := by
  rw [ex_cons, ex_ifs, h]; exact q
theorem x_yes (h : evT C c env S = .ok true S') (q : ev C a env S' = .ok d S2) : exec C (.cons (.ifs c (.cons (.ret a) .nil) .nil) r) env S = .ok (.rt d) S2 := by
  rw [ex_cons, ex_ifs, h]
  show ((exec C (.cons (.ret a) .nil) env S').bind _) = _
  rw [x_ret q]
  rfl
end
abbrev CL (wf k : Nat) : Ev := ⟨callF T wf (k + 8), callM T wf (k + 8) true, wf⟩
abbrev lwT : N := .tor (.tnot (.tv (.call "_law_lowest_right" (.cons (.var 2) .nil) .nil [0]))) (.tnot (.tv (.call "_law_two_right" (.cons (.call "_law_pair" (.cons (.var 2) .nil) .nil [0]) (.cons (.call "_law_pair" (.cons (.var 2) .nil) .nil [0]) .nil)) .nil [0, 1])))
abbrev lwI : N := .cons (.ifs lwT (.cons (.ret (.cB false)) .nil) .nil) .nil
abbrev lwB : N := .cons (.set 2 (.call "_law_begun" (.cons (.var 0) (.cons (.var 1) .nil)) .nil [0, 1])) (.cons (.for_ (.tn 3) (.rng1 (.cI 3)) lwI) .nil)
theorem l_in {n : Nat} {x0 x1 : Sl} (hw : 20000 ≤ wf) : ∀ (ds : List D) (S : Store) (j : Nat) (x : Sl), MOk S n j → j + 200 * ds.length ≤ 60000 → ∃ y S', forL (forF (CL wf k) (.tn 3) lwI) ds [x0, x1, .val (.ref n), x] S = .ok (.nx [x0, x1, .val (.ref n), y]) S'
  | [], S, j, x, _, _ => ⟨x, S, rfl⟩
  | d :: ds, S, j, x, hm, hj => by
    rw [List.length_cons] at hj
    obtain ⟨S1, e1, m1⟩ := lowest_right (wf := wf) (k := k + 3) hw hm (by omega)
    obtain ⟨p, S2, e2, b2', m2⟩ := q__law_pair (wf := wf) (k := k + 4) hw m1 (by omega)
    obtain ⟨q, S3, e3, b3', m3⟩ := q__law_pair (wf := wf) (k := k + 4) hw m2 (by omega)
    have e4 := two_right (wf := wf) (k := k + 3) (S := S3) hw b2' b3'
    obtain ⟨y, S4, e5⟩ := l_in (x0 := x0) (x1 := x1) hw ds S3 _ (.val d) m3 (by omega)
    refine ⟨y, S4, ?_⟩
    generalize fr p = P at e2 e4
    generalize fr q = Q at e3 e4
    rw [forL_cons]
    simp [forF, pickIx, e1, e2, e3, e4]
    exact e5
theorem l_turn {ns : List Int} {i : Nat} {x1 x2 x3 : Sl} (hw : 20000 ≤ wf) (hn : ns.length ≤ 1000) : ∃ y2 y3 S', forF (CL wf k) (.tn 1) lwB (.int (i : Int)) [.val (L ns), x1, x2, x3] S = .ok (.nx [.val (L ns), .val (.int (i : Int)), y2, y3]) S' := by
  obtain ⟨S1, e1, m1⟩ := s__law_begun (wf := wf) (k := k + 7) (S := S) (ns := ns) (k0 := i) hn
  obtain ⟨y, S2, e2⟩ := l_in (wf := wf) (k := k) (n := S.length) (x0 := .val (L ns)) (x1 := .val (.int (i : Int))) hw (rangeD 0 3) S1 0 x3 m1 (by decide)
  refine ⟨.val (.ref S.length), y, S2, ?_⟩
  refine x_step (e := [.val (L ns), .val (.int (i : Int)), .val (.ref S.length), x3]) (S' := S1) ?_ (x_step (e := [.val (L ns), .val (.int (i : Int)), .val (.ref S.length), y]) (S' := S2) ?_ rfl)
  · show exec (CL wf k) (.set 2 (.call "_law_begun" (.cons (.var 0) (.cons (.var 1) .nil)) .nil [0, 1])) [.val (L ns), .val (.int (i : Int)), x2, x3] S = _
    generalize L ns = zz at e1 ⊢
    simp [pickIx, e1]
  · have it : evI (CL wf k) (.rng1 (.cI 3)) [.val (L ns), .val (.int (i : Int)), .val (.ref S.length), x3] S1 = .ok (rangeD 0 3) S1 := by
      generalize L ns = zz
      have : rgOk 0 3 = true := rg_ok (n := 3) (by decide)
      simp [this]
    rw [ex_for, it, Res.bind_ok]
    exact e2
theorem l_turns' {ns : List Int} (hw : 20000 ≤ wf) (hn : ns.length ≤ 1000) : ∀ (is : List Nat) (S : Store) (x1 x2 x3 : Sl), ∃ y1 y2 y3 S', forL (forF (CL wf k) (.tn 1) lwB) (is.map fun i : Nat => D.int (i : Int)) [.val (L ns), x1, x2, x3] S = .ok (.nx [.val (L ns), y1, y2, y3]) S'
  | [], S, x1, x2, x3 => ⟨x1, x2, x3, S, rfl⟩
  | i :: is, S, x1, x2, x3 => by
    obtain ⟨y2, y3, S1, e⟩ := l_turn (wf := wf) (k := k) (S := S) (i := i) (x1 := x1) (x2 := x2) (x3 := x3) hw hn
    obtain ⟨z1, z2, z3, S2, e'⟩ := l_turns' hw hn is S1 (.val (.int (i : Int))) y2 y3
    refine ⟨z1, z2, z3, S2, ?_⟩
    rw [List.map_cons, forL_cons, e]
    exact e'
theorem rg_nat {n : Nat} : rangeD 0 (n : Int) = (List.range n).map fun i => D.int (i : Nat) := by
  unfold rangeD
  simp
theorem law_true : ∀ ns : List Int, ns.length ≤ 63 → (∀ z ∈ ns, PySem.Builtin.Int.intBits z ≤ 1048576) → ∃ S', callF (tabOf defs) 100000 60 d_law.name [.lst (ns.map D.int)] [] = .ok (.bl true) S' := fun ns hl _ => by
  have e1 := q__law_hand_right (wf := 100000) (k := 51) (S := [])
  obtain ⟨S0, e2⟩ := q__law_errors_right (wf := 100000) (k := 51)
  obtain ⟨y1, y2, y3, S1, e⟩ := l_turns' (wf := 100000) (k := 51) (ns := ns) (by decide) (by omega) (List.range (max 2 (min ns.length 4))) S0 .un .un .un
  refine ⟨S1, ?_⟩
  show callF T 100000 (59 + 1) "law" [L ns] [] = _
  rw [call_step T_law rfl]
  have ln : biOp .len [L ns] = some (.int (ns.length : Int)) := by
    show some (D.int ((ns.map D.int).length : Nat)) = _
    rw [List.length_map]
  have mn : biOp .min [.int (ns.length : Int), .int 4] = some (.int (if (4 : Int) < (ns.length : Int) then 4 else (ns.length : Int))) := rfl
  have mx : ∀ z : Int, biOp .max [.int 2, .int z] = some (.int (if z > 2 then z else 2)) := fun z => rfl
  have ad : (if (if (4 : Int) < (ns.length : Int) then 4 else (ns.length : Int)) > 2 then (if (4 : Int) < (ns.length : Int) then 4 else (ns.length : Int)) else 2) = ((max 2 (min ns.length 4) : Nat) : Int) := by omega
  have hm : max 2 (min ns.length 4) ≤ 1000 := by omega
  generalize max 2 (min ns.length 4) = M at *
  have rg : rangeD 0 (M : Int) = (List.range M).map fun i : Nat => D.int (i : Int) := rg_nat
  have rk := rg_ok hm
  show (exec (CL 100000 51) (.cons (.ifs (.tor (.tnot (.tv (.call "_law_hand_right" .nil .nil []))) (.tnot (.tv (.call "_law_errors_right" .nil .nil [])))) (.cons (.ret (.cB false)) .nil) .nil) (.cons (.for_ (.tn 1) (.rng1 (.bi .max (.cons (.cI 2) (.cons (.bi .min (.cons (.bi .len (.cons (.var 0) .nil)) (.cons (.cI 4) .nil))) .nil)))) lwB) (.cons (.ret (.cB true)) .nil))) [.val (L ns), .un, .un, .un] []).bind ofFl = _
  refine run_no (S' := S0) ?_ (run_step (e := [.val (L ns), y1, y2, y3]) (S' := S1) ?_ (run_ret ?_))
  · generalize L ns = Z at *
    simp [pickIx, e1, e2]
  · have it : evI (CL 100000 51) (.rng1 (.bi .max (.cons (.cI 2) (.cons (.bi .min (.cons (.bi .len (.cons (.var 0) .nil)) (.cons (.cI 4) .nil))) .nil)))) [.val (L ns), .un, .un, .un] S0 = .ok (rangeD 0 (M : Int)) S0 := by
      generalize L ns = Z at *
      have mx' := mx (if (4 : Int) < (ns.length : Int) then 4 else (ns.length : Int))
      rw [ad] at mx'
      generalize (if (4 : Int) < (ns.length : Int) then 4 else (ns.length : Int)) = W at *
      simp [ln, mn, mx', rk]
    rw [ex_for, it, Res.bind_ok, rg]
    exact e
  · rfl
end K00

set_option maxHeartbeats 0
namespace K00
open PySem PySem.Spec PyProof.Rows L2 Fx
theorem all_ok : okAll defs free isGcd excs hds cons = true := by decide +kernel
theorem all_nd : (defs.map (·.name)).Nodup := by decide +kernel
theorem all_lams : lams = (lamsOf defs).map (·.name) := by decide +kernel
theorem law_in : d_law ∈ defs := List.mem_of_getElem? (i := defs.length - 1) rfl
end K00
open PySem PySem.W PySem.Calls PyProof.Rows
theorem PySem.Challenge.cw_everyfont_k00_numbers_and_errors_holds : PySem.Challenge.rw_everyfont_k00_numbers_and_errors.Holds := by
  w_on; o_law
  refine HandSHeadRun.head_imp (r := K00.RR) (q := view K00.RR.prog [0, 48]) (H := K00.hk) (ob := K00.ob) (M := 6000) (loose := K00.loose) (d := HandSHeadRun.topDef K00.RR.prog 48) (kwd := []) Fx.obX_eq
    K00.run (by kernel_rfl) (by kernel_rfl) (by kernel_rfl) (by rfl) (by first | assumption | decide +kernel) (by decide +kernel) ⟨rfl, rfl, rfl, rfl, rfl, by decide +kernel⟩ ?hw ?hc
  case hw => w_witness2
  case hc => exact Fx.law_walk (l := PySem.Challenge.rw_everyfont_k00_numbers_and_errors) (n := 63) (k := 60) (wf := 100000) (x := "script") (dl := K00.d_law) rfl (by decide) (by kernel_rfl) ⟨rfl, by decide, by decide⟩ (by kernel_rfl) K00.law_in rfl K00.all_ok K00.all_nd K00.all_lams rfl (by kernel_rfl) K00.law_true

