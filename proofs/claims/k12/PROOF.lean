import PyProof.Rows.All
import Wide.All
import OpenK.AllK
import Wide.FinOn
import PySem.Challenge.RW_everyfont_k12_systems_judged
import HandS.ForMost
import HandS.ForExc
import HandS.Lambda
import HandS.TupAny
import HandS.TupMul
import HandS.Wide
import HandS.Gcd
import HandS.CallSlots
import HandS.IsInst
import HandS.Defaults
import KE.KExcSuper
import KE.KSuper
import HandS.ExcInit
import HandS.HeadHook1
import HandS.HeadHook2
import HandS.TryMany
import HandS.ExcField
import KE.KDflt
import KE.GoesMore
import KE.GoesZip
import KE.GoesEnum
import HandS.ExcCtx
import HandS.EndTab
import HandS.EndBits
import HandS.Head0
import HandS.Head1
import HandS.Head2
import HandS.Head3
import PyProof.ReprBulk
set_option Elab.async false
set_option linter.all false
set_option maxRecDepth 100000
set_option maxHeartbeats 2000000
/-! Fx1: data, worlds, how data lies in the heap. -/
namespace Fx
open PySem PySem.Spec PyProof.Rows L2

/-- data, without addresses -/
inductive D where
  | non | bl (b : Bool) | int (i : Int) | str (x : Str) | ty (n : String)
  | tup (xs : List D) | lst (xs : List D) | ref (n : Nat) | clo

/-- a cell of the store -/
inductive Cell where
  | dct (kvs : List (Key × D))
abbrev Store := List Cell

structure G where
  K : PySem.W.Frag
  mg : Str → Option Value
  fld : Str → Option Str
  T : List (Addr × Str) := []

/-- how the store lies: the cells' addresses; the lists that never change again -/
structure Wd where
  mu : List Addr
  fz : Addr → Prop

/-- a list that never changes again -/
def LstAt (K : PySem.W.Frag) (H : Hp) (w : Wd) (a : Addr) (vs : List V) : Prop :=
  (H a = some (.lst vs) ∧ w.fz a) ∨ ∃ o, H a = some (.frz o (.lst vs))
theorem LstAt.rd {K : PySem.W.Frag} {H : Hp} {w : Wd} {a : Addr} {vs : List V} (h : LstAt K H w a vs) : Rd H a (.lst vs) := by
  rcases h with ⟨h, _⟩ | ⟨o, h⟩
  · exact .inl h
  · exact .inr ⟨o, h⟩
theorem LstAt.sql {K : PySem.W.Frag} {H : Hp} {w : Wd} {a : Addr} {vs : List V} (h : LstAt K H w a vs) : SqL K H a vs := .inl h.rd

mutual
inductive Rep (g : G) (H : Hp) (w : Wd) : D → V → Prop
  | non : Rep g H w .non .non
  | bl (b : Bool) : Rep g H w (.bl b) (.bl b)
  | int (i : Int) : Rep g H w (.int i) (.int i)
  | str (x : Str) : Rep g H w (.str x) (.str x)
  | ty (n : String) : Rep g H w (.ty n) (.ty n)
  | tup {xs : List D} {a : Addr} {vs : List V} (h : SqT g.K H a vs) (r : Reps g H w xs vs) : Rep g H w (.tup xs) (.ref a)
  | lst {xs : List D} {a : Addr} {vs : List V} (h : LstAt g.K H w a vs) (r : Reps g H w xs vs) : Rep g H w (.lst xs) (.ref a)
  | ref {n : Nat} {a : Addr} (h : w.mu[n]? = some a) : Rep g H w (.ref n) (.ref a)
inductive Reps (g : G) (H : Hp) (w : Wd) : List D → List V → Prop
  | nil : Reps g H w [] []
  | cons {d : D} {v : V} {ds : List D} {vs : List V} (h : Rep g H w d v) (t : Reps g H w ds vs) : Reps g H w (d :: ds) (v :: vs)
end

section
variable {g : G} {H H' : Hp} {w w' : Wd} {ds es : List D} {vs us : List V}
theorem Reps.length : ∀ {ds : List D} {vs : List V}, Reps g H w ds vs → ds.length = vs.length
  | _, _, .nil => rfl
  | _, _, .cons _ t => by rw [List.length_cons, List.length_cons, t.length]
theorem Reps.get : ∀ {ds : List D} {vs : List V} {i : Nat} {d : D}, Reps g H w ds vs → ds[i]? = some d → ∃ v, vs[i]? = some v ∧ Rep g H w d v
  | _, _, _, _, .nil, e => by simp at e
  | _, _, 0, _, .cons r _, e => by simp at e; subst e; exact ⟨_, rfl, r⟩
  | _, _, i + 1, d, .cons _ t, e => by
    obtain ⟨u, h1, h2⟩ := Reps.get (i := i) (d := d) t (by simpa using e)
    exact ⟨u, by simpa using h1, h2⟩
theorem Reps.getV : ∀ {ds : List D} {vs : List V} {i : Nat} {v : V}, Reps g H w ds vs → vs[i]? = some v → ∃ d, ds[i]? = some d ∧ Rep g H w d v
  | _, _, _, _, .nil, e => by simp at e
  | _, _, 0, _, .cons r _, e => by simp at e; subst e; exact ⟨_, rfl, r⟩
  | _, _, i + 1, d, .cons _ t, e => by
    obtain ⟨u, h1, h2⟩ := Reps.getV (i := i) (v := d) t (by simpa using e)
    exact ⟨u, by simpa using h1, h2⟩
theorem Reps.append : ∀ {ds es : List D} {vs us : List V}, Reps g H w ds vs → Reps g H w es us → Reps g H w (ds ++ es) (vs ++ us)
  | _, _, _, _, .nil, s => s
  | _, _, _, _, .cons r t, s => .cons r (Reps.append t s)
theorem Reps.take : ∀ {ds : List D} {vs : List V} (n : Nat), Reps g H w ds vs → Reps g H w (ds.take n) (vs.take n)
  | _, _, 0, _ => by simp; exact .nil
  | _, _, _ + 1, .nil => .nil
  | _, _, n + 1, .cons r t => .cons r (Reps.take n t)
theorem Reps.drop : ∀ {ds : List D} {vs : List V} (n : Nat), Reps g H w ds vs → Reps g H w (ds.drop n) (vs.drop n)
  | _, _, 0, r => r
  | _, _, _ + 1, .nil => .nil
  | _, _, n + 1, .cons _ t => Reps.drop n t
theorem Reps.set {d : D} {v : V} (r : Rep g H w d v) : ∀ {ds : List D} {vs : List V} (i : Nat), Reps g H w ds vs → Reps g H w (ds.set i d) (vs.set i v)
  | _, _, _, .nil => .nil
  | _, _, 0, .cons _ t => .cons r t
  | _, _, i + 1, .cons q t => .cons q (Reps.set r i t)
theorem Reps.rep (h : Reps g H w ds vs) : ∀ k : Nat, Reps g H w (List.replicate k ds).flatten (List.replicate k vs).flatten
  | 0 => .nil
  | k + 1 => by
    rw [List.replicate_succ, List.replicate_succ, List.flatten_cons, List.flatten_cons]
    exact h.append (h.rep k)
theorem Reps.snoc {d : D} {v : V} (h : Reps g H w ds vs) (r : Rep g H w d v) : Reps g H w (ds ++ [d]) (vs ++ [v]) := h.append (.cons r .nil)
theorem Reps.ints : ∀ {ns : List Int}, Reps g H w (ns.map D.int) (ns.map V.int)
  | [] => .nil
  | n :: ns => .cons (.int n) (Reps.ints (ns := ns))
theorem Reps.flatten2 : ∀ {ds : List D} {vs : List V}, Reps g H w ds vs → ds = [] → vs = []
  | _, _, .nil, _ => rfl
end

/-- what stands behind an expression or a call: all tracked objects but the cells are kept; what is new is new -/
structure Ext (w : Wd) (H : Hp) (w' : Wd) (H' : Hp) : Prop where
  keep : ∀ a o, H a = some o → a ∉ w.mu → (∀ ps, o ≠ .tbl ps) → H' a = some o
  dom : ∀ a, H' a = none → H a = none
  fz : ∀ a, w.fz a → w'.fz a
  fzn : ∀ a, w'.fz a → w.fz a ∨ H a = none
  mu : ∀ (n : Nat) (a : Addr), w.mu[n]? = some a → w'.mu[n]? = some a
  mun : ∀ a, a ∈ w'.mu → a ∈ w.mu ∨ H a = none

/-- what stands behind a statement: the lists that never change, the tuples -/
structure Per (w : Wd) (H : Hp) (w' : Wd) (H' : Hp) : Prop where
  tup : ∀ a xs, H a = some (.tup xs) → H' a = some (.tup xs)
  frz : ∀ a o u, H a = some (.frz o u) → H' a = some (.frz o u)
  lst : ∀ a xs, H a = some (.lst xs) → w.fz a → H' a = some (.lst xs) ∧ w'.fz a
  mu : ∀ (n : Nat) (a : Addr), w.mu[n]? = some a → w'.mu[n]? = some a

theorem Ext.refl {w : Wd} {H : Hp} : Ext w H w H := ⟨fun _ _ h _ _ => h, fun _ h => h, fun _ h => h, fun _ h => .inl h, fun _ _ h => h, fun _ h => .inl h⟩
theorem Ext.trans {w w1 w2 : Wd} {H H1 H2 : Hp} (a : Ext w H w1 H1) (b : Ext w1 H1 w2 H2) : Ext w H w2 H2 where
  keep := fun c o h n t => b.keep c o (a.keep c o h n t) (fun z => (a.mun c z).elim n fun q => by rw [q] at h; cases h) t
  dom := fun c h => a.dom c (b.dom c h)
  fz := fun c h => b.fz c (a.fz c h)
  fzn := fun c h => (b.fzn c h).elim (a.fzn c) fun q => .inr (a.dom c q)
  mu := fun n c h => b.mu n c (a.mu n c h)
  mun := fun c h => (b.mun c h).elim (a.mun c) fun q => .inr (a.dom c q)
theorem Per.refl {w : Wd} {H : Hp} : Per w H w H := ⟨fun _ _ h => h, fun _ _ _ h => h, fun _ _ h z => ⟨h, z⟩, fun _ _ h => h⟩
theorem Per.trans {w w1 w2 : Wd} {H H1 H2 : Hp} (a : Per w H w1 H1) (b : Per w1 H1 w2 H2) : Per w H w2 H2 where
  tup := fun c xs h => b.tup c xs (a.tup c xs h)
  frz := fun c o u h => b.frz c o u (a.frz c o u h)
  lst := fun c xs h z => b.lst c xs (a.lst c xs h z).1 (a.lst c xs h z).2
  mu := fun n c h => b.mu n c (a.mu n c h)

theorem LstAt.per {K : PySem.W.Frag} {w w' : Wd} {H H' : Hp} (p : Per w H w' H') {a : Addr} {vs : List V} (h : LstAt K H w a vs) : LstAt K H' w' a vs := by
  rcases h with ⟨h, z⟩ | ⟨o, h⟩
  · exact .inl (p.lst a vs h z)
  · exact .inr ⟨o, p.frz a o _ h⟩
theorem SqT.per {K : PySem.W.Frag} {w w' : Wd} {H H' : Hp} (p : Per w H w' H') {a : Addr} {vs : List V} (h : SqT K H a vs) : SqT K H' a vs := by
  rcases h with (h | ⟨o, h⟩) | h
  · exact .inl (.inl (p.tup a vs h))
  · exact .inl (.inr ⟨o, p.frz a o _ h⟩)
  · exact .inr h

section
variable {g : G} {H H' : Hp} {w w' : Wd}
mutual
theorem Rep.per (p : Per w H w' H') : ∀ {d : D} {v : V}, Rep g H w d v → Rep g H' w' d v
  | _, _, .non => .non
  | _, _, .bl b => .bl b
  | _, _, .int i => .int i
  | _, _, .str x => .str x
  | _, _, .ty n => .ty n
  | _, _, .tup h r => .tup (SqT.per p h) (Reps.per p r)
  | _, _, .lst h r => .lst (h.per p) (Reps.per p r)
  | _, _, .ref h => .ref (p.mu _ _ h)
theorem Reps.per (p : Per w H w' H') : ∀ {ds : List D} {vs : List V}, Reps g H w ds vs → Reps g H' w' ds vs
  | _, _, .nil => .nil
  | _, _, .cons h t => .cons (Rep.per p h) (Reps.per p t)
end
end

/-- a cell as it lies -/
inductive CellAt (g : G) (H : Hp) (w : Wd) : Cell → Addr → Prop
  | dct {kvs : List (Key × D)} {kus : List (Key × V)} {a : Addr} (h : H a = some (.dK kus)) (k : kvs.map (·.1) = kus.map (·.1)) (r : Reps g H w (kvs.map (·.2)) (kus.map (·.2))) : CellAt g H w (.dct kvs) a

/-- the tables of code objects stay where another object is written -/
theorem tabs_keep {T : List (Addr × Str)} {H H' : Hp} (t : LamX.Tabs T H) (e : ∀ b o, H b = some o → (∀ xs, o ≠ .lst xs) → (∀ kus, o ≠ .dK kus) → H' b = some o) : LamX.Tabs T H' := fun p hp => by
  obtain ⟨ps, h1, h2, h3⟩ := t p hp
  refine ⟨ps, e _ _ h1 (fun _ z => by cases z) (fun _ z => by cases z), h2, fun pos cv hc => ?_⟩
  obtain ⟨c, e1, e2⟩ := h3 pos cv hc
  exact ⟨c, e1, e _ _ e2 (fun _ z => by unfold LamX.CodeO at z; cases z) (fun _ z => by unfold LamX.CodeO at z; cases z)⟩
theorem tabs_new {T : List (Addr × Str)} {H : Hp} {p : Addr} {o : HO} (t : LamX.Tabs T H) (h : H p = none) : LamX.Tabs T (upd H p o) := tabs_keep t fun b u q _ _ => by rw [upd_ne (ne_of_none q h)]; exact q
theorem tabs_dct {T : List (Addr × Str)} {H : Hp} {p : Addr} {o : HO} {kus : List (Key × V)} (t : LamX.Tabs T H) (h : H p = some (.dK kus)) : LamX.Tabs T (upd H p o) := tabs_keep t fun b u q _ n => by
  by_cases hb : b = p
  · rw [hb, h] at q
    exact absurd (Option.some.inj q).symm (n kus)
  · rw [upd_ne hb]; exact q
theorem tabs_lst {T : List (Addr × Str)} {H : Hp} {p : Addr} {o : HO} {vs : List V} (t : LamX.Tabs T H) (h : H p = some (.lst vs)) : LamX.Tabs T (upd H p o) := tabs_keep t fun b u q n _ => by
  by_cases hb : b = p
  · rw [hb, h] at q
    exact absurd (Option.some.inj q).symm (n vs)
  · rw [upd_ne hb]; exact q
structure WOk (g : G) (w : Wd) (H : Hp) (S : Store) : Prop where
  len : w.mu.length = S.length
  nd : w.mu.Nodup
  cell : ∀ (n : Nat) (a : Addr) (c : Cell), w.mu[n]? = some a → S[n]? = some c → CellAt g H w c a
  fz : ∀ a, w.fz a → a ∉ w.mu ∧ ∃ xs, H a = some (.lst xs)
  tab : LamX.Tabs g.T H

theorem WOk.dict {g : G} {w : Wd} {H : Hp} {S : Store} (k : WOk g w H S) {a : Addr} (h : a ∈ w.mu) : ∃ kus, H a = some (.dK kus) := by
  obtain ⟨n, hn, e⟩ := List.getElem_of_mem h
  have e1 : w.mu[n]? = some a := by rw [List.getElem?_eq_getElem hn, e]
  have hS : n < S.length := by rw [← k.len]; exact hn
  obtain ⟨c, hc⟩ : ∃ c, S[n]? = some c := ⟨_, List.getElem?_eq_getElem hS⟩
  cases k.cell n a c e1 hc with
  | dct h k r => exact ⟨_, h⟩
theorem Ext.per {g : G} {w w' : Wd} {H H' : Hp} {S : Store} (e : Ext w H w' H') (k : WOk g w H S) : Per w H w' H' where
  tup := fun a xs h => e.keep a _ h (fun z => by obtain ⟨u, q⟩ := k.dict z; rw [q] at h; cases h) (fun _ z => by cases z)
  frz := fun a o u h => e.keep a _ h (fun z => by obtain ⟨u, q⟩ := k.dict z; rw [q] at h; cases h) (fun _ z => by cases z)
  lst := fun a xs h z => ⟨e.keep a _ h (k.fz a z).1 (fun _ z => by cases z), e.fz a z⟩
  mu := e.mu

/-- a new tuple -/
theorem Ext.newT {w : Wd} {H : Hp} {p : Addr} {o : HO} (h : H p = none) : Ext w H w (upd H p o) where
  keep := fun a u q _ _ => by rw [upd_ne (ne_of_none q h)]; exact q
  dom := fun a q => by
    by_cases e : a = p
    · rw [e]; exact h
    · rw [upd_ne e] at q; exact q
  fz := fun _ z => z
  fzn := fun _ z => .inl z
  mu := fun _ _ z => z
  mun := fun _ z => .inl z
/-- a new list that never changes -/
theorem Ext.newL {w : Wd} {H : Hp} {p : Addr} {o : HO} (h : H p = none) : Ext w H { w with fz := fun a => w.fz a ∨ a = p } (upd H p o) where
  keep := fun a u q _ _ => by rw [upd_ne (ne_of_none q h)]; exact q
  dom := fun a q => by
    by_cases e : a = p
    · rw [e]; exact h
    · rw [upd_ne e] at q; exact q
  fz := fun _ z => .inl z
  fzn := fun a z => z.elim .inl fun e => .inr (by rw [e]; exact h)
  mu := fun _ _ z => z
  mun := fun _ z => .inl z
/-- a new cell -/
theorem Ext.newC {w : Wd} {H : Hp} {p : Addr} {o : HO} (h : H p = none) : Ext w H { w with mu := w.mu ++ [p] } (upd H p o) where
  keep := fun a u q _ _ => by rw [upd_ne (ne_of_none q h)]; exact q
  dom := fun a q => by
    by_cases e : a = p
    · rw [e]; exact h
    · rw [upd_ne e] at q; exact q
  fz := fun _ z => z
  fzn := fun _ z => .inl z
  mu := fun n a z => by
    have := (List.getElem?_eq_some_iff.mp z).1
    show (w.mu ++ [p])[n]? = some a
    rw [List.getElem?_append_left this]; exact z
  mun := fun a z => (List.mem_append.mp z).elim .inl fun e => .inr (by rw [List.mem_singleton.mp e]; exact h)
/-- a cell written -/
theorem Ext.put {w : Wd} {H : Hp} {p : Addr} {o : HO} (h : p ∈ w.mu) : Ext w H w (upd H p o) where
  keep := fun a u q n _ => by rw [upd_ne (fun e => n (by rw [e]; exact h))]; exact q
  dom := fun a q => by
    by_cases e : a = p
    · rw [e, upd_same] at q; cases q
    · rw [upd_ne e] at q; exact q
  fz := fun _ z => z
  fzn := fun _ z => .inl z
  mu := fun _ _ z => z
  mun := fun _ z => .inl z

section
variable {g : G} {H H' : Hp} {w w' : Wd} {S S' : Store}
theorem CellAt.per {c : Cell} {a : Addr} (p : Per w H w' H') (k : ∀ kus, H a = some (.dK kus) → H' a = some (.dK kus)) (h : CellAt g H w c a) : CellAt g H' w' c a := by
  cases h with
  | dct h e r => exact .dct (k _ h) e (r.per p)
theorem WOk.newT {p : Addr} {o : HO} (k : WOk g w H S) (h : H p = none) : WOk g w (upd H p o) S := by
  have P := (Ext.newT (w := w) (o := o) h).per k
  refine ⟨k.len, k.nd, fun n a c e1 e2 => (k.cell n a c e1 e2).per P fun kus q => by rw [upd_ne (ne_of_none q h)]; exact q, fun a z => ?_, tabs_new k.tab h⟩
  obtain ⟨h1, xs, h2⟩ := k.fz a z
  exact ⟨h1, xs, by rw [upd_ne (ne_of_none h2 h)]; exact h2⟩
theorem WOk.nmu {p : Addr} (k : WOk g w H S) (h : H p = none) : p ∉ w.mu := fun z => by
  obtain ⟨u, q⟩ := k.dict z
  rw [q] at h; cases h
theorem WOk.newL {p : Addr} {vs : List V} (k : WOk g w H S) (h : H p = none) : WOk g { w with fz := fun a => w.fz a ∨ a = p } (upd H p (.lst vs)) S := by
  have P := (Ext.newL (w := w) (o := .lst vs) h).per k
  refine ⟨k.len, k.nd, fun n a c e1 e2 => (k.cell n a c e1 e2).per P fun kus q => by rw [upd_ne (ne_of_none q h)]; exact q, fun a z => ?_, tabs_new k.tab h⟩
  rcases z with z | z
  · obtain ⟨h1, xs, h2⟩ := k.fz a z
    exact ⟨h1, xs, by rw [upd_ne (ne_of_none h2 h)]; exact h2⟩
  · rw [z]; exact ⟨k.nmu h, vs, upd_same⟩
theorem WOk.newC {p : Addr} {kvs : List (Key × D)} {kus : List (Key × V)} (k : WOk g w H S) (h : H p = none) (e : kvs.map (·.1) = kus.map (·.1)) (r : Reps g H w (kvs.map (·.2)) (kus.map (·.2))) :
    WOk g { w with mu := w.mu ++ [p] } (upd H p (.dK kus)) (S ++ [.dct kvs]) := by
  have P := (Ext.newC (w := w) (o := .dK kus) h).per k
  refine ⟨?_, ?_, fun n a c e1 e2 => ?_, fun a z => ?_, tabs_new k.tab h⟩
  · simp [k.len]
  · exact List.nodup_append.mpr ⟨k.nd, by simp, fun a ha b hb => by
      rw [List.mem_singleton.mp hb]; exact fun q => k.nmu h (by rw [← q]; exact ha)⟩
  · by_cases hn : n < w.mu.length
    · have e1' : w.mu[n]? = some a := by rw [← e1]; exact (List.getElem?_append_left hn).symm
      have e2' : S[n]? = some c := by rw [← e2]; exact (List.getElem?_append_left (by rw [← k.len]; exact hn)).symm
      exact (k.cell n a c e1' e2').per P fun kus q => by rw [upd_ne (ne_of_none q h)]; exact q
    · have hn2 : w.mu.length ≤ n := Nat.le_of_not_lt hn
      have e1' : [p][n - w.mu.length]? = some a := by rw [← e1]; exact (List.getElem?_append_right hn2).symm
      have e2' : [Cell.dct kvs][n - S.length]? = some c := by rw [← e2]; exact (List.getElem?_append_right (by rw [← k.len]; exact hn2)).symm
      have e0 : n - w.mu.length = 0 := by
        have := (List.getElem?_eq_some_iff.mp e1').1
        simp at this; omega
      rw [e0] at e1'
      rw [← k.len, e0] at e2'
      cases e1'; cases e2'
      exact .dct upd_same e (r.per P)
  · obtain ⟨h1, xs, h2⟩ := k.fz a z
    refine ⟨fun z => ?_, xs, by rw [upd_ne (ne_of_none h2 h)]; exact h2⟩
    rcases List.mem_append.mp z with z | z
    · exact h1 z
    · rw [List.mem_singleton.mp z, h] at h2; cases h2
theorem WOk.put {n : Nat} {p : Addr} {kvs : List (Key × D)} {kus : List (Key × V)} (k : WOk g w H S) (h : w.mu[n]? = some p) (e : kvs.map (·.1) = kus.map (·.1)) (r : Reps g H w (kvs.map (·.2)) (kus.map (·.2))) :
    WOk g w (upd H p (.dK kus)) (S.set n (.dct kvs)) := by
  have hm : p ∈ w.mu := List.mem_of_getElem? h
  have P := (Ext.put (H := H) (o := .dK kus) hm).per k
  refine ⟨by simp [k.len], k.nd, fun m a c e1 e2 => ?_, fun a z => ?_, by obtain ⟨u, q⟩ := k.dict hm; exact tabs_dct k.tab q⟩
  · by_cases hn : n = m
    · subst hn
      rw [h] at e1; cases e1
      have := (List.getElem?_eq_some_iff.mp e2).1
      rw [List.getElem?_set_self (by simpa using this)] at e2
      cases e2
      exact .dct upd_same e (r.per P)
    · rw [List.getElem?_set_ne hn] at e2
      have ne : a ≠ p := fun q => by
        subst q
        exact hn ((List.getElem?_inj (List.getElem?_eq_some_iff.mp h).1 k.nd).mp (h.trans e1.symm))
      exact (k.cell m a c e1 e2).per P fun kus q => by rw [upd_ne ne]; exact q
  · obtain ⟨h1, xs, h2⟩ := k.fz a z
    exact ⟨h1, xs, by rw [upd_ne (fun q => h1 (by rw [q]; exact hm))]; exact h2⟩
end
end Fx

set_option maxHeartbeats 2000000
/-! Fx2: the small language and what it computes. -/
namespace Fx
open PySem PySem.Spec PyProof.Rows L2

inductive Op where | add | sub | mul | fdiv | mod | pow
  deriving DecidableEq
inductive Cp where | eq | ne | lt | le | gt | ge | is | isn | mem | nin
  deriving DecidableEq
inductive Bi where | len | abs | int | tuple | list | sum | min | max | repr | gcd | all | any | sorted | str
  deriving DecidableEq

/-- expressions, their lists, iterables, targets, statements, blocks -/
inductive N where
  | nil | cons (a b : N)
  | var (i : Nat) | pk (i : Nat) | gl (x : Str)
  | cI (i : Int) | cS (x : Str) | cT (xs : List Str) | cB (b : Bool) | cN
  | tup (es : N) | lst (es : N) | dct (ks : List Str) (vs : N)
  | bin (op : Op) (a b : N) | neg (a : N)
  | cmp (op : Cp) (a b : N) | chn (o o' : Cp) (a b c : N)
  | vand (a b : N) | vor (a b : N) | vnot (a : N)
  | ite (c a b : N)
  | idx (a i : N) | slc (a lo hi : N) | dget (d : N) (k : Str)
  | call (f : Str) (es ks : N) (ix : List Nat) | hear (f : Str) (hs : List (Str × Str)) (e : N) | bi (b : Bi) (es : N) | isi (a : N) (t : String) | callB (f : Str) (es : N)
  | comp (own : List (Str × Nat)) (elt tg it cond : N)
  -- tests
  | tv (a : N) | tand (a b : N) | tor (a b : N) | tnot (a : N)
  -- iterables
  | seq (a : N) | rng1 (a : N) | rng2 (a b : N) | enum (a : N) | zip (a b : N)
  -- targets
  | tn (i : Nat) | tt (es : N)
  -- statements
  | set (i : Nat) (e : N) | setO (i : Nat) (e : N) | unp (tg e : N) | par (i j : Nat) (a b : N)
  | app (i : Nat) (e : N) | dput (d : N) (k : Str) (e : N) | frz (i : Nat)
  | expr (e : N) | ret (e : N) | retN | ifs (c a b : N) | for_ (tg it body : N) | whl (c body : N) | brk | cnt | pass | raise_ (c : Str) (e : N) | tryB (body : N) (c : Str) (b : Bool) | lput (i : Nat) (e v : N)

inductive Sl where
  | un | val (d : D) | own (xs : List D) | bor (xs : List D)
abbrev Env := List Sl

inductive Res (α : Type) where
  | ok (a : α) (S : Store)
  | ex (c : Str) (p : D) (S : Store)
  | st
def Res.bind {α β : Type} (r : Res α) (f : α → Store → Res β) : Res β :=
  match r with
  | .ok a S => f a S
  | .ex c p S => .ex c p S
  | .st => .st
@[simp] theorem Res.bind_ok {α β : Type} (a : α) (S : Store) (f : α → Store → Res β) : (Res.ok a S).bind f = f a S := id rfl
@[simp] theorem Res.bind_ex {α β : Type} (c : Str) (p : D) (S : Store) (f : α → Store → Res β) : (Res.ex c p S).bind f = .ex c p S := id rfl
@[simp] theorem Res.bind_st {α β : Type} (f : α → Store → Res β) : (Res.st : Res α).bind f = .st := id rfl
def ofO {α : Type} (o : Option α) (S : Store) : Res α :=
  match o with
  | some a => .ok a S
  | none => .st
@[simp] theorem ofO_some {α : Type} (a : α) (S : Store) : ofO (some a) S = .ok a S := id rfl
@[simp] theorem ofO_none {α : Type} (S : Store) : ofO (none : Option α) S = .st := id rfl

inductive Fl where
  | nx (e : Env) | rt (d : D) | bk (e : Env) | ct (e : Env)

def lim : Nat := 16777216

/-! ### plain data -/
mutual
def D.py : D → Option PyData
  | .non => some .none
  | .bl b => some (.bool b)
  | .int i => some (.int i)
  | .str x => some (.str x)
  | .tup xs => (D.pys xs).map .tuple
  | .lst xs => (D.pys xs).map .list
  | _ => none
def D.pys : List D → Option (List PyData)
  | [] => some []
  | d :: ds => match d.py, D.pys ds with
    | some p, some ps => some (p :: ps)
    | _, _ => none
end

/-! ### operators -/
def mulOk (i j : Int) : Bool := decide (i.natAbs < 2 ^ 64) || decide (j.natAbs < 2 ^ 64) || decide (i.natAbs.log2 + j.natAbs.log2 < 1000000)
def divOk (j : Int) : Bool := decide (j ≠ 0) && decide (j.natAbs.log2 < 9000)
def powOk (i j : Int) : Bool := decide (0 ≤ j) && decide (j ≤ 1000000) && decide (i.natAbs < 2 ^ 64)
def binOp : Op → D → D → Option D
  | .add, .int i, .int j => some (.int (i + j))
  | .add, .lst xs, .lst ys => if xs.length + ys.length ≤ lim then some (.lst (xs ++ ys)) else none
  | .add, .tup xs, .tup ys => if xs.length + ys.length ≤ lim then some (.tup (xs ++ ys)) else none
  | .add, .str x, .str y => if x.length + y.length ≤ lim then some (.str (x ++ y)) else none
  | .sub, .int i, .int j => some (.int (i - j))
  | .mul, .int i, .int j => if mulOk i j then some (.int (i * j)) else none
  | .mul, .int i, .bl b => some (.int (i * (if b = true then 1 else 0)))
  | .mul, .lst xs, .int j => if -(2 ^ 63) ≤ j ∧ j < 2 ^ 63 ∧ xs.length * j.toNat ≤ lim then some (.lst (List.replicate j.toNat xs).flatten) else none
  | .mul, .tup xs, .int 1 => some (.tup xs)
  | .mul, .tup xs, .int j => if xs.isEmpty = false ∧ 2 ≤ j ∧ j ≤ 1000 ∧ xs.length ≤ 1000 then some (.tup (List.replicate j.toNat xs).flatten) else none
  | .fdiv, .int i, .int j => if divOk j then some (.int (i.fdiv j)) else none
  | .mod, .int i, .int j => if j ≠ 0 then some (.int (i.fmod j)) else none
  | .pow, .int i, .int j => if powOk i j then some (.int (i ^ j.toNat)) else none
  | _, _, _ => none
def eqD (a b : D) : Option Bool :=
  match a.py, b.py with
  | some x, some y => if SeqAt.shaped x && SeqAt.shaped y then some (PyData.eqv x y) else none
  | _, _ => none
def isNone : D → Bool
  | .non => true
  | _ => false
def strsD : List D → Option (List Str)
  | [] => some []
  | .str x :: ds => (strsD ds).map (x :: ·)
  | _ => none
def cmpOp : Cp → D → D → Option Bool
  | .eq, a, b => eqD a b
  | .ne, a, b => (eqD a b).map (!·)
  | .lt, .int i, .int j => some (decide (i < j))
  | .le, .int i, .int j => some (decide (i ≤ j))
  | .gt, .int i, .int j => some (decide (j < i))
  | .ge, .int i, .int j => some (decide (j ≤ i))
  | .is, a, .non => some (isNone a)
  | .isn, a, .non => some (!isNone a)
  | .mem, .str x, .tup ys => (strsD ys).map fun l => l.any (· == x)
  | .nin, .str x, .tup ys => (strsD ys).map fun l => !l.any (· == x)
  | _, _, _ => none
def truthy : D → Option Bool
  | .non => some false
  | .bl b => some b
  | .int i => some (i != 0)
  | .str x => if x.length ≤ lim then some ((x.length : Int) != 0) else none
  | .tup xs => some (!xs.isEmpty)
  | .lst xs => some (!xs.isEmpty)
  | _ => none

/-! ### indexes and slices -/
def ixD (a i : D) : Option D :=
  match a, i with
  | .tup xs, .int k => atI xs k
  | .lst xs, .int k => atI xs k
  | _, _ => none
def cutD (xs : List D) (lo hi : Option Int) : List D := (xs.drop (HT.sIx xs.length 0 lo)).take (HT.sIx xs.length xs.length hi - HT.sIx xs.length 0 lo)
def slD (a : D) (lo hi : Option Int) : Option D :=
  match a with
  | .tup xs => some (.tup (cutD xs lo hi))
  | .lst xs => some (.lst (cutD xs lo hi))
  | _ => none

/-! ### built-in functions -/
def sumD : Int → List D → Option Int
  | a, [] => some a
  | a, .int i :: ds => sumD (a + i) ds
  | _, _ => none
def reprD (d : D) : Option D :=
  match d.py with
  | some p => if p.showable && decide (p.depth ≤ 64) && decide (p.shown.length ≤ lim) then some (.str p.shown) else none
  | none => none
def allD : List D → Option Bool
  | [] => some true
  | .bl b :: ds => (allD ds).map (b && ·)
  | _ => none
def biOp : Bi → List D → Option D
  | .len, [.tup xs] => some (.int xs.length)
  | .len, [.lst xs] => some (.int xs.length)
  | .len, [.str x] => if x.length ≤ lim then some (.int x.length) else none
  | .abs, [.int i] => some (.int (if i < 0 then -i else i))
  | .int, [.int i] => some (.int i)
  | .int, [.bl b] => some (.int (if b then 1 else 0))
  | .tuple, [.tup xs] => some (.tup xs)
  | .tuple, [.lst xs] => some (.tup xs)
  | .list, [.tup xs] => some (.lst xs)
  | .list, [.lst xs] => some (.lst xs)
  | .all, [.lst xs] => (allD xs).map .bl
  | .sum, [.lst xs] => (sumD 0 xs).map .int
  | .min, [.int i, .int j] => some (.int (if j < i then j else i))
  | .max, [.int i, .int j] => some (.int (if j > i then j else i))
  | .gcd, [.int i, .int j] => some (.int ((Nat.gcd i.natAbs j.natAbs : Nat) : Int))
  | .repr, [d] => reprD d
  | _, _ => none
def isTy : D → String → Option Bool
  | .non, t => some (t == "NoneType")
  | .bl _, t => some (t == "bool" || t == "int")
  | .int _, t => some (t == "int")
  | .str _, t => some (t == "str")
  | .tup _, t => some (t == "tuple")
  | .lst _, t => some (t == "list")
  | .ref _, t => some (t == "dict")
  | _, _ => none

/-! ### targets -/
def bindT : N → D → Env → Option Env
  | .tn i, d, env => if i < env.length then some (env.set i (.val d)) else none
  | .tt es, .tup ds, env => bindTs es ds env
  | _, _, _ => none
where bindTs : N → List D → Env → Option Env
  | .nil, [], env => some env
  | .cons t r, d :: ds, env => (bindT t d env).bind (bindTs r ds)
  | _, _, _ => none
/-- what a target writes -/
def asgT : N → Nat → Bool
  | .tn i, j => i == j
  | .tt es, j => asgT es j
  | .cons a b, j => asgT a j || asgT b j
  | _, _ => false
def wipeE (env : Env) : List (Str × Nat) → Env
  | [] => env
  | v :: vs => (wipeE env vs).set v.2 .un

/-! ### the store -/
def keyStr (k : Str) : Key := .inr k
def getK {α : Type} (kvs : List (Key × α)) (k : Key) : Option α := (kvs.find? fun kv => decide (kv.1 = k)).map (·.2)
def setK {α : Type} (kvs : List (Key × α)) (k : Key) (d : α) : List (Key × α) :=
  if (kvs.any fun kv => decide (kv.1 = k)) = true then kvs.map (fun kv => if kv.1 = k then (kv.1, d) else kv) else kvs ++ [(k, d)]
def dGet (d : D) (k : Str) (S : Store) : Option D :=
  match d with
  | .ref n => match S[n]? with
    | some (.dct kvs) => getK kvs (keyStr k)
    | none => none
  | _ => none
def dPut (d : D) (k : Str) (v : D) (S : Store) : Option Store :=
  match d with
  | .ref n => match S[n]? with
    | some (.dct kvs) => if kvs.length < 1000 then some (S.set n (.dct (setK kvs (keyStr k) v))) else none
    | none => none
  | _ => none

/-- xs[i] = d -/
def putI (xs : List D) (i : Int) (d : D) : Option (List D) := (ixN xs.length i).map fun j => xs.set j d

structure Ev where
  call : Str → List D → Store → Res D
  act : Str → List D → Store → Res D
  wf : Nat

def Res.noex {α : Type} : Res α → Res α
  | .ok a S => .ok a S
  | _ => .st
def compL (f : D → Store → Res (Option D)) : List D → List D → Store → Res (List D)
  | [], acc, S => .ok acc S
  | d :: ds, acc, S => (f d S).noex.bind fun o S => match o with
    | some y => if acc.length < lim then compL f ds (acc ++ [y]) S else .st
    | none => compL f ds acc S
def forL (f : D → Env → Store → Res Fl) : List D → Env → Store → Res Fl
  | [], env, S => .ok (.nx env) S
  | d :: ds, env, S => (f d env S).bind fun fl S => match fl with
    | .nx e => forL f ds e S
    | .ct e => forL f ds e S
    | .bk e => .ok (.nx e) S
    | .rt v => .ok (.rt v) S
def whileL (t : Env → Store → Res Bool) (f : Env → Store → Res Fl) : Nat → Env → Store → Res Fl
  | 0, _, _ => .st
  | n + 1, env, S => (t env S).bind fun b S => if b then (f env S).bind fun fl S => match fl with
      | .nx e => whileL t f n e S
      | .ct e => whileL t f n e S
      | .bk e => .ok (.nx e) S
      | .rt v => .ok (.rt v) S
    else .ok (.nx env) S
def pickIx (ix : List Nat) (ds : List D) : Option (List D) := ix.mapM fun i => ds[i]?
def rangeD (a b : Int) : List D := (List.range (b - a).toNat).map fun i => D.int (a + (i : Nat))
def enumD (xs : List D) : List D := (List.range xs.length).zipWith (fun i d => D.tup [.int (i : Nat), d]) xs
def zipD (xs ys : List D) : List D := xs.zipWith (fun x y => D.tup [x, y]) ys
def seqD : D → Option (List D)
  | .tup xs => some xs
  | .lst xs => some xs
  | _ => none
def rgOk (a b : Int) : Bool := decide (-(2 ^ 62) ≤ a) && decide (a < 2 ^ 62) && decide (-(2 ^ 62) ≤ b) && decide (b < 2 ^ 62) && decide ((b - a).toNat ≤ lim)

section
variable (C : Ev)
mutual
/-- an expression's value -/
def ev : N → Env → Store → Res D
  | .var i, env, S => match env[i]? with
    | some (.val d) => .ok d S
    | _ => .st
  | .pk i, env, S => match env[i]? with
    | some (.val d) => .ok d S
    | some (.own xs) => .ok (.lst xs) S
    | some (.bor xs) => .ok (.lst xs) S
    | _ => .st
  | .cI z, _, S => .ok (.int z) S
  | .cS x, _, S => .ok (.str x) S
  | .cB b, _, S => .ok (.bl b) S
  | .cT xs, _, S => .ok (.tup (xs.map .str)) S
  | .cN, _, S => .ok .non S
  | .tup es, env, S => (evs es env S).bind fun ds S => .ok (.tup ds) S
  | .lst es, env, S => (evs es env S).bind fun ds S => .ok (.lst ds) S
  | .dct ks vs, env, S => (evs vs env S).bind fun ds S => if ks.length = ds.length then .ok (.ref S.length) (S ++ [.dct ((ks.map keyStr).zip ds)]) else .st
  | .bin op a b, env, S => (ev a env S).bind fun x S => (ev b env S).bind fun y S => ofO (binOp op x y) S
  | .neg a, env, S => (ev a env S).bind fun x S => match x with
    | .int i => .ok (.int (-i)) S
    | _ => .st
  | .cmp op a b, env, S => (ev a env S).bind fun x S => (ev b env S).bind fun y S => ofO ((cmpOp op x y).map .bl) S
  | .chn o o' a b c, env, S => (ev a env S).bind fun x S => (ev b env S).bind fun y S => (ofO (cmpOp o x y) S).bind fun k S =>
      if k then (ev c env S).bind fun z S => ofO ((cmpOp o' y z).map .bl) S else .ok (.bl false) S
  | .vand a b, env, S => (ev a env S).bind fun x S => match x with
    | .bl true => ev b env S
    | .bl false => .ok (.bl false) S
    | _ => .st
  | .vor a b, env, S => (ev a env S).bind fun x S => match x with
    | .bl true => .ok (.bl true) S
    | .bl false => ev b env S
    | _ => .st
  | .vnot a, env, S => (ev a env S).bind fun x S => match x with
    | .bl k => .ok (.bl (!k)) S
    | _ => .st
  | .ite c a b, env, S => (evT c env S).bind fun k S => if k then ev a env S else ev b env S
  | .idx a i, env, S => (ev a env S).bind fun x S => (ev i env S).bind fun y S => ofO (ixD x y) S
  | .slc a lo hi, env, S => (ev a env S).bind fun x S => (evO lo env S).bind fun l S => (evO hi env S).bind fun h S => ofO (slD x l h) S
  | .dget d k, env, S => (ev d env S).bind fun x S => ofO (dGet x k S) S
  | .call f es ks ix, env, S => (evs es env S).bind fun ds S => (evs ks env S).bind fun dk S => match pickIx ix (ds ++ dk) with
    | some ds => C.call f ds S
    | none => .st
  | .callB f es, env, S => (evs es env S).bind fun ds S => C.act f ds S
  | .hear _ hs e, env, S => match ev e env S with
    | .ok d S => .ok (.lst [d]) S
    | .ex c p S => match hs.lookup c with
      | some w => .ok (.tup [.str w, p]) S
      | none => .st
    | .st => .st
  | .bi b es, env, S => (evs es env S).bind fun ds S => ofO (biOp b ds) S
  | .isi a t, env, S => (ev a env S).bind fun x S => ofO ((isTy x t).map .bl) S
  | .comp own elt tg it cond, env, S => (evI it env S).bind fun ds S =>
      (compL (fun d S => match bindT tg d (wipeE env own) with
        | none => .st
        | some e => (evT cond e S).bind fun k S => if k then (ev elt e S).bind fun y S => .ok (some y) S else .ok none S) ds [] S).bind fun xs S => .ok (.lst xs) S
  | _, _, _ => .st
/-- an argument list -/
def evs : N → Env → Store → Res (List D)
  | .nil, _, S => .ok [] S
  | .cons a b, env, S => (ev a env S).bind fun x S => (evs b env S).bind fun xs S => .ok (x :: xs) S
  | _, _, _ => .st
/-- a part of a slice -/
def evO : N → Env → Store → Res (Option Int)
  | .nil, _, S => .ok none S
  | .cons a .nil, env, S => (ev a env S).bind fun x S => match x with
    | .int i => .ok (some i) S
    | _ => .st
  | _, _, _ => .st
/-- a test -/
def evT : N → Env → Store → Res Bool
  | .nil, _, S => .ok true S
  | .cons a _, env, S => evT a env S
  | .tv a, env, S => (ev a env S).bind fun x S => ofO (truthy x) S
  | .tand a b, env, S => (evT a env S).bind fun k S => if k then evT b env S else .ok false S
  | .tor a b, env, S => (evT a env S).bind fun k S => if k then .ok true S else evT b env S
  | .tnot a, env, S => (evT a env S).bind fun k S => .ok (!k) S
  | .cmp op a b, env, S => (ev a env S).bind fun x S => (ev b env S).bind fun y S => ofO (cmpOp op x y) S
  | .chn o o' a b c, env, S => (ev a env S).bind fun x S => (ev b env S).bind fun y S => (ofO (cmpOp o x y) S).bind fun k S =>
      if k then (ev c env S).bind fun z S => ofO (cmpOp o' y z) S else .ok false S
  | _, _, _ => .st
/-- what is walked -/
def evI : N → Env → Store → Res (List D)
  | .seq a, env, S => (ev a env S).bind fun x S => ofO (seqD x) S
  | .rng1 a, env, S => (ev a env S).bind fun x S => match x with
    | .int n => if rgOk 0 n then .ok (rangeD 0 n) S else .st
    | _ => .st
  | .rng2 a b, env, S => (ev a env S).bind fun x S => (ev b env S).bind fun y S => match x, y with
    | .int i, .int j => if rgOk i j then .ok (rangeD i j) S else .st
    | _, _ => .st
  | .enum a, env, S => (ev a env S).bind fun x S => ofO ((seqD x).map enumD) S
  | .zip a b, env, S => (ev a env S).bind fun x S => (ev b env S).bind fun y S => match seqD x, seqD y with
    | some xs, some ys => .ok (zipD xs ys) S
    | _, _ => .st
  | _, _, _ => .st
end
/-- a statement, a block -/
def exec : N → Env → Store → Res Fl
  | .nil, env, S => .ok (.nx env) S
  | .cons a b, env, S => (exec a env S).bind fun fl S => match fl with
    | .nx e => exec b e S
    | fl => .ok fl S
  | .set i e, env, S => (ev C e env S).bind fun x S => if i < env.length then .ok (.nx (env.set i (.val x))) S else .st
  | .setO i e, env, S => (ev C e env S).bind fun x S => match x with
    | .lst xs => if i < env.length then .ok (.nx (env.set i (.own xs))) S else .st
    | _ => .st
  | .unp tg e, env, S => (ev C e env S).bind fun x S => match bindT tg x env with
    | some e => .ok (.nx e) S
    | none => .st
  | .par i j a b, env, S => (ev C a env S).bind fun x S => (ev C b env S).bind fun y S => if i < env.length ∧ j < env.length then .ok (.nx ((env.set i (.val x)).set j (.val y))) S else .st
  | .app i e, env, S => match env[i]? with
    | some (.own xs) => (ev C e env S).bind fun x S => if xs.length < lim then .ok (.nx (env.set i (.own (xs ++ [x])))) S else .st
    | _ => .st
  | .dput d k e, env, S => (ev C e env S).bind fun x S => (ev C d env S).bind fun y S => match dPut y k x S with
    | some S => .ok (.nx env) S
    | none => .st
  | .frz i, env, S => match env[i]? with
    | some (.own xs) => .ok (.nx (env.set i (.val (.lst xs)))) S
    | _ => .ok (.nx env) S
  | .tryB body c b, env, S => match exec body env S with
    | .ok fl S => .ok fl S
    | .ex c' p S => if c' = c then .ok (.rt (.bl b)) S else .st
    | .st => .st
  | .lput i e v, env, S => (ev C v env S).bind fun x S => match env[i]? with
    | some (.own xs) => (ev C e env S).bind fun y S => match y with
      | .int k => match putI xs k x with
        | some ys => .ok (.nx (env.set i (.own ys))) S
        | none => .st
      | _ => .st
    | _ => .st
  | .raise_ c e, env, S => (ev C e env S).bind fun x S => .ex c x S
  | .expr e, env, S => (ev C e env S).bind fun _ S => .ok (.nx env) S
  | .ret e, env, S => (ev C e env S).bind fun x S => .ok (.rt x) S
  | .retN, _, S => .ok (.rt .non) S
  | .ifs c a b, env, S => (evT C c env S).bind fun k S => if k then exec a env S else exec b env S
  | .for_ tg it body, env, S => (evI C it env S).bind fun ds S => forL (fun d e S => match bindT tg d e with
      | some e => exec body e S
      | none => .st) ds env S
  | .whl c body, env, S => whileL (evT C c) (exec body) C.wf env S
  | .brk, env, S => .ok (.bk env) S
  | .cnt, env, S => .ok (.ct env) S
  | .pass, env, S => .ok (.nx env) S
  | _, _, _ => .st
end
/-- a def: how many parameters, how many names, its body -/
structure Fn where
  np : Nat
  nn : Nat
  body : N
abbrev Tab := Str → Option Fn
def startE (nn : Nat) (ds : List D) : Env := ds.map .val ++ List.replicate (nn - ds.length) .un
def ofFl : Fl → Store → Res D
  | .nx _, S => .ok .non S
  | .rt d, S => .ok d S
  | _, _ => .st
/-- lists that are lent are read, and no more -/
def lent : D → Sl
  | .lst xs => .bor xs
  | d => .val d
def startM (b : Bool) (nn : Nat) (ds : List D) : Env := if b then ds.map lent ++ List.replicate (nn - ds.length) .un else startE nn ds
def callM (T : Tab) (wf : Nat) : Nat → Bool → Str → List D → Store → Res D
  | 0, _, _, _, _ => .st
  | k + 1, b, f, ds, S => match T f with
    | some F => if ds.length = F.np then (exec ⟨callM T wf k false, callM T wf k true, wf⟩ F.body (startM b F.nn ds) S).bind ofFl else .st
    | none => .st
def callF (T : Tab) (wf : Nat) (k : Nat) : Str → List D → Store → Res D := callM T wf k false
end Fx

set_option maxHeartbeats 2000000
/-! Fx3: the state of a body; readings by what the language computes. -/
namespace Fx
open PySem PySem.Spec PyProof.Rows L2

/-- a value that may be read now: data, or a list that its name still owns -/
inductive RepT (g : G) (H : Hp) (w : Wd) : D → V → Prop
  | rep {d : D} {v : V} (h : Rep g H w d v) : RepT g H w d v
  | own {xs : List D} {a : Addr} {vs : List V} (h : H a = some (.lst vs)) (r : Reps g H w xs vs) : RepT g H w (.lst xs) (.ref a)
inductive RepTs (g : G) (H : Hp) (w : Wd) : List D → List V → Prop
  | nil : RepTs g H w [] []
  | cons {d : D} {v : V} {ds : List D} {vs : List V} (h : RepT g H w d v) (t : RepTs g H w ds vs) : RepTs g H w (d :: ds) (v :: vs)
section
variable {g : G} {H H' : Hp} {w w' : Wd} {S : Store}
theorem RepT.ext (k : WOk g w H S) (e : Ext w H w' H') {d : D} {v : V} (h : RepT g H w d v) : RepT g H' w' d v := by
  cases h with
  | rep h => exact .rep (h.per (e.per k))
  | @own xs a vs h r => exact .own (e.keep a _ h (fun z => by obtain ⟨u, q⟩ := k.dict z; rw [q] at h; cases h) (fun _ z => by cases z)) (r.per (e.per k))
theorem RepTs.ext (k : WOk g w H S) (e : Ext w H w' H') : ∀ {ds : List D} {vs : List V}, RepTs g H w ds vs → RepTs g H' w' ds vs
  | _, _, .nil => .nil
  | _, _, .cons h t => .cons (h.ext k e) (RepTs.ext k e t)
theorem Reps.ts : ∀ {ds : List D} {vs : List V}, Reps g H w ds vs → RepTs g H w ds vs
  | _, _, .nil => .nil
  | _, _, .cons h t => .cons (.rep h) (Reps.ts t)
theorem RepT.lst {xs : List D} {v : V} (h : RepT g H w (.lst xs) v) : ∃ a vs, v = .ref a ∧ Rd H a (.lst vs) ∧ Reps g H w xs vs := by
  cases h with
  | rep h => cases h with
    | lst h r => exact ⟨_, _, rfl, h.rd, r⟩
  | own h r => exact ⟨_, _, rfl, .inl h, r⟩
theorem RepT.tup {xs : List D} {v : V} (h : RepT g H w (.tup xs) v) : ∃ a vs, v = .ref a ∧ SqT g.K H a vs ∧ Reps g H w xs vs := by
  cases h with
  | rep h => cases h with
    | tup h r => exact ⟨_, _, rfl, h, r⟩
theorem RepT.int {i : Int} {v : V} (h : RepT g H w (.int i) v) : v = .int i := by
  cases h with
  | rep h => cases h; rfl
theorem RepT.bl {i : Bool} {v : V} (h : RepT g H w (.bl i) v) : v = .bl i := by
  cases h with
  | rep h => cases h; rfl
theorem RepT.str {i : Str} {v : V} (h : RepT g H w (.str i) v) : v = .str i := by
  cases h with
  | rep h => cases h; rfl
theorem RepT.non {v : V} (h : RepT g H w .non v) : v = .non := by
  cases h with
  | rep h => cases h; rfl
theorem Rep.int_ {i : Int} {v : V} (h : Rep g H w (.int i) v) : v = .int i := by cases h; rfl
theorem Rep.bl_ {i : Bool} {v : V} (h : Rep g H w (.bl i) v) : v = .bl i := by cases h; rfl
theorem Rep.non_ {v : V} (h : Rep g H w .non v) : v = .non := by cases h; rfl
theorem Rep.ref_ {n : Nat} {v : V} (h : RepT g H w (.ref n) v) : ∃ a, v = .ref a ∧ w.mu[n]? = some a := by
  cases h with
  | rep h => cases h with
    | ref h => exact ⟨_, rfl, h⟩

/-! ### plain data -/
mutual
theorem Rep.dp : ∀ {d : D} {v : V} {p : PyData}, Rep g H w d v → d.py = some p → Dp g.K H v p
  | .non, _, p, h, e => by cases h; cases e; exact .non
  | .bl b, _, p, h, e => by cases h; cases e; exact .bl b
  | .int i, _, p, h, e => by cases h; cases e; exact .int i
  | .str x, _, p, h, e => by cases h; cases e; exact .str x
  | .tup xs, _, p, h, e => by
    cases h with
    | tup h r =>
      have e' : (D.pys xs).map PyData.tuple = some p := by rw [← e]; rfl
      cases q : D.pys xs with
      | none => rw [q] at e'; cases e'
      | some ps => rw [q] at e'; cases e'; exact .tup h (Reps.dp r q)
  | .lst xs, _, p, h, e => by
    cases h with
    | lst h r =>
      have e' : (D.pys xs).map PyData.list = some p := by rw [← e]; rfl
      cases q : D.pys xs with
      | none => rw [q] at e'; cases e'
      | some ps => rw [q] at e'; cases e'; exact .lst h.sql (Reps.dp r q)
  | .ty _, _, p, h, e => by cases e
  | .ref _, _, p, h, e => by cases e
  | .clo, _, p, h, e => by cases e
theorem Reps.dp : ∀ {ds : List D} {vs : List V} {ps : List PyData}, Reps g H w ds vs → D.pys ds = some ps → DpAll g.K H vs ps
  | [], _, ps, h, e => by cases h; cases e; exact .nil
  | d :: ds, _, ps, h, e => by
    cases h with
    | cons h t =>
      have e' : (match d.py, D.pys ds with | some p, some ps => some (p :: ps) | _, _ => none) = some ps := by rw [← e]; rfl
      cases q : d.py with
      | none => rw [q] at e'; cases e'
      | some p =>
        cases q2 : D.pys ds with
        | none => rw [q, q2] at e'; cases e'
        | some qs => rw [q, q2] at e'; cases e'; exact .cons (Rep.dp h q) (Reps.dp t q2)
end
theorem RepT.dp {d : D} {v : V} {p : PyData} (h : RepT g H w d v) (e : d.py = some p) : Dp g.K H v p := by
  cases h with
  | rep h => exact h.dp e
  | @own xs a vs h r =>
    have e' : (D.pys xs).map PyData.list = some p := by rw [← e]; rfl
    cases q : D.pys xs with
    | none => rw [q] at e'; cases e'
    | some ps => rw [q] at e'; cases e'; exact .lst (SqL.of h) (Reps.dp r q)
end

theorem RepTs.length {g : G} {H : Hp} {w : Wd} : ∀ {ds : List D} {vs : List V}, RepTs g H w ds vs → ds.length = vs.length
  | _, _, .nil => rfl
  | _, _, .cons _ t => congrArg (· + 1) (RepTs.length t)
theorem RepTs.get {g : G} {H : Hp} {w : Wd} : ∀ {ds : List D} {vs : List V} {i : Nat} {d : D}, RepTs g H w ds vs → ds[i]? = some d → ∃ v, vs[i]? = some v ∧ RepT g H w d v
  | _, _, 0, _, .cons r _, h => by
    cases h
    exact ⟨_, rfl, r⟩
  | _, _, i + 1, _, .cons _ t, h => RepTs.get (i := i) t h

/-! ### a body's state -/
/-- the entry of a body -/
structure Frm where
  w0 : Wd
  H0 : Hp
inductive SlAt (g : G) (fr : Frm) (H : Hp) (w : Wd) : Sl → Option V → Prop
  | un {o : Option V} : SlAt g fr H w .un o
  | val {d : D} {v : V} (h : Rep g H w d v) : SlAt g fr H w (.val d) (some v)
  | own {xs : List D} {a : Addr} {vs : List V} (h : H a = some (.lst vs)) (r : Reps g H w xs vs) (nz : ¬ w.fz a) (n0 : fr.H0 a = none) : SlAt g fr H w (.own xs) (some (.ref a))
  | bor {xs : List D} {v : V} (h : RepT g H w (.lst xs) v) (n0 : ∀ a, v = .ref a → fr.H0 a ≠ none) : SlAt g fr H w (.bor xs) (some v)
structure Good (g : G) (fr : Frm) (σ : L2.St) (H : Hp) (w : Wd) (env : Env) (S : Store) : Prop where
  wok : WOk g w H S
  ext : Ext fr.w0 fr.H0 w H
  len : env.length = σ.length
  sl : ∀ (i : Nat) s o, env[i]? = some s → σ[i]? = some o → SlAt g fr H w s o
  sep : ∀ (i j : Nat) (a : Addr) xs ys, i ≠ j → env[i]? = some (.own xs) → env[j]? = some (.own ys) → σ[i]? = some (some (.ref a)) → σ[j]? ≠ some (some (.ref a))
section
variable {g : G} {fr : Frm} {σ : L2.St} {H H' : Hp} {w w' : Wd} {env : Env} {S S' : Store}
theorem SlAt.ext (k : WOk g w H S) (e : Ext w H w' H') {s : Sl} {o : Option V} (h : SlAt g fr H w s o) : SlAt g fr H' w' s o := by
  cases h with
  | un => exact .un
  | val h => exact .val (h.per (e.per k))
  | @own xs a vs h r nz n0 =>
    refine .own (e.keep a _ h (fun z => by obtain ⟨u, q⟩ := k.dict z; rw [q] at h; cases h) (fun _ z => by cases z)) (r.per (e.per k)) (fun z => ?_) n0
    rcases e.fzn a z with z | z
    · exact nz z
    · rw [z] at h; cases h
  | bor h n0 => exact .bor (h.ext k e) n0
theorem Good.step (G : Good g fr σ H w env S) (e : Ext w H w' H') (k : WOk g w' H' S') : Good g fr σ H' w' env S' :=
  ⟨k, G.ext.trans e, G.len, fun i s o e1 e2 => (G.sl i s o e1 e2).ext G.wok e, G.sep⟩
theorem Good.at_ (G : Good g fr σ H w env S) {i : Nat} {s : Sl} (h : env[i]? = some s) : ∃ o, σ[i]? = some o ∧ SlAt g fr H w s o := by
  have hi : i < σ.length := by rw [← G.len]; exact (List.getElem?_eq_some_iff.mp h).1
  exact ⟨σ[i], List.getElem?_eq_getElem hi, G.sl i s _ h (List.getElem?_eq_getElem hi)⟩
theorem Good.val (G : Good g fr σ H w env S) {i : Nat} {d : D} (h : env[i]? = some (.val d)) : ∃ v, σ[i]? = some (some v) ∧ Rep g H w d v := by
  obtain ⟨o, e, q⟩ := G.at_ h
  cases q with
  | val q => exact ⟨_, e, q⟩
theorem Good.own (G : Good g fr σ H w env S) {i : Nat} {xs : List D} (h : env[i]? = some (.own xs)) : ∃ a vs, σ[i]? = some (some (.ref a)) ∧ H a = some (.lst vs) ∧ Reps g H w xs vs ∧ ¬ w.fz a ∧ fr.H0 a = none := by
  obtain ⟨o, e, q⟩ := G.at_ h
  cases q with
  | own h r nz n0 => exact ⟨_, _, e, h, r, nz, n0⟩
theorem Good.readB (G : Good g fr σ H w env S) {i : Nat} {xs : List D} (h : env[i]? = some (.bor xs)) : ∃ v, σ[i]? = some (some v) ∧ RepT g H w (.lst xs) v := by
  obtain ⟨o, e, q⟩ := G.at_ h
  cases q with
  | bor h n0 => exact ⟨_, e, h⟩
theorem Good.readT (G : Good g fr σ H w env S) {i : Nat} {xs : List D} (h : env[i]? = some (.own xs)) : ∃ v, σ[i]? = some (some v) ∧ RepT g H w (.lst xs) v := by
  obtain ⟨a, vs, e, h1, h2, _⟩ := G.own h
  exact ⟨_, e, .own h1 h2⟩
end

/-! ### results -/
def Post {α : Type} (r : Res α) (K : α → Store → Prop) (E : Str → D → Store → Prop) : Prop :=
  match r with
  | .ok a S => K a S
  | .ex c p S => E c p S
  | .st => False
theorem Post.bind {α β : Type} {r : Res α} {f : α → Store → Res β} {K : β → Store → Prop} {E : Str → D → Store → Prop} (h : Post (r.bind f) K E) : Post r (fun a S => Post (f a S) K E) E := by
  cases r <;> exact h
theorem Post.imp {α : Type} {r : Res α} {K K' : α → Store → Prop} {E E' : Str → D → Store → Prop} (h : Post r K E) (k : ∀ a S, K a S → K' a S) (e : ∀ c p S, E c p S → E' c p S) : Post r K' E' := by
  cases r with
  | ok a S => exact k a S h
  | ex c p S => exact e c p S h
  | st => exact h
theorem Post.ofO {α : Type} {o : Option α} {S : Store} {K : α → Store → Prop} {E : Str → D → Store → Prop} (h : Post (ofO o S) K E) : ∃ a, o = some a ∧ K a S := by
  cases o with
  | none => exact h.elim
  | some a => exact ⟨a, rfl, h⟩

/-- an exception as it lies: its class, its own dict -/
def ExcAt (g : G) (H : Hp) (w : Wd) (c : Str) (p : D) (cc : Value) (dd : Option Addr) : Prop :=
  ∃ a, g.mg c = some (.ref a) ∧ cc = .ref a ∧ match g.fld c with
    | some f => ∃ d v, dd = some d ∧ H d = some (.xd [(f, v)]) ∧ Rep g H w p v
    | none => p = .non
def Agree (As : Nat → Bool) (σ σ' : L2.St) (env env' : Env) : Prop := ∀ i, As i = false → env'[i]? = env[i]? ∧ σ'[i]? = σ[i]?
/-- what is wanted of an exception -/
def XP (g : G) (fr : Frm) (W : WX) (σ : L2.St) (env : Env) (As : Nat → Bool) (w : Wd) (H : Hp) : Str → D → Store → Prop := fun c p S =>
  ∀ (w' : Wd) (H' : Hp) (σ' : L2.St) (env' : Env) (cc : Value) (dd : Option Addr), Good g fr σ' H' w' env' S → Per w H w' H' → Agree As σ σ' env env' → ExcAt g H' w' c p cc dd → W cc dd σ' H'
abbrev no : Nat → Bool := fun _ => false
section
variable {g : G} {fr : Frm} {W : WX} {σ : L2.St} {H H1 : Hp} {w w1 : Wd} {env : Env} {S S' : Store} {As : Nat → Bool}
theorem XP.per (p : Per w H w1 H1) {c : Str} {d : D} {S : Store} (h : XP g fr W σ env As w H c d S) : XP g fr W σ env As w1 H1 c d S :=
  fun w' H' σ' env' cc dd G q a x => h w' H' σ' env' cc dd G (p.trans q) a x
end

/-- what is wanted of an exception out of an expression -/
def XX (g : G) (fr : Frm) (W : WX) (σ : L2.St) (env : Env) (w : Wd) (H : Hp) : Str → D → Store → Prop := fun c p S =>
  ∀ (w' : Wd) (H' : Hp) (cc : Value) (dd : Option Addr), Good g fr σ H' w' env S → Ext w H w' H' → ExcAt g H' w' c p cc dd → W cc dd σ H'
section
variable {g : G} {fr : Frm} {W : WX} {σ : L2.St} {H H1 : Hp} {w w1 : Wd} {env : Env} {S S' : Store} {As : Nat → Bool}
theorem XX.ext (e : Ext w H w1 H1) {c : Str} {d : D} {S : Store} (h : XX g fr W σ env w H c d S) : XX g fr W σ env w1 H1 c d S := fun w' H' cc dd G q x => h w' H' cc dd G (e.trans q) x
theorem XP.xx (k : WOk g w H S') {c : Str} {d : D} {S : Store} (h : XP g fr W σ env As w H c d S) : XX g fr W σ env w H c d S := fun w' H' cc dd G q x => h w' H' σ env cc dd G (q.per k) (fun _ _ => ⟨rfl, rfl⟩) x
end

/-- a reading by what is computed -/
def tG {α β : Type} (g : G) (fr : Frm) (W : WX) (r : Env → Store → Res α) (R : Hp → Wd → α → β → Prop) : L2.St → Hp → (β → Hp → Prop) → Prop := fun σ H Q =>
  ∃ w env S, Good g fr σ H w env S ∧ Post (r env S) (fun a S' => ∀ w' H' b, Good g fr σ H' w' env S' → Ext w H w' H' → R H' w' a b → Q b H') (XX g fr W σ env w H)
/-- what goes with a relation that later steps keep -/
def Keeps {α β : Type} (g : G) (R : Hp → Wd → α → β → Prop) : Prop := ∀ (w w' : Wd) (H H' : Hp) (S : Store) a b, WOk g w H S → Ext w H w' H' → R H w a b → R H' w' a b
section
variable {g : G} {fr : Frm} {W : WX} {σ : L2.St} {H : Hp} {α β α' β' γ δ : Type}
theorem tG.imp {r : Env → Store → Res α} {R R' : Hp → Wd → α → β → Prop} {Q : β → Hp → Prop} (h : ∀ H w a b, R' H w a b → R H w a b) (q : tG g fr W r R σ H Q) : tG g fr W r R' σ H Q := by
  obtain ⟨w, env, S, G, P⟩ := q
  exact ⟨w, env, S, G, P.imp (fun a S k w' H' b G' E' r' => k w' H' b G' E' (h _ _ _ _ r')) fun _ _ _ x => x⟩
/-- one part, then the rest -/
theorem tG.one {r1 : Env → Store → Res α} {R1 : Hp → Wd → α → β → Prop} {r2 : α → Store → Res γ} {K : γ → Store → Prop} {w : Wd} {env : Env} {S : Store} {Q : β → Hp → Prop}
    (G0 : Good g fr σ H w env S) (P : Post ((r1 env S).bind r2) K (XX g fr W σ env w H))
    (h : ∀ a S1 w1 H1 b, Good g fr σ H1 w1 env S1 → Ext w H w1 H1 → R1 H1 w1 a b → Post (r2 a S1) K (XX g fr W σ env w1 H1) → Q b H1) : tG g fr W r1 R1 σ H Q :=
  ⟨w, env, S, G0, P.bind.imp (fun a S1 p w1 H1 b G1 E1 R1 => h a S1 w1 H1 b G1 E1 R1 (p.imp (fun _ _ k => k) fun _ _ _ x => x.ext E1)) fun _ _ _ x => x⟩
end
abbrev tE (g : G) (fr : Frm) (W : WX) (C : Ev) (n : N) : TE := tG g fr W (ev C n) (Rep g)
abbrev tP (g : G) (fr : Frm) (W : WX) (C : Ev) (n : N) : TE := tG g fr W (ev C n) (RepT g)
abbrev tAs (g : G) (fr : Frm) (W : WX) (C : Ev) (n : N) : TA := tG g fr W (evs C n) (Reps g)
abbrev tAp (g : G) (fr : Frm) (W : WX) (C : Ev) (n : N) : TA := tG g fr W (evs C n) (RepTs g)
abbrev tOp' (g : G) (fr : Frm) (W : WX) (C : Ev) (n : N) : TO := tG g fr W (evO C n) fun _ _ a b => a = b
abbrev tTs (g : G) (fr : Frm) (W : WX) (C : Ev) (n : N) : TT := tG g fr W (evT C n) fun _ _ a b => a = b
end Fx

set_option maxHeartbeats 2000000
/-! Fx4: does a piece of the small language stand for a piece of the text? -/
namespace Fx
open PySem PySem.Spec PyProof.Rows L2

/-- what is known of the code around: the names by slot, the scope as it is run, the scope as it is written, the module's defs with their parameters, the names that the module does not bind -/
structure Sc where
  N : List Str
  sc : Scope
  own : Scope
  fns : List (Str × List Str)
  free : List Str
  gcd : Bool
  def_ : Bool
  excs : List (Str × Str) := []
  hrs : List (Str × List (Str × Str)) := []
  lam : Bool := false
  cints : List (Str × Int) := []
  cstrs : List (Str × Str) := []
  ctups : List (Str × List Str) := []

def visB (s : Sc) (x : Str) : Bool := decide (s.sc.names.lookup x = some .local) || decide (s.sc.names.lookup x = some .cell) || decide (s.sc.names.lookup x = some .free)
def glB (s : Sc) (x : Str) : Bool := decide (s.sc.names.lookup x = some .globalImplicit)
def stB (s : Sc) (x : Str) : Bool := decide (s.own.names.lookup x = some .local) || decide (s.own.names.lookup x = some .cell)
def okN (x : Str) : Bool := !(x == ("__debug__" : Str)) && !(x == ("__classdict__" : Str)) && !decide (x = ("__name__" : Str))
def nmB (s : Sc) (i : Nat) (x : Str) : Bool := decide (s.N[i]? = some x) && visB s x && okN x
def opOf : Op → Operator
  | .add => .Add | .sub => .Sub | .mul => .Mult | .fdiv => .FloorDiv | .mod => .Mod | .pow => .Pow
def cpOf : Cp → CmpOp
  | .eq => .Eq | .ne => .NotEq | .lt => .Lt | .le => .LtE | .gt => .Gt | .ge => .GtE | .is => .Is | .isn => .IsNot | .mem => .In | .nin => .NotIn
def biOf : Bi → Str
  | .len => "len" | .abs => "abs" | .int => "int" | .tuple => "tuple" | .list => "list" | .sum => "sum" | .min => "min" | .max => "max" | .repr => "repr" | .gcd => "gcd"
  | .all => "all" | .any => "any" | .sorted => "sorted" | .str => "str"
def cpPlain : Cp → Bool
  | .mem => false | .nin => false | _ => true
def tyB (t : String) : Bool := ["int", "bool", "str", "tuple", "list"].contains t
def reord (ix : List Nat) (us : List Value) : List Value := ix.filterMap fun i => us[i]?
/-- where each parameter's value stands among the values as they are reckoned -/
def ixOf (ps : List Str) (n : Nat) (ks : List Str) : List Nat := (List.range ps.length).map fun i => if i < n then i else n + ks.findIdx fun k => decide (ps[i]? = some k)
def bindB (ps : List Str) (n : Nat) (ks : List Str) : Bool := decide (n + ks.length = ps.length) && decide ks.Nodup && decide ps.Nodup && (ks.all fun k => (ps.drop n).contains k) && (ps.drop n).all fun z => ks.contains z
def noSlB : Expr → Bool
  | .Slice .. => false
  | _ => true
def notStar : Expr → Bool
  | .Starred .. => false
  | _ => true

/-- written keys -/
def chkK (ks : List Str) (es : List (Option Expr)) : Bool :=
  match ks, es with
  | [], [] => true
  | k :: ks, some (.Constant (.str y) _ _) :: es => decide (k = y) && chkK ks es
  | _, _ => false

/-- the parameters of a lambda: none, or one whose value is written -/
def lamPs (params : Arguments) : Option (List Str) :=
  if params.posonlyargs.isEmpty && params.vararg.isNone && params.kwonlyargs.isEmpty && params.kwarg.isNone && params.kw_defaults.isEmpty then
    match params.args, params.defaults with
    | [], [] => some []
    | [a], [.Constant (.int _) _ _] => some [a.arg]
    | _, _ => none
  else none
/-- a lambda's names: its parameter, captured ones, globals -/
def lamB (N : List Str) (sc scope : Scope) (params : Arguments) : Bool :=
  (match scope.kind with
    | .function => true
    | _ => false) && !scope.isCoroutine && !scope.isGenerator && (match lamPs params with
    | some ps => (ps.all fun y => decide (scope.names.lookup y = some .local)) && scope.names.all fun y => !decide (y.2 = .cell) && (!decide (y.2 = .local) || !N.contains y.1) && (!decide (y.2 = .free) || decide (sc.names.lookup y.1 = some .cell) || decide (sc.names.lookup y.1 = some .free))
    | none => false)

mutual
/-- an expression; p: it is only read now -/
def chk (s : Sc) (p : Bool) (n : N) (e : Expr) : Bool :=
  match n with
  | .var i => match e with
    | .Name x _ => nmB s i x
    | _ => false
  | .pk i => match e with
    | .Name x _ => p && nmB s i x
    | _ => false
  | .cI z => match e with
    | .Constant (.int y) _ _ => decide (z = y)
    | .Name x _ => glB s x && okN x && decide (s.cints.lookup x = some z)
    | _ => false
  | .cT xs => match e with
    | .Name x _ => glB s x && okN x && decide (s.ctups.lookup x = some xs)
    | _ => false
  | .cS z => match e with
    | .Constant (.str y) _ _ => decide (z = y)
    | .Name x _ => glB s x && okN x && decide (s.cstrs.lookup x = some z)
    | _ => false
  | .cB z => match e with
    | .Constant (.bool y) _ _ => decide (z = y)
    | _ => false
  | .cN => match e with
    | .Constant .none _ _ => true
    | _ => false
  | .tup es => match e with
    | .Tuple xs _ _ => chks s false es xs && decide (xs.length ≤ 1000)
    | _ => false
  | .lst es => match e with
    | .List xs _ => chks s false es xs && decide (xs.length ≤ 1000)
    | _ => false
  | .dct ks vs => match e with
    | .Dict keys xs _ => (ks.isEmpty && keys.isEmpty && xs.isEmpty && chks s false vs xs) || (decide (keys.length = ks.length) && decide (xs.length = ks.length) && chkK ks keys && chks s false vs xs && !ks.isEmpty && decide (ks.length ≤ 15) && decide ks.Nodup)
    | _ => false
  | .bin op a b => match e with
    | .BinOp x o y _ => decide (opOf op = o) && chk s true a x && chk s true b y
    | _ => false
  | .neg a => match e with
    | .UnaryOp .USub x _ => chk s true a x
    | _ => false
  | .cmp op a b => match e with
    | .Compare x [o] [y] _ => decide (cpOf op = o) && !behindInMarks (cpOf op) y && chk s true a x && chk s true b y
    | _ => false
  | .chn o o' a b c => match e with
    | .Compare x [q, q'] [y, z] _ => decide (cpOf o = q) && decide (cpOf o' = q') && cpPlain o && cpPlain o' && chk s true a x && chk s true b y && chk s true c z
    | _ => false
  | .vand a b => match e with
    | .BoolOp .And (x :: y :: r) pos => chk s true a x && (match r with
      | [] => chk s false b y
      | z :: r => chk s false b (.BoolOp .And (y :: z :: r) pos))
    | _ => false
  | .vor a b => match e with
    | .BoolOp .Or (x :: y :: r) pos => chk s true a x && (match r with
      | [] => chk s false b y
      | z :: r => chk s false b (.BoolOp .Or (y :: z :: r) pos))
    | _ => false
  | .vnot a => match e with
    | .UnaryOp .Not x _ => chk s true a x
    | _ => false
  | .ite c a b => match e with
    | .IfExp t x y _ => chkT s c t && chk s false a x && chk s false b y
    | _ => false
  | .idx a i => match e with
    | .Subscript x y _ => noSlB y && chk s true a x && chk s true i y
    | _ => false
  | .slc a lo hi => match e with
    | .Subscript x (.Slice l h none _) _ => chk s true a x && chkO s lo l && chkO s hi h
    | _ => false
  | .dget d k => match e with
    | .Subscript x (.Constant (.str y) _ _) _ => decide (k = y) && chk s true d x
    | _ => false
  | .call f es ks ix => match e with
    | .Call (.Name x _) xs kws _ => decide (f = x) && glB s x && okN x && (match s.fns.lookup x with
      | some ps => chks s false es xs && chkw s ks kws && bindB ps xs.length (kws.filterMap (·.arg)) && decide (ix = ixOf ps xs.length (kws.filterMap (·.arg)))
      | none => false)
    | _ => false
  | .callB f es => match e with
    | .Call (.Name x _) (y :: xs) [] _ => decide (f = x) && glB s x && okN x && (match s.fns.lookup x with
      | some ps => chks s true es (y :: xs) && bindB ps (xs.length + 1) [] && decide (ixOf ps (xs.length + 1) [] = List.range (xs.length + 1))
      | none => false)
    | _ => false
  | .hear f hs e0 => match e with
    | .Call (.Name x _) [.Lambda params body scope _] [] _ => decide (f = x) && glB s x && okN x && s.lam && decide (s.hrs.lookup x = some hs) && lamB s.N s.sc scope params && chk { s with sc := scope, own := scope, def_ := false, lam := false } false e0 body
    | _ => false
  | .bi b es => match e with
    | .Call (.Name x _) (y :: xs) [] _ => decide (biOf b = x) && glB s x && okN x && (if b = .gcd then s.gcd else s.free.contains x) && chks s true es (y :: xs)
    | _ => false
  | .isi a t => match e with
    | .Call (.Name x _) [y, .Name z _] [] _ => decide (x = ("isinstance" : Str)) && glB s x && s.free.contains x && chk s true a y && glB s z && s.free.contains z && okN z && decide (z = Str.ofString t) && tyB t
    | _ => false
  | .comp own elt tg it cond => match e with
    | .ListComp x [⟨g, y, ifs, 0⟩] scope _ => chkI s true g it y && blkC s.N s.sc scope own && chkG { s with sc := relS scope s.sc, own := scope, def_ := false, lam := false } tg g &&
        chkC { s with sc := relS scope s.sc, own := scope, def_ := false, lam := false } cond ifs && chk { s with sc := relS scope s.sc, own := scope, def_ := false, lam := false } false elt x
    | _ => false
  | _ => false
/-- an argument list -/
def chks (s : Sc) (p : Bool) (n : N) (es : List Expr) : Bool :=
  match n with
  | .nil => match es with
    | [] => true
    | _ => false
  | .cons a b => match es with
    | e :: es => notStar e && chk s p a e && chks s p b es
    | _ => false
  | _ => false
/-- the keywords' values -/
def chkw (s : Sc) (n : N) (es : List Keyword) : Bool :=
  match n with
  | .nil => match es with
    | [] => true
    | _ => false
  | .cons a b => match es with
    | ⟨some _, e, _⟩ :: es => chk s false a e && chkw s b es
    | _ => false
  | _ => false
/-- a part of a slice -/
def chkO (s : Sc) (n : N) (e : Option Expr) : Bool :=
  match n with
  | .nil => match e with
    | none => true
    | _ => false
  | .cons a .nil => match e with
    | some e => chk s true a e
    | none => false
  | _ => false
/-- a test -/
def chkT (s : Sc) (n : N) (e : Expr) : Bool :=
  match n with
  | .tv a => (match e with
    | .BoolOp .. => false
    | .UnaryOp .Not _ _ => false
    | .Compare .. => false
    | .IfExp .. => false
    | _ => true) && chk s true a e
  | .tand a b => match e with
    | .BoolOp .And (x :: y :: r) pos => chkT s a x && (match r with
      | [] => chkT s b y
      | z :: r => chkT s b (.BoolOp .And (y :: z :: r) pos))
    | _ => false
  | .tor a b => match e with
    | .BoolOp .Or (x :: y :: r) pos => chkT s a x && (match r with
      | [] => chkT s b y
      | z :: r => chkT s b (.BoolOp .Or (y :: z :: r) pos))
    | _ => false
  | .tnot a => match e with
    | .UnaryOp .Not x _ => chkT s a x
    | _ => false
  | .cmp op a b => match e with
    | .Compare x [o] [y] _ => decide (cpOf op = o) && !behindInMarks (cpOf op) y && chk s true a x && chk s true b y
    | _ => false
  | .chn o o' a b c => match e with
    | .Compare x [q, q'] [y, z] _ => decide (cpOf o = q) && decide (cpOf o' = q') && cpPlain o && cpPlain o' && chk s true a x && chk s true b y && chk s true c z
    | _ => false
  | _ => false
/-- the condition of a comprehension -/
def chkC (s : Sc) (n : N) (es : List Expr) : Bool :=
  match n with
  | .nil => match es with
    | [] => true
    | _ => false
  | .cons a .nil => match es with
    | [e] => chkT s a e
    | _ => false
  | _ => false
/-- what is walked, for a target -/
def chkI (s : Sc) (p : Bool) (tg : Expr) (n : N) (e : Expr) : Bool :=
  match n with
  | .seq a => (match e with
    | .Set .. => false
    | _ => true) && chk s p a e
  | .rng1 a => match e with
    | .Call (.Name x _) [y] [] _ => decide (x = ("range" : Str)) && glB s x && s.free.contains x && notStar y && chk s true a y
    | _ => false
  | .rng2 a b => match e with
    | .Call (.Name x _) [y, z] [] _ => decide (x = ("range" : Str)) && glB s x && s.free.contains x && notStar y && notStar z && chk s true a y && chk s true b z
    | _ => false
  | .enum a => match e with
    | .Call (.Name x _) [y] [] _ => decide (x = ("enumerate" : Str)) && glB s x && s.free.contains x && notStar y && chk s p a y && (match tg with
      | .Tuple .. => true
      | _ => false)
    | _ => false
  | .zip a b => match e with
    | .Call (.Name x _) [y, z] [] _ => decide (x = ("zip" : Str)) && glB s x && s.free.contains x && notStar y && notStar z && chk s p a y && chk s p b z && (match tg with
      | .Tuple .. => true
      | _ => false)
    | _ => false
  | _ => false
/-- a target -/
def chkG (s : Sc) (n : N) (e : Expr) : Bool :=
  match n with
  | .tn i => match e with
    | .Name x _ => decide (s.N[i]? = some x) && stB s x
    | _ => false
  | .tt es => match e with
    | .Tuple xs _ _ => chkGs s es xs
    | _ => false
  | _ => false
def chkGs (s : Sc) (n : N) (es : List Expr) : Bool :=
  match n with
  | .nil => match es with
    | [] => true
    | _ => false
  | .cons a b => match es with
    | e :: es => (match e with
      | .Name .. => true
      | .Tuple .. => true
      | _ => false) && chkG s a e && chkGs s b es
    | _ => false
  | _ => false
end
end Fx

set_option maxHeartbeats 2000000
/-! Fx5: the operations over the heap. -/
namespace Fx
open PySem PySem.Spec PyProof.Rows L2

theorem PE.imp {X : Cx} {e : Expr} {t t' : TE} (h : PE X e t) (k : ∀ σ H Q, t' σ H Q → t σ H Q) : PE X e t' := ⟨fun pins s σ H Q I q => h.run pins s σ H Q I (k _ _ _ q)⟩
theorem PT.imp {X : Cx} {e : Expr} {t t' : TT} (h : PT X e t) (k : ∀ σ H Q, t' σ H Q → t σ H Q) : PT X e t' := ⟨fun pins s σ H Q I q => h.run pins s σ H Q I (k _ _ _ q)⟩
theorem PW.imp {X : Cx} {e : Expr} {t t' : TT} (h : PW X e t) (k : ∀ σ H Q, t' σ H Q → t σ H Q) : PW X e t' := ⟨fun wh pins s σ H Q I q => h.run wh pins s σ H Q I (k _ _ _ q)⟩
theorem PA.imp {X : Cx} {e : List Expr} {t t' : TA} (h : PA X e t) (k : ∀ σ H Q, t' σ H Q → t σ H Q) : PA X e t' := ⟨fun pos pins s σ H Q I q => h.run pos pins s σ H Q I (k _ _ _ q)⟩
theorem PO.imp {X : Cx} {e : Option Expr} {t t' : TO} (h : PO X e t) (k : ∀ σ H Q, t' σ H Q → t σ H Q) : PO X e t' := ⟨fun pins s σ H Q I q => h.run pins s σ H Q I (k _ _ _ q)⟩
theorem PS.imp {X : Cx} {e : Stmt} {t t' : TS} (h : PS X e t) (k : ∀ D σ H, t' D σ H → t D σ H) : PS X e t' := ⟨fun pins s σ H D I q => h.run pins s σ H D I (k _ _ _ q)⟩
theorem PSs.imp {X : Cx} {e : List Stmt} {t t' : TS} (h : PSs X e t) (k : ∀ D σ H, t' D σ H → t D σ H) : PSs X e t' := ⟨fun pins s σ H D I q => h.run pins s σ H D I (k _ _ _ q)⟩
theorem PG.imp {X : Cx} {e : Expr} {t t' : TG} (h : PG X e t) (k : ∀ v σ H Q, t' v σ H Q → t v σ H Q) : PG X e t' := ⟨fun pins s σ H v u Q I r q => h.run pins s σ H v u Q I r (k _ _ _ _ q)⟩
theorem PGs.imp {X : Cx} {e : List Expr} {t t' : TGs} (h : PGs X e t) (k : ∀ v σ H Q, t' v σ H Q → t v σ H Q) : PGs X e t' := ⟨fun pins s σ H v u Q I r q => h.run pins s σ H v u Q I r (k _ _ _ _ q)⟩
theorem PI.imp {X : Cx} {tg e : Expr} {t t' : TI} (h : PI X tg e t) (k : ∀ σ H Q, t' σ H Q → t σ H Q) : PI X tg e t' := ⟨fun pins s σ H Q I q => h.run pins s σ H Q I (k _ _ _ q)⟩

/-- what comes out: data; a list may be new, not yet anybody's -/
inductive OutN (g : G) (f : Bool) (w : Wd) (H : Hp) (S : Store) : D → Wd → Hp → V → Prop
  | rep {d : D} {w' : Wd} {H' : Hp} {z : V} (hf : f = true → ∀ xs, d ≠ .lst xs) (e : Ext w H w' H') (k : WOk g w' H' S) (r : Rep g H' w' d z) : OutN g f w H S d w' H' z
  | new {xs : List D} {w' : Wd} {H' : Hp} {p : Addr} {vs : List V} (e : Ext w H w' H') (k : WOk g w' H' S) (hp : H p = none) (nf : ¬ w'.fz p) (nm : p ∉ w'.mu) (hl : H' p = some (.lst vs)) (r : Reps g H' w' xs vs) : OutN g f w H S (.lst xs) w' H' (.ref p)

def Wd.frz (w : Wd) (p : Addr) : Wd := { w with fz := fun a => w.fz a ∨ a = p }
theorem Per.frz1 {w : Wd} {H : Hp} {p : Addr} : Per w H (w.frz p) H := ⟨fun _ _ h => h, fun _ _ _ h => h, fun _ _ h z => ⟨h, .inl z⟩, fun _ _ h => h⟩
theorem WOk.frz1 {g : G} {w : Wd} {H : Hp} {S : Store} {p : Addr} {vs : List V} (k : WOk g w H S) (h : H p = some (.lst vs)) : WOk g (w.frz p) H S := by
  refine ⟨k.len, k.nd, fun n a c e1 e2 => (k.cell n a c e1 e2).per Per.frz1 fun _ q => q, fun a z => ?_, k.tab⟩
  rcases z with z | z
  · exact k.fz a z
  · subst z
    exact ⟨fun q => (by obtain ⟨u, q⟩ := k.dict q; rw [q] at h; cases h), vs, h⟩
theorem OutN.frz {g : G} {f : Bool} {w : Wd} {H : Hp} {S : Store} {d : D} {w' : Wd} {H' : Hp} {z : V} (o : OutN g f w H S d w' H' z) : ∃ w2, Ext w H w2 H' ∧ WOk g w2 H' S ∧ Rep g H' w2 d z := by
  cases o with
  | rep hf e k r => exact ⟨_, e, k, r⟩
  | @new xs w' H' p vs e k hp nf nm hl r =>
    refine ⟨w'.frz p, ⟨e.keep, e.dom, fun a q => .inl (e.fz a q), fun a q => ?_, e.mu, e.mun⟩, k.frz1 hl, .lst (.inl ⟨hl, .inr rfl⟩) (r.per Per.frz1)⟩
    rcases q with q | q
    · exact e.fzn a q
    · exact .inr (by rw [q]; exact hp)
/-- the operand's own heap first -/
theorem OutN.trans {g : G} {f : Bool} {w w1 : Wd} {H H1 : Hp} {S : Store} {d : D} {w' : Wd} {H' : Hp} {z : V} (e : Ext w H w1 H1) (o : OutN g f w1 H1 S d w' H' z) : OutN g f w H S d w' H' z := by
  cases o with
  | rep hf e2 k r => exact .rep hf (e.trans e2) k r
  | new e2 k hp nf nm hl r => exact .new (e.trans e2) k (e.dom _ hp) nf nm hl r
theorem OutN.same {g : G} {f : Bool} {w : Wd} {H : Hp} {S : Store} {d : D} {z : V} (k : WOk g w H S) (r : Rep g H w d z) (hf : f = true → ∀ xs, d ≠ .lst xs) : OutN g f w H S d w H z := .rep hf .refl k r
theorem OutN.newL {g : G} {f : Bool} {w : Wd} {H : Hp} {S : Store} {xs : List D} {vs : List V} {p : Addr} (k : WOk g w H S) (h : H p = none) (r : Reps g H w xs vs) : OutN g f w H S (.lst xs) w (upd H p (.lst vs)) (.ref p) := by
  refine .new (.newT h) (k.newT h) h (fun z => ?_) (k.nmu h) upd_same (r.per ((Ext.newT (w := w) h).per k))
  obtain ⟨_, _, q⟩ := k.fz p z
  rw [q] at h; cases h
theorem OutN.newT {g : G} {f : Bool} {w : Wd} {H : Hp} {S : Store} {xs : List D} {vs : List V} {p : Addr} (k : WOk g w H S) (h : H p = none) (r : Reps g H w xs vs) : OutN g f w H S (.tup xs) w (upd H p (.tup vs)) (.ref p) :=
  .rep (fun _ _ z => by cases z) (.newT h) (k.newT h) (.tup (SqT.of upd_same) (r.per ((Ext.newT (w := w) h).per k)))

theorem same_reflected_int_bool_mul : reflectedDiffers (.type "int") (.type "bool") "mul" = pure false := by
  unfold reflectedDiffers
  show (typeLookup (.type "bool") (dunderR "mul") >>= fun rb => typeLookup (.type "int") (dunderR "mul") >>= fun ra => pure (rb.isSome && rb != ra)) = pure false
  rw [typeLookup_type, typeLookup_type, builtinLookup_eq_fast]; kernel_rfl
theorem gives_int_mul_bool (i : Int) (t : Tok) (q : Bool) : Gives (Builtin.«int.__mul__» ⟨[.int i t, .bool q], []⟩) (.int (i * if q = true then (1 : Int) else 0)) := by
  have hm : IntMulOk i (if q = true then (1 : Int) else 0) := .of_right (by cases q <;> decide)
  refine .of_eq ?_
  show (ite _ _ _ : Sem Fin) = _
  rw [if_neg hm]; rfl
theorem op_mul_ib {X : Cx} : OpR X (binaryOp .Mult) (fun x y H Q => ∃ i k, x = .int i ∧ y = .bl k ∧ Q (.int (i * (if k = true then (1 : Int) else 0))) H) := by
  intro pins s σ H x y v u Q I rx ry h
  obtain ⟨i, k, rfl, rfl, q⟩ := h
  obtain ⟨t, rfl⟩ := rx
  cases ry
  exact binaryOp_sub_gives (op := .Mult) (T := "int") (U := "bool") (by decide) (typeIs_int s i t) rfl F.fills_int_mul F.fills_bool_mul isSubtype_bool_int same_reflected_int_bool_mul F.slot_int_mul F.entry_int_mul (F.args_int_mul_2 _ _)
    (gives_int_mul_bool i t k) trivial ⟨.int (i * (if k = true then (1 : Int) else 0)), H, I.tok _, ⟨_, rfl⟩, q⟩

theorem tuple_mul1 (l : Addr) (items : Array Value) (n : Nat) (dd : Option Addr) (sl : Array (Option Value)) (u : Tok) :
    Meets (Builtin.«tuple.__mul__» ⟨[.ref l, .int 1 u], []⟩) (fun _ R s => s.heap.get? l = some { cls := .type "tuple", dict := dd, data := .seq items n, slots := sl } ∧ R (.ok (.ret (Value.ref l))) s) :=
  .of_wp fun prog w A R s h => by
    obtain ⟨hp, g, d, tk, os⟩ := s
    obtain ⟨hl, h⟩ := h
    have f1 := AutoSeq1.idx_int
    have c0 : (decide ((1 : Int) < -(2 ^ 63)) || decide ((1 : Int) ≥ 2 ^ 63)) = false := by decide
    have c1 : (items.isEmpty || (1 : Int) == 1) = true := by simp
    wp_walk using wpAny_loadPart' hl
    repeat (first
      | (refine wpAny_ite_false (decide_eq_false (by rw [c0]; exact Bool.false_ne_true)) ?_; wp_walk using wpAny_loadPart' hl)
      | (refine wpAny_ite_true (decide_eq_true c1) ?_; wp_walk using wpAny_loadPart' hl))
    all_goals first
      | exact ⟨_, rfl, h⟩
      | trace_state
theorem op_repT1 {X : Cx} : OpR X (binaryOp .Mult) (fun x y H Q => ∃ a vs, x = .ref a ∧ y = .int 1 ∧ SqT X.K H a vs ∧ Q (.ref a) H) := by
  intro pins s σ H x y v u Q I rx ry h
  obtain ⟨l, xs, rfl, rfl, hT, q⟩ := h
  cases rx
  obtain ⟨t, rfl⟩ := ry
  obtain ⟨its, r, ⟨⟨cls, dd, data, sl⟩, ho, hc, n, hd⟩, hs⟩ := I.tuple hT
  simp only at hc hd
  subst hc hd
  refine wpAny_binaryOp_repeat_ref (T := "tuple") (U := "int") (by decide) ⟨_, ho, rfl⟩ (fun s' => typeIs_int s' 1 t) noFill_tuple_mul F.fills_int_mul F.slot_int_rmul repeat_tuple F.slot_int_index.lookup
    (call_meets F.slot_int_rmul (typeIs_int s 1 t) F.entry_int_rmul (F.args_int_rmul_2 _ _) (int_rmul_tuple 1 t l its.toArray n dd sl)
      ⟨ho, rfl, ⟨_, ho, rfl⟩, call_meets F.slot_tuple_mul ⟨_, ho, rfl⟩ F.entry_tuple_mul (F.args_tuple_mul_2 _ _) (tuple_mul1 l its.toArray n dd sl t) ⟨ho, ?_⟩⟩)
  exact ⟨.ref l, H, I, rfl, q⟩
theorem all_bls {g : G} {H : Hp} {w : Wd} : ∀ {ds : List D} {vs : List V} {b : Bool}, Reps g H w ds vs → allD ds = some b → ∃ bs : List Bool, vs = bs.map V.bl ∧ b = bs.all id
  | [], _, _, r, e => by cases r; cases e; exact ⟨[], rfl, rfl⟩
  | d :: ds, _, b, r, e => by
    cases r with
    | cons h t =>
      cases h with
      | bl x =>
        have e' : (allD ds).map (x && ·) = some b := e
        cases q : allD ds with
        | none => rw [q] at e'; cases e'
        | some c =>
          rw [q] at e'
          cases e'
          obtain ⟨bs, rfl, rfl⟩ := all_bls t q
          exact ⟨x :: bs, rfl, rfl⟩
      | _ => cases e
theorem strs_flat {g : G} {H : Hp} {w : Wd} : ∀ {ds : List D} {vs : List V} {l : List Str}, Reps g H w ds vs → strsD ds = some l → vs = l.map V.str
  | [], _, _, r, e => by cases r; cases e; rfl
  | d :: ds, _, l, r, e => by
    cases r with
    | cons h t =>
      cases h with
      | str x =>
        have e' : (strsD ds).map (x :: ·) = some l := e
        cases q : strsD ds with
        | none => rw [q] at e'; cases e'
        | some l' =>
          rw [q] at e'
          cases e'
          rw [strs_flat t q]
          rfl
      | _ => cases e
theorem inV_strs {x : Str} : ∀ {l : List Str}, inV (.str x) (l.map V.str) = l.any (· == x)
  | [] => rfl
  | y :: l => by
    show (eqV (.str y) (.str x) || inV (.str x) (l.map V.str)) = _
    rw [inV_strs, List.any_cons]
    rfl
theorem flat_strs : ∀ {l : List Str}, (l.map V.str).all flatV = true
  | [] => rfl
  | y :: l => by rw [List.map_cons, List.all_cons, flat_strs]; rfl
/-! ### binary operators -/
def rB (g : G) (op : Op) : R2 := fun v u H Q => ∃ w S x y d, WOk g w H S ∧ RepT g H w x v ∧ RepT g H w y u ∧ binOp op x y = some d ∧ ∀ w' H' z, OutN g true w H S d w' H' z → Q z H'
section
variable {g : G} {X : Cx}
theorem limE : lim = sizeLine := by rw [sizeLine_eq]; rfl
theorem log2_64 {i : Int} (h : i.natAbs < 2 ^ 64) : -(2 ^ 64) < i ∧ i < 2 ^ 64 := by omega
theorem divOk_ok {j : Int} (h : divOk j = true) : j ≠ 0 ∧ j.natAbs.log2 < 9000 := by
  unfold divOk at h
  simpa using h
theorem mulOk_ok {i j : Int} (h : mulOk i j = true) : CMul i j ∨ CMulW i j := by
  unfold mulOk at h
  unfold CMulW CMul
  simp only [Bool.or_eq_true, decide_eq_true_eq] at h
  rcases h with (h | h) | h
  · exact .inl (.inl (log2_64 h))
  · exact .inl (.inr (log2_64 h))
  · exact .inr h
theorem powOk_ok {i j : Int} (h : powOk i j = true) : CPow i j := by
  unfold powOk at h
  simp only [Bool.and_eq_true, decide_eq_true_eq] at h
  exact ⟨h.1.1, h.1.2, h.2⟩
theorem intOut {w : Wd} {H : Hp} {S : Store} {i : Int} {f : Bool} (k : WOk g w H S) : OutN g f w H S (.int i) w H (.int i) := .same k (.int i) fun _ _ z => by cases z
theorem strOut {w : Wd} {H : Hp} {S : Store} {i : Str} {f : Bool} (k : WOk g w H S) : OutN g f w H S (.str i) w H (.str i) := .same k (.str i) fun _ _ z => by cases z
theorem blOut {w : Wd} {H : Hp} {S : Store} {i : Bool} {f : Bool} (k : WOk g w H S) : OutN g f w H S (.bl i) w H (.bl i) := .same k (.bl i) fun _ _ z => by cases z
theorem fdivW : OpR X (binaryOp .FloorDiv) (rI (fun _ j => j ≠ 0 ∧ j.natAbs.log2 < 9000) fun i j => .int (i.fdiv j)) := opI fun i j _ _ _ _ _ hc q => floordiv_int hc.1 q (.inl (PyProof.noPylong_of_log2 hc.2))
/-- list + list, whoever holds them -/
theorem op_catX : OpR X (binaryOp .Add) (fun x y H Q => ∃ l b xs zs, x = .ref l ∧ y = .ref b ∧ Rd H l (.lst xs) ∧ Rd H b (.lst zs) ∧ xs.length + zs.length ≤ sizeLine ∧ ∀ p, H p = none → Q (.ref p) (upd H p (.lst (xs ++ zs)))) := by
  intro pins s σ H x y v u Q I rx ry h
  obtain ⟨l, b, xs, zs, rfl, rfl, h1, h2, hz, q⟩ := h
  cases rx; cases ry
  obtain ⟨_, its1, n1, r1, e1⟩ := h1.ok I.hok
  obtain ⟨_, its2, n2, r2, e2⟩ := h2.ok I.hok
  have l1 := r1.length
  have l2 := r2.length
  have hs : its1.toArray.size + its2.toArray.size ≤ sizeLine := by simp only [List.size_toArray]; omega
  refine PySem.P.add_list e1 e2 ?_ hs
  rw [show its1.toArray ++ its2.toArray = (its1 ++ its2).toArray by simp]
  have hl : (xs ++ zs).length ≤ sizeLine := by rw [List.length_append]; exact hz
  exact ⟨.ref _, _, I.lnew (t' := s.toks) (r1.append r2) hl, rfl, q _ I.fresh⟩
theorem foldRep (its : List Value) (m : Nat) : List.foldl (fun a b => a ++ b) #[] (List.replicate m its.toArray) = (List.replicate m its).flatten.toArray := by
  simpa using foldl_rep its m []
/-- list * int -/
theorem op_repX : OpR X (binaryOp .Mult) (fun x y H Q => ∃ l k xs, x = .ref l ∧ y = .int k ∧ Rd H l (.lst xs) ∧ -(2 ^ 63) ≤ k ∧ k < 2 ^ 63 ∧ xs.length * k.toNat ≤ sizeLine ∧ ∀ p, H p = none → Q (.ref p) (upd H p (.lst (List.replicate k.toNat xs).flatten))) := by
  intro pins s σ H x y v u Q I rx ry h
  obtain ⟨l, k, xs, rfl, rfl, h0, h1, h2, hz, q⟩ := h
  cases rx
  obtain ⟨tk, rfl⟩ := ry
  obtain ⟨_, its, n, r, e⟩ := h0.ok I.hok
  have hl := r.length
  have a0 : its.toArray.size * k.toNat ≤ sizeLine := by simp only [List.size_toArray]; rw [← hl]; exact hz
  have a1 : ¬ its.toArray.size * k.toNat > (2 ^ 63 - 1) / 8 := fun z => by
    have s0 : (sizeLine : Nat) ≤ (2 ^ 63 - 1) / 8 := by decide
    omega
  have a2 : ¬ (!Builtin.List.listFitsIndex k) = true := by rw [fitsIndex_both h1 h2]; decide
  have a3 : ¬ Builtin.List.listTooLong (its.toArray.size * k.toNat) = true := by rw [notLongL a0]; decide
  have a4 : List.foldl (fun a b => a ++ b) #[] (List.replicate (if its.toArray.isEmpty = true then 0 else k.toNat) its.toArray) = (List.replicate k.toNat its).flatten.toArray := by
    rw [foldRep]
    cases its with
    | nil => simp
    | cons a b => simp
  refine wpAny_binaryOp_repeat_ref (T := "list") (U := "int") (by decide) ⟨_, e, rfl⟩ (fun s' => typeIs_int s' k tk) noFill_list_mul F.fills_int_mul F.slot_int_rmul repeat_list F.slot_int_index.lookup ?_
  refine call_meets F.slot_int_rmul (typeIs_int s k tk) F.entry_int_rmul (F.args_int_rmul_2 _ _) (int___rmul___int_list k tk l its.toArray n) ⟨e, rfl, ⟨_, e, rfl⟩, ?_⟩
  refine call_meets F.slot_list_mul ⟨_, e, rfl⟩ F.entry_list_mul (F.args_list_mul_2 _ _) (AutoListH.list___mul___list_int_3 l its.toArray n k tk a2 a1 a3) ⟨e, ?_⟩
  rw [a4]
  have hr : (List.replicate k.toNat xs).flatten.length ≤ sizeLine := by rw [PyProof.Rows.lm_len_rep_flat, Nat.mul_comm]; exact hz
  exact ⟨.ref _, _, I.lnew (t' := s.toks) (r.rep k.toNat) hr, rfl, q _ I.fresh⟩

theorem some_if {α : Type} {c : Prop} [Decidable c] {a d : α} (h : (if c then some a else none) = some d) : c ∧ a = d := by
  by_cases k : c
  · rw [if_pos k] at h; cases h; exact ⟨k, rfl⟩
  · rw [if_neg k] at h; cases h
theorem op_bin (hK : X.K = g.K) (op : Op) : OpR X (binaryOp (opOf op)) (rB g op) := by
  intro pins s σ H v u vv uu Q I rv ru ⟨w, S, x, y, d, k, rx, ry, e, q⟩
  have lE := limE
  cases op with
  | add =>
    cases x with
    | int i =>
      cases y with
      | int j =>
        cases e
        cases rx.int; cases ry.int
        exact op_add pins s σ H _ _ vv uu Q I rv ru ⟨i, j, rfl, rfl, q _ _ _ (intOut k)⟩
      | _ => cases e
    | lst xs =>
      cases y with
      | lst ys =>
        obtain ⟨hz, rfl⟩ := some_if e
        obtain ⟨a, vs, rfl, ha, ra⟩ := rx.lst
        obtain ⟨b, us, rfl, hb, rb⟩ := ry.lst
        have l1 := ra.length
        have l2 := rb.length
        refine op_catX pins s σ H _ _ vv uu Q I rv ru ⟨a, b, vs, us, rfl, rfl, ha, hb, by omega, fun p hp => ?_⟩
        exact q _ _ _ (.newL k hp (ra.append rb))
      | _ => cases e
    | tup xs =>
      cases y with
      | tup ys =>
        obtain ⟨hz, rfl⟩ := some_if e
        obtain ⟨a, vs, rfl, ha, ra⟩ := rx.tup
        obtain ⟨b, us, rfl, hb, rb⟩ := ry.tup
        have l1 := ra.length
        have l2 := rb.length
        rw [← hK] at ha hb
        refine op_catA pins s σ H _ _ vv uu Q I rv ru ⟨a, b, vs, us, rfl, rfl, ha, hb, by omega, fun z => ?_, fun _ z => ?_, fun _ _ p hp => q _ _ _ (.newT k hp (ra.append rb))⟩
        · subst z
          cases ra
          exact q _ _ _ (.same k (.tup (by rw [← hK]; exact hb) rb) fun _ _ z => by cases z)
        · subst z
          cases rb
          rw [List.append_nil] at q
          exact q _ _ _ (.same k (.tup (by rw [← hK]; exact ha) ra) fun _ _ z => by cases z)
      | _ => cases e
    | str xs =>
      cases y with
      | str ys =>
        obtain ⟨hz, rfl⟩ := some_if e
        cases rx.str; cases ry.str
        exact op_add_str pins s σ H _ _ vv uu Q I rv ru ⟨xs, ys, rfl, rfl, by omega, q _ _ _ (strOut k)⟩
      | _ => cases e
    | _ => cases e
  | sub =>
    cases x with
    | int i =>
      cases y with
      | int j =>
        cases e
        cases rx.int; cases ry.int
        exact op_sub pins s σ H _ _ vv uu Q I rv ru ⟨i, j, rfl, rfl, q _ _ _ (intOut k)⟩
      | _ => cases e
    | _ => cases e
  | mul =>
    cases x with
    | int i =>
      cases y with
      | int j =>
        obtain ⟨hz, rfl⟩ := some_if e
        cases rx.int; cases ry.int
        rcases mulOk_ok hz with hz | hz
        · exact op_mul pins s σ H _ _ vv uu Q I rv ru ⟨i, j, rfl, rfl, hz, q _ _ _ (intOut k)⟩
        · exact op_mulW pins s σ H _ _ vv uu Q I rv ru ⟨i, j, rfl, rfl, hz, q _ _ _ (intOut k)⟩
      | bl j =>
        cases e
        cases rx.int; cases ry.bl
        exact op_mul_ib pins s σ H _ _ vv uu Q I rv ru ⟨i, j, rfl, rfl, q _ _ _ (intOut k)⟩
      | _ => cases e
    | lst xs =>
      cases y with
      | int j =>
        obtain ⟨⟨h1, h2, hz⟩, rfl⟩ := some_if e
        obtain ⟨a, vs, rfl, ha, ra⟩ := rx.lst
        cases ry.int
        have l1 := ra.length
        refine op_repX pins s σ H _ _ vv uu Q I rv ru ⟨a, j, vs, rfl, rfl, ha, h1, h2, by rw [← l1, ← lE]; exact hz, fun p hp => ?_⟩
        exact q _ _ _ (.newL k hp (ra.rep _))
      | _ => cases e
    | tup xs =>
      cases y with
      | int j =>
        obtain ⟨a, vs, rfl, ha, ra⟩ := rx.tup
        cases ry.int
        by_cases hj1 : j = 1
        · subst hj1
          cases e
          rw [← hK] at ha
          refine op_repT1 pins s σ H _ _ vv uu Q I rv ru ⟨a, vs, rfl, rfl, ha, ?_⟩
          rw [hK] at ha
          exact q _ _ _ (.same k (.tup ha ra) fun _ _ z => by cases z)
        have e : (if xs.isEmpty = false ∧ 2 ≤ j ∧ j ≤ 1000 ∧ xs.length ≤ 1000 then some (.tup (List.replicate j.toNat xs).flatten) else none) = some d := by
          rw [← e]
          show _ = binOp .mul (.tup xs) (.int j)
          unfold binOp
          split <;> first
            | (rename_i z1 z2; cases z1; cases z2; exact absurd rfl hj1)
            | rfl
            | simp_all
        obtain ⟨⟨h0, h1, h2, hz⟩, rfl⟩ := some_if e
        have l1 := ra.length
        rw [← hK] at ha
        refine op_repT pins s σ H _ _ vv uu Q I rv ru ⟨a, j, vs, rfl, rfl, ha, ?_, h1, h2, by omega, fun p hp => ?_⟩
        · intro z
          subst z
          cases xs with
          | nil => cases h0
          | cons _ _ => simp at l1
        · exact q _ _ _ (.newT k hp (ra.rep _))
      | _ => cases e
    | _ => cases e
  | fdiv =>
    cases x with
    | int i =>
      cases y with
      | int j =>
        obtain ⟨hz, rfl⟩ := some_if e
        cases rx.int; cases ry.int
        exact fdivW pins s σ H _ _ vv uu Q I rv ru ⟨i, j, rfl, rfl, divOk_ok hz, q _ _ _ (intOut k)⟩
      | _ => cases e
    | _ => cases e
  | mod =>
    cases x with
    | int i =>
      cases y with
      | int j =>
        obtain ⟨hz, rfl⟩ := some_if e
        cases rx.int; cases ry.int
        exact op_modN pins s σ H _ _ vv uu Q I rv ru ⟨i, j, rfl, rfl, hz, q _ _ _ (intOut k)⟩
      | _ => cases e
    | _ => cases e
  | pow =>
    cases x with
    | int i =>
      cases y with
      | int j =>
        obtain ⟨hz, rfl⟩ := some_if e
        cases rx.int; cases ry.int
        exact op_pow pins s σ H _ _ vv uu Q I rv ru ⟨i, j, rfl, rfl, powOk_ok hz, q _ _ _ (intOut k)⟩
      | _ => cases e
    | _ => cases e

/-! ### comparisons -/
def rC (g : G) (op : Cp) : R2 := fun v u H Q => ∃ w S x y b, WOk g w H S ∧ RepT g H w x v ∧ RepT g H w y u ∧ cmpOp op x y = some b ∧ Q (.bl b) H
theorem eqD_dp {w : Wd} {H : Hp} {x y : D} {v u : V} {b : Bool} (rx : RepT g H w x v) (ry : RepT g H w y u) (e : eqD x y = some b) :
    ∃ p q, Dp g.K H v p ∧ Dp g.K H u q ∧ SeqAt.shaped p = true ∧ SeqAt.shaped q = true ∧ b = PyData.eqv p q := by
  unfold eqD at e
  cases h1 : x.py with
  | none => rw [h1] at e; cases e
  | some p =>
    cases h2 : y.py with
    | none => rw [h1, h2] at e; cases e
    | some q =>
      rw [h1, h2] at e
      obtain ⟨hs, rfl⟩ := some_if e
      rw [Bool.and_eq_true] at hs
      exact ⟨p, q, rx.dp h1, ry.dp h2, hs.1, hs.2, rfl⟩
theorem isNone_rep {w : Wd} {H : Hp} {x : D} {v : V} (r : RepT g H w x v) : isNone x = decide (v = .non) := by
  cases r with
  | rep r => cases r <;> rfl
  | own => rfl
theorem op_cmp (hK : X.K = g.K) (hu : X.A.units + 64 < cLine) (op : Cp) : OpR X (compareOp (cpOf op)) (rC g op) := by
  intro pins s σ H v u vv uu Q I rv ru ⟨w, S, x, y, b, k, rx, ry, e, q⟩
  have byI : ∀ {f : Value → Value → Sem Value} {p : Int → Int → Bool}, OpR X f (rI0 fun i j => .bl (p i j)) → ∀ i j, x = .int i → y = .int j → b = p i j → wpAny (model X.prog X.w) X.A (f vv uu) (EP X pins σ Q) X.xe s := by
    intro f p hf i j e1 e2 e3
    subst e1; subst e2; subst e3
    cases rx.int; cases ry.int
    exact hf pins s σ H _ _ vv uu Q I rv ru ⟨i, j, rfl, rfl, q⟩
  cases op with
  | eq =>
    obtain ⟨p, p', d1, d2, s1, s2, rfl⟩ := eqD_dp rx ry e
    rw [← hK] at d1 d2
    exact op_eqD hu pins s σ H _ _ vv uu Q I rv ru ⟨p, p', d1, d2, s1, s2, q⟩
  | ne =>
    have e' : (eqD x y).map (!·) = some b := e
    cases h : eqD x y with
    | none => rw [h] at e'; cases e'
    | some c =>
      rw [h] at e'
      cases e'
      obtain ⟨p, p', d1, d2, s1, s2, rfl⟩ := eqD_dp rx ry h
      rw [← hK] at d1 d2
      exact op_neD hu pins s σ H _ _ vv uu Q I rv ru ⟨p, p', d1, d2, s1, s2, q⟩
  | lt =>
    cases x with
    | int i => cases y with
      | int j => cases e; exact byI op_lt i j rfl rfl rfl
      | _ => cases e
    | _ => cases e
  | le =>
    cases x with
    | int i => cases y with
      | int j => cases e; exact byI op_le i j rfl rfl rfl
      | _ => cases e
    | _ => cases e
  | gt =>
    cases x with
    | int i => cases y with
      | int j => cases e; exact byI op_gt i j rfl rfl rfl
      | _ => cases e
    | _ => cases e
  | ge =>
    cases x with
    | int i => cases y with
      | int j => cases e; exact byI op_ge i j rfl rfl rfl
      | _ => cases e
    | _ => cases e
  | is =>
    cases y with
    | non =>
      have e' : some (isNone x) = some b := by cases x <;> exact e
      cases e'
      cases ry.non
      exact op_isN pins s σ H _ _ vv uu Q I rv ru ⟨rfl, by rw [← isNone_rep rx]; exact q⟩
    | _ => cases x <;> cases e
  | isn =>
    cases y with
    | non =>
      have e' : some (!isNone x) = some b := by cases x <;> exact e
      cases e'
      cases ry.non
      exact op_notN pins s σ H _ _ vv uu Q I rv ru ⟨rfl, by rw [← isNone_rep rx]; exact q⟩
    | _ => cases x <;> cases e
  | mem =>
    cases x with
    | str z =>
      cases y with
      | tup ys =>
        have e' : (strsD ys).map (fun l => l.any (· == z)) = some b := e
        obtain ⟨a, vs, rfl, ha, ra⟩ := ry.tup
        cases rx.str
        cases h : strsD ys with
        | none => rw [h] at e'; cases e'
        | some l =>
          rw [h] at e'
          cases e'
          have hv := strs_flat ra h
          subst hv
          rw [← hK] at ha
          exact op_in_seq pins s σ H _ _ vv uu Q I rv ru ⟨a, _, rfl, .inr ha, rfl, flat_strs, by rw [if_neg Bool.false_ne_true, inV_strs]; exact q⟩
      | _ => cases e
    | _ => cases y <;> cases e
  | nin =>
    cases x with
    | str z =>
      cases y with
      | tup ys =>
        have e' : (strsD ys).map (fun l => !l.any (· == z)) = some b := e
        obtain ⟨a, vs, rfl, ha, ra⟩ := ry.tup
        cases rx.str
        cases h : strsD ys with
        | none => rw [h] at e'; cases e'
        | some l =>
          rw [h] at e'
          cases e'
          have hv := strs_flat ra h
          subst hv
          rw [← hK] at ha
          exact op_notIn_seq pins s σ H _ _ vv uu Q I rv ru ⟨a, _, rfl, .inr ha, rfl, flat_strs, by rw [if_pos rfl, inV_strs]; exact q⟩
      | _ => cases e
    | _ => cases y <;> cases e

/-! ### truth -/
theorem isEmpty_reps {w : Wd} {H : Hp} {ds : List D} {vs : List V} (r : Reps g H w ds vs) : ds.isEmpty = vs.isEmpty := by cases r <;> rfl
theorem truthy_tru {w : Wd} {H : Hp} {x : D} {v : V} {b : Bool} (r : RepT g H w x v) (e : truthy x = some b) : TruV g.K v H b := by
  cases x with
  | non => cases r.non; cases e; exact (rfl : false = false)
  | bl c => cases r.bl; cases e; exact (rfl : b = b)
  | int i => cases r.int; cases e; exact (rfl : (i != 0) = (i != 0))
  | str z =>
    cases r.str
    obtain ⟨h, rfl⟩ := some_if e
    exact ⟨by rw [← limE]; exact h, rfl⟩
  | tup xs =>
    cases e
    obtain ⟨a, vs, rfl, ha, ra⟩ := r.tup
    exact .inr (.inl ⟨vs, ha, by rw [isEmpty_reps ra]⟩)
  | lst xs =>
    cases e
    obtain ⟨a, vs, rfl, ha, ra⟩ := r.lst
    exact .inl ⟨vs, .inl ha, by rw [isEmpty_reps ra]⟩
  | _ => cases e

/-! ### indexes -/
theorem atI_reps {w : Wd} {H : Hp} {ds : List D} {vs : List V} {i : Int} {d : D} (r : Reps g H w ds vs) (h : atI ds i = some d) : ∃ v, atI vs i = some v ∧ Rep g H w d v := by
  unfold atI at h ⊢
  rw [← r.length]
  cases e : ixN ds.length i with
  | none => rw [e] at h; cases h
  | some j => rw [e] at h; exact r.get h
def rX (g : G) : R2 := fun v u H Q => ∃ w S x y d, WOk g w H S ∧ RepT g H w x v ∧ RepT g H w y u ∧ ixD x y = some d ∧ ∀ z, Rep g H w d z → Q z H
theorem ix_any (hK : X.K = g.K) : IxR X (rX g) := by
  intro va sl pins s σ H v u vv uu Q I rv ru ⟨w, S, x, y, d, k, rx, ry, e, q⟩ hs
  cases y with
  | int i =>
    cases ry.int
    cases x with
    | tup xs =>
      obtain ⟨a, vs, rfl, ha, ra⟩ := rx.tup
      obtain ⟨z, hz, rz⟩ := atI_reps ra e
      rw [← hK] at ha
      exact ix_tup va sl pins s σ H _ _ vv uu Q I rv ru ⟨a, vs, i, z, rfl, rfl, ha, hz, q z rz⟩ hs
    | lst xs =>
      obtain ⟨a, vs, rfl, ha, ra⟩ := rx.lst
      obtain ⟨z, hz, rz⟩ := atI_reps ra e
      exact ix_list va sl pins s σ H _ _ vv uu Q I rv ru ⟨a, vs, i, z, rfl, rfl, .inl ha, hz, q z rz⟩ hs
    | _ => cases e
  | _ => cases x <;> cases e

/-! ### slices -/
theorem cut_reps {w : Wd} {H : Hp} {ds : List D} {vs : List V} {lo hi : Option Int} (r : Reps g H w ds vs) : Reps g H w (cutD ds lo hi) (cutV vs lo hi) := by
  unfold cutD cutV
  rw [r.length]
  exact (r.drop _).take _
def rSl (g : G) : V → Option Int → Option Int → Hp → VK → Prop := fun v lo hi H Q => ∃ w S x d, WOk g w H S ∧ RepT g H w x v ∧ slD x lo hi = some d ∧ ∀ w' H' z, OutN g true w H S d w' H' z → Q z H'
theorem sl_any (hK : X.K = g.K) : SlR X (rSl g) := by
  intro pins s σ H v vv vl vu lo hi sl Q I rv hs pl pu ⟨w, S, x, d, k, rx, e, q⟩
  cases x with
  | tup xs =>
    cases e
    obtain ⟨a, vs, rfl, ha, ra⟩ := rx.tup
    have ha' := ha
    rw [← hK] at ha
    refine sl_tupA pins s σ H _ vv vl vu lo hi sl Q I rv hs pl pu ⟨a, vs, rfl, ha, fun z => ?_, fun _ p hp => q _ _ _ (.newT k hp (cut_reps ra))⟩
    have ed : cutD xs lo hi = xs := by
      unfold cutD
      rw [ra.length, z.1, z.2, List.drop_zero, Nat.sub_zero, ← ra.length, List.take_length]
    rw [ed] at q
    exact q _ _ _ (.same k (.tup ha' ra) fun _ _ z => by cases z)
  | lst xs =>
    cases e
    obtain ⟨a, vs, rfl, ha, ra⟩ := rx.lst
    exact sl_list pins s σ H _ vv vl vu lo hi sl Q I rv hs pl pu ⟨a, vs, rfl, .inl ha, fun p hp => q _ _ _ (.newL k hp (cut_reps ra))⟩
  | _ => cases e

/-! ### built-in functions -/
def rBi (g : G) (b : Bi) : List V → Hp → VK → Prop := fun vs H Q => ∃ w S ds d, WOk g w H S ∧ RepTs g H w ds vs ∧ biOp b ds = some d ∧ ∀ w' H' z, OutN g (decide (b = .list ∨ b = .sorted)) w H S d w' H' z → Q z H'
theorem RepTs.one {w : Wd} {H : Hp} {d : D} {vs : List V} (r : RepTs g H w [d] vs) : ∃ v, vs = [v] ∧ RepT g H w d v := by
  cases r with
  | cons h t => cases t; exact ⟨_, rfl, h⟩
theorem RepTs.two {w : Wd} {H : Hp} {d d' : D} {vs : List V} (r : RepTs g H w [d, d'] vs) : ∃ v v', vs = [v, v'] ∧ RepT g H w d v ∧ RepT g H w d' v' := by
  cases r with
  | cons h t => cases t with
    | cons h' t => cases t; exact ⟨_, _, rfl, h, h'⟩
theorem sumD_ints : ∀ {ds : List D} {a n : Int}, sumD a ds = some n → ∃ ns : List Int, ds = ns.map D.int ∧ n = a + ns.sum
  | [], a, n, h => by
    cases h
    exact ⟨[], rfl, by simp⟩
  | d :: ds, a, n, h => by
    cases d with
    | int i =>
      obtain ⟨ns, e1, e2⟩ := sumD_ints (ds := ds) (a := a + i) (n := n) h
      exact ⟨i :: ns, by rw [e1]; rfl, by rw [e2, List.sum_cons]; omega⟩
    | _ => cases h
theorem reps_ints {w : Wd} {H : Hp} : ∀ {ns : List Int} {vs : List V}, Reps g H w (ns.map D.int) vs → vs = ns.map V.int
  | [], _, .nil => rfl
  | n :: ns, _, .cons h t => by
    cases h
    rw [reps_ints t]; rfl
theorem hasDict_dp {K : PySem.W.Frag} {H : Hp} : ∀ {p : PyData} {v : V}, Dp K H v p → p.hasDict = false
  | .none, _, _ => rfl
  | .bool _, _, _ => rfl
  | .int _, _, _ => rfl
  | .str _, _, _ => rfl
  | .list ds, _, h => by
    cases h with
    | lst _ h => exact hasDictAll_dp h
  | .tuple ds, _, h => by
    cases h with
    | tup _ h => exact hasDictAll_dp h
  | .dict _, _, h => by cases h
where hasDictAll_dp {K : PySem.W.Frag} {H : Hp} : ∀ {ps : List PyData} {vs : List V}, DpAll K H vs ps → PyData.hasDictAll ps = false
  | [], _, _ => rfl
  | p :: ps, _, h => by
    cases h with
    | cons h t =>
      have h1 := hasDict_dp h
      have h2 := hasDictAll_dp t
      simp only [PyData.hasDictAll, h1, h2, Bool.or_false]
/-- repr of plain data -/
theorem call_reprD (hg : X.A.guards = some []) (hu : X.A.units + 70 < cLine) : CallR X (.builtin "repr") (fun xs H Q => ∃ v p, xs = [v] ∧ Dp X.K H v p ∧ p.showable = true ∧ p.depth ≤ 64 ∧ p.shown.length ≤ sizeLine ∧ Q (.str p.shown) H) := by
  intro pins s σ H xs us Q I r h
  obtain ⟨v, p, rfl, hd, hs, hdp, hl, q⟩ := h
  obtain ⟨u, rfl, ru⟩ := vals1 r
  have hn := hasDict_dp hd
  obtain ⟨as, hr⟩ := Dp.reads I p v u hd ru
  have byRef : ∀ a, u = .ref a → wpAny (model X.prog X.w) X.A (call (.builtin "repr") [u]) (EP X pins σ Q) X.xe s := fun a e => by
    subst e
    exact repr_of_reads' hr hs (PyData.noDict_hsm hn) hg (by omega) (fun _ _ e => e) (fun h' u tk hk => ⟨.str p.shown, H, I.kept hk, ⟨_, rfl⟩, q⟩) hl
  cases hd with
  | non =>
    cases (show u = Value.none from ru)
    exact PySem.P.repr_of_none ⟨.str _, H, I.tok _, ⟨_, rfl⟩, q⟩
  | bl b =>
    cases (show u = Value.bool b from ru)
    exact PySem.P.repr_of_bool ⟨.str _, H, I.tok _, ⟨_, rfl⟩, q⟩
  | int i =>
    obtain ⟨t, rfl⟩ := ru
    exact PySem.P.repr_of_int (of_decide_eq_true hs) ⟨.str _, H, I.tok _, ⟨_, rfl⟩, q⟩
  | str x =>
    obtain ⟨t, rfl⟩ := ru
    exact PySem.P.repr_of_str ⟨.str _, H, I.tok _, ⟨_, rfl⟩, q⟩ hl
  | lst h _ => exact byRef _ ru
  | tup h _ => exact byRef _ ru
def biV : Bi → Value
  | .int => .type "int" | .tuple => .type "tuple" | .list => .type "list" | .str => .type "str" | .sorted => .builtin "sorted" | .len => .builtin "len" | .abs => .builtin "abs" | .sum => .builtin "sum"
  | .min => .builtin "min" | .max => .builtin "max" | .repr => .builtin "repr" | .all => .builtin "all" | .any => .builtin "any" | .gcd => .builtin "math.gcd"
theorem builtin_ok (hK : X.K = g.K) (hc : X.calm = true) (hg : X.A.guards = some []) (hu : X.A.units + 70 < cLine) (b : Bi) :
    CallR X (biV b) (rBi g b) := by
  intro pins s σ H vs us Q I r ⟨w, S, ds, d, k, rs, e, q⟩
  have lE := limE
  cases b with
  | gcd =>
    match ds, e with
    | [.int i, .int j], e =>
      cases e
      obtain ⟨v, v', rfl, rv, rv'⟩ := rs.two
      cases rv.int; cases rv'.int
      exact cr_gcd pins s σ H _ us Q I r ⟨i, j, rfl, q _ _ _ (intOut k)⟩
  | len =>
    match ds, e with
    | [.tup xs], e =>
      cases e
      obtain ⟨v, rfl, rv⟩ := rs.one
      obtain ⟨a, zs, rfl, ha, ra⟩ := rv.tup
      rw [← hK] at ha
      exact call_len_seq pins s σ H _ us Q I r ⟨a, zs, rfl, .inr ha, by rw [← ra.length]; exact q _ _ _ (intOut k)⟩
    | [.lst xs], e =>
      cases e
      obtain ⟨v, rfl, rv⟩ := rs.one
      obtain ⟨a, zs, rfl, ha, ra⟩ := rv.lst
      exact call_len_seq pins s σ H _ us Q I r ⟨a, zs, rfl, .inl (.inl ha), by rw [← ra.length]; exact q _ _ _ (intOut k)⟩
    | [.str x], e =>
      obtain ⟨hz, rfl⟩ := some_if e
      obtain ⟨v, rfl, rv⟩ := rs.one
      cases rv.str
      exact call_len_str pins s σ H _ us Q I r ⟨x, rfl, by omega, q _ _ _ (intOut k)⟩
  | abs =>
    match ds, e with
    | [.int i], e =>
      cases e
      obtain ⟨v, rfl, rv⟩ := rs.one
      cases rv.int
      exact call_abs pins s σ H _ us Q I r ⟨i, rfl, q _ _ _ (intOut k)⟩
  | int =>
    match ds, e with
    | [.int i], e =>
      cases e
      obtain ⟨v, rfl, rv⟩ := rs.one
      cases rv.int
      exact call_int1 pins s σ H _ us Q I r (.inl ⟨i, rfl, q _ _ _ (intOut k)⟩)
    | [.bl c], e =>
      cases e
      obtain ⟨v, rfl, rv⟩ := rs.one
      cases rv.bl
      exact call_int1 pins s σ H _ us Q I r (.inr ⟨c, rfl, q _ _ _ (intOut k)⟩)
  | tuple =>
    match ds, e with
    | [.tup xs], e =>
      cases e
      obtain ⟨v, rfl, rv⟩ := rs.one
      obtain ⟨a, zs, rfl, ha, ra⟩ := rv.tup
      have ha' := ha
      rw [← hK] at ha
      exact call_tuple_of pins s σ H _ us Q I r ⟨a, zs, rfl, .inr ⟨ha, q _ _ _ (.same k (.tup ha' ra) fun _ _ z => by cases z)⟩⟩
    | [.lst xs], e =>
      cases e
      obtain ⟨v, rfl, rv⟩ := rs.one
      obtain ⟨a, zs, rfl, ha, ra⟩ := rv.lst
      exact call_tuple_of pins s σ H _ us Q I r ⟨a, zs, rfl, .inl ⟨.inl ha, fun p hp => q _ _ _ (.newT k hp ra)⟩⟩
  | list =>
    match ds, e with
    | [.tup xs], e =>
      cases e
      obtain ⟨v, rfl, rv⟩ := rs.one
      obtain ⟨a, zs, rfl, ha, ra⟩ := rv.tup
      rw [← hK] at ha
      exact call_list_of pins s σ H _ us Q I r ⟨a, zs, rfl, .inr ha, fun p hp => q _ _ _ (.newL k hp ra)⟩
    | [.lst xs], e =>
      cases e
      obtain ⟨v, rfl, rv⟩ := rs.one
      obtain ⟨a, zs, rfl, ha, ra⟩ := rv.lst
      exact call_list_of pins s σ H _ us Q I r ⟨a, zs, rfl, .inl (.inl ha), fun p hp => q _ _ _ (.newL k hp ra)⟩
  | sum =>
    match ds, e with
    | [.lst xs], e =>
      obtain ⟨v, rfl, rv⟩ := rs.one
      obtain ⟨a, zs, rfl, ha, ra⟩ := rv.lst
      have e' : (sumD 0 xs).map D.int = some d := e
      cases h : sumD 0 xs with
      | none => rw [h] at e'; cases e'
      | some n =>
        rw [h] at e'
        cases e'
        obtain ⟨ns, rfl, rfl⟩ := sumD_ints h
        cases reps_ints ra
        exact cr_sum hc pins s σ H _ us Q I r ⟨a, ns, rfl, .inl ha, by rw [Int.zero_add] at q; exact q _ _ _ (intOut k)⟩
  | min =>
    match ds, e with
    | [.int i, .int j], e =>
      cases e
      obtain ⟨v, v', rfl, rv, rv'⟩ := rs.two
      cases rv.int; cases rv'.int
      exact call_min2 hc pins s σ H _ us Q I r ⟨i, j, rfl, q _ _ _ (intOut k)⟩
  | max =>
    match ds, e with
    | [.int i, .int j], e =>
      cases e
      obtain ⟨v, v', rfl, rv, rv'⟩ := rs.two
      cases rv.int; cases rv'.int
      exact call_max2 hc pins s σ H _ us Q I r ⟨i, j, rfl, q _ _ _ (intOut k)⟩
  | repr =>
    match ds, e with
    | [x], e =>
      obtain ⟨v, rfl, rv⟩ := rs.one
      have e' : reprD x = some d := e
      unfold reprD at e'
      cases h : x.py with
      | none => rw [h] at e'; cases e'
      | some p =>
        rw [h] at e'
        obtain ⟨hz, rfl⟩ := some_if e'
        simp only [Bool.and_eq_true, decide_eq_true_eq] at hz
        exact call_reprD hg hu pins s σ H _ us Q I r ⟨v, p, rfl, by rw [hK]; exact rv.dp h, hz.1.1, hz.1.2, by rw [← lE]; exact hz.2, q _ _ _ (strOut k)⟩
  | all =>
    match ds, e with
    | [.lst xs], e =>
      obtain ⟨v, rfl, rv⟩ := rs.one
      obtain ⟨a, zs, rfl, ha, ra⟩ := rv.lst
      have e' : (allD xs).map D.bl = some d := e
      cases h : allD xs with
      | none => rw [h] at e'; cases e'
      | some b =>
        rw [h] at e'
        cases e'
        obtain ⟨bs, hz, hb⟩ := all_bls ra h
        subst hz hb
        exact cr_all hc pins s σ H _ us Q I r ⟨a, bs, rfl, .inl ha, q _ _ _ (blOut k)⟩
  | any => match ds, e with | _, e => cases e
  | sorted => match ds, e with | _, e => cases e
  | str => match ds, e with | _, e => cases e
end
end Fx

set_option maxHeartbeats 4000000
/-! Fx9a: how a call's values come to the parameters. -/
namespace Fx
open PySem PySem.Spec PyProof.Rows L2

theorem forIn_steps {α β : Type} {f : α → β → Sem (ForInStep β)} (stp : β → α → β) (ok : β → List α → Prop) (h : ∀ st a l, ok st (a :: l) → f a st = pure (.yield (stp st a)) ∧ ok (stp st a) l) : ∀ (l : List α) (st : β), ok st l → forIn l st f = pure (l.foldl stp st)
  | [], st, _ => by rw [List.forIn_nil]; rfl
  | a :: l, st, k => by
    obtain ⟨h1, h2⟩ := h st a l k
    rw [List.forIn_cons, h1]
    exact forIn_steps stp ok h l _ h2
theorem look_zip {x : Str} {v : Value} : ∀ {ps : List Str} {us : List Value} {i : Nat}, ps.Nodup → ps[i]? = some x → us[i]? = some v → (ps.zip us).lookup x = some v
  | [], _, _, _, h, _ => by simp at h
  | _ :: _, [], _, _, _, h => by simp at h
  | p :: ps, u :: us, 0, _, h1, h2 => by
    simp at h1 h2
    subst h1 h2
    rw [List.zip_cons_cons, List.lookup_cons, beq_self_eq_true]
  | p :: ps, u :: us, i + 1, nd, h1, h2 => by
    have nd := List.nodup_cons.mp nd
    have h1 : ps[i]? = some x := by simpa using h1
    have ne : (x == p) = false := by
      have : x ≠ p := fun e => nd.1 (by rw [← e]; exact List.mem_of_getElem? h1)
      simpa using this
    rw [List.zip_cons_cons, List.lookup_cons, ne]
    exact look_zip nd.2 h1 (by simpa using h2)
theorem look_out {x : Str} : ∀ {l : List (Str × Value)}, (∀ v, (x, v) ∉ l) → l.lookup x = none
  | [], _ => rfl
  | (p, u) :: l, h => by
    have ne : (x == p) = false := by
      have : x ≠ p := fun e => h u (by rw [e]; exact List.mem_cons_self)
      simpa using this
    rw [List.lookup_cons, ne]
    exact look_out fun v hv => h v (List.mem_cons_of_mem _ hv)
theorem look_app {x : Str} : ∀ {l m : List (Str × Value)}, (l ++ m).lookup x = match l.lookup x with | some v => some v | none => m.lookup x
  | [], m => rfl
  | (p, u) :: l, m => by
    rw [List.cons_append, List.lookup_cons, List.lookup_cons]
    cases x == p with
    | true => rfl
    | false => exact look_app
theorem zip_map {F : Str → Option Value} {Gf : Str → Value} : ∀ {ps : List Str}, (∀ n ∈ ps, F n = some (Gf n)) → ps.filterMap (fun n => (F n).map (n, ·)) = ps.zip (ps.map Gf)
  | [], _ => rfl
  | p :: ps, h => by
    rw [List.filterMap_cons, h p List.mem_cons_self, List.map_cons, List.zip_cons_cons]
    show (p, Gf p) :: _ = _
    rw [zip_map fun n hn => h n (List.mem_cons_of_mem _ hn)]
theorem find_at {k : Str} : ∀ {ks : List Str}, k ∈ ks → ks[ks.findIdx fun z => decide (some k = some z)]? = some k
  | z :: ks, h => by
    rw [List.findIdx_cons]
    by_cases e : k = z
    · subst e
      simp
    · have e2 : decide (some k = some z) = false := by simpa using e
      rw [e2]
      simp only [cond_false, List.getElem?_cons_succ]
      exact find_at ((List.mem_cons.mp h).resolve_left e)
theorem filter_all {α β : Type} {f : α → Option β} {h : α → β} : ∀ {l : List α}, (∀ a ∈ l, f a = some (h a)) → l.filterMap f = l.map h
  | [], _ => rfl
  | a :: l, q => by
    rw [List.filterMap_cons, q a List.mem_cons_self, List.map_cons]
    show h a :: _ = _
    rw [filter_all fun b hb => q b (List.mem_cons_of_mem _ hb)]
def plainP (p : Arguments) : Bool := p.posonlyargs.isEmpty && p.vararg.isNone && p.kwonlyargs.isEmpty && p.kwarg.isNone && p.defaults.isEmpty
/-- how the values stand: in the parameters' order -/
theorem bind_all {x qual : Str} {params : Arguments} {body : List Stmt} {scope : Scope} {kV doc pm cdv ct : Value} {an : Option Addr} {ps ks : List Str} {us ws : List Value} (hp : plainP params = true) (hps : params.args.map (·.arg) = ps) (hb : bindB ps us.length ks = true) (hw : ws.length = ks.length) :
    bindArgs (PySem.W.fnOf x qual params body scope .none kV doc pm an cdv ct) ⟨us, ks.zip ws⟩ = pure (ps.zip (reord (ixOf ps us.length ks) (us ++ ws))) := by
  obtain ⟨po, ar, va, ko, kd, kw, df⟩ := params
  unfold plainP at hp
  simp only [Bool.and_eq_true, List.isEmpty_iff, Option.isNone_iff_eq_none] at hp
  obtain ⟨⟨⟨⟨rfl, rfl⟩, rfl⟩, rfl⟩, rfl⟩ := hp
  have hps : ar.map (·.arg) = ps := hps
  unfold bindB at hb
  simp only [Bool.and_eq_true, decide_eq_true_eq, List.all_eq_true] at hb
  obtain ⟨⟨⟨⟨hlen, ndk⟩, ndp⟩, hin⟩, hall⟩ := hb
  -- the values by name
  let slots := ps.zip us ++ ks.zip ws
  have outL : ∀ z, z ∈ ps.drop us.length → (ps.zip us).lookup z = none := fun z hz => look_out fun v hv => by
    obtain ⟨i, hi, e⟩ := List.getElem_of_mem hv
    rw [List.getElem_zip] at e
    obtain ⟨j, hj, e2⟩ := List.getElem_of_mem hz
    rw [List.getElem_drop] at e2
    have l1 : i < ps.length ∧ i < us.length := by rw [List.length_zip] at hi; omega
    have l2 : us.length + j < ps.length := by rw [List.length_drop] at hj; omega
    have e3 : ps[i] = ps[us.length + j] := by
      have := congrArg Prod.fst e
      rw [e2]; exact this
    have := (List.getElem_inj ndp).mp e3
    omega
  have val : ∀ (i : Nat) z, ps[i]? = some z → ∃ v, slots.lookup z = some v ∧ (us ++ ws)[if i < us.length then i else us.length + ks.findIdx fun k => decide (some z = some k)]? = some v := fun i z hz => by
    have hi := (List.getElem?_eq_some_iff.mp hz).1
    by_cases hlt : i < us.length
    · refine ⟨us[i], ?_, ?_⟩
      · show (ps.zip us ++ ks.zip ws).lookup z = _
        rw [look_app, look_zip ndp hz (List.getElem?_eq_getElem hlt)]
      · rw [if_pos hlt, List.getElem?_append_left hlt, List.getElem?_eq_getElem hlt]
    · have hd : z ∈ ps.drop us.length := by
        refine List.mem_of_getElem? (i := i - us.length) ?_
        rw [List.getElem?_drop, show us.length + (i - us.length) = i by omega]
        exact hz
      have hk : z ∈ ks := by simpa using hall z hd
      have hf := find_at hk
      have hfl := (List.getElem?_eq_some_iff.mp hf).1
      have hwl : (ks.findIdx fun k => decide (some z = some k)) < ws.length := by omega
      refine ⟨ws[ks.findIdx fun k => decide (some z = some k)], ?_, ?_⟩
      · show (ps.zip us ++ ks.zip ws).lookup z = _
        rw [look_app, outL z hd]
        exact look_zip ndk hf (List.getElem?_eq_getElem hwl)
      · rw [if_neg hlt, List.getElem?_append_right (by omega), Nat.add_sub_cancel_left, List.getElem?_eq_getElem hwl]
  have have_ : ∀ z ∈ ps, slots.lookup z = some ((slots.lookup z).getD .none) := fun z hz => by
    obtain ⟨i, hi, e⟩ := List.getElem_of_mem hz
    obtain ⟨v, h1, _⟩ := val i z (by rw [List.getElem?_eq_getElem hi, e])
    rw [h1]; rfl
  have fin : ps.filterMap (fun n => (slots.lookup n).map (n, ·)) = ps.zip (reord (ixOf ps us.length ks) (us ++ ws)) := by
    rw [zip_map have_]
    congr 1
    unfold reord ixOf
    rw [List.filterMap_map]
    have q : ∀ i ∈ List.range ps.length, ((fun i => (us ++ ws)[i]?) ∘ fun i => if i < us.length then i else us.length + ks.findIdx fun k => decide (ps[i]? = some k)) i = some ((slots.lookup (ps.getD i default)).getD .none) := fun i hi => by
      have hl : i < ps.length := List.mem_range.mp hi
      obtain ⟨v, h1, h2⟩ := val i ps[i] (List.getElem?_eq_getElem hl)
      show (us ++ ws)[if i < us.length then i else us.length + ks.findIdx fun k => decide (ps[i]? = some k)]? = _
      rw [List.getElem?_eq_getElem hl, h2, List.getD_eq_getElem?_getD, List.getElem?_eq_getElem hl, Option.getD_some, h1]
      rfl
    rw [filter_all q]
    refine List.ext_getElem? fun i => ?_
    rw [List.getElem?_map, List.getElem?_map]
    by_cases hl : i < ps.length
    · rw [List.getElem?_range hl, List.getElem?_eq_getElem hl, Option.map_some, Option.map_some, List.getD_eq_getElem?_getD, List.getElem?_eq_getElem hl, Option.getD_some]
    · rw [List.getElem?_eq_none (by omega), List.getElem?_eq_none (by rw [List.length_range]; omega)]
      rfl
  -- the loop over the keywords
  have fold : ∀ (l A : List (Str × Value)) (e : List (Str × Value)), l.foldl (fun (st : List (Str × Value) × List (Str × Value)) kv => (st.1 ++ [(kv.1, kv.2)], st.2)) (A, e) = (A ++ l, e) := by
    intro l
    induction l with
    | nil => intro A e; rw [List.append_nil]; rfl
    | cons a l ih => intro A e; rw [List.foldl_cons, ih, List.append_assoc]; rfl
  have k0 : ((ks.zip ws).map (·.1)).Nodup ∧ ∀ kv ∈ ks.zip ws, ps.contains kv.1 = true ∧ (ps.zip us).lookup kv.1 = none := by
    refine ⟨?_, fun kv hkv => ?_⟩
    · rw [List.map_fst_zip (by omega)]; exact ndk
    · have hk := (List.of_mem_zip (a := kv.1) (b := kv.2) hkv).1
      have hd : kv.1 ∈ ps.drop us.length := by simpa using hin _ hk
      exact ⟨by simpa using List.mem_of_mem_drop hd, outL _ hd⟩
  have hm : (List.filter (fun n => (slots.lookup n).isNone) ps) = [] := by
    rw [List.filter_eq_nil_iff]
    intro z hz
    rw [have_ z hz]
    simp
  have hgt : decide (us.length > ps.length) = false := by
    rw [decide_eq_false_iff_not]; omega
  unfold bindArgs
  simp only [PySem.W.fnOf, hps, List.map_nil, List.nil_append, List.append_nil]
  rw [forIn_steps (fun (st : List (Str × Value) × List (Str × Value)) kv => (st.1 ++ [(kv.1, kv.2)], st.2)) (fun st l => (l.map (·.1)).Nodup ∧ ∀ kv ∈ l, ps.contains kv.1 = true ∧ st.1.lookup kv.1 = none) (fun st a l k => ?_) _ _ k0, fold]
  · show (pure _ >>= fun _ => _) = _
    rw [pure_bind, show seqItems? Value.none = pure none from rfl, pure_bind]
    simp only [hgt, Bool.false_and, Bool.false_eq_true, if_false]
    have hm' : (List.filter (fun n => (List.lookup n (ps.zip us ++ ks.zip ws)).isNone) ps) = [] := hm
    simp only [show ((none : Option (Array Value)).getD #[]).toList = [] from rfl, List.drop_nil, List.length_nil, Nat.sub_zero, List.take_length, hm', List.zip_nil_right, List.forIn_nil, pure_bind, List.isEmpty_nil, Bool.not_true, Bool.false_eq_true, if_false]
    exact congrArg pure fin
  · obtain ⟨k1, k2⟩ := k
    obtain ⟨q1, q2⟩ := k2 a List.mem_cons_self
    rw [List.map_cons, List.nodup_cons] at k1
    refine ⟨?_, k1.2, fun kv hkv => ⟨(k2 kv (List.mem_cons_of_mem _ hkv)).1, ?_⟩⟩
    · rw [q1, q2]
      rfl
    · show (st.1 ++ [(a.1, a.2)]).lookup kv.1 = none
      rw [look_app, (k2 kv (List.mem_cons_of_mem _ hkv)).2]
      have ne : (kv.1 == a.1) = false := by
        have : kv.1 ≠ a.1 := fun e => k1.1 (by rw [← e]; exact List.mem_map.mpr ⟨kv, hkv, rfl⟩)
        simpa using this
      show List.lookup kv.1 [(a.1, a.2)] = none
      rw [List.lookup_cons, ne]
      rfl
end Fx

set_option maxHeartbeats 4000000
/-! Fe1: raise of an own exception class over ValueError: super().__init__(text); self.f = value. -/
namespace Fx
open PySem PySem.Spec PySem.Calls PyProof.Rows L2

/-- the __init__ of such a class -/
def iniB (file : Str) (K : PySem.W.Frag) (C : Addr) (f : Str) (fI : Addr) : Bool :=
  match K.lookup fI with
  | some ⟨_, _, .func fd, _⟩ =>
    (match fd.body, fd.params.args, fd.closure with
    | .stmts [.Expr (.Call (.Attribute (.Call (.Name s1 _) [] [] _) i1 mp) [.Constant (.str _) _ _] [] cp) _, .Assign [.Attribute (.Name s2 _) f' _] (.Name p _) _], [a1, a2], [(c1, cc)] =>
      (mp.endLine == cp.line) && decide (s1 = "super") && decide (i1 = "__init__") && decide (s2 = "self") && decide (f' = f) && decide (a1.arg = "self") && decide (a2.arg = p) && !(p == ("self" : Str)) && !(p == ("__debug__" : Str)) && decide (c1 = "__class__") && plainP fd.params &&
      decide (fd.globals = mainGlobals) && decide (fd.builtins = builtinsNs) && decide (fd.defaults = .none) && decide (fd.scope.names.lookup ("super" : Str) = some .globalImplicit) && decide (fd.scope.names.lookup ("__class__" : Str) = some .free) &&
      decide (fd.scope.names.lookup ("self" : Str) = some .local) && decide (fd.scope.names.lookup p = some .local) && (fd.scope.names.all fun y => !decide (y.2 = .cell)) && !fd.scope.isCoroutine && !fd.scope.isGenerator && (match fd.scope.kind with
        | .function => true
        | _ => false) &&
      (match K.lookup cc with
        | some ⟨_, _, .cell (some v), _⟩ => decide (v = .ref C)
        | _ => false) && PySem.W.codeIn K fd.code fd.qualname && (match fd.code with
        | .ref c => (match K.lookup c with
          | some ⟨_, _, .fields vs, _⟩ => (match (vs[2]? : Option Value) with
            | some (Value.str fl _) => file == fl
            | _ => false)
          | _ => false)
        | _ => false)
    | _, _, _ => false)
  | _ => false
def clsB (K : PySem.W.Frag) (C : Addr) : Bool :=
  match K.lookup C with
  | some ⟨.type "type", _, .cls cd, sl⟩ => (match cd.mro, sl.toList with
    | .ref C' :: bm, [_, _, _, _, some (.builtin n), _] => decide (C' = C) && decide (n = "ValueError.__new__") && !cd.hasDel && cd.hasDict && PySem.HandSPX.refsVE bm && decide (PySem.W.alongIn K "__init__" ((cd.mro.dropWhile (· != .ref C)).drop 1) = some (some (.builtin "ValueError.__init__")))
    | _, _ => false)
  | _ => false
/-- what the written part says of the class x, whose __init__ stores the field f -/
def nxB (file : Str) (K : PySem.W.Frag) (x f : Str) : Bool :=
  He.eqO (PySem.W.nsIn K mainGlobals x) (some (some (.ref (He.ga K x)))) && clsB K (He.ga K x) && PySem.W.keepIn K (.ref (He.ga K x)) && decide (PySem.W.subIn K (.ref (He.ga K x)) (.type "BaseException") = some true) &&
  decide (PySem.W.subIn K (.ref (He.ga K x)) (.type "ValueError") = some true) && decide (PySem.W.typeIn K (.ref (He.ga K x)) = some (.type "type")) &&
  He.eqO (PySem.W.findIn K (.ref (He.ga K x)) "__setattr__") (some (some (.builtin "object.__setattr__"))) && He.eqO (PySem.W.findIn K (.ref (He.ga K x)) f) (some none) && decide (PySem.W.mroIn K (He.ga K x) (.ref (He.ga K x)) = some true) &&
  He.eqO (PySem.W.nsIn K mainGlobals "super") (some none) && He.eqO (PySem.W.nsIn K cStatics "thirdparty.any") (some none) &&
  He.eqO (PySem.W.findIn K (.ref (He.ga K x)) "__init__") (some (some (.ref (He.ma K (He.ga K x) "__init__")))) && decide (PySem.W.typeIn K (.ref (He.ma K (He.ga K x) "__init__")) = some (.type "function")) &&
  iniB file K (He.ga K x) f (He.ma K (He.ga K x) "__init__")

theorem eval_meth1 {env : PySem.Env} {o : Expr} {name : Str} {apos pos p2 : Pos} {c : Const} {j : Nat} (hl : (apos.endLine == pos.line) = true) : eval (.Call (.Attribute o name apos) [.Constant c j p2] [] pos) env = (do
      let ov ← attributeBase o name env (eval o env)
      standAt apos.atName
      let (f, first) ← holding [ov] (getMethod ov name (do return (← importBound o env).getD true))
      callWith pos f first (backTo pos (starEach [.Constant c j p2] env)) []) := by
  show (do
      let ov ← attributeBase o name env (eval o env)
      standAt apos.atName
      methodCall o name apos pos env ov 1 (backTo pos (starEach [.Constant c j p2] env)) []) = _
  have hm : methodCallForm 1 (backTo pos (starEach [.Constant c j p2] env)) [] = true := rfl
  unfold methodCall methodCallPos calleeOf
  simp only [hm, hl, Bool.not_true, Bool.false_or, if_true]
  rfl

theorem clsB_ok {K : PySem.W.Frag} {C : Addr} (h : clsB K C = true) : ∃ nm q N bs bm sn sub ab col dd k0 k1 k2 k3 k5, K.lookup C = some (excClassObj nm q C N bs bm true sn sub ab col dd k0 k1 k2 k3 k5 "ValueError.__new__") ∧ PySem.HandSPX.refsVE bm = true ∧
    PySem.W.alongIn K "__init__" (((Value.ref C :: bm).dropWhile (· != .ref C)).drop 1) = some (some (.builtin "ValueError.__init__")) := by
  unfold clsB at h
  split at h
  · rename_i dd cd sl ho
    split at h
    · rename_i C' bm k0 k1 k2 k3 n k5 hm hs
      simp only [Bool.and_eq_true, decide_eq_true_eq, Bool.not_eq_true'] at h
      obtain ⟨⟨⟨⟨⟨rfl, rfl⟩, h3⟩, h4⟩, h5⟩, h6⟩ := h
      obtain ⟨nm, bs, mro, ns, qn, hd, sn, sub, ab, col, del⟩ := cd
      dsimp only at hm h3 h4 h6
      subst hm h3 h4
      have hsl : sl = #[k0, k1, k2, k3, some (.builtin "ValueError.__new__"), k5] := by
        obtain ⟨l⟩ := sl
        simp only at hs
        rw [hs]
      subst hsl
      exact ⟨nm, qn, ns, bs, bm, sn, sub, ab, col, dd, k0, k1, k2, k3, k5, ho, h5, h6⟩
    · cases h
  · cases h

section
open PySem.W
variable {prog : Program} {w : World} {A : Around} {R : Result → Shared → Prop} {E : Value → Shared → Prop} {h : Heap} {g : Array GenState} {d : Drawn} {t : Nat} {os : OsState} {K : Frag} {mg mb : Str → Option Value} {C e t0 : Addr} {f : Str} {v : Value}

/-- the call of ValueError.__init__ bound to an own exception -/
theorem mw_call {nm q : Str} {N u : Addr} {bs bm : List Value} {sn : List Str} {sub : List Value} {ab : Bool} {col : Option Bool} {dd : Option Addr} {k0 k1 k2 k3 k5 : Option Value} {rest : List Value} {Q : Value → Shared → Prop}
    (hC : h.get? C = some (excClassObj nm q C N bs bm true sn sub ab col dd k0 k1 k2 k3 k5 "ValueError.__new__")) (he : h.get? e = some (HandSPX.excO C t0)) (hu : h.get? u = some (kxs_mw "ValueError.__init__" e)) (hz : rest.length ≤ sizeLine)
    (hq : ∀ h' t1, (∀ b o, b ≠ e → h.get? b = some o → h'.get? b = some o) → h'.get? e = some (HandSPX.excO C t1) → Q .none ⟨h', g, d, t, os⟩) :
    wpAny (model prog w) A (call (.ref u) rest) Q E ⟨h, g, d, t, os⟩ := by
  have FB := F.excBase_ValueError
  refine wpAny_call (codeAny_of_tree ?_)
  show wpAny _ A.in1 (callAny (.ref u) ⟨rest, []⟩) _ _ _
  simp only [callAny]
  refine wpAny_bind (wpAny_load hu ?_)
  simp only [kxs_mw, show (Value.type "method-wrapper" == Value.type "method" || Value.type "method-wrapper" == Value.type "builtin_function_or_method" || Value.type "method-wrapper" == Value.type "method-wrapper") = true by decide, if_true]
  refine KFB.if_so (by decide) ?_
  refine wpAny_bind (check_bound_init FB.toExcCallFacts hC he rfl ?_)
  refine wpAny_bind (wpAny_pure (wpAny_pure ?_))
  refine ⟨plainId_quiet FB.init.plain _, codeAny_builtin FB.initEntry ?_⟩
  exact exc_init_tree (cls := .ref C) (t0 := t0) (dv := none) (c2 := .none) (c3 := .none) (b4 := .bool false) he hz fun h' k e' t' => hq h' _ k e'

/-- the own __init__ -/
theorem init_nx {file : Str} (X : K.In h) (G : h.Ns mainGlobals mg) (hB : h.Ns builtinsNs mb) (hsup : mg "super" = none) (hbs : mb "super" = some (.type "super")) (lim : h.NoLimit) (hroom : A.depth < recursionLimit) (hf : prog.main.file = file) (htop : (prog.main.scope.names.lookup ("super" : Str)).isSome = false)
    {fI : Addr} (hi : iniB file K C f fI = true) (hc : clsB K C = true) (hno : findIn K (.ref C) f = some none) (sa : findIn K (.ref C) "__setattr__" = some (some (.builtin "object.__setattr__"))) (hm : mroIn K C (.ref C) = some true) (hth : nsIn K cStatics "thirdparty.any" = some none)
    (hve : subIn K (.ref C) (.type "ValueError") = some true) (he : h.get? e = some (HandSPX.excO C t0)) (hKe : K.lookup e = none)
    (hq : ∀ h' tk' dx t1, (∀ b o, b ≠ e → h.get? b = some o → h'.get? b = some o) → h.objs.size ≤ dx → dx ≠ e → h'.get? e = some { cls := .ref C, dict := some dx, data := .fields #[.ref t1, .none, .none, .none, .bool false, .none] } → h'.Ns1 dx (fun y => if y = f then some v else none) → R (.ok (.ret .none)) ⟨h', g, d, tk', os⟩) :
    codeAny (model prog w) A (.call (.ref fI) ⟨[.ref e, v], []⟩) R ⟨h, g, d, t, os⟩ := by
  obtain ⟨nm, q, N, bs, bm, sn, sub, ab, col, dd, k0, k1, k2, k3, k5, hC, hbm, hal⟩ := clsB_ok hc
  unfold iniB at hi
  split at hi
  · rename_i oc od fd osl lk
    split at hi
    · rename_i s1 sp1 sp2 i1 sp3 msg mj mp sp4 sp5 s2 sp6 f' sp7 p sp8 sp9 a1 a2 c1 cc hbody hargs hclo
      simp only [Bool.and_eq_true, decide_eq_true_eq, Bool.not_eq_true', beq_eq_false_iff_ne, ne_eq, List.all_eq_true, decide_eq_false_iff_not] at hi
      obtain ⟨⟨⟨⟨⟨⟨⟨⟨⟨⟨⟨⟨⟨⟨⟨⟨⟨⟨⟨⟨⟨⟨⟨⟨epos, e1⟩, e2⟩, e3⟩, e4⟩, e5⟩, e6⟩, n1⟩, n2⟩, e7⟩, hpl⟩, e8⟩, e9⟩, e10⟩, l1⟩, l2⟩, l3⟩, l4⟩, hcel⟩, hco⟩, hge⟩, hkd⟩, hcell⟩, hcode⟩, hfile⟩ := hi
      subst e1 e2 e3 e4 e7
      obtain ⟨name, qualname, params, body, scope, globals, closure, defaults, kwd, doc, pm, an, cdv, ct, blt⟩ := fd
      dsimp only at hbody hargs hclo e5 e6 hpl e8 e9 e10 l1 l2 l3 l4 hcel hco hge hkd hcell hcode hfile
      subst hbody hclo e8 e9 e10
      obtain ⟨po, ar, va, ko, kdf, kw, df⟩ := params
      dsimp only at hargs
      subst hargs
      have hk : scope.kind = .function := by
        split at hkd
        · assumption
        · cases hkd
      split at hcell
      · rename_i ccl ccd cv ccs lkc
        obtain rfl : cv = .ref C := of_decide_eq_true hcell
        split at hfile
        · rename_i cdv cda
          split at hfile
          · rename_i dcl dcd vs dcs lkd
            split at hfile
            · rename_i fl tf hvs
              let body : List Stmt := [.Expr (.Call (.Attribute (.Call (.Name "super" sp1) [] [] sp2) "__init__" sp3) [.Constant (.str msg) mj mp] [] sp4) sp5, .Assign [.Attribute (.Name "self" sp6) f' sp7] (.Name p sp8) sp9]
              let fd : FuncData := fnX name qualname ⟨po, [a1, a2], va, ko, kdf, kw, df⟩ body scope [("__class__", cc)] .none kwd doc pm an (.ref cda) ct
              have hbind : BindsTo ⟨h, g, d, t, os⟩ fd ⟨[.ref e, v], []⟩ [("self", .ref e), (p, v)] := by
                refine .of_eq ?_
                have z := bind_all (x := name) (qual := qualname) (params := ⟨po, [a1, a2], va, ko, kdf, kw, df⟩) (body := []) (scope := scope) (kV := kwd) (doc := doc) (pm := pm) (cdv := .ref cda) (ct := ct) (an := an) (ps := ["self", p]) (ks := []) (us := [.ref e, v]) (ws := []) hpl (by
                  show [a1.arg, a2.arg] = _
                  rw [e5, e6]) (by
                  unfold bindB
                  simp [Ne.symm n1]) rfl
                refine z.trans ?_
                simp [reord, ixOf, List.range_succ]
              refine ks_codeAny_call_defAt (fd := fd) (body := body) (binds := [("self", .ref e), (p, v)]) hroom (X _ _ lk) rfl lim (codeRec_of X hcode) rfl hbind (fun x hx => hcel x hx) (fun x hx => ?_) (fun h₀ hns hk₀ => ?_) hco hge hk
              · simp at hx
                rcases hx with rfl | rfl
                · exact l3
                · exact l4
              · let env : PySem.Env := callEnv fd h.objs.size fI
                have X0 : K.In h₀ := X.keeps hk₀
                have hcl : clsIn K C = some { name := nm, bases := bs, mro := .ref C :: bm, ns := N, qualname := q, hasDict := true, slotNames := sn, subclasses := sub, abstract := ab, collection := col, hasDel := false } := by unfold clsIn; rw [hC] <;> rfl
                have eC : e ≠ C := fun z => by
                  have z1 := X _ _ hC
                  rw [← z, he] at z1
                  cases z1
                have hse : (fun y => [(("self" : Str), Value.ref e), (p, v)].reverse.lookup y) "self" = some (.ref e) := by
                  show List.lookup _ [(p, v), (("self" : Str), Value.ref e)] = _
                  rw [List.lookup_cons, show (("self" : Str) == p) = false by simpa using Ne.symm n1, List.lookup_cons, beq_self_eq_true]
                have hsp : (fun y => [(("self" : Str), Value.ref e), (p, v)].reverse.lookup y) p = some v := by
                  show List.lookup _ [(p, v), (("self" : Str), Value.ref e)] = _
                  rw [List.lookup_cons, beq_self_eq_true]
                refine ks_wpAt_execs_cons (ks_wpAt_Expr_any (ks_wpAt_MethodCall ?_ (eval_meth1 (by simpa using epos))) (hi := by show interactive env = false; unfold interactive; rw [show env.scope.kind = .function from hk]; rfl))
                refine ks_wpAt_super_base (env := env) (fd := fd) (f := fI) (cc := cda) (ar := a1) (file := fl) (tf := tf) l1 l2 (by decide) rfl (X0 _ _ lk) rfl ?_ rfl (X0 _ _ lkd) rfl hvs ?_ htop ?_
                · have hpo : po = [] := by
                    unfold plainP at hpl
                    simp only [Bool.and_eq_true, List.isEmpty_iff] at hpl
                    exact hpl.1.1.1.1
                  show (po ++ [a1, a2]).head? = some a1
                  rw [hpo]; rfl
                · rw [hf]; exact hfile
                · refine ks_loadName_global hk l1 (loadGlobal_builtin (env := env) (G.keeps hk₀) hsup (hB.keeps hk₀) hbs ⟨rfl, ?_⟩)
                  refine wpAny_loadName_free hk l2 rfl ⟨_, X0 _ _ lkc, rfl⟩ ?_
                  rw [e5]
                  refine wpAny_loadName_local hk l3 hns hse ?_
                  refine ks_wpAny_isType_cls (X0 _ _ hC) rfl ⟨rfl, ?_⟩
                  refine ks_wpAny_call_super (X0 _ _ hC) rfl (hk₀ _ _ he) rfl (fun c z => by cases z) (looks_mroIn X0 hm) (fun h1 so1 k1 => ?_)
                  have X1 : K.In h1 := X0.keeps k1
                  have LI : Looks (model prog w) h1 (isInstance (.ref e) (.type "ValueError")) true := Looks.andThen (fun A Q E s k q => wpAny_typeOf_ref (k _ _ (k1 _ _ (hk₀ _ _ he))) q) (looks_subIn X1 hve)
                  refine kxs_getMethod kxs_ValueError so1 (looks_opaque X1 hth) (l₀ := .ref C :: bm) (fun A Q E s k q => wpAny_bind ((looks_clsIn X1 hcl) A _ E s k (wpAny_pure q))) rfl X1 hal LI eC (by decide) ?_
                  let h2 := h1.push (kxs_mw "ValueError.__init__" e)
                  have k2 : ∀ b o, h1.get? b = some o → h2.get? b = some o := fun b o z => Heap.get?_push_of_some _ z
                  refine kxs_callWith (i := "ValueError.__init__") (x := e) (by rfl) (evalArgs_plain ?_)
                  refine Calls.spliced_cons (Calls.Constant_str (pos := mp) (k := mj) (Calls.spliced_nil ⟨Heap.get?_push_at rfl rfl, ?_⟩))
                  have X2 : K.In h2 := X1.keeps k2
                  have kall : ∀ b o, h.get? b = some o → h2.get? b = some o := fun b o z => k2 _ _ (k1 _ _ (hk₀ _ _ z))
                  refine mw_call (X2 _ _ hC) (kall _ _ he) (Heap.get?_push_at rfl rfl) (by simp [sizeLine_eq]) (fun h3 t1 k3 he3 => ?_)
                  have k03 : ∀ b o, b ≠ e → h.get? b = some o → h3.get? b = some o := fun b o nb z => k3 _ _ nb (kall _ _ z)
                  have X3 : K.In h3 := fun b o z => k3 _ _ (fun q => by
                    rw [q, hKe] at z
                    cases z) (X2 _ _ z)
                  refine wpAt_of_wpAny (wpAny_execs_cons (plainObj_wpAny_Assign_Attribute ?_))
                  have hns3 : h3.Ns h.objs.size fun x => List.lookup x [(("self" : Str), Value.ref e), (p, v)].reverse := by
                    obtain ⟨o, es, ep, q1, q2, q3⟩ := hns
                    exact ⟨o, es, ep, k3 _ _ (Nat.ne_of_gt (Heap.lt_size he)) (k2 _ _ (k1 _ _ q1)), q2, q3⟩
                  refine wpAny_Name (wpAny_loadName_local hk l4 hns3 hsp ?_) (by simpa using n2)
                  refine wpAny_Name (wpAny_loadName_local hk l3 hns3 hse ?_) (by decide)
                  refine set_plain X3 (ox := HandSPX.excO C t1) (od := none) ⟨he3, rfl, rfl, trivial⟩ sa ?_
                  refine HandSPX.exc_osa X3 he3 hcl (show HandSPX.refsVE (.ref C :: bm) = true from hbm) rfl hno (fun h4 tk4 dx k4 dn dne hx hn => ?_)
                  refine wpAny_execs_nil (hq h4 tk4 dx t1 (fun b o nb z => k4 _ _ nb (k03 _ _ nb z)) (Nat.le_trans ?_ dn) dne hx hn)
                  obtain ⟨o, _, _, q1, _⟩ := hns3
                  exact Nat.le_of_lt (Heap.lt_size q1)
            · cases hfile
          · cases hfile
        · cases hfile
      · cases hcell
    · cases hi
  · cases hi
end

section
open PySem.W
variable {X : Cx} {x f : Str} {e : Expr} {te : TE} {p pos : Pos}
/-- C(e): the exception's own dict holds the field -/
def tNx (C : Addr) (f : Str) (te : TE) : L2.St → Hp → XK → Prop := fun σ H Q => te σ H fun y H1 => ∀ dx, H1 dx = none → Q (.ref C) (some dx) (upd H1 dx (.xd [(f, y)]))
theorem nxB_mg {file : Str} {K : PySem.W.Frag} {h : Heap} {mg : Str → Option Value} (KX : K.In h) (G : h.Ns mainGlobals mg) (hB : nxB file K x f = true) : mg x = some (.ref (He.ga K x)) := by
  unfold nxB at hB
  simp only [Bool.and_eq_true] at hB
  exact PySem.W.mg_of KX G (He.eqO_ok hB.1.1.1.1.1.1.1.1.1.1.1.1.1)
theorem pmk_nx (hB : nxB X.prog.main.file X.K x f = true) (htop : (X.prog.main.scope.names.lookup ("super" : Str)).isSome = false) (hg : Gl X x) (hm : X.mg x = some (.ref (He.ga X.K x))) (hr : Room 1 X.A) (he : PE X e te)
    (hdb : (x == ("__debug__" : Str)) = false) (hst : starEach [e] X.env = (false, eval e X.env) :: starEach [] X.env) : PMk X (.Call (.Name x p) [e] [] pos) (tNx (He.ga X.K x) f te) := by
  unfold nxB at hB
  simp only [Bool.and_eq_true, decide_eq_true_eq] at hB
  obtain ⟨⟨⟨⟨⟨⟨⟨⟨⟨⟨⟨⟨⟨c1, c2⟩, c3⟩, c4⟩, c5⟩, c6⟩, c7⟩, c8⟩, c9⟩, c10⟩, c11⟩, c12⟩, c13⟩, c14⟩ := hB
  generalize He.ga X.K x = C at *
  have c2' := c2
  obtain ⟨nm, q, N, bs, bm, sn, sub, ab, col, dd, k0, k1, k2, k3, k5, hC, hbm, hal⟩ := clsB_ok c2
  intro pins s σ H Q I h
  have hN := I.ok.mod.glob
  refine wpAny_Call_Name_kw (ld_glob I hg hm ?_ hdb)
  let Q1 : List V → Hp → Prop := fun vs H1 => match vs with
    | [y] => ∀ dx, H1 dx = none → Q (.ref C) (some dx) (upd H1 dx (.xd [(f, y)]))
    | _ => False
  refine PySem.W.callWith_K (h₀ := X.base) I.ok.mod.kin c3 (thn ((pa_cons he pa_nil hst).run pos pins s σ H Q1 I h) fun us s1 ⟨vs, H1, I1, r1, q1⟩ => ⟨I1.kIn, ?_⟩) hst (by rfl)
  obtain ⟨y, rfl⟩ : ∃ y, vs = [y] := by
    match vs, q1 with
    | [y], _ => exact ⟨y, rfl⟩
  have q1 : ∀ dx, H1 dx = none → Q (.ref C) (some dx) (upd H1 dx (.xd [(f, y)])) := q1
  obtain ⟨u, rfl, ru⟩ : ∃ u, us = [u] ∧ RelV y u := by
    cases r1 with
    | cons r t => cases t with
      | nil => exact ⟨_, rfl, r⟩
  show wpAny _ _ (call (.ref C) [u]) _ _ _
  obtain ⟨mb, hmb, hbo⟩ := I.ok.mod.blt
  have kb : ∀ b o, X.base.get? b = some o → s1.heap.get? b = some o := I1.bk
  obtain ⟨hp, g, dr, tk, os⟩ := s1
  have KX : X.K.In hp := I1.kIn
  have kk : ∀ b o, hp.get? b = some o → ((hp.push (PySem.W.kdv_tup [u])).push (PySem.HandSPX.excO C hp.objs.size)).get? b = some o := fun b o e => Heap.get?_push_of_some _ (Heap.get?_push_of_some _ e)
  have hget : ((hp.push (PySem.W.kdv_tup [u])).push (PySem.HandSPX.excO C hp.objs.size)).get? (hp.objs.size + 1) = some (PySem.HandSPX.excO C hp.objs.size) := by heap_get
  have fresh : X.K.lookup (hp.objs.size + 1) = none := by
    cases z : X.K.lookup (hp.objs.size + 1) with
    | none => rfl
    | some o => exact (Nat.not_lt.mpr (Nat.le_succ _) (Heap.lt_size (KX _ _ z))).elim
  refine wpAny_call (PySem.HandSPX.call_own F.excBase_ValueError (fun Y => PySem.HandSPX.refsVE_contains Y bm hbm) (KX _ _ hC) (PySem.W.looks_findIn KX (He.eqO_ok c12)) (fun self => PySem.W.bind_fn KX self c13) (by simp [sizeLine_eq]) ?_)
  have mk : Room 0 (X.A.under (.builtin "type.__call__" ⟨.ref C :: [u], []⟩)) := hr.make C [u] []
  refine init_nx (mg := X.mg) (mb := mb) (KX.keeps kk) (hN.keeps fun b o z => kk _ _ (kb _ _ z)) (hmb.keeps fun b o z => kk _ _ (kb _ _ z)) (PySem.W.mg_none_of I.ok.mod.kin hN (He.eqO_ok c10)) ((hbo _ (by decide)).trans (by kernel_rfl)) (I1.nolimit.keeps kk) mk.depth rfl htop c14 c2' (He.eqO_ok c8) (He.eqO_ok c7) c9 (He.eqO_ok c11) c5 hget fresh (fun h' tk' dx t1 k ds de he' hn => ?_)
  obtain ⟨G, g1, g2⟩ := restrict h' fun b => decide (b ≠ hp.objs.size + 1)
  have gk : ∀ b, b ≠ hp.objs.size + 1 → G.get? b = h'.get? b := fun b hb => g1 b (decide_eq_true hb)
  have ge : G.get? (hp.objs.size + 1) = none := g2 _ (by simp)
  have ne : ∀ {b : Addr} {o : Obj}, hp.get? b = some o → b ≠ hp.objs.size + 1 := fun z => Nat.ne_of_lt (Nat.lt_succ_of_lt (Heap.lt_size z))
  have dsz : hp.objs.size ≤ dx := Nat.le_trans (by rw [Heap.size_push, Heap.size_push]; exact Nat.le_trans (Nat.le_succ _) (Nat.le_succ _)) ds
  have nd : H1 dx = none := I1.hok.fresh dsz
  have J : Inv X pins σ (upd H1 dx (.xd [(f, y)])) ⟨G, g, dr, tk', os⟩ := I1.laid (t' := tk') (a := dx) (o := .xd [(f, y)]) (h' := G) (fun b o z => (gk b (ne z)).trans (k b o (ne z) (kk _ _ z))) dsz ⟨_, hn.at fun o z => (gk dx de).trans z, relO_put (fs := []) ru fun g => True.intro⟩
  have rs : Raises X (.ref C) := raises_own c4 c6
  refine ⟨rfl, hp.objs.size + 1, _, _, ⟨G, g, dr, tk', os⟩, _, .ref C, some dx, rfl, J, fun b o z => ?_, ge, he', ⟨rfl, rfl⟩, rfl, rfl, ?_, rfl, I1.bare, rs, q1 dx nd⟩
  · by_cases hb : b = hp.objs.size + 1
    · rw [hb, ge] at z
      cases z
    · exact (gk b hb).symm.trans z
  · rw [upd_ne (Ne.symm de)]
    exact I1.hok.fresh (Nat.le_succ _)
end
end Fx

set_option maxHeartbeats 4000000
/-! Fe2: try: body, several clauses except C as n, none of which is missed. -/
namespace Fx
open PySem PySem.Spec PySem.Calls PyProof.Rows L2

/-- behind a suite the clause's name is gone -/
def Ends.off (D : Ends) (i : Nat) : Ends := { nx := fun σ H => D.nx (σ.set i none) H, rt := D.rt, bk := fun σ H => D.bk (σ.set i none) H, ct := fun σ H => D.ct (σ.set i none) H }
abbrev Suit := Addr → Value → Option Addr → TS
/-- what is wanted of an exception: some clause takes it -/
def wNmd (K : PySem.W.Frag) (i : Nat) (D : Ends) : List (Value × Suit) → WX
  | [], _, _, _, _ => False
  | p :: l, cls, d, σ, H => ∃ b, PySem.W.exmOne K cls p.1 = some b ∧ if b = true then ∀ a, H a = none → p.2 a cls d (Ends.off D i) (σ.set i (some (.ref a))) H else wNmd K i D l cls d σ H
inductive Nmd (X : Cx) (n : Str) : List ExceptHandler → List (Value × Suit) → Prop
  | nil : Nmd X n [] []
  | cons {x : Str} {c : Value} {ts : Suit} {st : Stmt} {sts : List Stmt} {p1 p2 : Pos} {hds : List ExceptHandler} {l : List (Value × Suit)} (hc : Names X x c)
      (su : ∀ (a : Addr) (o : Obj) (cls : Value) (d : Option Addr) (pn : List (Addr × Obj)), Zc cls d o → (∃ vs, o.data = .fields vs) → PSs (X.suite a ((a, o) :: pn)) (st :: sts) (ts a cls d)) (r : Nmd X n hds l) :
      Nmd X n (.ExceptHandler (some (.Name x p1)) (some n) (st :: sts) p2 :: hds) ((c, ts) :: l)

/-- the exception at a has come down -/
structure Down (X : Cx) (pins : List (Addr × Obj)) (B : Heap) (a : Addr) (cls : Value) (d : Option Addr) (σ : L2.St) (H : Hp) (sI s : Shared) : Prop where
  inv : Inv X pins σ H sI
  old : ∀ b o, sI.heap.get? b = some o → b ∉ frs X.stack → B.get? b = some o
  up : sI.heap.UpToSlots s.heap
  fly : HandSPX.FlyingZ B (X.env :: X.outer) a (Zc cls d) s.heap
  os : s.os = sI.os
  bare : AllBare s.gens
  na : H a = none
section
variable {X : Cx} {pins : List (Addr × Obj)} {B : Heap} {a : Addr} {cls : Value} {d : Option Addr} {σ : L2.St} {H : Hp} {sI s : Shared} {i : Nat} {n : Str} {D : Ends}
theorem Down.here (k : Down X pins B a cls d σ H sI s) : Inv X pins σ H s := k.inv.landed k.old k.fly.1 k.up k.os k.bare
/-- in a suite -/
theorem Down.suit (k : Down X pins B a cls d σ H sI s) (hf : X.env.frame = some X.env.locals) : ∃ oe, s.heap.get? a = some oe ∧ Zc cls d oe ∧ (∃ vs, oe.data = .fields vs) ∧ Inv (X.suite a ((a, oe) :: (X.pn ++ pins))) [] σ H s := by
  obtain ⟨oe, vs, he, hz, hd⟩ := k.fly.there
  have out : a ∉ frs (X.env :: X.outer) := fun hm => by
    obtain ⟨_, o, e, no⟩ := k.fly.2.2.1.mem hm
    rw [he] at e
    cases e
    exact no _ hd
  have n1 : a ≠ X.env.locals := fun z => out (List.mem_filterMap.mpr ⟨X.env, List.mem_cons_self, by rw [hf, z]⟩)
  have n2 : a ∉ X.fs := fun hm => by
    obtain ⟨e, h1, h2⟩ := List.mem_filterMap.mp hm
    exact out (List.mem_filterMap.mpr ⟨e, List.mem_cons_of_mem _ h1, h2⟩)
  exact ⟨oe, he, hz, ⟨vs, hd⟩, k.here.suite he hd k.na n1 n2⟩
/-- the clauses, one after the other -/
theorem clauses (hf : X.env.frame = some X.env.locals) (hN : X.N.Nodup) (hi : X.N[i]? = some n) (hln : X.env.kindOf n = some .local) (ok : X.Ok) {hds : List ExceptHandler} {l : List (Value × Suit)} (hh : Nmd X n hds l) :
    ∀ {s : Shared}, Down X pins B a cls d σ H sI s → wNmd X.K i D l cls d σ H → wpAny (model X.prog X.w) X.A (handleBy (.ref a) X.env hds) (SP X pins D) X.xe s := by
  induction hh with
  | nil => exact fun _ w => w.elim
  | @cons x c ts st sts p1 p2 hds l hc su r ih =>
    intro s k w
    obtain ⟨b, hb, w⟩ := w
    obtain ⟨oe, he, hz, hd, S⟩ := k.suit hf
    refine wpAny_handleBy_cons (codeAny_handlers_test ?_) (by intro q; cases q)
    have lt : PySem.W.Looks (model X.prog X.w) s.heap (typeOf (.ref a)) cls := fun A Q E t kk q => wpAny_typeOf_ref (kk _ _ he) (by rw [hz.1]; exact q)
    have fits := PySem.W.exm_one (M := model X.prog X.w) k.here.kIn lt hb
    have go : ∀ {Q : Value → Shared → Prop} {E : Value → Shared → Prop}, Q c s → wpAny (model X.prog X.w) (X.A.mark (some (.ref a))) (eval (.Name x p1) X.env) Q E s := fun {Q E} q => by
      obtain ⟨hg, hdb, hm | ⟨hm, hv, hn⟩⟩ := hc
      · exact ld_glob (X := X.suite a ((a, oe) :: (X.pn ++ pins))) S hg hm q hdb
      · exact ld_blt (X := X.suite a ((a, oe) :: (X.pn ++ pins))) S hg hm hv q hn hdb
    refine go (fits.here ?_)
    cases b with
    | false => exact ih k (by simpa using w)
    | true =>
      have w : ∀ a, H a = none → ts a cls d (Ends.off D i) (σ.set i (some (.ref a))) H := by simpa using w
      refine codeAny_handlers_suite_as (HandSPX.lands_againZ k.fly fun h4 fl4 up4 => ?_)
      have k4 : Down X pins B a cls d σ H sI { s with heap := h4 } := ⟨k.inv, k.old, k.up.trans up4, fl4, k.os, k.bare, k.na⟩
      obtain ⟨oe4, he4, hz4, hd4, S4⟩ := k4.suit hf
      refine store_ok (X := X.suite a ((a, oe4) :: (X.pn ++ pins))) (v := .ref a) S4 hN hi (.inl hln) rfl (fun s5 S5 => ?_) (.inr hln)
      refine wpAny_mono ((su a oe4 cls d (X.pn ++ pins) hz4 hd4).run [] s5 _ H _ S5 (w a k.na)) (fun f s6 q6 => ?_) (fun _ _ z => z.elim)
      have fin : ∀ {σ6 : L2.St} {H6 : Hp} {Q : Shared → Prop}, Inv (X.suite a ((a, oe4) :: (X.pn ++ pins))) [] σ6 H6 s6 → (∀ s7, Inv X pins (σ6.set i none) H6 s7 → Q s7) →
          wpAny (model X.prog X.w) X.A (do bindName X.env n .none; unbindBehindTheSuite X.env n p2) (fun _ s7 => Q s7) X.xe s6 := fun J hq => gone_ok (J.unsuite ok) hN hi hln hq
      cases f with
      | ret u =>
        obtain ⟨v6, σ6, H6, J6, r6, q6⟩ := q6
        exact fin J6 fun s7 J7 => ⟨_, _, _, J7, r6, q6⟩
      | next =>
        obtain ⟨σ6, H6, J6, q6⟩ := q6
        exact fin J6 fun s7 J7 => ⟨_, _, J7, q6⟩
      | brk =>
        obtain ⟨σ6, H6, J6, q6⟩ := q6
        exact fin J6 fun s7 J7 => ⟨_, _, J7, q6⟩
      | cont =>
        obtain ⟨σ6, H6, J6, q6⟩ := q6
        exact fin J6 fun s7 J7 => ⟨_, _, J7, q6⟩
end
section
variable {X : Cx} {i : Nat} {n : Str} {body : List Stmt} {h0 : ExceptHandler} {hds : List ExceptHandler} {l : List (Value × Suit)} {pos : Pos} {tb : WX → TS}
/-- THE RULE -/
theorem ps_try_nmd (hs : X.stack = X.env :: X.outer) (hf : X.env.frame = some X.env.locals) (hN : X.N.Nodup) (hi : X.N[i]? = some n) (hln : X.env.kindOf n = some .local)
    (hb : ∀ (W : WX) (pn : List (Addr × Obj)) (xe : Value → Shared → Prop), Takes (X.tr pn xe) W → PassesOwn (model X.prog X.w) X.A X.env xe → PSs (X.tr pn xe) body (tb W)) (hh : Nmd X n (h0 :: hds) l) :
    PS X (.Try body (h0 :: hds) [] [] pos) (fun D σ H => tb (wNmd X.K i D l) D σ H) := by
  refine ⟨fun pins s σ H D I h => ?_⟩
  have ok := I.ok
  have frm : X.A.frames = some (X.env :: X.outer) := by rw [ok.frames, hs]
  refine wpAny_Try_except (wpAny_mono ((hb (wNmd X.K i D l) (X.pn ++ pins) (fun e s1 => wpAny (model X.prog X.w) X.A (noteFrame e X.env) (fun _ s2 => wpAny (model X.prog X.w) X.A (setFlight e none) (fun _ s3 =>
    wpAny (model X.prog X.w) X.A (handleBy e X.env (h0 :: hds)) (SP X pins D) X.xe s3) X.xe s2) X.xe s1) (fun u s' xx => ?_) PassesOwn.looking).run [] s σ H D (I.toTry _) h) (fun f s1 q => ?_) (fun e s1 he => he))
  · obtain ⟨a, B, sI, pins', σ', H', cls, d, rfl, J', nb, up, sky, na, os, ag, w⟩ := xx
    have sky2 : Sky B (X.env :: X.outer) a (Zc cls d) X.env.locals s'.heap := by rw [← hs]; exact sky
    refine Sky.land Zc.steady frm hf sky2 fun h3 fl3 up3 => ?_
    exact clauses hf hN hi hln ok hh ⟨J'.ofTry ok, nb, up.trans up3, fl3, os, ag, na⟩ w
  · cases f with
    | ret u =>
      obtain ⟨v, σ', H', J, r, q⟩ := q
      exact ⟨v, σ', H', J.ofTry ok, r, q⟩
    | next =>
      obtain ⟨σ', H', J, q⟩ := q
      exact wpAny_execs_nil ⟨σ', H', J.ofTry ok, q⟩
    | brk =>
      obtain ⟨σ', H', J, q⟩ := q
      exact ⟨σ', H', J.ofTry ok, q⟩
    | cont =>
      obtain ⟨σ', H', J, q⟩ := q
      exact ⟨σ', H', J.ofTry ok, q⟩
end
end Fx

set_option maxHeartbeats 4000000
/-! Fe3: a lambda (no parameter, or one with a written value) made, and called. -/
namespace Fx
open PySem PySem.Spec PySem.Calls PyProof.Rows L2 LamX

structure LamK (sc scope : Scope) (N ps : List Str) : Prop where
  kind : scope.kind = .function
  co : scope.isCoroutine = false
  gen : scope.isGenerator = false
  loc : ∀ y ∈ ps, scope.names.lookup y = some .local
  own : ∀ y ∈ scope.names, y.2 ≠ .cell ∧ (y.2 = .local → y.1 ∉ N)
  free : ∀ y ∈ scope.names, y.2 = .free → sc.names.lookup y.1 = some .cell ∨ sc.names.lookup y.1 = some .free
theorem lamB_ok {N : List Str} {sc scope : Scope} {params : Arguments} (h : lamB N sc scope params = true) : ∃ ps, lamPs params = some ps ∧ LamK sc scope N ps := by
  unfold lamB at h
  simp only [Bool.and_eq_true, Bool.not_eq_true'] at h
  obtain ⟨⟨⟨h1, h2⟩, h3⟩, h4⟩ := h
  cases hp : lamPs params with
  | none => rw [hp] at h4; cases h4
  | some ps =>
    rw [hp] at h4
    simp only [Bool.and_eq_true, List.all_eq_true, decide_eq_true_eq, Bool.or_eq_true, Bool.not_eq_true', decide_eq_false_iff_not] at h4
    refine ⟨ps, rfl, ?_, h2, h3, h4.1, fun y hy => ⟨(h4.2 y hy).1.1, fun e => ?_⟩, fun y hy e => ?_⟩
    · cases hk : scope.kind <;> rw [hk] at h1 <;> first | rfl | cases h1
    · rcases (h4.2 y hy).1.2 with z | z
      · exact absurd e z
      · simpa using z
    · rcases (h4.2 y hy).2 with (z | z) | z
      · exact absurd e z
      · exact .inl z
      · exact .inr z
theorem lamPs_ok {params : Arguments} {ps : List Str} (h : lamPs params = some ps) : (params = ⟨[], [], none, [], [], none, []⟩ ∧ ps = []) ∨ ∃ a z k p, params = ⟨[], [a], none, [], [], none, [.Constant (.int z) k p]⟩ ∧ ps = [a.arg] := by
  unfold lamPs at h
  obtain ⟨po, ar, va, ko, kd, kw, df⟩ := params
  split at h
  · rename_i hc
    simp only [Bool.and_eq_true, List.isEmpty_iff, Option.isNone_iff_eq_none] at hc
    obtain ⟨⟨⟨⟨rfl, rfl⟩, rfl⟩, rfl⟩, rfl⟩ := hc
    split at h
    · rename_i e1 e2
      dsimp only at e1 e2
      subst e1 e2
      cases h
      exact .inl ⟨rfl, rfl⟩
    · rename_i a z k p e1 e2
      dsimp only at e1 e2
      subst e1 e2
      cases h
      exact .inr ⟨a, z, k, p, rfl, rfl⟩
    · cases h
  · cases h

/-- the written value of a lambda's parameter -/
def DvOk (h : Heap) (H : Hp) (fr : List Addr) (ps : List Str) (dV : Value) : Prop := (ps = [] ∧ dV = .none) ∨ ∃ t v, ps.length = 1 ∧ dV = .ref t ∧ h.get? t = some (PySem.W.kdv_tup [v]) ∧ H t = none ∧ t ∉ fr
section
variable {X : Cx} {pins : List (Addr × Obj)} {σ : L2.St} {H : Hp} {s : Shared} {T : List (Addr × Str)} {c P : Addr} {params : Arguments} {body : Expr} {scope : Scope} {pos : Pos} {ps : List Str} {E : Value → Shared → Prop} {Q : Value → Shared → Prop}
abbrev lamQ (X : Cx) : Str := X.env.qual ++ "<lambda>"
/-- what is known behind the making -/
structure Made_ (X : Cx) (pins : List (Addr × Obj)) (σ : L2.St) (T : List (Addr × Str)) (P : Addr) (H : Hp) (params : Arguments) (body : Expr) (scope : Scope) (ps : List Str) (f c' : Addr) (dV doc pm ctv : Value) (H1 : Hp) (s' : Shared) : Prop where
  inv : Inv X pins σ H1 s'
  hp : H1 = H ∨ ∃ us qs, H P = some (.tbl us) ∧ H c' = none ∧ H1 = upd (upd H P (.tbl qs)) c' (CodeO c' (lamQ X))
  tab : Tabs T H1
  fn : s'.heap.get? f = some (PySem.W.kdv_obj "<lambda>" (lamQ X) params (.expr body) scope (cloFrom X.env.cells scope.names []) dV doc pm c' ctv)
  dv : DvOk s'.heap H1 (frs X.stack) ps dV
  nf : H1 f = none
  ff : f ∉ frs X.stack
  code : H1 c' = some (CodeO c' (lamQ X))
theorem tail_lam {dV : Value} (I : Inv X pins σ H s) (TB : TabB X.base X.mg c P) (hcode : X.env.code = .ref c) (hm : (P, lamQ X) ∈ T) (hu : ∀ p ∈ T, p.1 = P → p.2 = lamQ X) (hT : Tabs T H) (hfree : ∀ y ∈ scope.names, y.2 = .free → ∃ c, X.env.cells.lookup y.1 = some c)
    (hdv : DvOk s.heap H (frs X.stack) ps dV) (h : ∀ f c' doc pm ctv H1 s', Made_ X pins σ T P H params body scope ps f c' dV doc pm ctv H1 s' → Q (.ref f) s') :
    wpAny (model X.prog X.w) X.A (makeTail "<lambda>" (lamQ X) params (.expr body) scope X.env dV .none none pos pos.line) Q E s := by
  obtain ⟨ps0, hP, ht, ha⟩ := hT _ hm
  have bP : s.heap.BuiltinsAt X.mg P := TB.bm.keeps I.bk
  have hP' : s.heap.get? P = some { cls := .none, data := .fields ps0 } := I.hok P _ hP
  have nofr : ∀ f, s.heap.objs.size ≤ f → f ∉ frs X.stack := fun f hf z => by
    rcases List.mem_cons.mp (I.stkSub _ z) with e | e
    · have h1 := I.lt
      rw [← e] at h1
      exact Nat.lt_irrefl _ (Nat.lt_of_lt_of_le h1 hf)
    · exact I.nofs hf e
  have dvK : ∀ {h' : Heap} {H1 : Hp}, (∀ b o, b ≠ P → s.heap.get? b = some o → h'.get? b = some o) → (∀ t, H t = none → t < s.heap.objs.size → H1 t = none) → DvOk h' H1 (frs X.stack) ps dV := fun {h' H1} k kn => by
    rcases hdv with z | ⟨t, v, e1, e2, e3, e4, e5⟩
    · exact .inl z
    · exact .inr ⟨t, v, e1, e2, k t _ (fun q => by rw [q, hP] at e4; cases e4) e3, kn t e4 (Heap.lt_size e3), e5⟩
  cases hc : codeAmong pos ps0.toList with
  | none =>
    refine PySem.W.kdv_makeTail (mg := X.mg) (c := c) (P := P) (ps := ps0) (closure_ok hfree) I.ok.glob (I.mod.glob.keeps I.bk) hcode (TB.code.keeps I.bk) hP' ht hc TB.gP bP fun c' ctv doc h' tk hx hge hlt hrec htb => ?_
    obtain ⟨c2, oc, vs, t, e2, hoc, hd, hv⟩ := hrec
    cases e2
    have nC : H c' = none := I.hok.fresh hge
    have hsz : s.heap.objs.size ≤ h'.objs.size := Nat.le_trans hge (Nat.le_of_lt hlt)
    have J := inv_table (t' := tk) (more := #[rawInt pos.line, rawInt pos.col, .ref c']) (h' := h'.push (PySem.W.kdv_obj "<lambda>" (lamQ X) params (.expr body) scope (cloFrom X.env.cells scope.names []) dV doc ((X.mg "__name__").getD .none) c' ctv)) I hP
      (fun b o hb e => Heap.get?_push_of_some _ (hx b o hb e)) (Heap.get?_push_of_some _ htb) hge ⟨oc, vs, t, Heap.get?_push_of_some _ hoc, hd, hv⟩
    have kk : ExtN H (upd (upd H P (.tbl (ps0 ++ #[rawInt pos.line, rawInt pos.col, .ref c']))) c' (CodeO c' (lamQ X))) := fun b o e n => by
      rw [upd_ne (ne_of_none e nC), upd_ne (fun z => n ps0 (Option.some.inj (e.symm.trans (by rw [z]; exact hP))))]
      exact e
    have eL : (ps0 ++ #[rawInt pos.line, rawInt pos.col, .ref c']).toList = ps0.toList ++ [rawInt pos.line, rawInt pos.col, .ref c'] := by simp
    refine h h'.objs.size c' doc _ ctv _ _ ⟨J, .inr ⟨ps0, _, hP, nC, rfl⟩, fun p hp => ?_, Heap.get?_push_size _ rfl, dvK (fun b o hb e => Heap.get?_push_of_some _ (hx b o hb e)) (fun t e l => ?_), ?_, nofr _ hsz, upd_same⟩
    · by_cases hb : p.1 = P
      · rw [hu p hp hb, hb]
        refine ⟨_, by rw [upd_ne (ne_of_none hP nC), upd_same], by rw [eL]; exact PySem.TriplesOk_snoc _ _ _ _ ht, fun p' cv hcv => ?_⟩
        rw [eL] at hcv
        rcases among_app _ ht hcv with z | z
        · obtain ⟨c0, e1, e2⟩ := ha p' cv z
          exact ⟨c0, e1, kk _ _ e2 codeO_ne⟩
        · exact ⟨c', z, upd_same⟩
      · obtain ⟨ps', a1, a2, a3⟩ := hT p hp
        refine ⟨ps', by rw [upd_ne (ne_of_none a1 nC), upd_ne hb]; exact a1, a2, fun p' cv hcv => ?_⟩
        obtain ⟨c0, e1, e2⟩ := a3 p' cv hcv
        exact ⟨c0, e1, kk _ _ e2 codeO_ne⟩
    · have n1 : t ≠ c' := Nat.ne_of_lt (Nat.lt_of_lt_of_le l hge)
      have n2 : t ≠ P := fun z => by rw [z, hP] at e; cases e
      rw [upd_ne n1, upd_ne n2]
      exact e
    · have n1 : h'.objs.size ≠ c' := Nat.ne_of_gt hlt
      have n2 : h'.objs.size ≠ P := Nat.ne_of_gt (Nat.lt_of_lt_of_le (Heap.lt_size hP') hsz)
      rw [upd_ne n1, upd_ne n2]
      exact I.hok.fresh hsz
  | some cv =>
    obtain ⟨c', e, hco⟩ := ha pos cv hc
    subst e
    refine PySem.W.kdv_makeTailHit (mg := X.mg) (c := c) (P := P) (ps := ps0) (closure_ok hfree) I.ok.glob (I.mod.glob.keeps I.bk) hcode (TB.code.keeps I.bk) hP' ht hc bP fun ctv doc h' tk hx hsz => ?_
    have J : Inv X pins σ H { s with heap := h'.push (PySem.W.kdv_obj "<lambda>" (lamQ X) params (.expr body) scope (cloFrom X.env.cells scope.names []) dV doc ((X.mg "__name__").getD .none) c' ctv), toks := tk } := I.kept fun b o e => Heap.get?_push_of_some _ (hx b o e)
    exact h h'.objs.size c' doc _ ctv H _ ⟨J, .inl rfl, hT, Heap.get?_push_size _ rfl, dvK (fun b o _ e => Heap.get?_push_of_some _ (hx b o e)) (fun t e _ => e), I.hok.fresh hsz, nofr _ hsz, hco⟩
/-- a lambda is made -/
theorem lam_make (I : Inv X pins σ H s) (TB : TabB X.base X.mg c P) (hcode : X.env.code = .ref c) (hm : (P, lamQ X) ∈ T) (hu : ∀ p ∈ T, p.1 = P → p.2 = lamQ X) (hT : Tabs T H) (hps : lamPs params = some ps) (hfree : ∀ y ∈ scope.names, y.2 = .free → ∃ c, X.env.cells.lookup y.1 = some c)
    (h : ∀ f c' dV doc pm ctv H1 s', Made_ X pins σ T P H params body scope ps f c' dV doc pm ctv H1 s' → Q (.ref f) s') : wpAny (model X.prog X.w) X.A (eval (.Lambda params body scope pos) X.env) Q E s := by
  rcases lamPs_ok hps with ⟨rfl, rfl⟩ | ⟨a, z, k, p, rfl, rfl⟩
  · refine PySem.W.kla_eval rfl ?_
    rw [makeFunction_eq]
    simp only [List.zip_nil_right, List.filterMap_nil, List.isEmpty_nil, if_true, pure_bind]
    exact tail_lam I TB hcode hm hu hT hfree (.inl ⟨rfl, rfl⟩) fun f c' doc pm ctv H1 s' m => h f c' _ doc pm ctv H1 s' m
  · refine PySem.W.kdv_lam rfl rfl (PySem.W.kdv_all1 (wpAny_Constant_int (k := k) (pos := p) (PySem.W.kdv_all0 ?_)))
    rw [makeFunction_eq]
    simp only [List.zip_nil_right, List.filterMap_nil, List.isEmpty_nil, if_true, pure_bind, List.isEmpty_cons, Bool.false_eq_true, if_false]
    refine wpAny_bind (wpAny_newTextTuple ?_)
    have J : Inv X pins σ H { s with heap := s.heap.push (PySem.W.kdv_tup [.int z s.toks]), toks := s.toks + 1 } := I.kept fun b o e => Heap.get?_push_of_some _ e
    have nofr : s.heap.objs.size ∉ frs X.stack := fun z => by
      rcases List.mem_cons.mp (I.stkSub _ z) with e | e
      · have h1 := I.lt
        rw [← e] at h1
        exact Nat.lt_irrefl _ h1
      · exact I.nofs (Nat.le_refl _) e
    exact tail_lam J TB hcode hm hu hT hfree (.inr ⟨_, _, rfl, rfl, Heap.get?_push_size _ rfl, I.hok.fresh (Nat.le_refl _), nofr⟩) fun f c' doc pm ctv H1 s' m => h f c' _ doc pm ctv H1 s' m
end
/-! ### the call -/
section
variable {X : Cx} {pins : List (Addr × Obj)} {σ : L2.St} {H HZ : Hp} {s s1 : Shared} {params : Arguments} {body : Expr} {scope : Scope} {ps : List Str}
theorem LamK.has {N : List Str} (L : LamK X.env.scope scope N ps) (ok : X.Ok) : ∀ y ∈ scope.names, y.2 = .free → ∃ c, X.env.cells.lookup y.1 = some c := fun y hy e => by
  rcases L.free y hy e with k | k
  · exact ok.has _ (.inl k)
  · exact ok.has _ (.inr k)
theorem lam_start {A : Around} {outer : List PySem.Env} {E : XK} {f c' : Addr} {h1 : Heap} {tk : Nat} {binds : List (Str × Value)} (I : Inv X pins σ H s) (L : LamK X.env.scope scope X.N ps) (e0 : Env0 X.prog X.w X.K X.mg X.base A outer s1 HZ) (hd : A.handled = none)
    (un : Un (frs X.stack) [] H HZ s.heap s1.heap) (hns : h1.Ns s1.heap.objs.size fun y => binds.reverse.lookup y) (kp : ∀ b o, s1.heap.get? b = some o → h1.get? b = some o) :
    Inv (lamCx X A outer s1 HZ E scope f c') [] σ HZ { s1 with heap := h1, toks := tk } := by
  have fr := L.has I.ok
  have up : ∀ {y c}, (cloFrom X.env.cells scope.names []).lookup y = some c → X.env.cells.lookup y = some c := fun {y c} e => by
    rcases cloFrom_mem (PySem.mem_of_lookup e) with hm | ⟨q1, q2⟩
    · cases hm
    · obtain ⟨c1, hc⟩ := fr _ q1 rfl
      have hc : X.env.cells.lookup y = some c1 := hc
      have e2 : c = c1 := by
        rw [q2, hc] <;> rfl
      rw [e2]
      exact hc
  have dn : ∀ {y}, scope.names.lookup y = some .free → ∃ c, (cloFrom X.env.cells scope.names []).lookup y = some c := fun {y} hl => mem_lookup (cloFrom_has (cells := X.env.cells) (acc := []) (show (y, NameKind.free) ∈ scope.names from PySem.mem_of_lookup hl))
  have ck : ∀ {c : Addr} {v : Option Value}, H c = none → s.heap.IsCell c v → h1.IsCell c v := fun {c v} n ⟨o, ho, hd⟩ => by
    obtain ⟨sl, q⟩ := un.any ho n (by simp)
    exact ⟨_, kp _ _ q, hd⟩
  have nex : ∀ b : Addr, b ∉ (lamCx X A outer s1 HZ E scope f c').ex := fun b z => absurd (show b ∈ ([] : List Addr) from z) (by simp)
  refine ⟨⟨e0.mod, L.kind, rfl, rfl, Nat.le_refl _, fun y z c q1 q2 => I.ok.inj y z c (up q1) (up q2), fun y hy => ?_, fun y c z _ => ?_, fun _ => hd, Around.frames_deeper e0.frames, .inr ⟨rfl, rfl⟩, fun b z => absurd z (nex b), e0.bs, e0.bsz, fun b _ _ => nex b, fun b z => absurd z (nex b), e0.funs, e0.frf⟩,
    rfl, e0.bare, Un.kept kp, ⟨_, hns, fun i y v q1 q2 q3 => ?_⟩, fun y c e => ?_, e0.hok.fresh (Nat.le_refl _), fun y c e => ?_, fun q hq => absurd (show q ∈ ([] : List (Addr × Obj)) ++ [] from hq) (by simp), e0.hok.kept kp, I.len⟩
  · rcases (show scope.names.lookup y = some .cell ∨ scope.names.lookup y = some .free from hy) with hy | hy
    · exact absurd rfl (L.own _ (PySem.mem_of_lookup hy)).1
    · exact dn hy
  · have z : false = true := z
    cases z
  · have q3 : Vis scope y := q3
    have q1 : X.N[i]? = some y := q1
    rcases q3 with k | k | k
    · exact absurd (List.mem_of_getElem? q1) ((L.own _ (PySem.mem_of_lookup k)).2 rfl)
    · exact absurd rfl (L.own _ (PySem.mem_of_lookup k)).1
    · obtain ⟨m, hn, hl⟩ := I.loc
      have see : Vis X.env.scope y := (L.free _ (PySem.mem_of_lookup k) rfl).elim (fun k => .inr (.inl k)) (fun k => .inr (.inr k))
      obtain ⟨w', r, q⟩ := hl i y v q1 q2 see
      obtain ⟨c2, h2⟩ := dn k
      refine ⟨w', r, .inr ⟨.inr k, c2, h2, ?_⟩⟩
      have c1 := up h2
      rcases q with ⟨k', _⟩ | ⟨_, c3, e', z⟩
      · have k' : X.env.scope.names.lookup y = some .local := k'
        rcases L.free _ (PySem.mem_of_lookup k) rfl with k2 | k2 <;> rw [show X.env.scope.names.lookup y = _ from k2] at k' <;> cases k'
      · rw [c1] at e'
        cases e'
        exact ck (I.freeC y _ c1) z
  · obtain ⟨w', z⟩ := I.cell y c (up e)
    exact ⟨w', ck (I.freeC y c (up e)) z⟩
  · obtain ⟨v, o, ho, hd⟩ := I.cell y c (up e)
    exact un.free c o ho (I.freeC y c (up e)) (by simp)
/-- how the parameter is bound -/
theorem bind_lam {h : Heap} {fr : List Addr} {dV doc pm ctv cdv : Value} {q : Str} {cl : List (Str × Addr)} {g : Array GenState} {d : Drawn} {t : Nat} {os : OsState} (hps : lamPs params = some ps) (hdv : DvOk h H fr ps dV) :
    ∃ binds : List (Str × Value), (∀ y ∈ binds, y.1 ∈ ps) ∧ BindsTo ⟨h, g, d, t, os⟩ (PySem.W.kdv_fn "<lambda>" q params (.expr body) scope cl dV doc pm cdv ctv) ⟨[], []⟩ binds := by
  rcases lamPs_ok hps with ⟨rfl, rfl⟩ | ⟨a, z, k, p, rfl, rfl⟩
  · rcases hdv with ⟨_, rfl⟩ | ⟨_, _, e, _⟩
    · exact ⟨[], fun _ z => absurd z (by simp), .of_eq (by kernel_rfl)⟩
    · cases e
  · rcases hdv with ⟨e, _⟩ | ⟨t0, v, _, rfl, e3, _⟩
    · cases e
    · exact ⟨[(a.arg, v)], fun y hy => by simp at hy; rw [hy]; simp, BindsTo.of_defaults rfl e3 rfl (by rfl) (by simp)⟩
end
end Fx

set_option maxHeartbeats 4000000
/-! Fe4: a def that calls what it is given, and tells what it raised. -/
namespace Fx
open PySem PySem.Spec PySem.Calls PyProof.Rows L2 LamX

def kindB : ScopeKind → Bool
  | .function => true
  | _ => false
theorem kindB_ok {k : ScopeKind} (h : kindB k = true) : k = .function := by
  cases k <;> first
    | rfl
    | (cases h; done)
def scopeB (N ps : List Str) (sc : Scope) : Bool := kindB sc.kind && !sc.isCoroutine && !sc.isGenerator && decide N.Nodup && decide (N.take ps.length = ps) && (ps.all fun x => decide (sc.names.lookup x = some .local) || decide (sc.names.lookup x = some .cell)) && sc.names.all fun y => !decide (y.2 = .free)
theorem scopeB_ok {N ps : List Str} {sc : Scope} (h : scopeB N ps sc = true) : FnScope N ps sc := by
  unfold scopeB at h
  simp only [Bool.and_eq_true, Bool.not_eq_true', decide_eq_true_eq, List.all_eq_true, Bool.or_eq_true, decide_eq_false_iff_not] at h
  obtain ⟨⟨⟨⟨⟨⟨h1, h2⟩, h3⟩, h4⟩, h5⟩, h6⟩, h7⟩ := h
  exact ⟨kindB_ok h1, h2, h3, h4, h5, h6, h7⟩
/-- what the module says of its exceptions -/
def exB (file : Str) (K : PySem.W.Frag) (excs : List (Str × Str)) : Bool := excs.all fun p => nxB file K p.1 p.2 && xfB K (He.ga K p.1) && excs.all fun q => decide (PySem.W.exmOne K (.ref (He.ga K p.1)) (.ref (He.ga K q.1)) = some (decide (p.1 = q.1)))
structure ExP (file : Str) (K : PySem.W.Frag) (c f : Str) (excs : List (Str × Str)) : Prop where
  nx : nxB file K c f = true
  xf : XfC K (He.ga K c)
  exm : ∀ q ∈ excs, PySem.W.exmOne K (.ref (He.ga K c)) (.ref (He.ga K q.1)) = some (decide (c = q.1))
theorem mem_look {α : Type} {x : Str} {v : α} : ∀ {l : List (Str × α)}, l.lookup x = some v → (x, v) ∈ l
  | (y, u) :: l, h => by
    rw [List.lookup_cons] at h
    cases hb : x == y with
    | true =>
      rw [hb] at h
      cases h
      rw [show x = y by simpa using hb]
      exact List.mem_cons_self
    | false =>
      rw [hb] at h
      exact List.mem_cons_of_mem _ (mem_look h)
theorem exB_ok {file : Str} {K : PySem.W.Frag} {excs : List (Str × Str)} (h : exB file K excs = true) {c f : Str} (hl : excs.lookup c = some f) : ExP file K c f excs := by
  unfold exB at h
  have h1 := List.all_eq_true.mp h (c, f) (mem_look hl)
  simp only [Bool.and_eq_true, List.all_eq_true, decide_eq_true_eq] at h1
  exact ⟨h1.1.1, xfB_ok h1.1.2, h1.2⟩
theorem nxB_no {file : Str} {K : PySem.W.Frag} {x f : Str} (hB : nxB file K x f = true) : PySem.W.findIn K (.ref (He.ga K x)) f = some none := by
  unfold nxB at hB
  simp only [Bool.and_eq_true] at hB
  exact He.eqO_ok hB.1.1.1.1.1.1.2

/-- the clauses of such a def -/
def suitE (fo : Option Str) : List Stmt → Option Expr
  | [.Return (some e) _] => if fo.isNone then some e else none
  | [.Assign [.Name x _] e _] => if fo = some x then some e else none
  | _ => none
def clsesB (n : Str) (sc : Scope) (excs : List (Str × Str)) (fo : Option Str) : List ExceptHandler → List (Str × Str) → Bool
  | [], [] => true
  | .ExceptHandler (some (.Name c _)) (some n') suite _ :: hds, p :: hs => (match suitE fo suite with
    | some (.Tuple [.Constant (.str w) _ _, .Attribute (.Name v _) fl _] _ _) => decide (c = p.1) && decide (w = p.2) && decide (n' = n) && decide (v = n) && decide (excs.lookup c = some fl) && decide (sc.names.lookup c = some .globalImplicit) && !(c == ("__debug__" : Str)) && clsesB n sc excs fo hds hs
    | _ => false)
  | _, _ => false
structure Hd where
  name : Str
  qual : Str
  params : Arguments
  body : List Stmt
  scope : Scope
  a : Str
  n : Str
  hs : List (Str × Str)
  fo : Option Str := none
def Hd.N (d : Hd) : List Str := match d.fo with
  | none => [d.a, d.n]
  | some f => [d.a, d.n, f]
def Hd.ok (d : Hd) (excs : List (Str × Str)) : Bool :=
  scopeB d.N [d.a] d.scope && plainP d.params && decide (d.params.args.map (·.arg) = [d.a]) && decide (d.scope.names.lookup d.n = some .local) && !(d.a == ("__debug__" : Str)) && !(d.a == ("__classdict__" : Str)) && !(d.n == ("__debug__" : Str)) && !(d.n == ("__classdict__" : Str)) && !(d.name == ("__debug__" : Str)) &&
  match d.body with
  | [.Try [.Return (some (.List [.Call (.Name x _) [] [] _] _)) _] (h0 :: hds) [] [] _] => d.fo.isNone && decide (x = d.a) && clsesB d.n d.scope excs d.fo (h0 :: hds) d.hs
  | [.Assign [.Name f0 _] (.Constant .none _ _) _, .Try [.Assign [.Name f1 _] (.List [.Call (.Name x _) [] [] _] _) _] (h0 :: hds) [] [] _, .Return (some (.Name f2 _)) _] =>
    decide (d.fo = some f0) && decide (f1 = f0) && decide (f2 = f0) && decide (d.scope.names.lookup f0 = some .local) && !(f0 == ("__debug__" : Str)) && !(f0 == ("__classdict__" : Str)) && decide (x = d.a) && clsesB d.n d.scope excs d.fo (h0 :: hds) d.hs
  | _ => false
/-- what such a def's clauses tell -/
def suitT (K : PySem.W.Frag) (excs : List (Str × Str)) (fo : Option Str) (p : Str × Str) : Suit := fun a cls d => match fo with
  | none => tRet (tTup (tCons (tC (.str p.2)) (tCons (tXf a cls d (He.ga K p.1) ((excs.lookup p.1).getD p.1) (tVar 1)) tNil)))
  | some _ => tAsg (tTup (tCons (tC (.str p.2)) (tCons (tXf a cls d (He.ga K p.1) ((excs.lookup p.1).getD p.1) (tVar 1)) tNil))) (gName 2)
def told (K : PySem.W.Frag) (excs : List (Str × Str)) (fo : Option Str) (hs : List (Str × Str)) : List (Value × Suit) := hs.map fun p => (.ref (He.ga K p.1), suitT K excs fo p)
theorem clses_ok {X : Cx} {file n : Str} {excs : List (Str × Str)} {fo : Option Str} (hex : exB file X.K excs = true) (hmg : ∀ c f, excs.lookup c = some f → X.mg c = some (.ref (He.ga X.K c))) (hnd : X.N.Nodup) (hN : X.N[1]? = some n) (hv : Vis X.env.scope n) (hd1 : (n == ("__debug__" : Str)) = false) (hd2 : (n == ("__classdict__" : Str)) = false)
    (hfo : ∀ f, fo = some f → X.N[2]? = some f ∧ X.env.scope.names.lookup f = some .local) :
    ∀ {hds : List ExceptHandler} {hs : List (Str × Str)}, clsesB n X.env.scope excs fo hds hs = true → Nmd X n hds (told X.K excs fo hs) := by
  intro hds
  induction hds with
  | nil =>
    intro hs h
    cases hs with
    | nil => exact .nil
    | cons p hs => unfold clsesB at h; cases h
  | cons h0 hds ih =>
    intro hs h
    unfold clsesB at h
    split at h
    · rename_i e2
      cases e2
    · rename_i c p1 n' suite pc hds' p hs' e1
      cases e1
      split at h
      · rename_i w j p2 v p3 fl p4 k p5 hse
        simp only [Bool.and_eq_true, decide_eq_true_eq, Bool.not_eq_true'] at h
        obtain ⟨⟨⟨⟨⟨⟨⟨rfl, rfl⟩, rfl⟩, rfl⟩, h5⟩, h6⟩, h7⟩, h9⟩ := h
        have E := exB_ok hex h5
        have val : ∀ (a : Addr) (o : Obj) (cls : Value) (d : Option Addr) (pn : List (Addr × Obj)), Zc cls d o → (∃ vs, o.data = .fields vs) → PE (X.suite a ((a, o) :: pn)) (.Tuple [.Constant (.str p.2) j p2, .Attribute (.Name v p3) fl p4] k p5)
            (tTup (tCons (tC (.str p.2)) (tCons (tXf a cls d (He.ga X.K p.1) ((excs.lookup p.1).getD p.1) (tVar 1)) tNil))) := fun a o cls d pn z hf => by
          rw [h5]
          exact pe_tup (pa_cons pe_str (pa_cons (pe_xf E.xf (nxB_no E.nx) z hf (pe_var hN hv hd1 hd2) (hb := by
            show attributeBase _ _ _ _ = _
            unfold attributeBase
            rfl)) pa_nil))
        unfold suitE at hse
        split at hse
        · rename_i e pr
          split at hse
          · rename_i hn
            cases hse
            have hn : fo = none := by simpa using hn
            subst hn
            exact .cons ⟨h6, h7, .inl (hmg _ _ h5)⟩ (fun a o cls d pn z hf => pss_one (ps_ret (val a o cls d pn z hf))) (ih h9)
          · cases hse
        · rename_i x px e pr
          split at hse
          · rename_i hn
            cases hse
            obtain ⟨q1, q2⟩ := hfo _ hn
            subst hn
            exact .cons ⟨h6, h7, .inl (hmg _ _ h5)⟩ (fun a o cls d pn z hf => pss_one (ps_set (X := X.suite a ((a, o) :: pn)) hnd q1 (.inl q2) (val a o cls d pn z hf) (by rfl) (.inr q2))) (ih h9)
          · cases hse
        · cases hse
      · cases h
    · cases h
/-- what is wanted of an exception that such a def tells -/
def TEx (K : PySem.W.Frag) (excs hs : List (Str × Str)) (Q : VK) : XK := fun cls dd H => ∃ (c fl w0 : Str) (dx : Addr) (v : V), hs.lookup c = some w0 ∧ excs.lookup c = some fl ∧ cls = .ref (He.ga K c) ∧ dd = some dx ∧ H dx = some (.xd [(fl, v)]) ∧ ∀ p, H p = none → Q (.ref p) (upd H p (.tup [.str w0, v]))
theorem told_ok {K : PySem.W.Frag} {file c fl w0 : Str} {excs : List (Str × Str)} {fo : Option Str} {dd : Addr} {H : Hp} {σ0 : L2.St} {D : Ends} (hex : exB file K excs = true) (hc : excs.lookup c = some fl)
    (hs : ∀ a, H a = none → suitT K excs fo (c, w0) a (.ref (He.ga K c)) (some dd) (Ends.off D 1) (σ0.set 1 (some (.ref a))) H) :
    ∀ {l : List (Str × Str)}, (∀ p ∈ l, ∃ f, excs.lookup p.1 = some f) → l.lookup c = some w0 → wNmd K 1 D (told K excs fo l) (.ref (He.ga K c)) (some dd) σ0 H
  | p :: l, hin, hl => by
    obtain ⟨f, hf⟩ := hin p List.mem_cons_self
    have E := exB_ok hex hc
    have ex := E.exm (p.1, f) (mem_look hf)
    refine ⟨_, ex, ?_⟩
    rw [List.lookup_cons] at hl
    by_cases hb : c = p.1
    · subst hb
      simp only [beq_self_eq_true] at hl
      cases hl
      simp only [decide_true, if_true]
      exact hs
    · have hb2 : (c == p.1) = false := by simpa using hb
      rw [hb2] at hl
      simp only [hb, decide_false, Bool.false_eq_true, if_false]
      exact told_ok hex hc hs (fun q hq => hin q (List.mem_cons_of_mem _ hq)) hl
/-- the clauses that such a def has name exceptions of the module -/
theorem clses_in {n : Str} {sc : Scope} {excs : List (Str × Str)} {fo : Option Str} : ∀ {hds : List ExceptHandler} {hs : List (Str × Str)}, clsesB n sc excs fo hds hs = true → ∀ p ∈ hs, ∃ f, excs.lookup p.1 = some f := by
  intro hds
  induction hds with
  | nil =>
    intro hs h
    cases hs with
    | nil => exact fun p hp => absurd hp (by simp)
    | cons p hs => unfold clsesB at h; cases h
  | cons h0 hds ih =>
    intro hs h
    unfold clsesB at h
    split at h
    · rename_i e2
      cases e2
    · rename_i c p1 n' suite pc hds' p hs' e1
      cases e1
      split at h
      · simp only [Bool.and_eq_true, decide_eq_true_eq, Bool.not_eq_true'] at h
        obtain ⟨⟨⟨⟨⟨⟨⟨rfl, rfl⟩, rfl⟩, rfl⟩, h5⟩, h6⟩, h7⟩, h9⟩ := h
        intro q hq
        rcases List.mem_cons.mp hq with rfl | hq
        · exact ⟨_, h5⟩
        · exact ih h9 q hq
      · cases h
    · cases h
theorem hd_in {d : Hd} {excs : List (Str × Str)} (h : d.ok excs = true) : ∀ p ∈ d.hs, ∃ f, excs.lookup p.1 = some f := by
  unfold Hd.ok at h
  simp only [Bool.and_eq_true] at h
  have h := h.2
  split at h
  · simp only [Bool.and_eq_true] at h
    exact clses_in h.2
  · simp only [Bool.and_eq_true] at h
    exact clses_in h.2
  · cases h

/-! ### what is given is called -/
section
variable {X : Cx} {pins : List (Addr × Obj)} {σ : L2.St} {H : Hp} {s : Shared} {Ng : List Str} {qg : Str} {sg : Scope} {gA f c' : Addr} {cdg dV doc pm ctv : Value} {params : Arguments} {body : Expr} {scope : Scope} {i : Nat} {a : Str} {ps : List Str} {pn : List (Addr × Obj)} {xe : Value → Shared → Prop} {W : WX} {Eg : XK} {t : XK → TE} {p1 p2 : Pos}
abbrev envZ (X : Cx) (s : Shared) (qg : Str) (sg : Scope) (gA : Addr) (cdg : Value) : PySem.Env := envOfC qg sg s.heap.objs.size gA cdg
abbrev cxZ (X : Cx) (s : Shared) (H : Hp) (Ng : List Str) (qg : Str) (sg : Scope) (gA : Addr) (cdg : Value) (Eg : XK) : Cx := cxOf (L2.CX X.prog X.w) X.prog X.w X.K X.mg X.base Ng qg sg gA cdg X.A X.stack s H Eg
theorem pe_actL (I : Inv X pins σ H s) (L : LamK X.env.scope scope X.N ps) (hps : lamPs params = some ps)
    (hfn : s.heap.get? f = some (PySem.W.kdv_obj "<lambda>" (lamQ X) params (.expr body) scope (cloFrom X.env.cells scope.names []) dV doc pm c' ctv)) (hdv : DvOk s.heap H (frs X.stack) ps dV) (nf : H f = none) (ff : f ∉ frs X.stack)
    (tk : Takes ((cxZ X s H Ng qg sg gA cdg Eg).tr pn xe) W) (hr : Room 1 (X.A.deeper (envZ X s qg sg gA cdg)))
    (hbody : ∀ (s1 : Shared) (H1 : Hp) (E : XK), PE (lamCx X (X.A.deeper (envZ X s qg sg gA cdg)) (envZ X s qg sg gA cdg :: X.stack) s1 H1 E scope f c') body (t E))
    (hN : Ng[i]? = some a) (hv : Vis sg a) (hd : (a == ("__debug__" : Str)) = false) (hcd : (a == ("__classdict__" : Str)) = false) :
    PE ((cxZ X s H Ng qg sg gA cdg Eg).tr pn xe) (.Call (.Name a p1) [] [] p2) (fun σZ HZ Q => ∃ E1 : XK, (∀ cls d H', E1 cls d H' → W cls d σZ H') ∧ σZ[i]? = some (some (.ref f)) ∧ HZ c' = some (CodeO c' (lamQ X)) ∧ t E1 σ HZ Q) := by
  refine ⟨fun pinsZ sZ σZ HZ Q IZ h => ?_⟩
  obtain ⟨E1, hE1, hs, hc, ht⟩ := h
  refine wpAny_Call_Name_kw (thn ((pe_var (pos := p1) (i := i) hN hv hd hcd).run pinsZ sZ σZ HZ (fun v H1 => v = .ref f ∧ H1 = HZ) IZ ⟨.ref f, hs, rfl, rfl⟩) fun u s1 ⟨v, H1, I1, r1, ev, eH⟩ => ?_)
  subst ev
  rw [eH] at I1
  obtain rfl : u = Value.ref f := r1
  have noex : ∀ b : Addr, b ∉ ([] : List Addr) := fun b => by simp
  have atF : s1.heap.get? f = some (PySem.W.kdv_obj "<lambda>" (lamQ X) params (.expr body) scope (cloFrom X.env.cells scope.names []) dV doc pm c' ctv) := I1.base.keep f _ hfn nf ff (noex _)
  have un : Un (frs X.stack) [] H HZ s.heap s1.heap := I1.base
  have dv1 : DvOk s1.heap H (frs X.stack) ps dV := by
    rcases hdv with z | ⟨t0, v0, q1, q2, q3, q4, q5⟩
    · exact .inl z
    · exact .inr ⟨t0, v0, q1, q2, un.keep t0 _ q3 q4 q5 (noex _), q4, q5⟩
  refine PySem.W.callWith_F0 ⟨_, _, _, _, atF⟩ ?_
  obtain ⟨⟨oc, vs, tc, hoc, hdc, hvc⟩, _, _⟩ := I1.hok c' _ hc
  obtain ⟨hp1, g1, d1, tk1, os1⟩ := s1
  obtain ⟨binds, hbs, hbind⟩ := bind_lam (scope := scope) (body := body) (q := lamQ X) (cl := cloFrom X.env.cells scope.names []) (doc := doc) (pm := pm) (cdv := .ref c') (ctv := ctv) (g := g1) (d := d1) (t := tk1) (os := os1) hps dv1
  have rc : codeAny (model X.prog X.w) (X.A.deeper (envZ X s qg sg gA cdg)) (.call (.ref f) ⟨[], []⟩) (CR (L2.CX X.prog X.w) (envZ X s qg sg gA cdg :: X.stack) X.prog X.w HZ ⟨hp1, g1, d1, tk1, os1⟩ Q E1) ⟨hp1, g1, d1, tk1, os1⟩ := by
    refine PySem.W.kla_callFunE (hr.mono (Nat.zero_le 1)).depth atF rfl L.co L.gen rfl ⟨c', oc, vs, tc, rfl, hoc, hdc, hvc⟩ (hbind _ _ _ _ ?_)
    refine wpAny_newFunctionEnv (fun y hy => (L.own y hy).1) (fun y hy => L.loc _ (hbs y hy)) (fun h2 hns hsb => ⟨I1.nolimit.fresh _ hsb, ?_⟩) L.kind
    show codeAny _ _ (.expr body (lamEnv X scope hp1.objs.size f c')) _ _
    have kp : ∀ b o, hp1.get? b = some o → h2.get? b = some o := fun b o e => hsb.extBut b o (Nat.ne_of_lt (Heap.lt_size e)) (Heap.get?_push_of_some _ e)
    have J : Inv (lamCx X (X.A.deeper (envZ X s qg sg gA cdg)) (envZ X s qg sg gA cdg :: X.stack) ⟨hp1, g1, d1, tk1, os1⟩ HZ E1 scope f c') [] σ HZ ⟨h2, g1, d1, tk1 + binds.length, os1⟩ := lam_start I L I1.env0 hr.hd un hns kp
    refine PySem.W.kla_codeExpr (wpAny_mono ((hbody _ HZ E1).run [] _ _ HZ Q J ht) (fun v s' hq => ?_) fun e s' hq => hq)
    obtain ⟨w', H', J', rv, q⟩ := hq
    exact ⟨w', H', J'.os, J'.bare, J'.base, J'.hok, rv, q⟩
  refine wpAny_call (codeAny_mono rc fun r s' hq => ?_)
  cases r with
  | error e => exact tk e s' (XE.of_call (X := (cxZ X s H Ng qg sg gA cdg Eg).tr pn xe) (E := E1) I1 hE1 hq)
  | ok fl =>
    cases fl with
    | ret u => exact I1.after hq
    | next => exact False.elim hq
    | brk => exact False.elim hq
    | cont => exact False.elim hq

theorem pe_hearC {T : List (Addr × Str)} {c P : Addr} {d : Hd} {fd : FuncData} {excs : List (Str × Str)} {file x : Str} {lpos pos : Pos} (hgl : Gl X x) (hm : X.mg x = some (.ref gA)) (F : FunD X.K d.name d.qual d.params d.body d.scope [] [] gA fd) (hok : d.ok excs = true) (hx : (x == ("__debug__" : Str)) = false)
    (hex : exB file X.K excs = true) (hmg : ∀ c f, excs.lookup c = some f → X.mg c = some (.ref (He.ga X.K c))) (TB : TabB X.base X.mg c P) (hcode : X.env.code = .ref c) (hmT : (P, lamQ X) ∈ T) (hu : ∀ p ∈ T, p.1 = P → p.2 = lamQ X) (hr : Room 3 X.A)
    (L : LamK X.env.scope scope X.N ps) (hps : lamPs params = some ps) (hbody : ∀ (eZ : PySem.Env) (outer : List PySem.Env) (s1 : Shared) (H1 : Hp) (E : XK) (f c' : Addr), PE (lamCx X (X.A.deeper eZ) outer s1 H1 E scope f c') body (t E)) :
    PE X (.Call (.Name x p1) [.Lambda params body scope lpos] [] pos) (fun σ H Q => Tabs T H ∧ ∀ (f c' : Addr) (H1 : Hp), (H1 = H ∨ ∃ us qs, H P = some (.tbl us) ∧ H c' = none ∧ H1 = upd (upd H P (.tbl qs)) c' (CodeO c' (lamQ X))) → Tabs T H1 →
      t (TEx X.K excs d.hs Q) σ H1 (fun v H' => [v].length ≤ sizeLine ∧ ∀ p, H' p = none → Q (.ref p) (upd H' p (.lst [v])))) := by
  obtain ⟨oc, od, dV, kV, doc, pm, an, cdv, ct, osl, rfl, lk, hcd, hD, _⟩ := F.ex
  have eD : dV = .none := by
    rcases hD with ⟨_, e⟩ | ⟨e, _⟩
    · exact e
    · exact absurd rfl e
  subst eD
  have hin := hd_in hok
  unfold Hd.ok at hok
  simp only [Bool.and_eq_true, decide_eq_true_eq, Bool.not_eq_true'] at hok
  obtain ⟨⟨⟨⟨⟨⟨⟨⟨⟨o1, o2⟩, o3⟩, o4⟩, o5⟩, o6⟩, o7⟩, o8⟩, o9⟩, o10⟩ := hok
  have Sg := scopeB_ok o1
  refine ⟨fun pins s σ H Q I h => ?_⟩
  obtain ⟨hT, h⟩ := h
  refine wpAny_Call_Name_kw (ld_glob I hgl hm ?_ hx)
  refine PySem.W.callWith_K (h₀ := X.base) I.ok.mod.kin F.kp ?_ (by rfl) (by rfl)
  show wpAny _ _ (spliced ((false, eval (.Lambda params body scope lpos) X.env) :: backTo pos (starEach [] X.env))) _ _ s
  refine Calls.spliced_cons (lam_make I TB hcode hmT hu hT hps (L.has I.ok) fun f c' dV doc' pm' ctv H1 s' M => ?_)
  refine Calls.spliced_nil ⟨M.inv.kIn, ?_⟩
  have hva : Vis d.scope d.a := by
    rcases Sg.par d.a (by simp) with z | z
    · exact .inl z
    · exact .inr (.inl z)
  have n0 : d.N[0]? = some d.a := by unfold Hd.N; split <;> rfl
  have n1 : d.N[1]? = some d.n := by unfold Hd.N; split <;> rfl
  have bnd : BindsTo s' (PySem.W.fnOf d.name d.qual d.params d.body d.scope .none kV doc pm an cdv ct) ⟨[.ref f], []⟩ ([d.a].zip [.ref f]) := by
    refine .of_eq ((bind_all (us := [.ref f]) (ws := []) (ks := []) o2 o3 ?_ rfl).trans ?_)
    · unfold bindB
      simp
    · rfl
  have rc : codeAny (model X.prog X.w) X.A (.call (.ref gA) ⟨[.ref f], []⟩) (CR (L2.CX X.prog X.w) X.stack X.prog X.w H1 s' Q (fun _ _ _ => False)) s' := by
    refine run_ofS (k := 2) (N := d.N) (ps := [d.a]) (us := [.ref f]) (vs := [.ref f]) lk hcd Sg hr M.inv.env0 bnd (.cons rfl .nil) rfl fun hr' => ?_
    let l := told X.K excs d.fo d.hs
    split at o10
    · rename_i x' q1 q2 q3 q4 h0 hds q5 ebody
      rw [ebody]
      simp only [Bool.and_eq_true, decide_eq_true_eq] at o10
      obtain ⟨⟨o11, rfl⟩, o10⟩ := o10
      have efo : d.fo = none := by simpa using o11
      refine ⟨_, pss_one (ps_try_nmd (X := cxZ X s' H1 d.N d.qual d.scope gA cdv (fun _ _ _ => False)) (i := 1) (n := d.n) (l := l) (tb := fun W => tRet (tLst (tCons (fun σZ HZ Q => ∃ E1 : XK, (∀ cls d H', E1 cls d H' → W cls d σZ H') ∧ σZ[0]? = some (some (.ref f)) ∧ HZ c' = some (CodeO c' (lamQ X)) ∧ t E1 σ HZ Q) tNil))) rfl rfl Sg.nd n1 o4
        (fun W pn xe tk _ => pss_one (ps_ret (pe_lst (pa_cons (pe_actL M.inv L hps M.fn M.dv M.nf M.ff tk (hr'.mono (Nat.le_succ 1)) (fun s1 H2 E => hbody _ _ s1 H2 E f c') n0 hva o5 o6) pa_nil)))) ?_), ?_⟩
      · exact clses_ok (X := cxZ X s' H1 d.N d.qual d.scope gA cdv (fun _ _ _ => False)) hex hmg Sg.nd n1 (.inl o4) o7 o8 (fun f hf => by rw [efo] at hf; cases hf) o10
      · refine ⟨TEx X.K excs d.hs Q, fun cls dd H' z => ?_, ?_, M.code, h f c' H1 M.hp M.tab⟩
        · obtain ⟨c0, fl, w0, dx, v, z1, z2, rfl, rfl, z5, z6⟩ := z
          refine told_ok hex z2 ?_ hin z1
          intro a na
          rw [efo]
          refine ⟨_, ?_, rfl, rfl, dx, [(fl, v)], v, rfl, z5, ?_, ?_⟩
          · unfold Hd.N
            rw [efo]
            rfl
          · rw [z2]
            simp
          · exact ⟨by simp [sizeLine_eq], fun q hq => z6 q hq⟩
        · unfold Hd.N
          rw [efo]
          rfl
    · rename_i f0 u1 u2 u3 u4 f1 u5 x' u6 u7 u8 u9 h0 hds u10 f2 u11 u12 ebody
      rw [ebody]
      simp only [Bool.and_eq_true, decide_eq_true_eq, Bool.not_eq_true'] at o10
      obtain ⟨⟨⟨⟨⟨⟨⟨efo, rfl⟩, rfl⟩, of1⟩, of2⟩, of3⟩, rfl⟩, o10⟩ := o10
      have n2 : d.N[2]? = some f2 := by unfold Hd.N; rw [efo]; rfl
      let XX := cxZ X s' H1 d.N d.qual d.scope gA cdv (fun _ _ _ => False)
      refine ⟨_, pss_cons (X := XX) (ps_set (X := XX) Sg.nd n2 (.inl of1) pe_non (by rfl) (.inr of1)) (pss_cons (X := XX) (ps_try_nmd (X := XX) (i := 1) (n := d.n) (l := l) (tb := fun W => tAsg (tLst (tCons (fun σZ HZ Q => ∃ E1 : XK, (∀ cls d H', E1 cls d H' → W cls d σZ H') ∧ σZ[0]? = some (some (.ref f)) ∧ HZ c' = some (CodeO c' (lamQ X)) ∧ t E1 σ HZ Q) tNil)) (gName 2)) rfl rfl Sg.nd n1 o4
        (fun W pn xe tk _ => pss_one (ps_set (X := XX.tr pn xe) Sg.nd n2 (.inl of1) (pe_lst (pa_cons (pe_actL M.inv L hps M.fn M.dv M.nf M.ff tk (hr'.mono (Nat.le_succ 1)) (fun s1 H2 E => hbody _ _ s1 H2 E f c') n0 hva o5 o6) pa_nil)) (by rfl) (.inr of1))) ?_) (pss_one (ps_ret (pe_var (X := XX) n2 (.inl of1) of2 of3)))), ?_⟩
      · exact clses_ok (X := XX) hex hmg Sg.nd n1 (.inl o4) o7 o8 (fun f hf => by rw [efo] at hf; cases hf; exact ⟨n2, of1⟩) o10
      · refine ⟨TEx X.K excs d.hs Q, fun cls dd H' z => ?_, ?_, M.code, ?_⟩
        · obtain ⟨c0, fl, w0, dx, v, z1, z2, rfl, rfl, z5, z6⟩ := z
          refine told_ok hex z2 ?_ hin z1
          intro a na
          rw [efo]
          refine ⟨_, ?_, rfl, rfl, dx, [(fl, v)], v, rfl, z5, ?_, ?_⟩
          · unfold Hd.N
            rw [efo]
            rfl
          · rw [z2]
            simp
          · refine ⟨by simp [sizeLine_eq], fun q hq => ⟨_, ?_, z6 q hq⟩⟩
            unfold Hd.N
            rw [efo]
            rfl
        · unfold Hd.N
          rw [efo]
          rfl
        · have ell : ∀ q : Addr, ((((L2.start d.N [.ref f]).set 2 (some .non)).set 2 (some (.ref q)))[2]? : Option (Option V)) = some (some (.ref q)) := fun q => by
            unfold Hd.N
            rw [efo]
            rfl
          refine Eq.mpr (congrArg (t _ σ H1) (funext fun v => funext fun H' => propext ⟨fun z => ⟨z.1, fun q hq => ?_⟩, fun z => ⟨z.1, fun q hq => ⟨_, ell q, z.2 q hq⟩⟩⟩)) (h f c' H1 M.hp M.tab)
          obtain ⟨v', e1, z2⟩ := z.2 q hq
          have e1 := e1.symm.trans (ell q)
          cases e1
          exact z2
    · cases o10
  refine wpAny_call (codeAny_mono rc fun r s2 hq => ?_)
  cases r with
  | error e =>
    obtain ⟨_, _, _, _, _, _, _, _, _, _, _, _, z⟩ := (show L2.CX X.prog X.w X.stack H1 s' (fun _ _ _ => False) e s2 from hq)
    exact z.elim
  | ok fl =>
    cases fl with
    | ret u => exact M.inv.after hq
    | next => exact False.elim hq
    | brk => exact False.elim hq
    | cont => exact False.elim hq
end
end Fx

set_option maxHeartbeats 2000000
/-! Fx6: calls; what is known of the place where code runs. -/
namespace Fx
open PySem PySem.Spec PyProof.Rows L2

/-- a def keeps its promise, called where no repr runs -/
structure FnR (P : Program) (w : World) (K : PySem.W.Frag) (mg : Str → Option Value) (base : Heap) (k : Nat) (f : Addr) (fd : FuncData) (ps : List Str) (sp : Sp) : Prop where
  len : ∀ vs H Q E, sp vs H Q E → vs.length = ps.length
  run : ∀ (A : Around) (outer : List PySem.Env) (s : Shared) (H : Hp) (args : Args) (us : List Value) (vs : List V) (Q : VK) (E : XK), Room k A → A.guards = some [] → Env0 P w K mg base A outer s H →
    BindsTo s fd args (ps.zip us) → Vals vs us → sp vs H Q E → codeAny (model P w) A (.call (.ref f) args) (CR (L2.CX P w) outer P w H s Q E) s
/-- what a def of the small language promises -/
def spF (g : G) (n : Nat) (cf : List D → Store → Res D) : Sp := fun vs H Q E => vs.length = n ∧ ∃ w S ds, WOk g w H S ∧ Reps g H w ds vs ∧
  Post (cf ds S) (fun d S' => ∀ w' H' v, WOk g w' H' S' → Ext w H w' H' → Rep g H' w' d v → Q v H') fun c p S' => ∀ w' H' cc dd, WOk g w' H' S' → Ext w H w' H' → ExcAt g H' w' c p cc dd → E cc dd H'

/-- the same where lists are lent -/
def spB (g : G) (n : Nat) (cf : List D → Store → Res D) : Sp := fun vs H Q E => vs.length = n ∧ ∃ w S ds, WOk g w H S ∧ RepTs g H w ds vs ∧
  Post (cf ds S) (fun d S' => ∀ w' H' v, WOk g w' H' S' → Ext w H w' H' → Rep g H' w' d v → Q v H') fun c p S' => ∀ w' H' cc dd, WOk g w' H' S' → Ext w H w' H' → ExcAt g H' w' c p cc dd → E cc dd H'

/-- a def of the module as the code at X may call it -/
structure Callee (g : G) (C : Ev) (X : Cx) (lam : Bool) (f : Str) (ps : List Str) : Prop where
  ex : ∃ a fd k, X.mg f = some (.ref a) ∧ PySem.W.keepIn X.K (.ref a) = true ∧ Room k X.A ∧ (lam = true → Room (k + 2) X.A) ∧ FnR X.prog X.w X.K X.mg X.base k a fd ps (spF g ps.length (C.call f)) ∧ FnR X.prog X.w X.K X.mg X.base k a fd ps (spB g ps.length (C.act f)) ∧
    ∀ (s : Shared) (us ws : List Value) (ks : List Str), bindB ps us.length ks = true → ws.length = ks.length → BindsTo s fd ⟨us, ks.zip ws⟩ (ps.zip (reord (ixOf ps us.length ks) (us ++ ws)))

/-- what is known of the place -/
structure XOk (g : G) (C : Ev) (s : Sc) (X : Cx) (W : WX) : Prop where
  K : X.K = g.K
  mg : X.mg = g.mg
  N : X.N = s.N
  sc : X.env.scope = s.sc
  kind : X.env.scope.kind = .function
  nd : s.N.Nodup
  calm : X.calm = true
  gd : X.A.guards = some []
  un : X.A.units + 200 < cLine
  st : ∀ x, stB s x = true → Loc X.env.scope x ∧ (X.fn x = true ∨ X.env.scope.names.lookup x = some .local)
  pass : PassesOwn (model X.prog X.w) X.A X.env X.xe
  tk : Takes X W
  free : ∀ x, s.free.contains x = true → X.mg x = none
  gcd : s.gcd = true → X.mg "gcd" = some (.builtin "math.gcd")
  fns : ∀ f ps, s.fns.lookup f = some ps → Callee g C X s.lam f ps
  ex : exB X.prog.main.file X.K s.excs = true
  fld : ∀ c f, s.excs.lookup c = some f → g.fld c = some f ∧ X.mg c = some (.ref (He.ga X.K c))
  top : s.excs ≠ [] → (X.prog.main.scope.names.lookup ("super" : Str)).isSome = false
  rm : Room 1 X.A
  ci : ∀ y z, s.cints.lookup y = some z → ∃ t, X.mg y = some (.int z t)
  cs : ∀ y z, s.cstrs.lookup y = some z → ∃ t, X.mg y = some (.str z t)
  ct : ∀ y xs, s.ctups.lookup y = some xs → ∃ (a : Addr) (o : Obj) (its : Array Value) (n : Nat), X.mg y = some (.ref a) ∧ X.K.lookup a = some o ∧ o.cls = .type "tuple" ∧ o.data = .seq its n ∧ its.size ≤ sizeLine ∧ Vals (xs.map V.str) its.toList
  hear : ∀ f hs, s.hrs.lookup f = some hs → ∃ (d : Hd) (a : Addr) (fd : FuncData), d.hs = hs ∧ d.ok s.excs = true ∧ X.mg f = some (.ref a) ∧ FunD X.K d.name d.qual d.params d.body d.scope [] [] a fd
  stk : s.def_ = true → X.stack = X.env :: X.outer ∧ X.env.frame = some X.env.locals
  lamOk : s.lam = true → ∃ c P, LamX.TabB X.base X.mg c P ∧ X.env.code = .ref c ∧ (P, lamQ X) ∈ g.T ∧ (∀ p ∈ g.T, p.1 = P → p.2 = lamQ X) ∧ Room 3 X.A

section
variable {g : G} {C : Ev} {s : Sc} {X : Cx} {W : WX}
theorem XOk.vis (x : XOk g C s X W) {n : Str} (h : visB s n = true) : Vis X.env.scope n := by
  unfold visB at h
  rw [x.sc]
  simp only [Bool.or_eq_true, decide_eq_true_eq] at h
  rcases h with (h | h) | h
  · exact .inl h
  · exact .inr (.inl h)
  · exact .inr (.inr h)
theorem XOk.gl (x : XOk g C s X W) {n : Str} (h : glB s n = true) : Gl X n := by
  unfold glB at h
  unfold Gl Env.kindOf
  rw [x.sc]
  exact of_decide_eq_true h
theorem okN_dbg {n : Str} (h : okN n = true) : (n == ("__debug__" : Str)) = false := by
  unfold okN at h
  simp only [Bool.and_eq_true, Bool.not_eq_true'] at h
  exact h.1.1
theorem okN_cd {n : Str} (h : okN n = true) : (n == ("__classdict__" : Str)) = false := by
  unfold okN at h
  simp only [Bool.and_eq_true, Bool.not_eq_true'] at h
  exact h.1.2
theorem okN_nm {n : Str} (h : okN n = true) : n ≠ "__name__" := by
  unfold okN at h
  simp only [Bool.and_eq_true, Bool.not_eq_true', decide_eq_false_iff_not] at h
  exact h.2
theorem nmB_of {i : Nat} {n : Str} (h : nmB s i n = true) : s.N[i]? = some n ∧ visB s n = true ∧ okN n = true := by
  unfold nmB at h
  simp only [Bool.and_eq_true, decide_eq_true_eq] at h
  exact ⟨h.1.1, h.1.2, h.2⟩
theorem XOk.pv (x : XOk g C s X W) {i : Nat} {n : Str} {pos : Pos} (h : nmB s i n = true) : PE X (.Name n pos) (tVar i) := by
  obtain ⟨h1, h2, h3⟩ := nmB_of h
  exact pe_var (by rw [x.N]; exact h1) (x.vis h2) (okN_dbg h3) (okN_cd h3)

/-- a callee runs -/
theorem run_fr {pins : List (Addr × Obj)} {σ : L2.St} {H : Hp} {st : Shared} {Q : VK} {f : Str} {ps : List Str} {a : Addr} {fd : FuncData} {k : Nat} {us ws : List Value} {ks : List Str} {w : Wd} {env : Env} {fr : Frm} {S : Store} {ds : List D} {vs : List V}
    (x : XOk g C s X W) (hr : Room k X.A) (F : FnR X.prog X.w X.K X.mg X.base k a fd ps (spF g ps.length (C.call f))) (I : L2.Inv X pins σ H st) (hb : BindsTo st fd ⟨us, ks.zip ws⟩ (ps.zip (reord (ixOf ps us.length ks) (us ++ ws))))
    (rv : Vals vs (reord (ixOf ps us.length ks) (us ++ ws))) (hl : vs.length = ps.length) (G : Good g fr σ H w env S) (rd : Reps g H w ds vs)
    (h : Post (C.call f ds S) (fun d S' => ∀ w' H' v, Good g fr σ H' w' env S' → Ext w H w' H' → Rep g H' w' d v → Q v H') (XX g fr W σ env w H)) :
    wpAny (model X.prog X.w) X.A (call (.ref a) us (ks.zip ws)) (EP X pins σ Q) X.xe st := by
  have sp : spF g ps.length (C.call f) vs H Q (fun cls d H' => W cls d σ H') := ⟨hl, w, S, ds, G.wok, rd, h.imp (fun d S' q w' H' v k e r => q w' H' v (G.step e k) e r) fun c p S' q w' H' cc dd k e xc =>
    q w' H' cc dd (G.step e k) e xc⟩
  refine wpAny_call (codeAny_mono (F.run X.A X.stack st H ⟨us, ks.zip ws⟩ _ vs Q (fun cls d H' => W cls d σ H') hr x.gd I.env0 hb rv sp) fun r s' hq => ?_)
  cases r with
  | error e => exact x.tk e s' (XE.of_call I (fun _ _ _ h => h) hq)
  | ok fl =>
    cases fl with
    | ret u => exact I.after hq
    | next => exact False.elim hq
    | brk => exact False.elim hq
    | cont => exact False.elim hq
theorem run_frB {pins : List (Addr × Obj)} {σ : L2.St} {H : Hp} {st : Shared} {Q : VK} {f : Str} {ps : List Str} {a : Addr} {fd : FuncData} {k : Nat} {us ws : List Value} {ks : List Str} {w : Wd} {env : Env} {fr : Frm} {S : Store} {ds : List D} {vs : List V}
    (x : XOk g C s X W) (hr : Room k X.A) (F : FnR X.prog X.w X.K X.mg X.base k a fd ps (spB g ps.length (C.act f))) (I : L2.Inv X pins σ H st) (hb : BindsTo st fd ⟨us, ks.zip ws⟩ (ps.zip (reord (ixOf ps us.length ks) (us ++ ws))))
    (rv : Vals vs (reord (ixOf ps us.length ks) (us ++ ws))) (hl : vs.length = ps.length) (G : Good g fr σ H w env S) (rd : RepTs g H w ds vs)
    (h : Post (C.act f ds S) (fun d S' => ∀ w' H' v, Good g fr σ H' w' env S' → Ext w H w' H' → Rep g H' w' d v → Q v H') (XX g fr W σ env w H)) :
    wpAny (model X.prog X.w) X.A (call (.ref a) us (ks.zip ws)) (EP X pins σ Q) X.xe st := by
  have sp : spB g ps.length (C.act f) vs H Q (fun cls d H' => W cls d σ H') := ⟨hl, w, S, ds, G.wok, rd, h.imp (fun d S' q w' H' v k e r => q w' H' v (G.step e k) e r) fun c p S' q w' H' cc dd k e xc =>
    q w' H' cc dd (G.step e k) e xc⟩
  refine wpAny_call (codeAny_mono (F.run X.A X.stack st H ⟨us, ks.zip ws⟩ _ vs Q (fun cls d H' => W cls d σ H') hr x.gd I.env0 hb rv sp) fun r s' hq => ?_)
  cases r with
  | error e => exact x.tk e s' (XE.of_call I (fun _ _ _ h => h) hq)
  | ok fl =>
    cases fl with
    | ret u => exact I.after hq
    | next => exact False.elim hq
    | brk => exact False.elim hq
    | cont => exact False.elim hq
end
end Fx

set_option maxHeartbeats 4000000
/-! Fx7: expressions stand for what they compute. -/
namespace Fx
open PySem PySem.Spec PyProof.Rows L2

def isFresh : N → Bool
  | .lst _ => true
  | .comp .. => true
  | .bin .. => true
  | .slc .. => true
  | .bi .list _ => true
  | .bi .sorted _ => true
  | _ => false
/-- a reading that tells a new list -/
def tN (g : G) (fr : Frm) (W : WX) (C : Ev) (f : Bool) (n : N) : TE := fun σ H Q =>
  ∃ w env S, Good g fr σ H w env S ∧ Post (ev C n env S) (fun d S' => ∀ w' H' v, OutN g f w H S' d w' H' v → Q v H') (XX g fr W σ env w H)
def RepP (g : G) (p : Bool) (H : Hp) (w : Wd) (d : D) (v : V) : Prop := if p = true then RepT g H w d v else Rep g H w d v
def RepPs (g : G) (p : Bool) (H : Hp) (w : Wd) (d : List D) (v : List V) : Prop := if p = true then RepTs g H w d v else Reps g H w d v
def RelB (p : Bool) (w : Wd) (H : Hp) (w' : Wd) (H' : Hp) : Prop := if p = true then Ext w H w' H' else Per w H w' H'
abbrev tQ (g : G) (fr : Frm) (W : WX) (C : Ev) (p : Bool) (n : N) : TE := tG g fr W (ev C n) (RepP g p)
abbrev tQs (g : G) (fr : Frm) (W : WX) (C : Ev) (p : Bool) (n : N) : TA := tG g fr W (evs C n) (RepPs g p)
/-- an iterator that yields data -/
structure ItOk (g : G) (p : Bool) (J : It) (ds : List D) (w : Wd) (H : Hp) : Prop where
  go : ∀ (i : Nat) w1 H1 S1 d, WOk g w1 H1 S1 → RelB p w H w1 H1 → ds[i]? = some d → J.go i H1 ∧ ∀ x H2, J.yld i H1 x H2 → Ext w1 H1 w1 H2 ∧ WOk g w1 H2 S1 ∧ Rep g H2 w1 d x
  stop : ∀ w1 H1 S1, WOk g w1 H1 S1 → RelB p w H w1 H1 → J.stop ds.length H1
abbrev tI (g : G) (fr : Frm) (W : WX) (C : Ev) (p : Bool) (n : N) : TI := fun σ H R =>
  ∃ w env S, Good g fr σ H w env S ∧ Post (evI C n env S) (fun ds S' => ∀ w' H' J, Good g fr σ H' w' env S' → Ext w H w' H' → ItOk g p J ds w' H' → R J H') (XX g fr W σ env w H)

section
variable {g : G} {fr : Frm} {W : WX} {C : Ev}
theorem RepP.t {p : Bool} {H : Hp} {w : Wd} {d : D} {v : V} (h : RepP g p H w d v) : RepT g H w d v := by
  unfold RepP at h
  split at h
  · exact h
  · exact .rep h
theorem RepP.of {p : Bool} {H : Hp} {w : Wd} {d : D} {v : V} (h : Rep g H w d v) : RepP g p H w d v := by
  unfold RepP
  split
  · exact .rep h
  · exact h
theorem RelB.per {p : Bool} {w w' : Wd} {H H' : Hp} {S : Store} (k : WOk g w H S) (h : RelB p w H w' H') : Per w H w' H' := by
  unfold RelB at h
  split at h
  · exact h.per k
  · exact h
theorem RepP.rel {p : Bool} {w w' : Wd} {H H' : Hp} {S : Store} (k : WOk g w H S) (h : RelB p w H w' H') {d : D} {v : V} (r : RepP g p H w d v) : RepP g p H' w' d v := by
  unfold RelB at h
  unfold RepP at r ⊢
  split at h
  · rename_i hp
    rw [if_pos hp] at r ⊢
    exact r.ext k h
  · rename_i hp
    rw [if_neg hp] at r ⊢
    exact r.per h
theorem RepP.ext {p : Bool} {w w' : Wd} {H H' : Hp} {S : Store} (k : WOk g w H S) (h : Ext w H w' H') {d : D} {v : V} (r : RepP g p H w d v) : RepP g p H' w' d v := by
  unfold RepP at r ⊢
  cases p with
  | true => exact RepT.ext k h r
  | false => exact Rep.per (h.per k) r
theorem tN.q {f p : Bool} {n : N} {σ : L2.St} {H : Hp} {Q : VK} (h : tQ g fr W C p n σ H Q) : tN g fr W C f n σ H Q := by
  obtain ⟨w, env, S, G, P⟩ := h
  refine ⟨w, env, S, G, P.imp (fun d S' k w' H' v o => ?_) fun _ _ _ x => x⟩
  obtain ⟨w2, e, k2, r⟩ := o.frz
  exact k w2 H' v (G.step e k2) e (.of r)
/-- from a reading that tells a new list -/
theorem PE.ofN {X : Cx} {e : Expr} {f : Bool} {n : N} (h : PE X e (tN g fr W C f n)) (p : Bool) : PE X e (tQ g fr W C p n) := PE.imp h fun _ _ _ q => tN.q q

/-- a target -/
def tGt (g : G) (fr : Frm) (n : N) : TG := fun v σ H Q => ∃ w env S d env', Good g fr σ H w env S ∧ Rep g H w d v ∧ bindT n d env = some env' ∧ ∀ σ', Good g fr σ' H w env' S → Agree (asgT n) σ σ' env env' → Q σ' H
def tGts (g : G) (fr : Frm) (n : N) : TGs := fun vs σ H Q => ∃ w env S ds env', Good g fr σ H w env S ∧ Reps g H w ds vs ∧ bindT.bindTs n ds env = some env' ∧ ∀ σ', Good g fr σ' H w env' S → Agree (asgT n) σ σ' env env' → Q σ' H
/-- what is shown of a piece of the small language -/
structure Snd (g : G) (fr : Frm) (C : Ev) (n : N) : Prop where
  e : ∀ {s : Sc} {X : Cx} {W : WX} (x : XOk g C s X W) (p : Bool) (e : Expr), chk s p n e = true → PE X e (tQ g fr W C p n)
  f : ∀ {s : Sc} {X : Cx} {W : WX} (x : XOk g C s X W) (e : Expr), isFresh n = true → chk s false n e = true → PE X e (tN g fr W C true n)
  as : ∀ {s : Sc} {X : Cx} {W : WX} (x : XOk g C s X W) (p : Bool) (es : List Expr), chks s p n es = true → PA X es (tQs g fr W C p n)
  kw : ∀ {s : Sc} {X : Cx} {W : WX} (x : XOk g C s X W) (es : List Keyword), chkw s n es = true → PK X es (tQs g fr W C false n)
  o : ∀ {s : Sc} {X : Cx} {W : WX} (x : XOk g C s X W) (e : Option Expr), chkO s n e = true → PO X e (tOp' g fr W C n)
  t : ∀ {s : Sc} {X : Cx} {W : WX} (x : XOk g C s X W) (e : Expr), chkT s n e = true → PT X e (tTs g fr W C n)
  tw : ∀ {s : Sc} {X : Cx} {W : WX} (x : XOk g C s X W) (op : BoolOp) (es : List Expr) (pos : Pos), chkT s n (.BoolOp op es pos) = true → PW X (.BoolOp op es pos) (tTs g fr W C n)
  i : ∀ {s : Sc} {X : Cx} {W : WX} (x : XOk g C s X W) (p : Bool) (tg e : Expr), chkI s p tg n e = true → PI X tg e (tI g fr W C p n)
  c : ∀ {s : Sc} {X : Cx} {W : WX} (x : XOk g C s X W) (es : List Expr), chkC s n es = true → PTs X es (tTs g fr W C n)
  tgt : ∀ {s : Sc} {X : Cx} {W : WX} (x : XOk g C s X W) (e : Expr), chkG s n e = true → PG X e (tGt g fr n)
  tgts : ∀ {s : Sc} {X : Cx} {W : WX} (x : XOk g C s X W) (es : List Expr), chkGs s n es = true → PGs X es (tGts g fr n)

/-! ### one node after the other -/
variable {s : Sc} {X : Cx}
theorem one_ {n : N} {α : Type} {r2 : D → Store → Res α} {K : α → Store → Prop} {σ : L2.St} {H : Hp} {w : Wd} {env : Env} {S : Store} {Q : VK} {p : Bool}
    (G0 : Good g fr σ H w env S) (P : Post ((ev C n env S).bind r2) K (XX g fr W σ env w H))
    (h : ∀ a S1 w1 H1 b, Good g fr σ H1 w1 env S1 → Ext w H w1 H1 → RepP g p H1 w1 a b → Post (r2 a S1) K (XX g fr W σ env w1 H1) → Q b H1) : tQ g fr W C p n σ H Q := tG.one G0 P h
/-- a known result -/
theorem out_ {σ : L2.St} {H : Hp} {w : Wd} {env : Env} {S : Store} {d : D} {z : V} {f : Bool} (G : Good g fr σ H w env S) (r : Rep g H w d z) (hf : f = true → ∀ xs, d ≠ .lst xs) : OutN g f w H S d w H z := .same G.wok r hf

theorem e_bin {op : Op} {a b : N} (ia : Snd g fr C a) (ib : Snd g fr C b) (x : XOk g C s X W) (p : Bool) (e : Expr) (h : chk s p (.bin op a b) e = true) : PE X e (tN g fr W C true (.bin op a b)) := by
  unfold chk at h
  split at h
  · rename_i l o r pos
    simp only [Bool.and_eq_true, decide_eq_true_eq] at h
    obtain ⟨⟨rfl, h1⟩, h2⟩ := h
    refine PE.imp (pe_op (op_bin x.K op) (ia.e x true _ h1) (ib.e x true _ h2)) fun σ H Q q => ?_
    obtain ⟨w, env, S, G, P⟩ := q
    rw [ev] at P
    refine one_ G P fun d1 S1 w1 H1 v1 G1 E1 R1 P1 => one_ G1 P1 fun d2 S2 w2 H2 v2 G2 E2 R2 P2 => ?_
    obtain ⟨d, e1, k⟩ := P2.ofO
    exact ⟨w2, S2, d1, d2, d, G2.wok, (R1.ext G1.wok E2).t, R2.t, e1, fun w' H' z o => k w' H' z (o.trans (E1.trans E2))⟩
  · cases h

/-- a value that is known at once -/
theorem const_ {n : N} {d : D} {v : V} {t : TE} {e : Expr} {p : Bool} (he : PE X e t) (hev : ∀ env S, ev C n env S = .ok d S) (ht : ∀ σ H Q, Q v H → t σ H Q) (hr : ∀ H w, Rep g H w d v) : PE X e (tQ g fr W C p n) := by
  refine PE.imp he fun σ H Q ⟨w, env, S, G, P⟩ => ht _ _ _ ?_
  rw [hev] at P
  exact P w H v G .refl (.of (hr _ _))
/-- a name of the module that stands for a written value -/
theorem pe_glob {x : Str} {pos : Pos} {v : V} {u : Value} (hg : Gl X x) (hm : X.mg x = some u) (r : RelV v u) (hd : (x == ("__debug__" : Str)) = false) : PE X (.Name x pos) (tC v) := ⟨fun _ _ _ H _ I h => ld_glob I hg hm ⟨v, H, I, r, h⟩ hd⟩
theorem e_cI {z : Int} (x : XOk g C s X W) (p : Bool) (e : Expr) (h : chk s p (.cI z) e = true) : PE X e (tQ g fr W C p (.cI z)) := by
  unfold chk at h
  split at h
  · cases of_decide_eq_true h
    exact const_ pe_int (fun _ _ => rfl) (fun _ _ _ q => q) fun _ _ => .int z
  · simp only [Bool.and_eq_true, decide_eq_true_eq] at h
    obtain ⟨t, hm⟩ := x.ci _ _ h.2
    exact const_ (pe_glob (v := .int z) (x.gl h.1.1) hm ⟨t, rfl⟩ (okN_dbg h.1.2)) (fun _ _ => rfl) (fun _ _ _ q => q) fun _ _ => .int z
  · cases h
theorem e_cS {z : Str} (x : XOk g C s X W) (p : Bool) (e : Expr) (h : chk s p (.cS z) e = true) : PE X e (tQ g fr W C p (.cS z)) := by
  unfold chk at h
  split at h
  · cases of_decide_eq_true h
    exact const_ pe_str (fun _ _ => rfl) (fun _ _ _ q => q) fun _ _ => .str z
  · simp only [Bool.and_eq_true, decide_eq_true_eq] at h
    obtain ⟨t, hm⟩ := x.cs _ _ h.2
    exact const_ (pe_glob (v := .str z) (x.gl h.1.1) hm ⟨t, rfl⟩ (okN_dbg h.1.2)) (fun _ _ => rfl) (fun _ _ _ q => q) fun _ _ => .str z
  · cases h
theorem Reps.strs {H : Hp} {w : Wd} : ∀ {xs : List Str}, Reps g H w (xs.map D.str) (xs.map V.str)
  | [] => .nil
  | x :: xs => .cons (.str x) (Reps.strs (xs := xs))
theorem e_cT {xs : List Str} (x : XOk g C s X W) (p : Bool) (e : Expr) (h : chk s p (.cT xs) e = true) : PE X e (tQ g fr W C p (.cT xs)) := by
  unfold chk at h
  split at h
  · simp only [Bool.and_eq_true, decide_eq_true_eq] at h
    obtain ⟨a, o, its, n, hm, k1, k2, k3, k4, k5⟩ := x.ct _ _ h.2
    exact const_ (pe_glob (v := .ref a) (x.gl h.1.1) hm rfl (okN_dbg h.1.2)) (fun _ _ => rfl) (fun _ _ _ q => q) fun H w => .tup (.inr ⟨o, its, n, by rw [← x.K]; exact k1, k2, k3, k4, k5⟩) Reps.strs
  · cases h
theorem e_cB {z : Bool} (p : Bool) (e : Expr) (h : chk s p (.cB z) e = true) : PE X e (tQ g fr W C p (.cB z)) := by
  unfold chk at h
  split at h
  · cases of_decide_eq_true h
    exact const_ pe_bl (fun _ _ => rfl) (fun _ _ _ q => q) fun _ _ => .bl z
  · cases h
theorem e_cN (p : Bool) (e : Expr) (h : chk s p .cN e = true) : PE X e (tQ g fr W C p .cN) := by
  unfold chk at h
  split at h
  · exact const_ pe_non (fun _ _ => rfl) (fun _ _ _ q => q) fun _ _ => .non
  · cases h
theorem e_var {i : Nat} (x : XOk g C s X W) (p : Bool) (e : Expr) (h : chk s p (.var i) e = true) : PE X e (tQ g fr W C p (.var i)) := by
  unfold chk at h
  split at h
  · refine PE.imp (x.pv h) fun σ H Q ⟨w, env, S, G, P⟩ => ?_
    rw [ev] at P
    split at P
    · rename_i d hd
      obtain ⟨v, e1, r⟩ := G.val hd
      exact ⟨v, e1, P w H v G .refl (.of r)⟩
    · exact P.elim
  · cases h
theorem e_pk {i : Nat} (x : XOk g C s X W) (p : Bool) (e : Expr) (h : chk s p (.pk i) e = true) : PE X e (tQ g fr W C p (.pk i)) := by
  unfold chk at h
  split at h
  · rw [Bool.and_eq_true] at h
    obtain ⟨rfl, h⟩ := h
    refine PE.imp (x.pv h) fun σ H Q ⟨w, env, S, G, P⟩ => ?_
    rw [ev] at P
    split at P
    · rename_i d hd
      obtain ⟨v, e1, r⟩ := G.val hd
      exact ⟨v, e1, P w H v G .refl (.rep r)⟩
    · rename_i xs hd
      obtain ⟨v, e1, r⟩ := G.readT hd
      exact ⟨v, e1, P w H v G .refl r⟩
    · rename_i xs hd
      obtain ⟨v, e1, r⟩ := G.readB hd
      exact ⟨v, e1, P w H v G .refl r⟩
    · exact P.elim
  · cases h

theorem len_evs : ∀ {n : N} {es : List Expr} {p : Bool} {env : Env} {S S' : Store} {ds : List D}, chks s p n es = true → evs C n env S = .ok ds S' → ds.length = es.length := by
  intro n
  induction n with
  | nil =>
    intro es p env S S' ds h e
    unfold chks at h
    split at h
    · rw [evs] at e; cases e; rfl
    · cases h
  | cons a b _ ih =>
    intro es p env S S' ds h e
    unfold chks at h
    split at h
    · simp only [Bool.and_eq_true] at h
      rw [evs] at e
      cases q1 : ev C a env S with
      | ok d S1 =>
        rw [q1] at e
        simp only [Res.bind_ok] at e
        cases q2 : evs C b env S1 with
        | ok ds2 S2 =>
          rw [q2] at e
          cases e
          rw [List.length_cons, List.length_cons, ih h.2 q2]
        | ex => rw [q2] at e; cases e
        | st => rw [q2] at e; cases e
      | ex => rw [q1] at e; cases e
      | st => rw [q1] at e; cases e
    · cases h
  | _ =>
    intro es p env S S' ds h e
    unfold chks at h
    cases h
theorem Post.ok {α : Type} {r : Res α} {K : α → Store → Prop} {E : Str → D → Store → Prop} (h : Post r K E) : Post r (fun a S => r = .ok a S ∧ K a S) E := by
  cases r with
  | ok a S => exact ⟨rfl, h⟩
  | ex c p S => exact h
  | st => exact h
/-- displays: new -/
theorem seq_ {n : N} {es : List Expr} {σ : L2.St} {H : Hp} {w : Wd} {env : Env} {S : Store} {R : List V → Hp → Prop} {mk : List D → D} {K : D → Store → Prop}
    (hl : es.length ≤ 1000) (hc : chks s false n es = true) (G : Good g fr σ H w env S) (P : Post ((evs C n env S).bind fun ds S => .ok (mk ds) S) K (XX g fr W σ env w H))
    (h : ∀ ds S1 w1 H1 vs, Good g fr σ H1 w1 env S1 → Ext w H w1 H1 → Reps g H1 w1 ds vs → vs.length ≤ sizeLine → K (mk ds) S1 → R vs H1) : tQs g fr W C false n σ H R := by
  have P1 := P.bind.ok
  refine ⟨w, env, S, G, P1.imp (fun ds S1 k w1 H1 vs G1 E1 R1 => ?_) fun _ _ _ x => x⟩
  have R1 : Reps g H1 w1 ds vs := R1
  have e1 := len_evs hc k.1
  have e2 := R1.length
  exact h ds S1 w1 H1 vs G1 E1 R1 (by rw [sizeLine_eq]; omega) k.2
theorem e_tup {es : N} (ih : Snd g fr C es) (x : XOk g C s X W) (p : Bool) (e : Expr) (h : chk s p (.tup es) e = true) : PE X e (tQ g fr W C p (.tup es)) := by
  unfold chk at h
  split at h
  · simp only [Bool.and_eq_true, decide_eq_true_eq] at h
    refine PE.ofN (f := false) (PE.imp (pe_tup (ih.as x false _ h.1)) fun σ H Q ⟨w, env, S, G, P⟩ => ?_) p
    rw [ev] at P
    exact seq_ h.2 h.1 G P fun ds S1 w1 H1 vs G1 E1 R1 hz k => ⟨hz, fun q hq => k _ _ _ (.trans E1 (.newT G1.wok hq R1))⟩
  · cases h
theorem e_lst {es : N} (ih : Snd g fr C es) (x : XOk g C s X W) (e : Expr) (p : Bool) (h : chk s p (.lst es) e = true) : PE X e (tN g fr W C true (.lst es)) := by
  unfold chk at h
  split at h
  · simp only [Bool.and_eq_true, decide_eq_true_eq] at h
    refine PE.imp (pe_lst (ih.as x false _ h.1)) fun σ H Q ⟨w, env, S, G, P⟩ => ?_
    rw [ev] at P
    exact seq_ h.2 h.1 G P fun ds S1 w1 H1 vs G1 E1 R1 hz k => ⟨hz, fun q hq => k _ _ _ (.trans E1 (.newL G1.wok hq R1))⟩
  · cases h
theorem e_neg {a : N} (ia : Snd g fr C a) (x : XOk g C s X W) (p : Bool) (e : Expr) (h : chk s p (.neg a) e = true) : PE X e (tQ g fr W C p (.neg a)) := by
  unfold chk at h
  split at h
  · refine PE.imp (pe_un un_neg (ia.e x true _ h)) fun σ H Q ⟨w, env, S, G, P⟩ => ?_
    rw [ev] at P
    refine one_ G P fun d1 S1 w1 H1 v1 G1 E1 R1 P1 => ?_
    split at P1
    · cases R1.t.int
      exact ⟨_, rfl, P1 w1 H1 _ G1 E1 (.of (.int _))⟩
    · exact P1.elim
  · cases h
theorem cmp_ {op : Cp} {a b : N} (ia : Snd g fr C a) (ib : Snd g fr C b) (x : XOk g C s X W) {l r : Expr} (h1 : chk s true a l = true) (h2 : chk s true b r = true) :
    OpR X (compareOp (cpOf op)) (rC g op) ∧ ∀ {σ : L2.St} {H : Hp} {w : Wd} {env : Env} {S : Store} {K : Bool → Store → Prop} {R : V → Hp → Prop}, Good g fr σ H w env S →
      Post ((ev C a env S).bind fun x S => (ev C b env S).bind fun y S => ofO (cmpOp op x y) S) K (XX g fr W σ env w H) →
      (∀ c S2 w2 H2, Good g fr σ H2 w2 env S2 → Ext w H w2 H2 → K c S2 → R (.bl c) H2) → tOp (rC g op) (tQ g fr W C true a) (tQ g fr W C true b) σ H R := by
  refine ⟨op_cmp x.K (by have := x.un; omega) op, fun {σ H w env S K R} G P k => ?_⟩
  refine one_ G P fun d1 S1 w1 H1 v1 G1 E1 R1 P1 => one_ G1 P1 fun d2 S2 w2 H2 v2 G2 E2 R2 P2 => ?_
  obtain ⟨c, e1, q⟩ := P2.ofO
  exact ⟨w2, S2, d1, d2, c, G2.wok, (R1.ext G1.wok E2).t, R2.t, e1, k c S2 w2 H2 G2 (E1.trans E2) q⟩
theorem plain_mark {op : Cp} (h : cpPlain op = true) (b : Expr) : behindInMarks (cpOf op) b = false := by
  cases op <;> first
    | exact nomark b
    | cases h
theorem Post.mapO {α β : Type} {o : Option α} {f : α → β} {S : Store} {K : β → Store → Prop} {E : Str → D → Store → Prop} (h : Post (Fx.ofO (o.map f) S) K E) : Post (Fx.ofO o S) (fun a S => K (f a) S) E := by
  cases o with
  | none => exact h
  | some a => exact h
theorem Post.bind2 {α β γ : Type} {r : Res α} {f : α → Store → Res β} {K : γ → Store → Prop} {f' : α → Store → Res γ} {K' : β → Store → Prop} {E : Str → D → Store → Prop} (h : Post (r.bind f') K E) (k : ∀ a S, Post (f' a S) K E → Post (f a S) K' E) : Post (r.bind f) K' E := by
  cases r with
  | ok a S => exact k a S h
  | ex c p S => exact h
  | st => exact h
theorem e_cmp {op : Cp} {a b : N} (ia : Snd g fr C a) (ib : Snd g fr C b) (x : XOk g C s X W) (p : Bool) (e : Expr) (h : chk s p (.cmp op a b) e = true) : PE X e (tQ g fr W C p (.cmp op a b)) := by
  unfold chk at h
  split at h
  · simp only [Bool.and_eq_true, decide_eq_true_eq] at h
    obtain ⟨⟨⟨rfl, h0⟩, h1⟩, h2⟩ := h
    obtain ⟨ho, hp⟩ := cmp_ (op := op) ia ib x h1 h2
    refine PE.imp (pe_cmpR ho (ia.e x true _ h1) (ib.e x true _ h2) (by simpa using h0)) fun σ H Q ⟨w, env, S, G, P⟩ => ?_
    rw [ev] at P
    exact hp (K := fun c S' => ∀ w' H' b, Good g fr σ H' w' env S' → Ext w H w' H' → RepP g p H' w' (.bl c) b → Q b H') G (P.bind2 fun _ _ q => q.bind2 fun _ _ q => q.mapO) fun c S2 w2 H2 G2 E2 k => k w2 H2 _ G2 E2 (.of (.bl c))
  · cases h
theorem t_cmp {op : Cp} {a b : N} (ia : Snd g fr C a) (ib : Snd g fr C b) (x : XOk g C s X W) (e : Expr) (h : chkT s (.cmp op a b) e = true) : PT X e (tTs g fr W C (.cmp op a b)) := by
  unfold chkT at h
  split at h
  · simp only [Bool.and_eq_true, decide_eq_true_eq] at h
    obtain ⟨⟨⟨rfl, h0⟩, h1⟩, h2⟩ := h
    obtain ⟨ho, hp⟩ := cmp_ (op := op) ia ib x h1 h2
    refine PT.imp (pt_cmpR ho (ia.e x true _ h1) (ib.e x true _ h2) (by simpa using h0)) fun σ H Q ⟨w, env, S, G, P⟩ => ?_
    rw [evT] at P
    exact hp G P fun c S2 w2 H2 G2 E2 k => ⟨c, rfl, k w2 H2 c G2 E2 rfl⟩
  · cases h

theorem chain_ {o o' : Cp} {a b c : N} (ia : Snd g fr C a) (ib : Snd g fr C b) (ic : Snd g fr C c) (x : XOk g C s X W) {σ : L2.St} {H : Hp} {w : Wd} {env : Env} {S : Store} {K : Bool → Store → Prop} {R : V → Hp → Prop} (G : Good g fr σ H w env S)
    (P : Post ((ev C a env S).bind fun x S => (ev C b env S).bind fun y S => (ofO (cmpOp o x y) S).bind fun k S => if k then (ev C c env S).bind fun z S => ofO (cmpOp o' y z) S else .ok false S) K (XX g fr W σ env w H))
    (k : ∀ c S2 w2 H2, Good g fr σ H2 w2 env S2 → Ext w H w2 H2 → K c S2 → R (.bl c) H2) :
    tChain (rC g o) (rC g o') (tQ g fr W C true a) (tQ g fr W C true b) (tQ g fr W C true c) σ H R := by
  refine one_ G P fun d1 S1 w1 H1 v1 G1 E1 R1 P1 => one_ G1 P1 fun d2 S2 w2 H2 v2 G2 E2 R2 P2 => ?_
  obtain ⟨t, e1, q⟩ := P2.bind.ofO
  refine ⟨w2, S2, d1, d2, t, G2.wok, (R1.ext G1.wok E2).t, R2.t, e1, t, rfl, ?_⟩
  cases t with
  | false =>
    rw [if_neg Bool.false_ne_true]
    exact k false S2 w2 H2 G2 (E1.trans E2) q
  | true =>
    rw [if_pos rfl]
    refine one_ (p := true) G2 q fun d3 S3 w3 H3 v3 G3 E3 R3 P3 => ?_
    obtain ⟨t2, e2, q2⟩ := P3.ofO
    exact ⟨w3, S3, d2, d3, t2, G3.wok, (R2.ext G2.wok E3).t, R3.t, e2, k t2 S3 w3 H3 G3 ((E1.trans E2).trans E3) q2⟩
theorem e_chn {o o' : Cp} {a b c : N} (ia : Snd g fr C a) (ib : Snd g fr C b) (ic : Snd g fr C c) (x : XOk g C s X W) (p : Bool) (e : Expr) (h : chk s p (.chn o o' a b c) e = true) : PE X e (tQ g fr W C p (.chn o o' a b c)) := by
  unfold chk at h
  split at h
  · simp only [Bool.and_eq_true, decide_eq_true_eq] at h
    obtain ⟨⟨⟨⟨⟨⟨rfl, rfl⟩, h0⟩, h0'⟩, h1⟩, h2⟩, h3⟩ := h
    have hu : X.A.units + 64 < cLine := by have := x.un; omega
    refine PE.imp (pe_chain (op_cmp x.K hu o) (op_cmp x.K hu o') (ia.e x true _ h1) (ib.e x true _ h2) (ic.e x true _ h3) (plain_mark h0' _)) fun σ H Q ⟨w, env, S, G, P⟩ => ?_
    rw [ev] at P
    refine chain_ ia ib ic x (K := fun c S' => ∀ w' H' b, Good g fr σ H' w' env S' → Ext w H w' H' → RepP g p H' w' (.bl c) b → Q b H') G (P.bind2 fun _ _ q => q.bind2 fun _ _ q => q.bind2 fun t _ q => ?_) fun c S2 w2 H2 G2 E2 k => k w2 H2 _ G2 E2 (.of (.bl c))
    cases t with
    | false => exact q
    | true => exact Post.bind2 (show Post ((ev C c env _).bind _) _ _ from q) fun _ _ q => q.mapO
  · cases h
theorem t_chn {o o' : Cp} {a b c : N} (ia : Snd g fr C a) (ib : Snd g fr C b) (ic : Snd g fr C c) (x : XOk g C s X W) (e : Expr) (h : chkT s (.chn o o' a b c) e = true) : PT X e (tTs g fr W C (.chn o o' a b c)) := by
  unfold chkT at h
  split at h
  · simp only [Bool.and_eq_true, decide_eq_true_eq] at h
    obtain ⟨⟨⟨⟨⟨⟨rfl, rfl⟩, h0⟩, h0'⟩, h1⟩, h2⟩, h3⟩ := h
    have hu : X.A.units + 64 < cLine := by have := x.un; omega
    refine PT.imp (pt_chain (op_cmp x.K hu o) (op_cmp x.K hu o') (ia.e x true _ h1) (ib.e x true _ h2) (ic.e x true _ h3) (plain_mark h0' _)) fun σ H Q ⟨w, env, S, G, P⟩ => ?_
    rw [evT] at P
    exact chain_ ia ib ic x G P fun c S2 w2 H2 G2 E2 k => ⟨c, rfl, k w2 H2 c G2 E2 rfl⟩
  · cases h

theorem e_vand {a b : N} (ia : Snd g fr C a) (ib : Snd g fr C b) (x : XOk g C s X W) (p : Bool) (e : Expr) (h : chk s p (.vand a b) e = true) : PE X e (tQ g fr W C p (.vand a b)) := by
  unfold chk at h
  split at h
  · rename_i l y r pos
    rw [Bool.and_eq_true] at h
    obtain ⟨h1, h2⟩ := h
    have hb : PE X (.BoolOp .And (y :: r) pos) (tQ g fr W C false b) := by
      cases r with
      | nil => exact pe_one (ib.e x false _ h2)
      | cons z r => exact ib.e x false _ h2
    refine PE.imp (pe_and (ia.e x true _ h1) hb) fun σ H Q ⟨w, env, S, G, P⟩ => ?_
    rw [ev] at P
    refine one_ G P fun d1 S1 w1 H1 v1 G1 E1 R1 P1 => ?_
    split at P1
    · cases R1.t.bl
      refine ⟨true, rfl, ?_⟩
      rw [if_pos rfl]
      exact ⟨w1, env, S1, G1, P1.imp (fun d S2 k w2 H2 v2 G2 E2 R2 => k w2 H2 v2 G2 (E1.trans E2) (.of R2)) fun _ _ _ x => x⟩
    · cases R1.t.bl
      refine ⟨false, rfl, ?_⟩
      rw [if_neg Bool.false_ne_true]
      exact P1 w1 H1 _ G1 E1 (.of (.bl false))
    · exact P1.elim
  · cases h
theorem e_vor {a b : N} (ia : Snd g fr C a) (ib : Snd g fr C b) (x : XOk g C s X W) (p : Bool) (e : Expr) (h : chk s p (.vor a b) e = true) : PE X e (tQ g fr W C p (.vor a b)) := by
  unfold chk at h
  split at h
  · rename_i l y r pos
    rw [Bool.and_eq_true] at h
    obtain ⟨h1, h2⟩ := h
    have hb : PE X (.BoolOp .Or (y :: r) pos) (tQ g fr W C false b) := by
      cases r with
      | nil => exact pe_one (ib.e x false _ h2)
      | cons z r => exact ib.e x false _ h2
    refine PE.imp (pe_or (ia.e x true _ h1) hb) fun σ H Q ⟨w, env, S, G, P⟩ => ?_
    rw [ev] at P
    refine one_ G P fun d1 S1 w1 H1 v1 G1 E1 R1 P1 => ?_
    split at P1
    · cases R1.t.bl
      refine ⟨true, rfl, ?_⟩
      rw [if_pos rfl]
      exact P1 w1 H1 _ G1 E1 (.of (.bl true))
    · cases R1.t.bl
      refine ⟨false, rfl, ?_⟩
      rw [if_neg Bool.false_ne_true]
      exact ⟨w1, env, S1, G1, P1.imp (fun d S2 k w2 H2 v2 G2 E2 R2 => k w2 H2 v2 G2 (E1.trans E2) (.of R2)) fun _ _ _ x => x⟩
    · exact P1.elim
  · cases h
theorem e_vnot {a : N} (ia : Snd g fr C a) (x : XOk g C s X W) (p : Bool) (e : Expr) (h : chk s p (.vnot a) e = true) : PE X e (tQ g fr W C p (.vnot a)) := by
  unfold chk at h
  split at h
  · refine PE.imp (pe_not (ia.e x true _ h)) fun σ H Q ⟨w, env, S, G, P⟩ => ?_
    rw [ev] at P
    refine one_ G P fun d1 S1 w1 H1 v1 G1 E1 R1 P1 => ?_
    split at P1
    · rename_i k
      cases R1.t.bl
      exact ⟨k, rfl, P1 w1 H1 _ G1 E1 (.of (.bl _))⟩
    · exact P1.elim
  · cases h
theorem e_ite {c a b : N} (ic : Snd g fr C c) (ia : Snd g fr C a) (ib : Snd g fr C b) (x : XOk g C s X W) (p : Bool) (e : Expr) (h : chk s p (.ite c a b) e = true) : PE X e (tQ g fr W C p (.ite c a b)) := by
  unfold chk at h
  split at h
  · simp only [Bool.and_eq_true] at h
    refine PE.imp (pe_ifExp (ic.t x _ h.1.1) (ia.e x false _ h.1.2) (ib.e x false _ h.2)) fun σ H Q ⟨w, env, S, G, P⟩ => ?_
    rw [ev] at P
    refine tG.one G P fun t S1 w1 H1 t' G1 E1 R1 P1 => ?_
    cases R1
    cases t with
    | true =>
      rw [if_pos rfl] at P1 ⊢
      exact ⟨w1, env, S1, G1, P1.imp (fun d S2 k w2 H2 v2 G2 E2 R2 => k w2 H2 v2 G2 (E1.trans E2) (.of R2)) fun _ _ _ x => x⟩
    | false =>
      rw [if_neg Bool.false_ne_true] at P1 ⊢
      exact ⟨w1, env, S1, G1, P1.imp (fun d S2 k w2 H2 v2 G2 E2 R2 => k w2 H2 v2 G2 (E1.trans E2) (.of R2)) fun _ _ _ x => x⟩
  · cases h
theorem plainIx {b : Expr} (h : noSlB b = true) : PlainIx b := by
  intro o i
  cases b <;> first
    | rfl
    | cases h
theorem e_idx {a b : N} (ia : Snd g fr C a) (ib : Snd g fr C b) (x : XOk g C s X W) (p : Bool) (e : Expr) (h : chk s p (.idx a b) e = true) : PE X e (tQ g fr W C p (.idx a b)) := by
  unfold chk at h
  split at h
  · simp only [Bool.and_eq_true] at h
    refine PE.imp (pe_ix (ix_any x.K) (ia.e x true _ h.1.2) (ib.e x true _ h.2) (plainIx h.1.1)) fun σ H Q ⟨w, env, S, G, P⟩ => ?_
    rw [ev] at P
    refine one_ G P fun d1 S1 w1 H1 v1 G1 E1 R1 P1 => one_ G1 P1 fun d2 S2 w2 H2 v2 G2 E2 R2 P2 => ?_
    obtain ⟨d, e1, q⟩ := P2.ofO
    exact ⟨w2, S2, d1, d2, d, G2.wok, (R1.ext G1.wok E2).t, R2.t, e1, fun z r => q w2 H2 z G2 (E1.trans E2) (.of r)⟩
  · cases h
theorem e_slc {a lo hi : N} (ia : Snd g fr C a) (il : Snd g fr C lo) (ih : Snd g fr C hi) (x : XOk g C s X W) (p : Bool) (e : Expr) (h : chk s p (.slc a lo hi) e = true) : PE X e (tN g fr W C true (.slc a lo hi)) := by
  unfold chk at h
  split at h
  · simp only [Bool.and_eq_true] at h
    refine PE.imp (pe_slice (sl_any x.K) (ia.e x true _ h.1.1) (il.o x _ h.1.2) (ih.o x _ h.2)) fun σ H Q ⟨w, env, S, G, P⟩ => ?_
    rw [ev] at P
    refine one_ G P fun d1 S1 w1 H1 v1 G1 E1 R1 P1 => tG.one G1 P1 fun l S2 w2 H2 l' G2 E2 R2 P2 => tG.one G2 P2 fun u S3 w3 H3 u' G3 E3 R3 P3 => ?_
    cases R2; cases R3
    obtain ⟨d, e1, q⟩ := P3.ofO
    exact ⟨w3, S3, d1, d, G3.wok, ((R1.ext G1.wok E2).ext G2.wok E3).t, e1, fun w' H' z o => q w' H' z (o.trans ((E1.trans E2).trans E3))⟩
  · cases h
theorem get_cell {w : Wd} {H : Hp} {S : Store} (k : WOk g w H S) {n : Nat} {a : Addr} {kvs : List (Key × D)} (h1 : w.mu[n]? = some a) (h2 : S[n]? = some (.dct kvs)) :
    ∃ kus : List (Key × V), H a = some (.dK kus) ∧ kvs.map (·.1) = kus.map (·.1) ∧ Reps g H w (kvs.map (·.2)) (kus.map (·.2)) := by
  cases k.cell n a _ h1 h2 with
  | dct h e r => exact ⟨_, h, e, r⟩
theorem getK_val {w : Wd} {H : Hp} {k : Key} : ∀ {kvs : List (Key × D)} {kus : List (Key × V)} {d : D}, kvs.map (·.1) = kus.map (·.1) → Reps g H w (kvs.map (·.2)) (kus.map (·.2)) → getK kvs k = some d → ∃ v, valV kus k = some v ∧ Rep g H w d v
  | [], _, d, _, _, h => by cases h
  | p :: r, [], d, e, _, _ => by cases e
  | p :: r, q :: t, d, e, rs, h => by
    simp only [List.map_cons, List.cons.injEq] at e
    rw [List.map_cons, List.map_cons] at rs
    cases rs with
    | cons r1 r2 =>
      by_cases z : p.1 = k
      · have h' : some p.2 = some d := by
          rw [← h]
          simp [getK, List.find?_cons, z]
        cases h'
        exact ⟨q.2, valV_pos (by rw [← e.1]; exact z), r1⟩
      · have h' : getK r k = some d := by
          rw [← h]
          simp [getK, List.find?_cons, z]
        obtain ⟨v, e1, e2⟩ := getK_val e.2 r2 h'
        exact ⟨v, by rw [valV_neg (by rw [← e.1]; exact z)]; exact e1, e2⟩
theorem e_dget {d : N} {k : Str} (ia : Snd g fr C d) (x : XOk g C s X W) (p : Bool) (e : Expr) (h : chk s p (.dget d k) e = true) : PE X e (tQ g fr W C p (.dget d k)) := by
  unfold chk at h
  split at h
  · simp only [Bool.and_eq_true, decide_eq_true_eq] at h
    obtain ⟨rfl, h⟩ := h
    refine PE.imp (pe_dget (by have := x.un; omega) (ia.e x true _ h) pe_str (fun _ _ => rfl)) fun σ H Q ⟨w, env, S, G, P⟩ => ?_
    rw [ev] at P
    refine one_ G P fun d1 S1 w1 H1 v1 G1 E1 R1 P1 => ?_
    obtain ⟨dv, e1, q⟩ := P1.ofO
    unfold dGet at e1
    split at e1
    · rename_i n
      split at e1
      · rename_i kvs hS
        obtain ⟨a, rfl, ha⟩ := Rep.ref_ R1.t
        obtain ⟨kus, hH, ek, rk⟩ := get_cell G1.wok ha hS
        obtain ⟨v, e2, r2⟩ := getK_val ek rk e1
        exact ⟨a, v, rfl, by rw [← e2]; exact DGet.k (k := keyStr k) hH, q w1 H1 v G1 E1 (.of r2)⟩
      · cases e1
    · cases e1
  · cases h

theorem star_ok {e : Expr} {es : List Expr} {env : PySem.Env} (h : notStar e = true) : starEach (e :: es) env = (false, eval e env) :: starEach es env := by
  cases e <;> first
    | rfl
    | cases h
theorem star_all {p : Bool} : ∀ {n : N} {es : List Expr} {env : PySem.Env} {pos : Pos}, chks s p n es = true → (backTo pos (starEach es env)).any (·.1) = false := by
  intro n
  induction n with
  | nil =>
    intro es env pos h
    unfold chks at h
    split at h
    · rfl
    · cases h
  | cons a b _ ih =>
    intro es env pos h
    unfold chks at h
    split at h
    · simp only [Bool.and_eq_true] at h
      rw [star_ok h.1.1]
      show (false || (backTo pos (starEach _ env)).any (·.1)) = false
      rw [ih h.2]
      rfl
    · cases h
  | _ =>
    intro es env pos h
    unfold chks at h
    cases h
theorem evs_cons {a b : N} {e : Expr} {es : List Expr} {p : Bool} (h : chks s p (.cons a b) (e :: es) = true) : notStar e = true ∧ chk s p a e = true ∧ chks s p b es = true := by
  unfold chks at h
  simp only [Bool.and_eq_true] at h
  exact ⟨h.1.1, h.1.2, h.2⟩
theorem as_nil {p : Bool} {es : List Expr} (h : chks s p .nil es = true) : PA X es (tQs g fr W C p .nil) := by
  unfold chks at h
  split at h
  · refine PA.imp pa_nil fun σ H Q ⟨w, env, S, G, P⟩ => ?_
    rw [evs] at P
    refine P w H [] G .refl ?_
    unfold RepPs
    split
    · exact .nil
    · exact .nil
  · cases h
theorem RepPs.cons {p : Bool} {H : Hp} {w : Wd} {d : D} {v : V} {ds : List D} {vs : List V} (h : RepP g p H w d v) (t : RepPs g p H w ds vs) : RepPs g p H w (d :: ds) (v :: vs) := by
  cases p with
  | true => exact RepTs.cons h t
  | false => exact Reps.cons h t
theorem as_cons {a b : N} (ia : Snd g fr C a) (ib : Snd g fr C b) (x : XOk g C s X W) (p : Bool) (es : List Expr) (h : chks s p (.cons a b) es = true) : PA X es (tQs g fr W C p (.cons a b)) := by
  cases es with
  | nil => unfold chks at h; cases h
  | cons e es =>
    obtain ⟨h0, h1, h2⟩ := evs_cons h
    refine PA.imp (pa_cons (ia.e x p _ h1) (ib.as x p _ h2) (star_ok h0)) fun σ H Q ⟨w, env, S, G, P⟩ => ?_
    rw [evs] at P
    refine one_ G P fun d1 S1 w1 H1 v1 G1 E1 R1 P1 => tG.one G1 P1 fun ds S2 w2 H2 vs G2 E2 R2 P2 => ?_
    exact P2 w2 H2 _ G2 (E1.trans E2) (.cons (R1.ext G1.wok E2) R2)
theorem kw_nil {es : List Keyword} (h : chkw s .nil es = true) : PK X es (tQs g fr W C false .nil) := by
  unfold chkw at h
  split at h
  · refine ⟨fun pos pins st σ H Q I ⟨w, env, S, G, P⟩ => pk_nil.run pos pins st σ H Q I ?_⟩
    rw [evs] at P
    exact P w H [] G .refl (show Reps g H w [] [] from .nil)
  · cases h
theorem kw_cons {a b : N} (ia : Snd g fr C a) (ib : Snd g fr C b) (x : XOk g C s X W) (es : List Keyword) (h : chkw s (.cons a b) es = true) : PK X es (tQs g fr W C false (.cons a b)) := by
  unfold chkw at h
  split at h
  · rename_i nm e kpos es
    simp only [Bool.and_eq_true] at h
    refine ⟨fun pos pins st σ H Q I ⟨w, env, S, G, P⟩ => (pk_cons (nm := some nm) (kpos := kpos) (ia.e x false _ h.1) (ib.kw x _ h.2)).run pos pins st σ H Q I ?_⟩
    rw [evs] at P
    refine one_ G P fun d1 S1 w1 H1 v1 G1 E1 R1 P1 => tG.one G1 P1 fun ds S2 w2 H2 vs G2 E2 R2 P2 => ?_
    exact P2 w2 H2 _ G2 (E1.trans E2) (.cons (R1.ext G1.wok E2) R2)
  · cases h
theorem o_nil {e : Option Expr} (h : chkO s .nil e = true) : PO X e (tOp' g fr W C .nil) := by
  unfold chkO at h
  split at h
  · refine PO.imp po_none fun σ H Q ⟨w, env, S, G, P⟩ => ?_
    rw [evO] at P
    exact P w H none G .refl rfl
  · cases h
theorem o_cons {a b : N} (ia : Snd g fr C a) (x : XOk g C s X W) {e : Option Expr} (h : chkO s (.cons a b) e = true) : PO X e (tOp' g fr W C (.cons a b)) := by
  cases b with
  | nil =>
    unfold chkO at h
    split at h
    · refine PO.imp (po_some (ia.e x true _ h)) fun σ H Q ⟨w, env, S, G, P⟩ => ?_
      rw [evO] at P
      refine one_ G P fun d1 S1 w1 H1 v1 G1 E1 R1 P1 => ?_
      split at P1
      · rename_i i
        cases R1.t.int
        exact ⟨i, rfl, P1 w1 H1 (some i) G1 E1 rfl⟩
      · exact P1.elim
    · cases h
  | _ => unfold chkO at h; cases h

/-! ### tests -/
theorem t_tv {a : N} (ia : Snd g fr C a) (x : XOk g C s X W) (e : Expr) (h : chkT s (.tv a) e = true) : PT X e (tTs g fr W C (.tv a)) := by
  unfold chkT at h
  rw [Bool.and_eq_true] at h
  obtain ⟨h1, h2⟩ := h
  have he : ∀ whole, isTrue e X.env whole = (do let v ← whole; standAt e.pos; holding [v] (PySem.truthy v)) := fun whole => by
    cases e with
    | UnaryOp op a pos => cases op <;> first | rfl | cases h1
    | _ => first | rfl | cases h1
  refine PT.imp (pt_truth (ia.e x true _ h2) he) fun σ H Q ⟨w, env, S, G, P⟩ => ?_
  rw [evT] at P
  refine one_ G P fun d1 S1 w1 H1 v1 G1 E1 R1 P1 => ?_
  obtain ⟨b, e1, q⟩ := P1.ofO
  exact ⟨b, by rw [x.K]; exact truthy_tru R1.t e1, q w1 H1 b G1 E1 rfl⟩
theorem t_tnot {a : N} (ia : Snd g fr C a) (x : XOk g C s X W) (e : Expr) (h : chkT s (.tnot a) e = true) : PT X e (tTs g fr W C (.tnot a)) := by
  unfold chkT at h
  split at h
  · refine PT.imp (pt_not (ia.t x _ h)) fun σ H Q ⟨w, env, S, G, P⟩ => ?_
    rw [evT] at P
    refine tG.one G P fun t S1 w1 H1 t' G1 E1 R1 P1 => ?_
    cases R1
    exact P1 w1 H1 _ G1 E1 rfl
  · cases h
theorem tw_tand {a b : N} (ia : Snd g fr C a) (ib : Snd g fr C b) (x : XOk g C s X W) (op : BoolOp) (es : List Expr) (pos : Pos) (h : chkT s (.tand a b) (.BoolOp op es pos) = true) : PW X (.BoolOp op es pos) (tTs g fr W C (.tand a b)) := by
  unfold chkT at h
  split at h
  · rename_i l y r pos' e0
    cases e0
    rw [Bool.and_eq_true] at h
    obtain ⟨h1, h2⟩ := h
    have hb : PW X (.BoolOp .And (y :: r) pos) (tTs g fr W C b) := by
      cases r with
      | nil => exact pw_and1 (ib.t x _ h2)
      | cons z r => exact ib.tw x _ _ _ h2
    refine PW.imp (pw_and (ia.t x _ h1) hb) fun σ H Q ⟨w, env, S, G, P⟩ => ?_
    rw [evT] at P
    refine tG.one G P fun t S1 w1 H1 t' G1 E1 R1 P1 => ?_
    cases R1
    cases t with
    | true =>
      rw [if_pos rfl] at P1 ⊢
      exact ⟨w1, env, S1, G1, P1.imp (fun d S2 k w2 H2 v2 G2 E2 R2 => k w2 H2 v2 G2 (E1.trans E2) R2) fun _ _ _ x => x⟩
    | false =>
      rw [if_neg Bool.false_ne_true] at P1 ⊢
      exact P1 w1 H1 false G1 E1 rfl
  · cases h
theorem tw_tor {a b : N} (ia : Snd g fr C a) (ib : Snd g fr C b) (x : XOk g C s X W) (op : BoolOp) (es : List Expr) (pos : Pos) (h : chkT s (.tor a b) (.BoolOp op es pos) = true) : PW X (.BoolOp op es pos) (tTs g fr W C (.tor a b)) := by
  unfold chkT at h
  split at h
  · rename_i l y r pos' e0
    cases e0
    rw [Bool.and_eq_true] at h
    obtain ⟨h1, h2⟩ := h
    have hb : PW X (.BoolOp .Or (y :: r) pos) (tTs g fr W C b) := by
      cases r with
      | nil => exact pw_or1 (ib.t x _ h2)
      | cons z r => exact ib.tw x _ _ _ h2
    refine PW.imp (pw_or (ia.t x _ h1) hb) fun σ H Q ⟨w, env, S, G, P⟩ => ?_
    rw [evT] at P
    refine tG.one G P fun t S1 w1 H1 t' G1 E1 R1 P1 => ?_
    cases R1
    cases t with
    | true =>
      rw [if_pos rfl] at P1 ⊢
      exact P1 w1 H1 true G1 E1 rfl
    | false =>
      rw [if_neg Bool.false_ne_true] at P1 ⊢
      exact ⟨w1, env, S1, G1, P1.imp (fun d S2 k w2 H2 v2 G2 E2 R2 => k w2 H2 v2 G2 (E1.trans E2) R2) fun _ _ _ x => x⟩
  · cases h
theorem bool_of {a b : N} {e : Expr} (h : chkT s (.tand a b) e = true ∨ chkT s (.tor a b) e = true) : ∃ op es pos, e = .BoolOp op es pos := by
  cases e with
  | BoolOp op es pos => exact ⟨op, es, pos, rfl⟩
  | _ =>
    rcases h with h | h
    · unfold chkT at h; cases h
    · unfold chkT at h; cases h

/-! ### built-in functions -/
theorem biBoot (b : Bi) (h : b ≠ .gcd) : bootBuiltins (biOf b) = some (biV b) := by
  cases b <;> first
    | exact absurd rfl h
    | decide +kernel
theorem e_bi {b : Bi} {es : N} (ih : Snd g fr C es) (x : XOk g C s X W) (e : Expr) (h : chk s false (.bi b es) e = true ∨ chk s true (.bi b es) e = true) : PE X e (tN g fr W C (decide (b = .list ∨ b = .sorted)) (.bi b es)) := by
  have h' : chk s true (.bi b es) e = true := by
    rcases h with h | h
    · unfold chk at h ⊢; exact h
    · exact h
  unfold chk at h'
  split at h'
  · rename_i f fp y ys pos
    simp only [Bool.and_eq_true, decide_eq_true_eq] at h'
    obtain ⟨⟨⟨⟨hn, hg⟩, ho⟩, hf⟩, hs⟩ := h'
    subst hn
    have ha := ih.as x true _ hs
    have sp : starEach (y :: ys) X.env = (false, eval y X.env) :: starEach ys X.env := by
      cases es with
      | cons a b => exact star_ok (evs_cons hs).1
      | _ => unfold chks at hs; cases hs
    have sq : (backTo pos (starEach ys X.env)).any (·.1) = false := by
      cases es with
      | cons a b => exact star_all (evs_cons hs).2.2
      | _ => unfold chks at hs; cases hs
    have rule := builtin_ok x.K x.calm x.gd (by have := x.un; omega) b
    have go : PE X (.Call (.Name (biOf b) fp) (y :: ys) [] pos) (tCB (rBi g b) (tQs g fr W C true es)) := by
      by_cases hb : b = .gcd
      · subst hb
        rw [if_pos rfl] at hf
        exact pe_callBfun rule (x.gl hg) (x.gcd hf) ha (okN_dbg ho) sp sq
      · rw [if_neg hb] at hf
        have hm := x.free _ hf
        have hv := biBoot b hb
        cases b <;> first
          | exact absurd rfl hb
          | exact pe_callB rule (x.gl hg) hm hv ha (okN_nm ho) (okN_dbg ho) sp sq
          | exact pe_callTy rule (x.gl hg) hm hv ha (okN_nm ho) (okN_dbg ho) sp sq
    refine PE.imp go fun σ H Q ⟨w, env, S, G, P⟩ => ?_
    rw [ev] at P
    refine tG.one G P fun ds S1 w1 H1 vs G1 E1 R1 P1 => ?_
    obtain ⟨d, e1, q⟩ := P1.ofO
    exact ⟨w1, S1, ds, d, G1.wok, R1, e1, fun w' H' z o => q w' H' z (o.trans E1)⟩
  · cases h'
end
end Fx

set_option maxHeartbeats 4000000
/-! Fx7b: isinstance, calls, displays of dicts. -/
namespace Fx
open PySem PySem.Spec PyProof.Rows L2
section
variable {g : G} {fr : Frm} {W : WX} {C : Ev} {s : Sc} {X : Cx}

/-! ### isinstance -/
theorem tyB_of {t : String} (h : tyB t = true) : t = "int" ∨ t = "bool" ∨ t = "str" ∨ t = "tuple" ∨ t = "list" := by
  unfold tyB at h
  simpa using h
theorem tyBoot {t : String} (h : tyB t = true) : bootBuiltins (Str.ofString t) = some (.type t) := by
  rcases tyB_of h with rfl | rfl | rfl | rfl | rfl <;> decide +kernel
def tyN : D → String
  | .non => "NoneType" | .bl _ => "bool" | .int _ => "int" | .str _ => "str" | .tup _ => "tuple" | .lst _ => "list" | .ref _ => "dict" | _ => ""
theorem kits {d : D} {t : String} {b : Bool} (h : tyB t = true) (e : isTy d t = some b) : kitB (tyN d) t = some b := by
  cases d <;> first
    | (cases e; rcases tyB_of h with rfl | rfl | rfl | rfl | rfl <;> (simp only [tyN]; decide +kernel))
    | cases e
theorem tyOf_rep {w : Wd} {H : Hp} {S : Store} {d : D} {v : V} {t : String} {b : Bool} (k : WOk g w H S) (r : RepT g H w d v) (e : isTy d t = some b) : TyX g.K H v (.type (tyN d)) := by
  cases d with
  | non => cases r.non; exact .base .non
  | bl c => cases r.bl; exact .base (.bl c)
  | int i => cases r.int; exact .base (.int i)
  | str z => cases r.str; exact .base (.str z)
  | tup xs =>
    obtain ⟨a, vs, rfl, ha, _⟩ := r.tup
    rcases ha with (ha | ⟨o, ha⟩) | ⟨o, its, n, hk, hc, _⟩
    · exact .base (.tup ha)
    · exact .fTuple ha
    · exact .kTuple hk hc
  | lst xs =>
    obtain ⟨a, vs, rfl, ha, _⟩ := r.lst
    rcases ha with ha | ⟨o, ha⟩
    · exact .base (.lst ha)
    · exact .base (.frz ha)
  | ref n =>
    obtain ⟨a, rfl, hn⟩ := Rep.ref_ r
    obtain ⟨u, q⟩ := k.dict (List.mem_of_getElem? hn)
    exact .base (.dK q)
  | _ => cases e
theorem e_isi {a : N} {t : String} (ia : Snd g fr C a) (x : XOk g C s X W) (p : Bool) (e : Expr) (h : chk s p (.isi a t) e = true) : PE X e (tQ g fr W C p (.isi a t)) := by
  unfold chk at h
  split at h
  · rename_i f fp y z zp pos
    simp only [Bool.and_eq_true, decide_eq_true_eq] at h
    obtain ⟨⟨⟨⟨⟨⟨⟨⟨rfl, hg⟩, hf⟩, h1⟩, hg2⟩, hf2⟩, ho⟩, rfl⟩, ht⟩ := h
    have hz : PE X (.Name (Str.ofString t) zp) (tC (.ty t)) := pe_bltn (x.gl hg2) (x.free _ hf2) (tyBoot ht) rfl (okN_nm ho) (okN_dbg ho)
    have hst : notStar y = true := by
      cases y <;> first
        | rfl
        | (cases a <;> (unfold chk at h1; cases h1))
    have rule : CallR X (.builtin "isinstance") (rIsi X.K) := call_isi
    refine PE.imp (pe_callB rule (x.gl hg) (x.free _ hf) (by decide +kernel) (pa_cons (ia.e x true _ h1) (pa_cons hz pa_nil) (star_ok hst)) (by decide) (by decide) (star_ok hst) (by rfl)) fun σ H Q ⟨w, env, S, G, P⟩ => ?_
    rw [ev] at P
    refine one_ G P fun d1 S1 w1 H1 v1 G1 E1 R1 P1 => ?_
    obtain ⟨b, e1, q⟩ := P1.mapO.ofO
    have T := tyOf_rep G1.wok R1.t e1
    rw [← x.K] at T
    exact ⟨v1, .ty t, _, _, b, rfl, .ty t, T, kit_ty (kits ht e1), q w1 H1 _ G1 E1 (.of (.bl b))⟩
  · cases h

/-! ### calls -/
theorem Reps.pick {w : Wd} {H : Hp} {ds : List D} {vs : List V} (r : Reps g H w ds vs) : ∀ {ix : List Nat} {es : List D}, pickIx ix ds = some es → ∃ zs, Reps g H w es zs ∧ zs = ix.filterMap fun i => vs[i]?
  | [], es, h => by
    cases h
    exact ⟨[], .nil, rfl⟩
  | i :: ix, es, h => by
    unfold pickIx at h
    rw [List.mapM_cons] at h
    cases q : ds[i]? with
    | none => rw [q] at h; cases h
    | some d =>
      rw [q] at h
      cases q2 : ix.mapM (fun i => ds[i]?) with
      | none =>
        rw [q2] at h; cases h
      | some es2 =>
        rw [q2] at h
        cases h
        obtain ⟨v, hv, rv⟩ := r.get q
        obtain ⟨zs, r2, e2⟩ := Reps.pick r (ix := ix) q2
        exact ⟨v :: zs, .cons rv r2, by rw [List.filterMap_cons, hv, e2]⟩
theorem Vals.pick {vs : List V} {us : List Value} (r : Vals vs us) : ∀ ix : List Nat, Vals (ix.filterMap fun i => vs[i]?) (reord ix us)
  | [] => .nil
  | i :: ix => by
    unfold reord
    rw [List.filterMap_cons, List.filterMap_cons]
    cases q : vs[i]? with
    | none =>
      rw [r.none_of q]
      exact Vals.pick r ix
    | some v =>
      obtain ⟨u, hu, ru⟩ := r.get q
      rw [hu]
      exact .cons ru (Vals.pick r ix)
theorem pick_len {ix : List Nat} {ds es : List D} (h : pickIx ix ds = some es) : es.length = ix.length := by
  induction ix generalizing es with
  | nil => cases h; rfl
  | cons i ix ih =>
    unfold pickIx at h ih
    rw [List.mapM_cons] at h
    cases q : ds[i]? with
    | none => rw [q] at h; cases h
    | some d =>
      rw [q] at h
      cases q2 : ix.mapM (fun i => ds[i]?) with
      | none => rw [q2] at h; cases h
      | some es2 => rw [q2] at h; cases h; rw [List.length_cons, List.length_cons, ih q2]
theorem ixOf_len {ps : List Str} {n : Nat} {ks : List Str} : (ixOf ps n ks).length = ps.length := by
  unfold ixOf
  rw [List.length_map, List.length_range]
theorem kws_some {kws : List Keyword} {env : PySem.Env} {pos : Pos} : ∀ {n : N}, chkw s n kws = true → (backToKw pos (keywordEach kws env)).all (·.1.isSome) = true ∧ (backToKw pos (keywordEach kws env)).filterMap (·.1) = kws.filterMap (·.arg) ∧ (backToKw pos (keywordEach kws env)).any (·.1.isNone) = false ∧ (kws.filterMap (·.arg)).length = kws.length := by
  induction kws with
  | nil => intro n _; exact ⟨rfl, rfl, rfl, rfl⟩
  | cons k kws ih =>
    intro n h
    cases n with
    | cons a b =>
      unfold chkw at h
      split at h
      · rename_i nm e kpos es e0
        cases e0
        simp only [Bool.and_eq_true] at h
        obtain ⟨h1, h2, h3, h4⟩ := ih h.2
        refine ⟨?_, ?_, ?_, ?_⟩
        · show (true && (backToKw pos (keywordEach kws env)).all (·.1.isSome)) = true
          rw [h1]; rfl
        · show nm :: (backToKw pos (keywordEach kws env)).filterMap (·.1) = nm :: kws.filterMap (·.arg)
          rw [h2]
        · show (false || (backToKw pos (keywordEach kws env)).any (·.1.isNone)) = false
          rw [h3]; rfl
        · show (nm :: kws.filterMap (·.arg)).length = kws.length + 1
          rw [List.length_cons, h4]
      · cases h
    | nil => unfold chkw at h; cases h
    | _ => unfold chkw at h; cases h
theorem len_evk : ∀ {n : N} {es : List Keyword} {env : Env} {S S' : Store} {ds : List D}, chkw s n es = true → evs C n env S = .ok ds S' → ds.length = es.length := by
  intro n
  induction n with
  | nil =>
    intro es env S S' ds h e
    unfold chkw at h
    split at h
    · rw [evs] at e; cases e; rfl
    · cases h
  | cons a b _ ih =>
    intro es env S S' ds h e
    unfold chkw at h
    split at h
    · simp only [Bool.and_eq_true] at h
      rw [evs] at e
      cases q1 : ev C a env S with
      | ok d S1 =>
        rw [q1] at e
        simp only [Res.bind_ok] at e
        cases q2 : evs C b env S1 with
        | ok ds2 S2 =>
          rw [q2] at e
          cases e
          rw [List.length_cons, List.length_cons, ih h.2 q2]
        | ex => rw [q2] at e; cases e
        | st => rw [q2] at e; cases e
      | ex => rw [q1] at e; cases e
      | st => rw [q1] at e; cases e
    · cases h
  | _ =>
    intro es env S S' ds h e
    unfold chkw at h
    cases h
/-- an argument list with its length -/
theorem part_ {n : N} {m : Nat} {α : Type} {r2 : List D → Store → Res α} {K : α → Store → Prop} {σ : L2.St} {H : Hp} {w : Wd} {env : Env} {S : Store} {Q : List V → Hp → Prop}
    (hl : ∀ ds S', evs C n env S = .ok ds S' → ds.length = m) (G0 : Good g fr σ H w env S) (P : Post ((evs C n env S).bind r2) K (XX g fr W σ env w H))
    (h : ∀ ds S1 w1 H1 vs, Good g fr σ H1 w1 env S1 → Ext w H w1 H1 → Reps g H1 w1 ds vs → vs.length = m → Post (r2 ds S1) K (XX g fr W σ env w1 H1) → Q vs H1) : tQs g fr W C false n σ H Q := by
  refine ⟨w, env, S, G0, P.bind.ok.imp (fun ds S1 k w1 H1 vs G1 E1 R1 => ?_) fun _ _ _ x => x⟩
  have R1 : Reps g H1 w1 ds vs := R1
  exact h ds S1 w1 H1 vs G1 E1 R1 (by rw [← R1.length]; exact hl _ _ k.1) (k.2.imp (fun _ _ k => k) fun _ _ _ x => x.ext E1)
theorem e_call {f : Str} {es ks : N} {ix : List Nat} (ie : Snd g fr C es) (ik : Snd g fr C ks) (x : XOk g C s X W) (p : Bool) (e : Expr) (h : chk s p (.call f es ks ix) e = true) : PE X e (tQ g fr W C p (.call f es ks ix)) := by
  unfold chk at h
  split at h
  · rename_i fn fp xs kws pos
    simp only [Bool.and_eq_true, decide_eq_true_eq] at h
    obtain ⟨⟨⟨rfl, hg⟩, ho⟩, h⟩ := h
    split at h
    · rename_i ps hps
      simp only [Bool.and_eq_true, decide_eq_true_eq] at h
      obtain ⟨⟨⟨h1, h2⟩, hb⟩, rfl⟩ := h
      obtain ⟨a, fd, k, hm, hk, hr, _, F, _, bind⟩ := (x.fns _ _ hps).ex
      obtain ⟨k1, k2, k3, k4⟩ := kws_some (env := X.env) (pos := pos) h2
      refine ⟨fun pins st σ H Q I q => ?_⟩
      obtain ⟨w, env, S, G, P⟩ := q
      rw [ev] at P
      refine wpAny_Call_Name_kw (ld_glob I (x.gl hg) hm ?_ (okN_dbg ho))
      -- behind the arguments
      have fin : ∀ {us ws : List Value} {st2 : Shared} {vs zs : List V} {ds dk : List D} {w2 : Wd} {H2 : Hp} {S2 : Store}, L2.Inv X pins σ H2 st2 → Vals vs us → Vals zs ws → Good g fr σ H2 w2 env S2 → Ext w H w2 H2 → Reps g H2 w2 ds vs → Reps g H2 w2 dk zs → us.length = xs.length → ws.length = kws.length →
          Post (match pickIx (ixOf ps xs.length (kws.filterMap (·.arg))) (ds ++ dk) with | some ds => C.call f ds S2 | none => .st) (fun d S' => ∀ w' H' b, Good g fr σ H' w' env S' → Ext w H w' H' → RepP g p H' w' d b → Q b H') (XX g fr W σ env w2 H2) →
          wpAny (model X.prog X.w) X.A (call (.ref a) us ((kws.filterMap (·.arg)).zip ws)) (EP X pins σ Q) X.xe st2 := by
        intro us ws st2 vs zs ds dk w2 H2 S2 I2 rv rz G2 E2 R2 R3 l1 l2 P2
        split at P2
        · rename_i ds' hp
          obtain ⟨ys, ry, ey⟩ := (R2.append R3).pick hp
          have rv2 := Fx.Vals.pick (rv.append rz) (ixOf ps xs.length (kws.filterMap (·.arg)))
          rw [← ey] at rv2
          have bd := bind st2 us ws (kws.filterMap (·.arg)) (by rw [l1]; exact hb) (by rw [l2, k4])
          rw [l1] at bd
          have hl : ys.length = ps.length := by rw [← ry.length, pick_len hp, ixOf_len]
          refine run_fr (us := us) (ws := ws) (ks := kws.filterMap (·.arg)) x hr F I2 (by rw [l1]; exact bd) (by rw [l1]; exact rv2) hl G2 ry ?_
          exact P2.imp (fun d S' k w' H' v G' E' r => k w' H' v G' (E2.trans E') (.of r)) fun _ _ _ x => x
        · exact P2.elim
      cases xs with
      | nil =>
        have e0 : es = .nil := by
          cases es <;> first
            | rfl
            | (unfold chks at h1; cases h1)
        subst e0
        cases kws with
        | nil =>
          have e1 : ks = .nil := by
            cases ks <;> first
              | rfl
              | (unfold chkw at h2; cases h2)
          subst e1
          rw [evs, Res.bind_ok] at P
          rw [evs, Res.bind_ok] at P
          refine PySem.W.callWith_K0 I.kIn hk ?_
          exact fin (us := []) (ws := []) I .nil .nil G .refl .nil .nil rfl rfl P
        | cons kw kws =>
          rw [evs, Res.bind_ok] at P
          refine PySem.W.callWith_KW0 (h₀ := X.base) I.ok.mod.kin hk k1 ?_ (by show (false || _) = false; rw [k3]; rfl)
          refine thn ((ik.kw x _ h2).run pos pins st σ H (fun zs H2 => ∃ dk S2 w2, Good g fr σ H2 w2 env S2 ∧ Ext w H w2 H2 ∧ Reps g H2 w2 dk zs ∧ zs.length = (kw :: kws).length ∧ Post (match pickIx (ixOf ps 0 ((kw :: kws).filterMap (·.arg))) ([] ++ dk) with | some ds => C.call f ds S2 | none => .st) (fun d S' => ∀ w' H' b, Good g fr σ H' w' env S' → Ext w H w' H' → RepP g p H' w' d b → Q b H') (XX g fr W σ env w2 H2)) I ?_) fun ws st2 ⟨zs, H2, I2, rz, dk, S2, w2, G2, E2, R2, lz, P2⟩ => ⟨I2.kIn, ?_⟩
          · exact part_ (fun _ _ e => len_evk h2 e) G P fun dk S2 w2 H2 zs G2 E2 R2 lz P2 => ⟨dk, S2, w2, G2, E2, R2, lz, P2⟩
          · rw [k2]
            exact fin (us := []) I2 .nil rz G2 E2 .nil R2 rfl (by rw [← rz.length]; exact lz) P2
      | cons y ys =>
        have sp : starEach (y :: ys) X.env = (false, eval y X.env) :: starEach ys X.env := by
          cases es with
          | cons a b => exact star_ok (evs_cons h1).1
          | _ => unfold chks at h1; cases h1
        have sq : (backTo pos (starEach (y :: ys) X.env)).any (·.1) = false := star_all h1
        have args : tQs g fr W C false es σ H (fun vs H1 => ∃ ds S1 w1, Good g fr σ H1 w1 env S1 ∧ Ext w H w1 H1 ∧ Reps g H1 w1 ds vs ∧ vs.length = (y :: ys).length ∧ Post ((evs C ks env S1).bind fun dk S => match pickIx (ixOf ps (y :: ys).length (kws.filterMap (·.arg))) (ds ++ dk) with | some ds => C.call f ds S | none => .st) (fun d S' => ∀ w' H' b, Good g fr σ H' w' env S' → Ext w H w' H' → RepP g p H' w' d b → Q b H') (XX g fr W σ env w1 H1)) :=
          part_ (fun _ _ e => len_evs h1 e) G P fun ds S1 w1 H1 vs G1 E1 R1 lv P1 => ⟨ds, S1, w1, G1, E1, R1, lv, P1⟩
        cases kws with
        | nil =>
          have e1 : ks = .nil := by
            cases ks <;> first
              | rfl
              | (unfold chkw at h2; cases h2)
          subst e1
          refine PySem.W.callWith_K (h₀ := X.base) I.ok.mod.kin hk (thn ((ie.as x false _ h1).run pos pins st σ H _ I args) fun us st1 ⟨vs, H1, I1, rv, ds, S1, w1, G1, E1, R1, lv, P1⟩ => ⟨I1.kIn, ?_⟩) sp (by
            rw [sp] at sq
            exact (Bool.or_eq_false_iff.mp sq).2)
          rw [evs, Res.bind_ok] at P1
          exact fin (us := us) (ws := []) I1 rv .nil G1 E1 R1 .nil (by rw [← rv.length]; exact lv) rfl P1
        | cons kw kws =>
          refine PySem.W.callWith_KW (h₀ := X.base) I.ok.mod.kin hk k1 (thn ((ie.as x false _ h1).run pos pins st σ H _ I args) fun us st1 ⟨vs, H1, I1, rv, ds, S1, w1, G1, E1, R1, lv, P1⟩ => ?_) (by rw [sq, k3]; rfl) sp
          refine thn ((ik.kw x _ h2).run pos pins st1 σ H1 (fun zs H2 => ∃ dk S2 w2, Good g fr σ H2 w2 env S2 ∧ Ext w1 H1 w2 H2 ∧ Reps g H2 w2 dk zs ∧ zs.length = (kw :: kws).length ∧ Post (match pickIx (ixOf ps (y :: ys).length ((kw :: kws).filterMap (·.arg))) (ds ++ dk) with | some ds => C.call f ds S2 | none => .st) (fun d S' => ∀ w' H' b, Good g fr σ H' w' env S' → Ext w H w' H' → RepP g p H' w' d b → Q b H') (XX g fr W σ env w2 H2)) I1 ?_) fun ws st2 ⟨zs, H2, I2, rz, dk, S2, w2, G2, E2, R2, lz, P2⟩ => ⟨I2.kIn, ?_⟩
          · exact part_ (fun _ _ e => len_evk h2 e) G1 P1 fun dk S2 w2 H2 zs G2 E2 R2 lz P2 => ⟨dk, S2, w2, G2, E2, R2, lz, P2⟩
          · rw [k2]
            exact fin (us := us) I2 rv rz G2 (E1.trans E2) (R1.per (E2.per G1.wok)) R2 (by rw [← rv.length]; exact lv) (by rw [← rz.length]; exact lz) P2
    · cases h
  · cases h
theorem reord_id {us : List Value} : reord (List.range us.length) us = us := by
  unfold reord
  apply List.ext_getElem?
  intro i
  by_cases h : i < us.length
  · have : ∀ n, n ≤ us.length → (List.range n).filterMap (fun i => us[i]?) = us.take n := by
      intro n
      induction n with
      | zero => intro _; simp
      | succ n ih =>
        intro hn
        rw [List.range_succ, List.filterMap_append, ih (by omega), List.filterMap_cons, List.getElem?_eq_getElem (by omega), List.filterMap_nil, List.take_succ, List.getElem?_eq_getElem (by omega)]
        rfl
    rw [this _ (Nat.le_refl _), List.take_length]
  · have : ∀ n, n ≤ us.length → (List.range n).filterMap (fun i => us[i]?) = us.take n := by
      intro n
      induction n with
      | zero => intro _; simp
      | succ n ih =>
        intro hn
        rw [List.range_succ, List.filterMap_append, ih (by omega), List.filterMap_cons, List.getElem?_eq_getElem (by omega), List.filterMap_nil, List.take_succ, List.getElem?_eq_getElem (by omega)]
        rfl
    rw [this _ (Nat.le_refl _), List.take_length]
theorem bindB_len {ps : List Str} {n : Nat} (h : bindB ps n [] = true) : n = ps.length := by
  unfold bindB at h
  simp only [Bool.and_eq_true, decide_eq_true_eq] at h
  exact h.1.1.1.1
theorem e_callB {f : Str} {es : N} (ie : Snd g fr C es) (x : XOk g C s X W) (p : Bool) (e : Expr) (h : chk s p (.callB f es) e = true) : PE X e (tQ g fr W C p (.callB f es)) := by
  unfold chk at h
  split at h
  · rename_i fn fp y ys pos
    simp only [Bool.and_eq_true, decide_eq_true_eq] at h
    obtain ⟨⟨⟨rfl, hg⟩, ho⟩, h⟩ := h
    split at h
    · rename_i ps hps
      simp only [Bool.and_eq_true, decide_eq_true_eq] at h
      obtain ⟨⟨h1, hb⟩, hix⟩ := h
      obtain ⟨a, fd, k, hm, hk, hr, _, _, F, bind⟩ := (x.fns _ _ hps).ex
      have hlen := bindB_len hb
      refine ⟨fun pins st σ H Q I q => ?_⟩
      obtain ⟨w, env, S, G, P⟩ := q
      rw [ev] at P
      refine wpAny_Call_Name_kw (ld_glob I (x.gl hg) hm ?_ (okN_dbg ho))
      have sp : starEach (y :: ys) X.env = (false, eval y X.env) :: starEach ys X.env := by
        cases es with
        | cons a b => exact star_ok (evs_cons h1).1
        | _ => unfold chks at h1; cases h1
      have sq : (backTo pos (starEach (y :: ys) X.env)).any (·.1) = false := star_all h1
      have args : tQs g fr W C true es σ H (fun vs H1 => ∃ ds S1 w1, Good g fr σ H1 w1 env S1 ∧ Ext w H w1 H1 ∧ RepTs g H1 w1 ds vs ∧ vs.length = (y :: ys).length ∧ Post (C.act f ds S1) (fun d S' => ∀ w' H' b, Good g fr σ H' w' env S' → Ext w H w' H' → RepP g p H' w' d b → Q b H') (XX g fr W σ env w1 H1)) := by
        refine ⟨w, env, S, G, P.bind.ok.imp (fun ds S1 k w1 H1 vs G1 E1 R1 => ?_) fun _ _ _ x => x⟩
        have R1 : RepTs g H1 w1 ds vs := R1
        exact ⟨ds, S1, w1, G1, E1, R1, by rw [← R1.length]; exact len_evs h1 k.1, k.2.imp (fun _ _ k => k) fun _ _ _ x => x.ext E1⟩
      refine PySem.W.callWith_K (h₀ := X.base) I.ok.mod.kin hk (thn ((ie.as x true _ h1).run pos pins st σ H _ I args) fun us st1 ⟨vs, H1, I1, rv, ds, S1, w1, G1, E1, R1, lv, P1⟩ => ⟨I1.kIn, ?_⟩) sp (by
        rw [sp] at sq
        exact (Bool.or_eq_false_iff.mp sq).2)
      have lu : us.length = (y :: ys).length := by rw [← rv.length]; exact lv
      have bd := bind st1 us [] [] (by rw [lu]; exact hb) rfl
      have ro : reord (ixOf ps us.length []) (us ++ []) = us := by
        rw [lu, List.length_cons, hix, List.append_nil, ← List.length_cons (a := y), ← lu, reord_id]
      refine run_frB (us := us) (ws := []) (ks := []) x hr F I1 bd (by rw [ro]; exact rv) (by rw [lv, ← hlen]; rfl) G1 R1 ?_
      exact P1.imp (fun d S' k w' H' v G' E' r => k w' H' v G' (E1.trans E') (.of r)) fun _ _ _ x => x
    · cases h
  · cases h
end
end Fx

set_option maxHeartbeats 4000000
/-! Fx7c: displays of dicts; comprehensions. -/
namespace Fx
open PySem PySem.Spec PyProof.Rows L2
section
variable {g : G} {fr : Frm} {W : WX} {C : Ev} {s : Sc} {X : Cx}

/-! ### a dict -/
theorem putK_new {kvs : List (Key × V)} {k : Key} {v : V} (h : k ∉ kvs.map (·.1)) : L2.putK kvs k v = kvs ++ [(k, v)] := by
  unfold L2.putK
  rw [if_neg]
  intro z
  simp only [List.any_eq_true, decide_eq_true_eq] at z
  obtain ⟨p, hp, e⟩ := z
  exact h (List.mem_map.mpr ⟨p, hp, e⟩)
theorem mergeK_new : ∀ {more acc : List (Key × V)}, ((acc ++ more).map (·.1)).Nodup → mergeK acc more = acc ++ more
  | [], acc, _ => by simp [mergeK]
  | p :: r, acc, h => by
    have h1 : p.1 ∉ acc.map (·.1) := fun z => by
      rw [List.map_append] at h
      exact (List.nodup_append.mp h).2.2 _ z _ (List.mem_map.mpr ⟨p, List.mem_cons_self, rfl⟩) rfl
    show mergeK (L2.putK acc p.1 p.2) r = acc ++ p :: r
    rw [putK_new h1, mergeK_new (by simpa using h)]
    simp
theorem WOk.newC2 {H : Hp} {w : Wd} {S : Store} {p : Addr} {kvs : List (Key × D)} {kus : List (Key × V)} (k : WOk g w H S) (h : H p = some (.dK [])) (nm : p ∉ w.mu) (e : kvs.map (·.1) = kus.map (·.1)) (r : Reps g H w (kvs.map (·.2)) (kus.map (·.2))) :
    WOk g { w with mu := w.mu ++ [p] } (upd H p (.dK kus)) (S ++ [.dct kvs]) := by
  have P : Per w H { w with mu := w.mu ++ [p] } (upd H p (.dK kus)) := by
    have ne : ∀ a o, H a = some o → o ≠ .dK [] → a ≠ p := fun a o q n z => by
      rw [z, h] at q; cases q; exact n rfl
    refine ⟨fun a xs q => ?_, fun a o u q => ?_, fun a xs q z => ⟨?_, z⟩, fun n a q => ?_⟩
    · rw [upd_ne (ne _ _ q (fun z => by cases z))]; exact q
    · rw [upd_ne (ne _ _ q (fun z => by cases z))]; exact q
    · rw [upd_ne (ne _ _ q (fun z => by cases z))]; exact q
    · have := (List.getElem?_eq_some_iff.mp q).1
      show (w.mu ++ [p])[n]? = some a
      rw [List.getElem?_append_left this]; exact q
  refine ⟨by simp [k.len], ?_, fun n a c e1 e2 => ?_, fun a z => ?_, tabs_dct k.tab h⟩
  · exact List.nodup_append.mpr ⟨k.nd, by simp, fun a ha b hb => by
      rw [List.mem_singleton.mp hb]; exact fun q => nm (by rw [← q]; exact ha)⟩
  · by_cases hn : n < w.mu.length
    · have e1' : w.mu[n]? = some a := by rw [← e1]; exact (List.getElem?_append_left hn).symm
      have e2' : S[n]? = some c := by rw [← e2]; exact (List.getElem?_append_left (by rw [← k.len]; exact hn)).symm
      refine (k.cell n a c e1' e2').per P fun kus' q => ?_
      rw [upd_ne (fun z => nm (by rw [← z]; exact List.mem_of_getElem? e1'))]; exact q
    · have hn2 : w.mu.length ≤ n := Nat.le_of_not_lt hn
      have e1' : [p][n - w.mu.length]? = some a := by rw [← e1]; exact (List.getElem?_append_right hn2).symm
      have e2' : [Cell.dct kvs][n - S.length]? = some c := by rw [← e2]; exact (List.getElem?_append_right (by rw [← k.len]; exact hn2)).symm
      have e0 : n - w.mu.length = 0 := by
        have := (List.getElem?_eq_some_iff.mp e1').1
        simp at this; omega
      rw [e0] at e1'
      rw [← k.len, e0] at e2'
      cases e1'; cases e2'
      exact .dct upd_same e (r.per P)
  · obtain ⟨h1, xs, h2⟩ := k.fz a z
    have ne : a ≠ p := fun z => by rw [z, h] at h2; cases h2
    exact ⟨fun z => (List.mem_append.mp z).elim h1 fun z => ne (List.mem_singleton.mp z), xs, by rw [upd_ne ne]; exact h2⟩
theorem Ext.newC2 {w w2 : Wd} {H H2 : Hp} {p : Addr} {o o2 : HO} (h : H p = none) (e : Ext w (upd H p o) w2 H2) : Ext w H { w2 with mu := w2.mu ++ [p] } (upd H2 p o2) := by
  have up : ∀ a, upd H p o a = none → H a = none := fun a q => by
    by_cases z : a = p
    · rw [z, upd_same] at q; cases q
    · rw [upd_ne z] at q; exact q
  refine ⟨fun a u q n t => ?_, fun a q => ?_, e.fz, fun a z => (e.fzn a z).imp id (up a), fun n a q => ?_, fun a z => ?_⟩
  · have ne := ne_of_none q h
    rw [upd_ne ne]
    exact e.keep a u (by rw [upd_ne ne]; exact q) n t
  · by_cases z : a = p
    · rw [z, upd_same] at q; cases q
    · rw [upd_ne z] at q; exact up a (e.dom a q)
  · have q2 := e.mu n a q
    have := (List.getElem?_eq_some_iff.mp q2).1
    show (w2.mu ++ [p])[n]? = some a
    rw [List.getElem?_append_left this]; exact q2
  · rcases List.mem_append.mp z with z | z
    · exact (e.mun a z).imp id (up a)
    · exact .inr (by rw [List.mem_singleton.mp z]; exact h)
def dTrs (g : G) (fr : Frm) (W : WX) (C : Ev) : List Str → N → List (TE × TE)
  | k :: ks, .cons a b => (tC (.str k), tQ g fr W C false a) :: dTrs g fr W C ks b
  | _, _ => []
def ValsSnd (g : G) (fr : Frm) (C : Ev) (n : N) : Prop := ∀ {s : Sc} {X : Cx} {W : WX} (x : XOk g C s X W) (ks : List Str) (keys : List (Option Expr)) (es : List Expr) (pos : Pos), chkK ks keys = true → chks s false n es = true → es.length = ks.length → PPs X pos keys es (dTrs g fr W C ks n)
theorem vals_snd_nil : ValsSnd g fr C .nil := by
  intro s X W x ks keys es pos h1 h2 h3
  unfold chks at h2
  split at h2
  · cases ks with
    | nil =>
      cases keys with
      | nil => exact pps_nil
      | cons _ _ => unfold chkK at h1; cases h1
    | cons _ _ => cases h3
  · cases h2
theorem vals_snd_cons {a b : N} (ia : Snd g fr C a) (ib : ValsSnd g fr C b) : ValsSnd g fr C (.cons a b) := by
  intro s X W x ks keys es pos h1 h2 h3
  cases es with
  | nil => unfold chks at h2; cases h2
  | cons e es =>
    obtain ⟨_, h4, h5⟩ := evs_cons h2
    cases ks with
    | nil => cases h3
    | cons k ks =>
      unfold chkK at h1
      split at h1
      · rename_i e0; cases e0
      · rename_i k' ks' y j pos' es' e0
        cases e0
        simp only [Bool.and_eq_true, decide_eq_true_eq] at h1
        obtain ⟨rfl, h1⟩ := h1
        exact pps_cons pe_str (ia.e x false _ h4) (ib x ks es' es pos h1 h5 (by simpa using h3))
      · cases h1
theorem pairs_ : ∀ {n : N} {ks : List Str} {σ : L2.St} {H : Hp} {w : Wd} {env : Env} {S : Store} {α : Type} {r2 : List D → Store → Res α} {K : α → Store → Prop} {Q : List (V × V) → Hp → Prop} {es : List Expr}, chks s false n es = true → es.length = ks.length →
    Good g fr σ H w env S → Post ((evs C n env S).bind r2) K (XX g fr W σ env w H) →
    (∀ ds S1 w1 H1 vs, Good g fr σ H1 w1 env S1 → Ext w H w1 H1 → Reps g H1 w1 ds vs → vs.length = ks.length → Post (r2 ds S1) K (XX g fr W σ env w1 H1) → Q ((ks.map V.str).zip vs) H1) → tPairs (dTrs g fr W C ks n) σ H Q := by
  intro n
  induction n with
  | nil =>
    intro ks σ H w env S α r2 K Q es hc hl G P h
    unfold chks at hc
    split at hc
    · cases ks with
      | nil =>
        rw [evs, Res.bind_ok] at P
        exact h [] S w H [] G .refl .nil rfl P
      | cons _ _ => cases hl
    · cases hc
  | cons a b _ ih =>
    intro ks σ H w env S α r2 K Q es hc hl G P h
    cases es with
    | nil => unfold chks at hc; cases hc
    | cons e es =>
      obtain ⟨_, h4, h5⟩ := evs_cons hc
      cases ks with
      | nil => cases hl
      | cons k ks =>
        rw [evs] at P
        have P' : Post ((ev C a env S).bind fun x S => (evs C b env S).bind fun xs S => r2 (x :: xs) S) K (XX g fr W σ env w H) := by
          cases q : ev C a env S with
          | ok d S1 =>
            rw [q] at P
            simp only [Res.bind_ok] at P ⊢
            cases q2 : evs C b env S1 with
            | ok ds S2 => rw [q2] at P; exact P
            | ex => rw [q2] at P; exact P
            | st => rw [q2] at P; exact P
          | ex => rw [q] at P; exact P
          | st => rw [q] at P; exact P
        show (tC (.str k)) σ H fun x H1 => tQ g fr W C false a σ H1 fun y H2 => tPairs (dTrs g fr W C ks b) σ H2 fun ps H3 => Q ((x, y) :: ps) H3
        refine one_ G P' fun d S1 w1 H1 v G1 E1 R1 P1 => ?_
        refine ih h5 (by simpa using hl) G1 P1 fun ds S2 w2 H2 vs G2 E2 R2 lv P2 => ?_
        exact h (d :: ds) S2 w2 H2 (v :: vs) G2 (E1.trans E2) (.cons (Rep.per (E2.per G1.wok) R1) R2) (by rw [List.length_cons, List.length_cons, lv]) P2
  | _ =>
    intro ks σ H w env S α r2 K Q es hc hl G P h
    unfold chks at hc
    cases hc
theorem chkK_some : ∀ {ks : List Str} {keys : List (Option Expr)}, chkK ks keys = true → keys.all (·.isSome) = true
  | [], [], _ => rfl
  | [], _ :: _, h => by unfold chkK at h; cases h
  | k :: ks, keys, h => by
    unfold chkK at h
    split at h
    · rfl
    · rename_i e0
      cases e0
      rw [Bool.and_eq_true] at h
      show (true && _) = true
      rw [chkK_some h.2]; rfl
    · cases h
theorem zip_keys : ∀ (ks : List Str) (vs : List V), (ks.map V.str).zip vs = ((ks.map keyStr).zip vs).map fun kv => (kV kv.1, kv.2)
  | [], _ => rfl
  | _ :: _, [] => rfl
  | k :: ks, v :: vs => by
    show (V.str k, v) :: (ks.map V.str).zip vs = (V.str k, v) :: ((ks.map keyStr).zip vs).map _
    rw [zip_keys ks vs]
theorem e_dct {ks : List Str} {n : N} (iv : ValsSnd g fr C n) (x : XOk g C s X W) (p : Bool) (e : Expr) (h : chk s p (.dct ks n) e = true) : PE X e (tQ g fr W C p (.dct ks n)) := by
  unfold chk at h
  split at h
  · rename_i keys xs pos
    simp only [Bool.or_eq_true, Bool.and_eq_true, decide_eq_true_eq, Bool.not_eq_true', List.isEmpty_iff] at h
    rcases h with ⟨⟨⟨rfl, rfl⟩, rfl⟩, h4⟩ | h
    · refine PE.imp pe_dnewK fun σ H Q ⟨w, env, S, G, P⟩ => ?_
      have hv : evs C n env S = .ok [] S := by
        cases n with
        | nil => rfl
        | _ => unfold chks at h4; cases h4
      rw [ev, hv] at P
      intro q hq
      have k2 := G.wok.newC (p := q) (kvs := []) (kus := []) hq rfl .nil
      have e2 : Ext w H { w with mu := w.mu ++ [q] } (upd H q (.dK [])) := .newC hq
      refine P _ _ _ (G.step e2 k2) e2 (.of (.ref ?_))
      show (w.mu ++ [q])[S.length]? = some q
      rw [← G.wok.len]
      simp
    obtain ⟨⟨⟨⟨⟨⟨h1, h2⟩, h3⟩, h4⟩, h5⟩, h6⟩, h7⟩ := h
    refine PE.imp (pe_disp (iv x ks keys xs pos h3 h4 h2) (chkK_some h3) (by omega) (fun z => by subst z; cases ks with | nil => cases h5 | cons _ _ => cases h1) (by omega)) fun σ H Q ⟨w, env, S, G, P⟩ => ?_
    rw [ev] at P
    intro q hq
    have G0 : Good g fr σ (upd H q (.dK [])) w env S := G.step (.newT hq) (G.wok.newT hq)
    refine pairs_ h4 h2 G0 (P.imp (fun _ _ k => k) fun _ _ _ z => XX.ext (Ext.newT hq) z) fun ds S1 w1 H1 vs G1 E1 R1 lv P1 => ?_
    have nm : q ∉ w.mu := G.wok.nmu hq
    have hd : H1 q = some (.dK []) := E1.keep q _ upd_same nm (fun _ z => by cases z)
    have nm1 : q ∉ w1.mu := fun z => (E1.mun q z).elim nm fun z => by rw [upd_same] at z; cases z
    have ld := R1.length
    rw [if_pos (by omega)] at P1
    refine ⟨hd, (ks.map keyStr).zip vs, ?_, ?_, ?_⟩
    · exact zip_keys ks vs
    · rw [List.length_zip, List.length_map]; omega
    · have kn : ((ks.map keyStr).zip vs).map (·.1) = ks.map keyStr := by
        rw [List.map_fst_zip (by rw [List.length_map]; omega)]
      have kd : ((ks.map keyStr).zip ds).map (·.1) = ks.map keyStr := by
        rw [List.map_fst_zip (by rw [List.length_map]; omega)]
      have vn : ((ks.map keyStr).zip vs).map (·.2) = vs := by
        rw [List.map_snd_zip (by rw [List.length_map]; omega)]
      have vd : ((ks.map keyStr).zip ds).map (·.2) = ds := by
        rw [List.map_snd_zip (by rw [List.length_map]; omega)]
      have hn : (ks.map keyStr).Nodup := List.Pairwise.map keyStr (fun a b ne z => ne (Sum.inr.inj z)) h7
      rw [mergeK_new (by rw [List.nil_append, kn]; exact hn), List.nil_append]
      have k2 := G1.wok.newC2 (kvs := (ks.map keyStr).zip ds) (kus := (ks.map keyStr).zip vs) hd nm1 (by rw [kn, kd]) (by rw [vn, vd]; exact R1)
      have e2 := Ext.newC2 (o2 := .dK ((ks.map keyStr).zip vs)) hq E1
      refine P1 _ _ _ (G.step e2 k2) e2 (.of (.ref ?_))
      show (w1.mu ++ [q])[S1.length]? = some q
      rw [← G1.wok.len]
      simp
  · cases h
end
end Fx

set_option maxHeartbeats 4000000
/-! Fx7d: what is walked. -/
namespace Fx
open PySem PySem.Spec PyProof.Rows L2

/-! ### a list or a tuple -/
def SqB (k : Bool) (K : PySem.W.Frag) (H : Hp) (a : Addr) (xs : List V) : Prop := if k = true then SqL K H a xs else SqT K H a xs
def SIt (k : Bool) (h : Heap) (it a : Addr) (i : Nat) : Prop := if k = true then h.IsListIter it a i else h.IsTupleIter it a i
def IsSq (k : Bool) (h : Heap) (a : Addr) (its : Array Value) : Prop := if k = true then h.IsList a its else h.IsTuple a its
def itO (k : Bool) (a : Addr) : Obj := if k = true then { cls := .type "list_iterator", data := .fields #[.ref a, .int 0 0] } else { cls := .type "tuple_iterator", data := .fields #[.ref a, .int 0 0] }
section
variable {X : Cx} {pins : List (Addr × Obj)} {σ : L2.St} {H : Hp} {s : Shared} {a : Addr} {xs ys : List V}
theorem sq_inv {k : Bool} (I : L2.Inv X pins σ H s) (h : SqB k X.K H a xs) : ∃ its : List Value, Vals xs its ∧ IsSq k s.heap a its.toArray ∧ a < s.heap.objs.size := by
  unfold SqB at h
  unfold IsSq
  cases k with
  | true =>
    obtain ⟨its, rv, p, _⟩ := I.list h
    exact ⟨its, rv, p.isList, p.lt⟩
  | false =>
    obtain ⟨its, rv, p, _⟩ := I.tuple h
    obtain ⟨o, ho, _⟩ := id p
    exact ⟨its, rv, p, Heap.lt_size ho⟩
theorem sq_inj {k : Bool} (I : L2.Inv X pins σ H s) (h : SqB k X.K H a xs) (h' : SqB k X.K H a ys) : xs = ys := by
  unfold SqB at h h'
  cases k with
  | true => exact I.list_inj h h'
  | false => exact I.tuple_inj h h'
theorem sq_draws {prog : Program} {w : World} {A : Around} (k : Bool) (hh : A.handled = none) (it l : Addr) (hne : l ≠ it) (its : Array Value) :
    Draws prog w A it [it, l] its.size (fun i v => its[i]? = some v) (fun i h => SIt k h it l i ∧ IsSq k h l its) := by
  cases k with
  | true => exact Draws.list hh it l hne its
  | false => exact Draws.tuple hh it l hne its
theorem sq_begins (k : Bool) (l : Addr) (its : Array Value) : Begins (.ref l) (itO k l) fun h => IsSq k h l its := by
  cases k with
  | true => exact begins_list l its
  | false => exact begins_tuple l its
theorem SIt.at_ {k : Bool} {h h' : Heap} {it l : Addr} {i : Nat} (x : SIt k h it l i) (q : ∀ o, h.get? it = some o → h'.get? it = some o) : SIt k h' it l i := by
  unfold SIt at x ⊢
  cases k with
  | true => exact x.at q
  | false => exact x.at q
theorem SIt.obj_ {k : Bool} {h : Heap} {it l : Addr} {i : Nat} (x : SIt k h it l i) : ∃ o, h.get? it = some o ∧ ∀ v, o.data ≠ .cell v := by
  unfold SIt at x
  cases k with
  | true =>
    obtain ⟨o, e, _, d⟩ := x
    exact ⟨o, e, fun v q => by rw [d] at q; cases q⟩
  | false =>
    obtain ⟨o, e, _, d⟩ := x
    exact ⟨o, e, fun v q => by rw [d] at q; cases q⟩
theorem IsSq.at_ {k : Bool} {h h' : Heap} {l : Addr} {its : Array Value} (x : IsSq k h l its) (q : ∀ o, h.get? l = some o → h'.get? l = some o) : IsSq k h' l its := by
  unfold IsSq at x ⊢
  cases k with
  | true => exact x.at q
  | false => exact x.at q
theorem SIt.new {k : Bool} {h : Heap} {it l : Addr} (q : h.get? it = some (itO k l)) : SIt k h it l 0 := by
  unfold itO at q
  unfold SIt
  cases k with
  | true => exact ⟨_, q, rfl, rfl⟩
  | false => exact ⟨_, q, rfl, rfl⟩
end

/-! ### enumerate -/
def IteB (k : Bool) (K : PySem.W.Frag) (a : Addr) : It :=
  ⟨fun i H => ∃ (xs : List V) (x : V), SqB k K H a xs ∧ xs[i]? = some x, fun i H v H' => ∃ T x, v = .ref T ∧ H T = none ∧ H' = upd H T (.tup [.int (i : Nat), x]) ∧ ∀ xs, SqB k K H a xs → xs[i]? = some x, fun i H => ∃ xs : List V, SqB k K H a xs ∧ xs.length = i⟩
theorem turn_enumB {P : Program} {w : World} {K : PySem.W.Frag} {els : List Expr} {c : Nat} {tp : Pos} (k : Bool) (a e it : Addr) (hea : a ≠ e) (hia : a ≠ it) (hne : e ≠ it) :
    Turn P w K (.Tuple els c tp) (IteB k K a) [e, it] e (fun i h => (∃ old, IsEnum h e it ((i : Nat) : Int) old) ∧ SIt k h it a i) where
  mem := by simp
  obj := fun i h st b hb => by
    obtain ⟨⟨old, he⟩, hi⟩ := st
    simp only [List.mem_cons, List.not_mem_nil, or_false] at hb
    rcases hb with rfl | rfl
    · exact ⟨_, he, fun v q => nomatch q⟩
    · exact hi.obj_
  keep := fun i h h' st kp => by
    obtain ⟨⟨old, he⟩, hi⟩ := st
    exact ⟨⟨old, kp e (by simp) _ he⟩, hi.at_ fun o q => kp it (by simp) o q⟩
  item := by
    intro X hP hw hK hc i pins s σ H E I hf st hg
    subst hP hw hK
    obtain ⟨⟨old, he⟩, hit⟩ := st
    obtain ⟨xs, x, hq, hx⟩ := hg
    obtain ⟨its, rv, p, _⟩ := sq_inv I hq
    obtain ⟨u, hu, ru⟩ := rv.get hx
    have hel : e < s.heap.objs.size := Heap.lt_size he
    have hil : it < s.heap.objs.size := by obtain ⟨o, q, _⟩ := hit.obj_; exact Heap.lt_size q
    have hlt : i < its.toArray.size := by
      have := (List.getElem?_eq_some_iff.mp hu).1
      simpa using this
    refine wpAny_pyNext_enum_itemD (sq_draws k (show X.A.in1.handled = none from I.ok.hd hc) it a hia its.toArray) he ⟨hit, p⟩ hlt hne (by simp [hne, Ne.symm hea]) fun x' h' tk px ho hst hT hsz hk => ?_
    have ex : x' = u := by
      have q : its[i]? = some x' := by simpa using px
      rw [hu] at q
      exact (Option.some.inj q).symm
    subst ex
    refine ⟨_, rfl, wpAny_letOwnedTupleGo_enum (s := { s with heap := h', toks := tk + 1 }) ho fun h'' he' sb => ?_⟩
    have hT2 := (sb.2 _ (Nat.ne_of_gt hel)).trans hT
    have new : ObjOk X.prog X.w (upd H s.heap.objs.size (.tup [.int (i : Nat), x])) h'' s.heap.objs.size (.tup [.int (i : Nat), x]) :=
      ⟨by show 2 ≤ sizeLine; decide, [.int i tk, x'], .cons ⟨_, rfl⟩ (.cons ru .nil), ⟨_, hT2, rfl, _, rfl⟩⟩
    have I1 : L2.Inv X pins σ (upd H s.heap.objs.size (.tup [.int (i : Nat), x])) { s with heap := h'', toks := tk + 1 } := by
      refine I.turnedNew (ch := [e, it]) (fun b ob hb q => ?_) hf (Nat.le_refl _) new
      have n1 : b ≠ e := fun z => hb (by simp [z])
      have n2 : b ≠ it := fun z => hb (by simp [z])
      exact (sb.2 b n1).trans (hk b ob n1 n2 q)
    refine ⟨.ref s.heap.objs.size, _, I1, rfl, ⟨_, x, rfl, I.hok.fresh (Nat.le_refl _), rfl, fun ys hy => by rw [sq_inj I hy hq]; exact hx⟩, ⟨⟨x', ?_⟩, hst.1.at_ fun o q => (sb.2 it (Ne.symm hne)).trans q⟩, fun b hb => ?_⟩
    · have e1 : ((i + 1 : Nat) : Int) = (i : Int) + 1 := by omega
      rw [e1]; exact he'
    · have hb' : b < s.heap.objs.size := by
        simp only [List.mem_cons, List.not_mem_nil, or_false] at hb
        rcases hb with rfl | rfl
        · exact hel
        · exact hil
      rw [upd_ne (Nat.ne_of_lt hb')]
      exact (hf b hb).1
  done := by
    intro X hP hw hK hc i pins s σ H E I hf st hg
    subst hP hw hK
    obtain ⟨⟨old, he⟩, hit⟩ := st
    obtain ⟨xs, hq, hx⟩ := hg
    obtain ⟨its, rv, p, _⟩ := sq_inv I hq
    have hl := rv.length
    have ei : i = its.toArray.size := by simp; omega
    subst ei
    obtain ⟨f0, f1, f2, f3, f4, f5⟩ := hf it (by simp)
    exact wpAny_pyNext_enum_endD (sq_draws k (show X.A.in1.handled = none from I.ok.hd hc) it a hia its.toArray) he ⟨hit, p⟩ fun h' eb => ⟨rfl, I.turned (t' := s.toks) (fun b o hb q => eb b o hb q) f0 f1 f3 f4 f5⟩
  self := fun A i s Q E st h => let ⟨⟨_, he⟩, _⟩ := st; wpAny_pyIter_enum he h
set_option maxHeartbeats 1000000 in
theorem meets_enumB {v : Value} {o : Obj} {Hh : Heap → Prop} (B : Begins v o Hh) :
    Meets (Builtin.«enumerate.__new__» ⟨[.type "enumerate", v], []⟩) (fun _ R s => Hh s.heap ∧
      R (.ok (.ret (.ref (s.heap.push o).objs.size))) { s with heap := (s.heap.push o).push { cls := .type "enumerate", data := .fields #[.none, .bool false, .ref s.heap.objs.size, rawInt 0, .none, .none] } }) :=
  .of_wp fun prog w A R s h => by
    obtain ⟨hp, ge, dr, tk, os⟩ := s; obtain ⟨h1, h⟩ := h
    have hsub := sub_enumerate
    have stp : ∀ {A' : Around} {E : Value → Shared → Prop} {Q : Value → Shared → Prop}, Q (.ref hp.objs.size) ⟨hp.push o, ge, dr, tk, os⟩ → wpAny (model prog w) A' (pyIter v) Q E ⟨hp, ge, dr, tk, os⟩ :=
      fun q => B.iter prog w _ _ ⟨hp, ge, dr, tk, os⟩ _ h1 q
    wp_walk using stp
    refine wpAny_stack_any fun st => wpAny_pure ?_
    split
    · rename_i c _ _ _ _ _
      cases (c == Value.type "enumerate") <;>
        (wp_walk using stp
         exact ⟨_, rfl, h⟩)
    · wp_walk using stp
      exact ⟨_, rfl, h⟩
theorem enum1 {prog : Program} {w : World} {A : Around} {E : Value → Shared → Prop} {s : Shared} {v : Value} {o : Obj} {Hh : Heap → Prop} {Q : Value → Shared → Prop} (B : Begins v o Hh) (h1 : Hh s.heap)
    (h : ∀ h', IsEnum h' (s.heap.objs.size + 1) s.heap.objs.size 0 .none → h'.get? s.heap.objs.size = some o → (∀ b ob, s.heap.get? b = some ob → h'.get? b = some ob) → Q (.ref (s.heap.objs.size + 1)) { s with heap := h' }) :
    wpAny (model prog w) A (call (.type "enumerate") [v]) Q E s := by
  refine callType_new F.called_enumerate (by decide) (F.typeCall_enumerate_1 _) (F.newCall_enumerate_1 _) (fun obj => F.args_object_init_2 obj _) F.entry_enumerate_new (meets_enumB B) ⟨h1, ?_⟩
  have hz : (s.heap.push o).objs.size = s.heap.objs.size + 1 := Heap.size_push ..
  show _ ∧ _
  rw [hz]
  have he : IsEnum ((s.heap.push o).push { cls := .type "enumerate", data := .fields #[.none, .bool false, .ref s.heap.objs.size, rawInt 0, .none, .none] }) (s.heap.objs.size + 1) s.heap.objs.size 0 .none := by
    have q := Heap.get?_push_size (s.heap.push o) (o := { cls := .type "enumerate", data := .fields #[.none, .bool false, .ref s.heap.objs.size, rawInt 0, .none, .none] }) rfl
    rw [hz] at q; exact q
  exact ⟨⟨_, he, rfl⟩, h _ he (Heap.get?_push_of_some _ (Heap.get?_push_size _ B.free)) fun b ob x => Heap.get?_push_of_some _ (Heap.get?_push_of_some _ x)⟩
def iEnumB (K : PySem.W.Frag) (ta : TA) : TI := fun σ H R => ta σ H fun vs H1 => ∃ k a xs, vs = [.ref a] ∧ SqB k K H1 a xs ∧ R (IteB k K a) H1
theorem pi_enumB {X : Cx} {e : Expr} {ta : TA} {p pos tp : Pos} {els : List Expr} {c : Nat} (hg : Gl X "enumerate") (hm : X.mg "enumerate" = none) (ha : PA X [e] ta) (hs : starEach [e] X.env = [(false, eval e X.env)]) :
    PI X (.Tuple els c tp) (.Call (.Name "enumerate" p) [e] [] pos) (iEnumB X.K ta) := by
  refine ⟨fun pins s σ H R I h => ?_⟩
  refine Call_ (ld_blt I hg hm boot_enumerate (PyProof.Rows.callWith_type1 (thn (ha.run pos pins s σ H _ I h) fun us s1 ⟨vs, H1, I1, r1, q1⟩ => ?_) hs rfl))
  obtain ⟨k, a, xs, ex, hq, q⟩ := q1
  subst ex
  cases r1 with
  | cons r rr =>
    cases rr
    cases r
    obtain ⟨its, rv, p', la⟩ := sq_inv I1 hq
    refine enum1 (sq_begins k a its.toArray) p' fun h' he hit hk => wpAny_pyIter_enum he ?_
    have I2 : L2.Inv X pins σ H1 { s1 with heap := h' } := I1.kept (t' := s1.toks) hk
    refine ⟨s1.heap.objs.size + 1, [s1.heap.objs.size + 1, s1.heap.objs.size], _, _, H1, rfl, I2, turn_enumB k a (s1.heap.objs.size + 1) s1.heap.objs.size (Nat.ne_of_lt (Nat.lt_succ_of_lt la)) (Nat.ne_of_lt la) (Nat.succ_ne_self _), ⟨⟨.none, he⟩, .new hit⟩, fun b hb => ?_, q⟩
    have hle : s1.heap.objs.size ≤ b := by
      simp only [List.mem_cons, List.not_mem_nil, or_false] at hb
      rcases hb with z | z
      · rw [z]; exact Nat.le_add_right _ _
      · rw [z]; exact Nat.le_refl _
    exact I1.fpOk hle (I1.hok.fresh hle)

/-! ### zip -/
def ItzB (k l : Bool) (K : PySem.W.Frag) (a b : Addr) : It :=
  ⟨fun i H => ∃ (xs ys : List V) (x y : V), SqB k K H a xs ∧ SqB l K H b ys ∧ xs[i]? = some x ∧ ys[i]? = some y,
    fun i H v H' => ∃ T x y, v = .ref T ∧ H T = none ∧ H' = upd H T (.tup [x, y]) ∧ (∀ xs, SqB k K H a xs → xs[i]? = some x) ∧ ∀ ys, SqB l K H b ys → ys[i]? = some y,
    fun i H => ∃ xs ys : List V, SqB k K H a xs ∧ SqB l K H b ys ∧ i ≤ xs.length ∧ i ≤ ys.length ∧ (i = xs.length ∨ i = ys.length)⟩
theorem turn_zipB {P : Program} {w : World} {K : PySem.W.Frag} {els : List Expr} {c : Nat} {tp : Pos} (k l : Bool) {a b z TI TO i1 i2 : Addr} (S : ZipSep2 z TI TO i1 i2 [i1, a] [i2, b]) (ha : a ≠ i1) (hb : b ≠ i2) :
    Turn P w K (.Tuple els c tp) (ItzB k l K a b) [z, TI, TO, i1, i2] z (fun i h => IsZip h z TI TO .none ∧ IsTupOf2 h TI (.ref i1) (.ref i2) ∧ (∃ x y, IsTupOf2 h TO x y) ∧ SIt k h i1 a i ∧ SIt l h i2 b i) where
  mem := by simp
  obj := fun i h st d hd => by
    obtain ⟨hz, hTI, ⟨x, y, hTO⟩, h1, h2⟩ := st
    simp only [List.mem_cons, List.not_mem_nil, or_false] at hd
    rcases hd with rfl | rfl | rfl | rfl | rfl
    · exact ⟨_, hz, fun v q => nomatch q⟩
    · exact ⟨_, hTI, fun v q => nomatch q⟩
    · exact ⟨_, hTO, fun v q => nomatch q⟩
    · exact h1.obj_
    · exact h2.obj_
  keep := fun i h h' st kp => by
    obtain ⟨hz, hTI, ⟨x, y, hTO⟩, h1, h2⟩ := st
    exact ⟨kp z (by simp) _ hz, kp TI (by simp) _ hTI, ⟨x, y, kp TO (by simp) _ hTO⟩, h1.at_ fun o q => kp i1 (by simp) o q, h2.at_ fun o q => kp i2 (by simp) o q⟩
  item := by
    intro X hP hw hK hc i pins s σ H E I hf st hg
    subst hP hw hK
    obtain ⟨hz, hTI, ⟨x0, y0, hTO⟩, h1, h2⟩ := st
    obtain ⟨xs, ys, x, y, hqx, hqy, hx, hy⟩ := hg
    obtain ⟨its, rv, p, _⟩ := sq_inv I hqx
    obtain ⟨its2, rv2, p2, _⟩ := sq_inv I hqy
    obtain ⟨u, hu, ru⟩ := rv.get hx
    obtain ⟨u2, hu2, ru2⟩ := rv2.get hy
    have hzl : z < s.heap.objs.size := Heap.lt_size hz
    have hlt : i < its.toArray.size := by
      have := (List.getElem?_eq_some_iff.mp hu).1
      simpa using this
    have hlt2 : i < its2.toArray.size := by
      have := (List.getElem?_eq_some_iff.mp hu2).1
      simpa using this
    have nzi1 : z ≠ i1 := fun q => S.zf1 (by simp [q])
    have nzi2 : z ≠ i2 := fun q => S.zf2 (by simp [q])
    have nTi1 : TO ≠ i1 := fun q => S.Tf1 (by simp [q])
    have nTi2 : TO ≠ i2 := fun q => S.Tf2 (by simp [q])
    refine wpAny_pyNext_zipD2_item S (sq_draws k (show X.A.in1.handled = none from I.ok.hd hc) i1 a ha its.toArray) (sq_draws l (show X.A.in1.handled = none from I.ok.hd hc) i2 b hb its2.toArray) hz hTI hTO ⟨h1, p⟩ ⟨h2, p2⟩ hlt hlt2
      fun v1 v2 h' tk q1 q2 z' TO' h1' h2' hT hsz hk => ?_
    have e1 : v1 = u := by
      have q : its[i]? = some v1 := by simpa using q1
      rw [hu] at q
      exact (Option.some.inj q).symm
    have e2 : v2 = u2 := by
      have q : its2[i]? = some v2 := by simpa using q2
      rw [hu2] at q
      exact (Option.some.inj q).symm
    subst e1 e2
    refine ⟨_, rfl, wpAny_letOwnedTupleGo_zip (s := { s with heap := h', toks := tk }) z' fun h'' z'' sb => ?_⟩
    have hT2 := (sb.2 _ (Nat.ne_of_gt hzl)).trans hT
    have new : ObjOk X.prog X.w (upd H s.heap.objs.size (.tup [x, y])) h'' s.heap.objs.size (.tup [x, y]) :=
      ⟨by show 2 ≤ sizeLine; decide, [v1, v2], .cons ru (.cons ru2 .nil), ⟨_, hT2, rfl, _, rfl⟩⟩
    have I1 : L2.Inv X pins σ (upd H s.heap.objs.size (.tup [x, y])) { s with heap := h'', toks := tk } := by
      refine I.turnedNew (t' := tk) (ch := [z, TI, TO, i1, i2]) (fun d o hd q => ?_) hf (Nat.le_refl _) new
      have m1 : d ≠ z := fun q' => hd (by simp [q'])
      exact (sb.2 d m1).trans (hk d o m1 (fun q' => hd (by simp [q'])) (fun q' => hd (by simp [q'])) (fun q' => hd (by simp [q'])) q)
    refine ⟨.ref s.heap.objs.size, _, I1, rfl, ⟨_, x, y, rfl, I.hok.fresh (Nat.le_refl _), rfl, fun t ht => by rw [sq_inj I ht hqx]; exact hx, fun t ht => by rw [sq_inj I ht hqy]; exact hy⟩, ⟨z'', ?_, ⟨v1, v2, ?_⟩, ?_, ?_⟩, fun d hd => ?_⟩
    · exact (sb.2 _ S.TIz).trans (hk _ _ S.TIz S.TITO S.TIi1 S.TIi2 hTI)
    · exact (sb.2 _ S.TOz).trans TO'
    · exact h1'.1.at_ fun o q => (sb.2 _ (Ne.symm nzi1)).trans q
    · exact h2'.1.at_ fun o q => (sb.2 _ (Ne.symm nzi2)).trans q
    · have hlt : d < s.heap.objs.size := by
        simp only [List.mem_cons, List.not_mem_nil, or_false] at hd
        rcases hd with rfl | rfl | rfl | rfl | rfl
        · exact hzl
        · exact Heap.lt_size hTI
        · exact Heap.lt_size hTO
        · obtain ⟨_, q, _⟩ := h1.obj_; exact Heap.lt_size q
        · obtain ⟨_, q, _⟩ := h2.obj_; exact Heap.lt_size q
      rw [upd_ne (Nat.ne_of_lt hlt)]
      exact (hf d hd).1
  done := by
    intro X hP hw hK hc i pins s σ H E I hf st hg
    subst hP hw hK
    obtain ⟨hz, hTI, ⟨x0, y0, hTO⟩, h1, h2⟩ := st
    obtain ⟨xs, ys, hqx, hqy, l1, l2, he⟩ := hg
    obtain ⟨its, rv, p, _⟩ := sq_inv I hqx
    obtain ⟨its2, rv2, p2, _⟩ := sq_inv I hqy
    have m1 := rv.length
    have m2 := rv2.length
    refine wpAny_pyNext_zipD2_end S (sq_draws k (show X.A.in1.handled = none from I.ok.hd hc) i1 a ha its.toArray) (sq_draws l (show X.A.in1.handled = none from I.ok.hd hc) i2 b hb its2.toArray) hz hTI hTO ⟨h1, p⟩ ⟨h2, p2⟩ (by simp; omega) (by simp; omega)
      (he.imp (fun q => by simp; omega) fun q => by simp; omega) fun h' tk hk => ⟨rfl, I.turnedL (t' := tk) (ch := [z, TI, TO, i1, i2]) (fun d o hd q =>
      hk d o (fun q' => hd (by simp [q'])) (fun q' => hd (by simp [q'])) (fun q' => hd (by simp [q'])) (fun q' => hd (by simp [q'])) q) hf⟩
  self := fun A i s Q E st h => wpAny_pyIter_zip st.1 h
def iZipB (K : PySem.W.Frag) (ta : TA) : TI := fun σ H R => ta σ H fun vs H1 => ∃ k l a b xs ys, vs = [.ref a, .ref b] ∧ SqB k K H1 a xs ∧ SqB l K H1 b ys ∧ R (ItzB k l K a b) H1
theorem pi_zipB {X : Cx} {e e2 : Expr} {ta : TA} {p pos tp : Pos} {els : List Expr} {c : Nat} (hg : Gl X "zip") (hm : X.mg "zip" = none) (ha : PA X [e, e2] ta)
    (hs : starEach [e, e2] X.env = (false, eval e X.env) :: starEach [e2] X.env) (hpl : (backTo pos (starEach [e2] X.env)).any (·.1) = false) :
    PI X (.Tuple els c tp) (.Call (.Name "zip" p) [e, e2] [] pos) (iZipB X.K ta) := by
  refine ⟨fun pins s σ H R I h => ?_⟩
  refine Call_ (ld_blt I hg hm PyProof.Rows.boot_zip (PyProof.Rows.callWith_type1 (thn (ha.run pos pins s σ H _ I h) fun us s1 ⟨vs, H1, I1, r1, q1⟩ => ?_) hs hpl))
  obtain ⟨k, l, a, b, xs, ys, ex, hqx, hqy, q⟩ := q1
  subst ex
  cases r1 with
  | cons r rr =>
    cases rr with
    | cons r' rr =>
      cases rr
      cases r
      cases r'
      obtain ⟨its, rv, p1, la⟩ := sq_inv I1 hqx
      obtain ⟨its2, rv2, p2, lb⟩ := sq_inv I1 hqy
      refine zip_begins2 (sq_begins k a its.toArray) (sq_begins l b its2.toArray) p1 p2 fun h' hz hTI hTO h1 h2 hsz hk => wpAny_pyIter_zip hz ?_
      have I2 : L2.Inv X pins σ H1 { s1 with heap := h' } := I1.kept (t' := s1.toks) hk
      refine ⟨s1.heap.objs.size + 4, [s1.heap.objs.size + 4, s1.heap.objs.size + 2, s1.heap.objs.size + 3, s1.heap.objs.size, s1.heap.objs.size + 1], _, _, H1, rfl, I2,
        turn_zipB k l (zip_sep2 (fp1 := [a]) (fp2 := [b]) (by simpa using la) (by simpa using lb)) (Nat.ne_of_lt la) (Nat.ne_of_lt (Nat.lt_succ_of_lt lb)), ⟨hz, hTI, ⟨_, _, hTO⟩, .new h1, .new h2⟩, fun d hd => ?_, q⟩
      have hle : s1.heap.objs.size ≤ d := by
        simp only [List.mem_cons, List.not_mem_nil, or_false] at hd
        rcases hd with z | z | z | z | z <;> rw [z] <;> first
          | exact Nat.le_add_right _ _
          | exact Nat.le_refl _
      exact I1.fpOk hle (I1.hok.fresh hle)
end Fx

set_option maxHeartbeats 4000000
/-! Fx7e: targets, iterables, list comprehensions. -/
namespace Fx
open PySem PySem.Spec PyProof.Rows L2

section
variable {g : G} {fr : Frm} {W : WX} {C : Ev} {s : Sc} {X : Cx}

/-! ### slots written -/
theorem getset {α : Type} {l : List α} {i j : Nat} {a b : α} (h : (l.set i a)[j]? = some b) : (i = j ∧ b = a) ∨ (i ≠ j ∧ l[j]? = some b) := by
  by_cases e : i = j
  · subst e
    have hl := (List.getElem?_eq_some_iff.mp h).1
    rw [List.length_set] at hl
    rw [List.getElem?_set_self hl] at h
    cases h
    exact .inl ⟨rfl, rfl⟩
  · rw [List.getElem?_set_ne e] at h
    exact .inr ⟨e, h⟩
theorem Good.setV {σ : L2.St} {H : Hp} {w : Wd} {env : Env} {S : Store} (G : Good g fr σ H w env S) {d : D} {v : V} (r : Rep g H w d v) (i : Nat) : Good g fr (σ.set i (some v)) H w (env.set i (.val d)) S where
  wok := G.wok
  ext := G.ext
  len := by rw [List.length_set, List.length_set, G.len]
  sl := fun j t o h1 h2 => by
    rcases getset h1 with ⟨e, rfl⟩ | ⟨e, h1⟩
    · subst e
      rcases getset h2 with ⟨_, rfl⟩ | ⟨e, _⟩
      · exact .val r
      · exact absurd rfl e
    · rcases getset h2 with ⟨e', _⟩ | ⟨_, h2⟩
      · exact absurd e' e
      · exact G.sl j t o h1 h2
  sep := fun j k a xs ys hne h1 h2 h3 h4 => by
    rcases getset h1 with ⟨_, q⟩ | ⟨e1, h1⟩
    · cases q
    rcases getset h2 with ⟨_, q⟩ | ⟨e2, h2⟩
    · cases q
    rw [List.getElem?_set_ne e1] at h3
    rw [List.getElem?_set_ne e2] at h4
    exact G.sep j k a xs ys hne h1 h2 h3 h4
theorem Good.setU {σ : L2.St} {H : Hp} {w : Wd} {env : Env} {S : Store} (G : Good g fr σ H w env S) (o : Option V) (i : Nat) : Good g fr (σ.set i o) H w (env.set i .un) S where
  wok := G.wok
  ext := G.ext
  len := by rw [List.length_set, List.length_set, G.len]
  sl := fun j t o' h1 h2 => by
    rcases getset h1 with ⟨e, rfl⟩ | ⟨e, h1⟩
    · exact .un
    · rcases getset h2 with ⟨e', _⟩ | ⟨_, h2⟩
      · exact absurd e' e
      · exact G.sl j t o' h1 h2
  sep := fun j k a xs ys hne h1 h2 h3 h4 => by
    rcases getset h1 with ⟨_, q⟩ | ⟨e1, h1⟩
    · cases q
    rcases getset h2 with ⟨_, q⟩ | ⟨e2, h2⟩
    · cases q
    rw [List.getElem?_set_ne e1] at h3
    rw [List.getElem?_set_ne e2] at h4
    exact G.sep j k a xs ys hne h1 h2 h3 h4
theorem Good.wipe {H : Hp} {w : Wd} {S : Store} {env : Env} {σ : L2.St} (G : Good g fr σ H w env S) : ∀ own : List (Str × Nat), Good g fr (L2.wipe σ (own.map (·.2))) H w (wipeE env own) S
  | [] => G
  | v :: vs => (Good.wipe G vs).setU _ _
theorem Agree.set {As : Nat → Bool} {σ : L2.St} {env : Env} {i : Nat} {o : Option V} {t : Sl} (h : As i = true) : Agree As σ (σ.set i o) env (env.set i t) := fun j hj => by
  have ne : i ≠ j := fun e => by rw [e, hj] at h; cases h
  exact ⟨List.getElem?_set_ne ne, List.getElem?_set_ne ne⟩
theorem Agree.refl {As : Nat → Bool} {σ : L2.St} {env : Env} : Agree As σ σ env env := fun _ _ => ⟨rfl, rfl⟩
theorem Agree.trans {As : Nat → Bool} {σ σ1 σ2 : L2.St} {env env1 env2 : Env} (a : Agree As σ σ1 env env1) (b : Agree As σ1 σ2 env1 env2) : Agree As σ σ2 env env2 := fun i h =>
  ⟨(b i h).1.trans (a i h).1, (b i h).2.trans (a i h).2⟩
theorem Agree.mono {As Bs : Nat → Bool} {σ σ1 : L2.St} {env env1 : Env} (a : Agree As σ σ1 env env1) (h : ∀ i, Bs i = false → As i = false) : Agree Bs σ σ1 env env1 := fun i q => a i (h i q)

/-! ### targets -/
theorem g_tn {i : Nat} (x : XOk g C s X W) (e : Expr) (h : chkG s (.tn i) e = true) : PG X e (tGt g fr (.tn i)) := by
  unfold chkG at h
  split at h
  · simp only [Bool.and_eq_true, decide_eq_true_eq] at h
    obtain ⟨h1, h2⟩ := x.st _ h.2
    refine PG.imp (pg_name (by rw [x.N]; exact x.nd) (by rw [x.N]; exact h.1) h1 h2) fun v σ H Q ⟨w, env, S, d, env', G, r, hb, k⟩ => ?_
    unfold bindT at hb
    split at hb
    · cases hb
      exact k _ (G.setV r i) (.set (by simp [asgT]))
    · cases hb
  · cases h
theorem as_len : ∀ (es : List Expr) (env : PySem.Env) {n : N}, chkGs s n es = true → (assignEach es env).length = es.length ∧ (assignEach es env).findIdx? (·.1) = none
  | [], _, _, _ => ⟨rfl, rfl⟩
  | e :: es, env, n, h => by
    cases n with
    | cons a b =>
      unfold chkGs at h
      simp only [Bool.and_eq_true] at h
      obtain ⟨⟨h0, _⟩, h2⟩ := h
      obtain ⟨i1, i2⟩ := as_len es env h2
      cases e <;> first
        | (cases h0; done)
        | (refine ⟨?_, ?_⟩
           · show (assignEach es env).length + 1 = es.length + 1
             rw [i1]
           · show ((false, _) :: assignEach es env).findIdx? (·.1) = none
             rw [List.findIdx?_cons, i2]
             rfl)
    | _ => unfold chkGs at h; cases h
theorem gs_nil {es : List Expr} (h : chkGs s .nil es = true) : PGs X es (tGts g fr .nil) := by
  unfold chkGs at h
  split at h
  · refine PGs.imp pgs_nil fun vs σ H Q ⟨w, env, S, ds, env', G, r, hb, k⟩ => ?_
    cases r with
    | nil =>
      unfold bindT.bindTs at hb
      cases hb
      exact ⟨rfl, k _ G .refl⟩
    | cons =>
      unfold bindT.bindTs at hb
      cases hb
  · cases h
theorem gs_cons {a b : N} (ia : Snd g fr C a) (ib : Snd g fr C b) (x : XOk g C s X W) (es : List Expr) (h : chkGs s (.cons a b) es = true) : PGs X es (tGts g fr (.cons a b)) := by
  cases es with
  | nil => unfold chkGs at h; cases h
  | cons e es =>
    unfold chkGs at h
    simp only [Bool.and_eq_true] at h
    obtain ⟨⟨h0, h1⟩, h2⟩ := h
    have hs : (assignEach (e :: es) X.env).map (·.2) = assign e X.env :: (assignEach es X.env).map (·.2) := by
      cases e <;> first
        | rfl
        | (cases h0; done)
    refine PGs.imp (pgs_cons (ia.tgt x _ h1) (ib.tgts x _ h2) hs) fun vs σ H Q ⟨w, env, S, ds, env', G, r, hb, k⟩ => ?_
    cases r with
    | nil =>
      unfold bindT.bindTs at hb
      cases hb
    | @cons d v ds vs rd rs =>
      unfold bindT.bindTs at hb
      cases q : bindT a d env with
      | none => rw [q] at hb; cases hb
      | some e1 =>
        rw [q] at hb
        refine ⟨v, vs, rfl, w, env, S, d, e1, G, rd, q, fun σ1 G1 A1 => ⟨w, e1, S, ds, env', G1, rs, hb, fun σ2 G2 A2 => k σ2 G2 ?_⟩⟩
        refine Agree.trans (A1.mono fun i hi => ?_) (A2.mono fun i hi => ?_)
        · have z : (asgT a i || asgT b i) = false := hi
          exact (Bool.or_eq_false_iff.mp z).1
        · have z : (asgT a i || asgT b i) = false := hi
          exact (Bool.or_eq_false_iff.mp z).2
theorem len_bindTs {n : N} : ∀ {es : List Expr} {ds : List D} {env env' : Env}, chkGs s n es = true → bindT.bindTs n ds env = some env' → ds.length = es.length := by
  induction n with
  | nil =>
    intro es ds env env' h e
    unfold chkGs at h
    split at h
    · cases ds with
      | nil => rfl
      | cons => unfold bindT.bindTs at e; cases e
    · cases h
  | cons a b _ ih =>
    intro es ds env env' h e
    cases es with
    | nil => unfold chkGs at h; cases h
    | cons y ys =>
      unfold chkGs at h
      simp only [Bool.and_eq_true] at h
      cases ds with
      | nil => unfold bindT.bindTs at e; cases e
      | cons d ds =>
        unfold bindT.bindTs at e
        cases q : bindT a d env with
        | none => rw [q] at e; cases e
        | some e1 =>
          rw [q] at e
          rw [List.length_cons, List.length_cons, ih h.2 e]
  | _ => intro es ds env env' h e; unfold chkGs at h; cases h
theorem g_tt {es : N} (ih : Snd g fr C es) (x : XOk g C s X W) (e : Expr) (h : chkG s (.tt es) e = true) : PG X e (tGt g fr (.tt es)) := by
  unfold chkG at h
  split at h
  · rename_i xs _ _
    obtain ⟨l1, l2⟩ := as_len xs X.env h
    refine PG.imp (pg_tup (n := xs.length) x.calm (ih.tgts x _ h) l1 l2) fun v σ H Q ⟨w, env, S, d, env', G, r, hb, k⟩ => ?_
    cases d with
    | tup ds =>
      have hb : bindT.bindTs es ds env = some env' := hb
      obtain ⟨a, vs, rfl, hq, rs⟩ := (RepT.rep r).tup
      refine ⟨a, vs, rfl, by rw [x.K]; exact hq, ?_, w, env, S, ds, env', G, rs, hb, k⟩
      rw [← rs.length]
      exact len_bindTs h hb
    | _ => unfold bindT at hb; cases hb
  · cases h
end
end Fx

set_option maxHeartbeats 4000000
/-! Fx7f: iterables, list comprehensions. -/
namespace Fx
open PySem PySem.Spec PyProof.Rows L2

section
variable {g : G} {fr : Frm} {W : WX} {C : Ev} {s : Sc} {X : Cx}
/-- a list or a tuple, by the evaluator -/
theorem RepT.sq {H : Hp} {w : Wd} {d : D} {ds : List D} {v : V} (r : RepT g H w d v) (e : seqD d = some ds) : ∃ k a vs, v = .ref a ∧ SqB k g.K H a vs ∧ Reps g H w ds vs := by
  cases d with
  | tup xs =>
    cases e
    obtain ⟨a, vs, e1, hq, rs⟩ := r.tup
    exact ⟨false, a, vs, e1, hq, rs⟩
  | lst xs =>
    cases e
    obtain ⟨a, vs, e1, hq, rs⟩ := r.lst
    exact ⟨true, a, vs, e1, .inl hq, rs⟩
  | _ => cases e
/-- the same at a later moment, known to be at the same place -/
theorem RepP.sq {p : Bool} {H : Hp} {w : Wd} {d : D} {ds : List D} {a : Addr} (r : RepP g p H w d (.ref a)) (e : seqD d = some ds) : ∃ k, ∀ w1 H1 S, WOk g w H S → RelB p w H w1 H1 → ∃ vs, SqB k g.K H1 a vs ∧ Reps g H1 w1 ds vs := by
  cases d with
  | tup xs =>
    cases e
    refine ⟨false, fun w1 H1 S k e1 => ?_⟩
    obtain ⟨b, vs, e2, hq, rs⟩ := (RepP.rel k e1 r).t.tup
    cases e2
    exact ⟨vs, hq, rs⟩
  | lst xs =>
    cases e
    refine ⟨true, fun w1 H1 S k e1 => ?_⟩
    obtain ⟨b, vs, e2, hq, rs⟩ := (RepP.rel k e1 r).t.lst
    cases e2
    exact ⟨vs, .inl hq, rs⟩
  | _ => cases e
theorem Reps.at2 {H : Hp} {w : Wd} {ds : List D} {vs : List V} (r : Reps g H w ds vs) {i : Nat} {d : D} (h : ds[i]? = some d) {P : V → Prop} {v : V} (q : vs[i]? = some v) : Rep g H w d v := by
  obtain ⟨u, h1, h2⟩ := r.get h
  rw [q] at h1
  cases h1
  exact h2

def ItsB (k : Bool) (K : PySem.W.Frag) (a : Addr) : It := if k = true then Itl K a else Itt K a
def iSeqB (K : PySem.W.Frag) (tl : TE) : TI := fun σ H R => tl σ H fun x H1 => ∃ k a xs, x = .ref a ∧ SqB k K H1 a xs ∧ R (ItsB k K a) H1
theorem turn_sqB {P : Program} {w : World} {K : PySem.W.Frag} {tg : Expr} (k : Bool) (a it : Addr) : Turn P w K tg (ItsB k K a) [it] it (fun i h => SIt k h it a i) := by
  cases k with
  | true => exact turn_list a it
  | false => exact turn_tuple a it
theorem pi_seqB {tg l : Expr} {tl : TE} (hl : PE X l tl) : PI X tg l (iSeqB X.K tl) := by
  refine ⟨fun pins st σ H R I h => ?_⟩
  refine thn (hl.run pins st σ H _ I h) fun v s1 ⟨x, H1, I1, r1, k, a, xs, e, hq, q⟩ => ?_
  subst e
  cases r1
  obtain ⟨its, rv, p, _⟩ := sq_inv I1 hq
  refine (sq_begins k a its.toArray).iter _ _ _ _ _ _ p ?_
  refine ⟨s1.heap.objs.size, [s1.heap.objs.size], _, _, H1, rfl, I1.kept (t' := s1.toks) fun b o e => Heap.get?_push_of_some _ e, turn_sqB k a _, .new (Heap.get?_push_size _ (sq_begins k a its.toArray).free), fun b hb => ?_, q⟩
  obtain rfl := List.mem_singleton.mp hb
  exact I1.fpOk (Nat.le_refl _) (I1.hok.fresh (Nat.le_refl _))
theorem its_ok {p k : Bool} {a : Addr} {ds : List D} {w : Wd} {H : Hp} (h : ∀ w1 H1 S1, WOk g w1 H1 S1 → RelB p w H w1 H1 → ∃ vs, SqB k g.K H1 a vs ∧ Reps g H1 w1 ds vs) : ItOk g p (ItsB k g.K a) ds w H where
  go := fun i w1 H1 S1 d ok e hd => by
    obtain ⟨vs, hq, rs⟩ := h w1 H1 S1 ok e
    obtain ⟨v, hv, r⟩ := rs.get hd
    cases k with
    | true =>
      refine ⟨⟨vs, v, hq, hv⟩, fun x H2 y => ?_⟩
      obtain ⟨e2, y⟩ := y
      subst e2
      refine ⟨.refl, ok, ?_⟩
      have z := y vs hq
      rw [hv] at z; cases z
      exact r
    | false =>
      refine ⟨⟨vs, v, hq, hv⟩, fun x H2 y => ?_⟩
      obtain ⟨e2, y⟩ := y
      subst e2
      refine ⟨.refl, ok, ?_⟩
      have z := y vs hq
      rw [hv] at z; cases z
      exact r
  stop := fun w1 H1 S1 ok e => by
    obtain ⟨vs, hq, rs⟩ := h w1 H1 S1 ok e
    have l := rs.length
    cases k with
    | true => exact ⟨vs, hq, by omega⟩
    | false => exact ⟨vs, hq, by omega⟩
theorem RelB.of_ext {p : Bool} {w w1 : Wd} {H H1 : Hp} {S : Store} (k : WOk g w H S) (e : Ext w H w1 H1) : RelB p w H w1 H1 := by
  unfold RelB
  split
  · exact e
  · exact e.per k
theorem RelB.refl {p : Bool} {w : Wd} {H : Hp} : RelB p w H w H := by
  unfold RelB
  split
  · exact .refl
  · exact .refl
theorem i_seq {a : N} (ia : Snd g fr C a) (x : XOk g C s X W) (p : Bool) (tg e : Expr) (h : chkI s p tg (.seq a) e = true) : PI X tg e (tI g fr W C p (.seq a)) := by
  unfold chkI at h
  rw [Bool.and_eq_true] at h
  refine PI.imp (pi_seqB (ia.e x p _ h.2)) fun σ H R ⟨w, env, S, G, P⟩ => ?_
  rw [evI] at P
  refine one_ G P fun d S1 w1 H1 v G1 E1 R1 P1 => ?_
  obtain ⟨ds, e1, k⟩ := P1.ofO
  obtain ⟨b, a, vs, rfl, hq, rs⟩ := R1.t.sq e1
  obtain ⟨b2, later⟩ := RepP.sq R1 e1
  obtain ⟨vs2, hq2, _⟩ := later w1 H1 _ G1.wok .refl
  refine ⟨b2, a, vs2, rfl, by rw [x.K]; exact hq2, ?_⟩
  rw [x.K]
  exact k w1 H1 _ G1 E1 (its_ok fun w2 H2 S2 _ e2 => later w2 H2 _ G1.wok e2)
theorem pa_1 {y : Expr} {t : TE} (h : PE X y t) (hs : notStar y = true) : PA X [y] (fun σ H Q => t σ H fun v H1 => Q [v] H1) :=
  PA.imp (pa_cons h pa_nil (star_ok hs)) fun _ _ _ q => q
theorem pa_2 {y z : Expr} {t u : TE} (h : PE X y t) (h2 : PE X z u) (hs : notStar y = true) (hs2 : notStar z = true) : PA X [y, z] (fun σ H Q => t σ H fun v H1 => u σ H1 fun v2 H2 => Q [v, v2] H2) :=
  PA.imp (pa_cons h (pa_cons h2 pa_nil (star_ok hs2)) (star_ok hs)) fun _ _ _ q => q
theorem rng_at {i j : Int} {n : Nat} {d : D} (h : (rangeD i j)[n]? = some d) : n < (j - i).toNat ∧ d = .int (i + (n : Nat)) := by
  unfold rangeD at h
  rw [List.getElem?_map] at h
  cases q : (List.range (j - i).toNat)[n]? with
  | none => rw [q] at h; cases h
  | some m =>
    rw [q] at h
    have hl := (List.getElem?_eq_some_iff.mp q).1
    rw [List.length_range] at hl
    rw [List.getElem?_range hl] at q
    cases q
    cases h
    exact ⟨hl, rfl⟩
theorem rng_ok {p : Bool} {i j : Int} {w : Wd} {H : Hp} : ItOk g p (Itr i (j - i).toNat) (rangeD i j) w H where
  go := fun n w1 H1 S1 d ok e hd => by
    obtain ⟨h1, rfl⟩ := rng_at hd
    refine ⟨h1, fun x H2 y => ?_⟩
    obtain ⟨e2, y⟩ := y
    subst e2 y
    exact ⟨.refl, ok, .int _⟩
  stop := fun w1 H1 S1 ok e => by
    show (j - i).toNat ≤ (rangeD i j).length
    unfold rangeD
    simp
theorem rgOk_ok {i j : Int} (h : rgOk i j = true) : -(2 ^ 62) ≤ i ∧ i < 2 ^ 62 ∧ -(2 ^ 62) ≤ j ∧ j < 2 ^ 62 := by
  unfold rgOk at h
  simp only [Bool.and_eq_true, decide_eq_true_eq] at h
  exact ⟨h.1.1.1.1, h.1.1.1.2, h.1.1.2, h.1.2⟩
theorem i_rng1 {a : N} (ia : Snd g fr C a) (x : XOk g C s X W) (p : Bool) (tg e : Expr) (h : chkI s p tg (.rng1 a) e = true) : PI X tg e (tI g fr W C p (.rng1 a)) := by
  unfold chkI at h
  split at h
  · simp only [Bool.and_eq_true, decide_eq_true_eq] at h
    obtain ⟨⟨⟨⟨rfl, hg⟩, hf⟩, hs⟩, hc⟩ := h
    refine PI.imp (pi_range1 (x.gl hg) (x.free _ hf) (pa_1 (ia.e x true _ hc) hs) (star_ok hs)) fun σ H R ⟨w, env, S, G, P⟩ => ?_
    rw [evI] at P
    refine one_ G P fun d S1 w1 H1 v G1 E1 R1 P1 => ?_
    split at P1
    · rename_i n
      cases R1.t.int
      split at P1
      · rename_i hr
        obtain ⟨_, _, h3, h4⟩ := rgOk_ok hr
        have q := P1 w1 H1 (Itr 0 (n - 0).toNat) G1 E1 rng_ok
        rw [Int.sub_zero] at q
        exact ⟨n, rfl, h3, h4, q⟩
      · exact P1.elim
    · exact P1.elim
  · cases h
theorem i_rng2 {a b : N} (ia : Snd g fr C a) (ib : Snd g fr C b) (x : XOk g C s X W) (p : Bool) (tg e : Expr) (h : chkI s p tg (.rng2 a b) e = true) : PI X tg e (tI g fr W C p (.rng2 a b)) := by
  unfold chkI at h
  split at h
  · simp only [Bool.and_eq_true, decide_eq_true_eq] at h
    obtain ⟨⟨⟨⟨⟨⟨rfl, hg⟩, hf⟩, hs⟩, hs2⟩, hc⟩, hc2⟩ := h
    refine PI.imp (pi_range2 (x.gl hg) (x.free _ hf) (pa_2 (ia.e x true _ hc) (ib.e x true _ hc2) hs hs2) (by rw [star_ok hs, star_ok hs2]; rfl) (star_ok hs2)) fun σ H R ⟨w, env, S, G, P⟩ => ?_
    rw [evI] at P
    refine one_ G P fun d S1 w1 H1 v G1 E1 R1 P1 => one_ G1 P1 fun d2 S2 w2 H2 v2 G2 E2 R2 P2 => ?_
    split at P2
    · rename_i i j
      cases R1.t.int
      cases R2.t.int
      split at P2
      · rename_i hr
        exact ⟨i, j, rfl, rgOk_ok hr, P2 w2 H2 _ G2 (E1.trans E2) rng_ok⟩
      · exact P2.elim
    · exact P2.elim
  · cases h
theorem enum_at {xs : List D} {n : Nat} {d : D} (h : (enumD xs)[n]? = some d) : ∃ x, xs[n]? = some x ∧ d = .tup [.int (n : Nat), x] := by
  unfold enumD at h
  rw [List.getElem?_zipWith] at h
  cases q : xs[n]? with
  | none => rw [q] at h; cases q1 : (List.range xs.length)[n]? <;> (rw [q1] at h; cases h)
  | some x =>
    have hl := (List.getElem?_eq_some_iff.mp q).1
    rw [q, List.getElem?_range hl] at h
    cases h
    exact ⟨x, rfl, rfl⟩
theorem zip_at {xs ys : List D} {n : Nat} {d : D} (h : (zipD xs ys)[n]? = some d) : ∃ x y, xs[n]? = some x ∧ ys[n]? = some y ∧ d = .tup [x, y] := by
  unfold zipD at h
  rw [List.getElem?_zipWith] at h
  cases q : xs[n]? with
  | none => rw [q] at h; cases h
  | some x =>
    cases q2 : ys[n]? with
    | none => rw [q, q2] at h; cases h
    | some y =>
      rw [q, q2] at h
      cases h
      exact ⟨x, y, rfl, rfl, rfl⟩
theorem pair_new {w : Wd} {H : Hp} {S : Store} {T : Addr} {d e : D} {u v : V} (ok : WOk g w H S) (hn : H T = none) (r : Rep g H w d u) (r2 : Rep g H w e v) : Ext w H w (upd H T (.tup [u, v])) ∧ WOk g w (upd H T (.tup [u, v])) S ∧ Rep g (upd H T (.tup [u, v])) w (.tup [d, e]) (.ref T) := by
  have E : Ext w H w (upd H T (.tup [u, v])) := .newT hn
  exact ⟨E, ok.newT hn, .tup (.inl (.inl upd_same)) ((Reps.cons r (.cons r2 .nil)).per (E.per ok))⟩
theorem enum_ok {p k : Bool} {a : Addr} {ds : List D} {w : Wd} {H : Hp} (h : ∀ w1 H1 S1, WOk g w1 H1 S1 → RelB p w H w1 H1 → ∃ vs, SqB k g.K H1 a vs ∧ Reps g H1 w1 ds vs) : ItOk g p (IteB k g.K a) (enumD ds) w H where
  go := fun i w1 H1 S1 d ok e hd => by
    obtain ⟨vs, hq, rs⟩ := h w1 H1 S1 ok e
    obtain ⟨x, hx, rfl⟩ := enum_at hd
    obtain ⟨v, hv, r⟩ := rs.get hx
    refine ⟨⟨vs, v, hq, hv⟩, fun y H2 z => ?_⟩
    obtain ⟨T, x', rfl, hn, rfl, hx'⟩ := z
    have q := hx' vs hq
    rw [hv] at q; cases q
    exact pair_new ok hn (.int _) r
  stop := fun w1 H1 S1 ok e => by
    obtain ⟨vs, hq, rs⟩ := h w1 H1 S1 ok e
    refine ⟨vs, hq, ?_⟩
    rw [← rs.length]
    unfold enumD
    simp
theorem i_enum {a : N} (ia : Snd g fr C a) (x : XOk g C s X W) (p : Bool) (tg e : Expr) (h : chkI s p tg (.enum a) e = true) : PI X tg e (tI g fr W C p (.enum a)) := by
  unfold chkI at h
  split at h
  · simp only [Bool.and_eq_true, decide_eq_true_eq] at h
    obtain ⟨⟨⟨⟨⟨rfl, hg⟩, hf⟩, hs⟩, hc⟩, ht⟩ := h
    split at ht
    · refine PI.imp (pi_enumB (x.gl hg) (x.free _ hf) (pa_1 (ia.e x p _ hc) hs) (star_ok hs)) fun σ H R ⟨w, env, S, G, P⟩ => ?_
      rw [evI] at P
      refine one_ G P fun d S1 w1 H1 v G1 E1 R1 P1 => ?_
      obtain ⟨ds, e1, k⟩ := P1.ofO
      cases q : seqD d with
      | none => rw [q] at e1; cases e1
      | some xs =>
        rw [q] at e1
        cases e1
        obtain ⟨b, a, vs, rfl, hq, rs⟩ := R1.t.sq q
        obtain ⟨b2, later⟩ := RepP.sq R1 q
        obtain ⟨vs2, hq2, _⟩ := later w1 H1 _ G1.wok .refl
        refine ⟨b2, a, vs2, rfl, by rw [x.K]; exact hq2, ?_⟩
        rw [x.K]
        exact k w1 H1 _ G1 E1 (enum_ok fun w2 H2 S2 _ e2 => later w2 H2 _ G1.wok e2)
    · cases ht
  · cases h
theorem zip_ok {p k l : Bool} {a b : Addr} {ds es : List D} {w : Wd} {H : Hp} (h : ∀ w1 H1 S1, WOk g w1 H1 S1 → RelB p w H w1 H1 → ∃ vs, SqB k g.K H1 a vs ∧ Reps g H1 w1 ds vs) (h' : ∀ w1 H1 S1, WOk g w1 H1 S1 → RelB p w H w1 H1 → ∃ vs, SqB l g.K H1 b vs ∧ Reps g H1 w1 es vs) : ItOk g p (ItzB k l g.K a b) (zipD ds es) w H where
  go := fun i w1 H1 S1 d ok e hd => by
    obtain ⟨vs, hq, rs⟩ := h w1 H1 S1 ok e
    obtain ⟨us, hq2, rs2⟩ := h' w1 H1 S1 ok e
    obtain ⟨x, y, hx, hy, rfl⟩ := zip_at hd
    obtain ⟨v, hv, r⟩ := rs.get hx
    obtain ⟨u, hu, r2⟩ := rs2.get hy
    refine ⟨⟨vs, us, v, u, hq, hq2, hv, hu⟩, fun y H2 z => ?_⟩
    obtain ⟨T, x', y', rfl, hn, rfl, hx', hy'⟩ := z
    have q := hx' vs hq
    rw [hv] at q; cases q
    have q := hy' us hq2
    rw [hu] at q; cases q
    exact pair_new ok hn r r2
  stop := fun w1 H1 S1 ok e => by
    obtain ⟨vs, hq, rs⟩ := h w1 H1 S1 ok e
    obtain ⟨us, hq2, rs2⟩ := h' w1 H1 S1 ok e
    refine ⟨vs, us, hq, hq2, ?_⟩
    rw [← rs.length, ← rs2.length]
    unfold zipD
    simp
    omega
theorem i_zip {a b : N} (ia : Snd g fr C a) (ib : Snd g fr C b) (x : XOk g C s X W) (p : Bool) (tg e : Expr) (h : chkI s p tg (.zip a b) e = true) : PI X tg e (tI g fr W C p (.zip a b)) := by
  unfold chkI at h
  split at h
  · simp only [Bool.and_eq_true, decide_eq_true_eq] at h
    obtain ⟨⟨⟨⟨⟨⟨⟨rfl, hg⟩, hf⟩, hs⟩, hs2⟩, hc⟩, hc2⟩, ht⟩ := h
    split at ht
    · refine PI.imp (pi_zipB (x.gl hg) (x.free _ hf) (pa_2 (ia.e x p _ hc) (ib.e x p _ hc2) hs hs2) (star_ok hs) (by rw [star_ok hs2]; rfl)) fun σ H R ⟨w, env, S, G, P⟩ => ?_
      rw [evI] at P
      refine one_ G P fun d S1 w1 H1 v G1 E1 R1 P1 => one_ G1 P1 fun d2 S2 w2 H2 v2 G2 E2 R2 P2 => ?_
      split at P2
      · rename_i xs ys q q2
        have R1 := RepP.ext G1.wok E2 R1
        obtain ⟨_, a, _, rfl, _, _⟩ := R1.t.sq q
        obtain ⟨_, c, _, rfl, _, _⟩ := R2.t.sq q2
        obtain ⟨b1, l1⟩ := RepP.sq R1 q
        obtain ⟨b2, l2⟩ := RepP.sq R2 q2
        obtain ⟨vs1, hq1, _⟩ := l1 w2 H2 _ G2.wok .refl
        obtain ⟨vs2, hq2, _⟩ := l2 w2 H2 _ G2.wok .refl
        refine ⟨b1, b2, a, c, vs1, vs2, rfl, by rw [x.K]; exact hq1, by rw [x.K]; exact hq2, ?_⟩
        rw [x.K]
        exact P2 w2 H2 _ G2 (E1.trans E2) (zip_ok (fun w3 H3 S3 _ e3 => l1 w3 H3 _ G2.wok e3) fun w3 H3 S3 _ e3 => l2 w3 H3 _ G2.wok e3)
      · exact P2.elim
    · cases ht
  · cases h
end
end Fx

set_option maxHeartbeats 4000000
/-! Fx7g: list comprehensions. -/
namespace Fx
open PySem PySem.Spec PyProof.Rows L2

section
variable {g : G} {fr : Frm} {W : WX} {C : Ev} {s : Sc} {X : Cx}
def blkS (s : Sc) (scope : Scope) : Sc := { s with sc := relS scope s.sc, own := scope, def_ := false, lam := false }
theorem rel_keep0 {c : Str → NameKind → Bool} {x : Str} {k : NameKind} (hc : ∀ n, c n k = false) : ∀ {l : List (Str × NameKind)}, l.lookup x = some k → (l.map fun (n, k) => if c n k then (n, NameKind.cell) else (n, k)).lookup x = some k
  | (n, k') :: r, h => by
    rw [List.lookup_cons] at h
    rw [List.map_cons]
    cases hb : x == n with
    | true =>
      rw [hb] at h
      cases h
      simp only [hc, Bool.false_eq_true, if_false]
      rw [List.lookup_cons, hb]
    | false =>
      rw [hb] at h
      have q := rel_keep0 (c := c) hc h
      show List.lookup x ((if c n k' = true then (n, NameKind.cell) else (n, k')) :: _) = some k
      split
      · rw [List.lookup_cons, hb]; exact q
      · rw [List.lookup_cons, hb]; exact q
theorem rel_keep {sc scope : Scope} {x : Str} {k : NameKind} (hk : k ≠ .free) (h : scope.names.lookup x = some k) : (relS scope sc).names.lookup x = some k :=
  rel_keep0 (c := fun n k => k == .free && sc.kind == .function && sc.names.lookup n == some .cell) (fun n => by cases k <;> first | exact absurd rfl hk | rfl) h
theorem XOk.blk {scope : Scope} {own : List (Str × Nat)} (x : XOk g C s X W) (ok : BlkOk X.N X.env.scope scope own) (st : Shared) (H : Hp) (A : Addr) (cl : List (Str × Addr)) (fp : List Addr) :
    XOk g C (blkS s scope) (X.blk st H scope (compEnvC scope cl A X.env) fp) (fun _ _ _ _ => False) where
  K := x.K
  mg := x.mg
  N := x.N
  sc := by rw [show (blkS s scope).sc = relS scope s.sc from rfl, ← x.sc]; rfl
  kind := ok.kind
  nd := x.nd
  calm := x.calm
  gd := x.gd
  un := x.un
  st := fun n h => by
    unfold stB at h
    simp only [Bool.or_eq_true, decide_eq_true_eq] at h
    have e : (X.blk st H scope (compEnvC scope cl A X.env) fp).env.scope = relS scope X.env.scope := rfl
    rw [e]
    rcases h with h | h
    · have q : (relS scope X.env.scope).names.lookup n = some .local := rel_keep (by decide) h
      exact ⟨.inl q, .inr q⟩
    · have q : (relS scope X.env.scope).names.lookup n = some .cell := rel_keep (by decide) h
      refine ⟨.inr q, .inl ?_⟩
      show (scope.names.lookup n == some NameKind.cell) = true
      have h' : scope.names.lookup n = some .cell := h
      rw [h']
      rfl
  pass := .never
  tk := takes0
  free := x.free
  gcd := x.gcd
  fns := fun f ps h => by
    obtain ⟨a, fd, k, h1, h2, h3, _, h4⟩ := (x.fns f ps h).ex
    exact ⟨a, fd, k, h1, h2, h3, fun z => absurd (show false = true from z) Bool.false_ne_true, h4⟩
  ex := x.ex
  fld := x.fld
  top := x.top
  rm := x.rm
  ci := x.ci
  cs := x.cs
  ct := x.ct
  hear := x.hear
  stk := fun z => absurd (show false = true from z) Bool.false_ne_true
  lamOk := fun z => by cases z
theorem look_mem {α : Type} : ∀ {l : List (Str × α)} {x : Str} {k : α}, l.lookup x = some k → (x, k) ∈ l
  | (n, k') :: r, x, k, h => by
    rw [List.lookup_cons] at h
    cases hb : x == n with
    | true =>
      rw [hb] at h
      cases h
      have e : x = n := by simpa using hb
      subst e
      exact List.mem_cons_self
    | false =>
      rw [hb] at h
      exact List.mem_cons_of_mem _ (look_mem h)
theorem tgt_own {sc scope : Scope} {own : List (Str × Nat)} (ok : BlkOk s.N sc scope own) (nd : s.N.Nodup) (n : N) : (∀ e, chkG (blkS s scope) n e = true → ∀ i, asgT n i = true → i ∈ own.map (·.2)) ∧ ∀ es, chkGs (blkS s scope) n es = true → ∀ i, asgT n i = true → i ∈ own.map (·.2) := by
  induction n with
  | nil => exact ⟨fun e _ i h => (by cases h), fun e _ i h => (by cases h)⟩
  | tn j =>
    refine ⟨fun e h i hi => ?_, fun e h => (by unfold chkGs at h; cases h)⟩
    have ei : j = i := by simpa [asgT] using hi
    subst ei
    unfold chkG at h
    split at h
    · rename_i x pos
      simp only [Bool.and_eq_true, decide_eq_true_eq] at h
      obtain ⟨h1, h2⟩ := h
      have h1 : s.N[j]? = some x := h1
      unfold stB at h2
      simp only [Bool.or_eq_true, decide_eq_true_eq] at h2
      have key : ∀ k, scope.names.lookup x = some k → (k = .local ∨ k = .cell) → j ∈ own.map (·.2) := fun k hk hk2 => by
        have hm : (x, k) ∈ scope.names := look_mem hk
        rcases ok.own _ hm hk2 with z | z
        · obtain ⟨p, hp, e⟩ := List.mem_map.mp z
          have q := ok.ix p hp
          have e : p.1 = x := e
          rw [e] at q
          have := (List.getElem?_inj (List.getElem?_eq_some_iff.mp h1).1 nd).mp (h1.trans q.symm)
          exact List.mem_map.mpr ⟨p, hp, this.symm⟩
        · exact absurd (List.mem_of_getElem? h1) z
      rcases h2 with h2 | h2
      · exact key _ h2 (.inl rfl)
      · exact key _ h2 (.inr rfl)
    · cases h
  | tt es ih =>
    refine ⟨fun e h i hi => ?_, fun e h => (by unfold chkGs at h; cases h)⟩
    unfold chkG at h
    split at h
    · exact ih.2 _ h i hi
    · cases h
  | cons a b iha ihb =>
    refine ⟨fun e h => (by unfold chkG at h; cases h), fun es h i hi => ?_⟩
    cases es with
    | nil => unfold chkGs at h; cases h
    | cons y ys =>
      unfold chkGs at h
      simp only [Bool.and_eq_true] at h
      have hi : (asgT a i || asgT b i) = true := hi
      rcases Bool.or_eq_true_iff.mp hi with z | z
      · exact iha.1 _ h.1.2 i z
      · exact ihb.2 _ h.2 i z
  | _ => exact ⟨fun e h => (by unfold chkG at h; cases h), fun es h => (by unfold chkGs at h; cases h)⟩
theorem wipe_get {σ : L2.St} {i : Nat} : ∀ {vs : List Nat}, i ∉ vs → (L2.wipe σ vs)[i]? = σ[i]?
  | [], _ => rfl
  | v :: vs, h => by
    unfold L2.wipe
    simp only [List.mem_cons, not_or] at h
    rw [List.getElem?_set_ne (Ne.symm h.1)]
    exact wipe_get h.2
theorem wipe_in {σ : L2.St} {i : Nat} (hl : i < σ.length) : ∀ {vs : List Nat}, i ∈ vs → (L2.wipe σ vs)[i]? = some none
  | v :: vs, h => by
    unfold L2.wipe
    by_cases e : v = i
    · subst e
      rw [List.getElem?_set_self (by rw [wipe_length]; exact hl)]
    · rw [List.getElem?_set_ne e]
      rcases List.mem_cons.mp h with z | z
      · exact absurd z.symm e
      · exact wipe_in hl z
theorem wipe_eq {σ σ2 : L2.St} {vs : List Nat} (hl : σ2.length = σ.length) (h : ∀ i, i ∉ vs → σ2[i]? = σ[i]?) : L2.wipe σ2 vs = L2.wipe σ vs := by
  refine List.ext_getElem? fun i => ?_
  by_cases hi : i ∈ vs
  · by_cases hlt : i < σ.length
    · rw [wipe_in hlt hi, wipe_in (by omega) hi]
    · rw [List.getElem?_eq_none (by rw [wipe_length]; omega), List.getElem?_eq_none (by rw [wipe_length]; omega)]
  · rw [wipe_get hi, wipe_get hi, h i hi]
theorem wipe_wipe {σ : L2.St} {vs : List Nat} : L2.wipe (L2.wipe σ vs) vs = L2.wipe σ vs := wipe_eq (wipe_length _ _) fun i hi => wipe_get hi

theorem PTs.imp {es : List Expr} {t t' : TT} (h : PTs X es t) (k : ∀ σ H Q, t' σ H Q → t σ H Q) : PTs X es t' := ⟨fun pins st σ H Q I q => h.run pins st σ H Q I (k _ _ _ q)⟩
theorem c_nil {es : List Expr} (h : chkC s .nil es = true) : PTs X es (tTs g fr W C .nil) := by
  unfold chkC at h
  split at h
  · refine PTs.imp pts_nil fun σ H Q ⟨w, env, S, G, P⟩ => ?_
    rw [evT] at P
    exact P w H true G .refl rfl
  · cases h
theorem c_cons {a b : N} (ia : Snd g fr C a) (x : XOk g C s X W) (es : List Expr) (h : chkC s (.cons a b) es = true) : PTs X es (tTs g fr W C (.cons a b)) := by
  cases b with
  | nil =>
    unfold chkC at h
    split at h
    · refine PTs.imp (pts_one (ia.t x _ h)) fun σ H Q ⟨w, env, S, G, P⟩ => ⟨w, env, S, G, ?_⟩
      rw [evT] at P
      exact P
    · cases h
  | _ => unfold chkC at h; cases h

/-! ### the comprehension -/
def compF (C : Ev) (own : List (Str × Nat)) (elt tg cond : N) (env : Env) (d : D) (S : Store) : Res (Option D) :=
  match bindT tg d (wipeE env own) with
  | none => .st
  | some e => (evT C cond e S).bind fun k S => if k then (ev C elt e S).bind fun y S => .ok (some y) S else .ok none S
theorem Post.noex {α β : Type} {r : Res α} {f : α → Store → Res β} {K : β → Store → Prop} {E E' : Str → D → Store → Prop} (h : Post (r.noex.bind f) K E) : Post r (fun a S => Post (f a S) K E) E' := by
  cases r with
  | ok a S => exact h
  | ex c p S => exact h.elim
  | st => exact h.elim
theorem compL_noex {f : D → Store → Res (Option D)} {E E' : Str → D → Store → Prop} {K : List D → Store → Prop} : ∀ {ds acc : List D} {S : Store}, Post (compL f ds acc S) K E → Post (compL f ds acc S) K E'
  | [], acc, S, h => h
  | d :: ds, acc, S, h => by
    unfold compL at h ⊢
    cases q : f d S with
    | ok o S1 =>
      rw [q] at h
      cases o with
      | none => exact compL_noex (ds := ds) h
      | some y =>
        have h : Post (if acc.length < lim then compL f ds (acc ++ [y]) S1 else .st) K E := h
        show Post (if acc.length < lim then compL f ds (acc ++ [y]) S1 else .st) K E'
        split
        · rename_i hl
          rw [if_pos hl] at h
          exact compL_noex h
        · rename_i hl
          rw [if_neg hl] at h
          exact h.elim
    | ex c p S1 => rw [q] at h; exact h.elim
    | st => rw [q] at h; exact h.elim
theorem foldS {e : Expr} {env : PySem.Env} {s : Sc} {n : N} {p : Bool} {tg : Expr} (h : chkI s p tg n e = true) : ∀ x, foldedSetIterable e env x = pure x := by
  have ne : ∀ es k pos, e ≠ .Set es k pos := fun es k pos q => by
    subst q
    cases n <;> (unfold chkI at h; first | (cases h; done) | (simp at h; done))
  intro x
  cases e <;> first
    | rfl
    | exact absurd rfl (ne _ _ _)
theorem blen (n : N) : (∀ d env env', bindT n d env = some env' → env'.length = env.length) ∧ ∀ ds env env', bindT.bindTs n ds env = some env' → env'.length = env.length := by
  induction n with
  | nil =>
    refine ⟨fun d env env' h => (by unfold bindT at h; cases h), fun ds env env' h => ?_⟩
    cases ds with
    | nil => unfold bindT.bindTs at h; cases h; rfl
    | cons => unfold bindT.bindTs at h; cases h
  | tn i =>
    refine ⟨fun d env env' h => ?_, fun ds env env' h => (by unfold bindT.bindTs at h; cases h)⟩
    unfold bindT at h
    split at h
    · cases h; rw [List.length_set]
    · cases h
  | tt es ih =>
    refine ⟨fun d env env' h => ?_, fun ds env env' h => (by unfold bindT.bindTs at h; cases h)⟩
    cases d with
    | tup ds => exact ih.2 ds env env' h
    | _ => unfold bindT at h; cases h
  | cons a b iha ihb =>
    refine ⟨fun d env env' h => (by unfold bindT at h; cases h), fun ds env env' h => ?_⟩
    cases ds with
    | nil => unfold bindT.bindTs at h; cases h
    | cons d ds =>
      unfold bindT.bindTs at h
      cases q : bindT a d env with
      | none => rw [q] at h; cases h
      | some e1 =>
        rw [q] at h
        rw [ihb.2 ds e1 env' h, iha.1 d env e1 q]
  | _ => exact ⟨fun d env env' h => (by unfold bindT at h; cases h), fun ds env env' h => (by unfold bindT.bindTs at h; cases h)⟩
theorem bindT_len {d : D} {env env' : Env} {n : N} (h : bindT n d env = some env') : env'.length = env.length := (blen n).1 d env env' h
theorem ext_own {w1 w : Wd} {H1 H : Hp} {D : Addr} {o : HO} (E : Ext w1 H1 w H) (hD : H1 D = none) : Ext w1 H1 w (upd H D o) :=
  { keep := fun a u q n t => by rw [upd_ne (ne_of_none q hD)]; exact E.keep a u q n t
    dom := fun a q => by
      by_cases e : a = D
      · rw [e]; exact hD
      · rw [upd_ne e] at q; exact E.dom a q
    fz := E.fz
    fzn := E.fzn
    mu := E.mu
    mun := E.mun }
theorem per_own {w : Wd} {H : Hp} {D : Addr} {vs vs' : List V} (hq : H D = some (.lst vs)) (nf : ¬ w.fz D) : Per w H w (upd H D (.lst vs')) :=
  { tup := fun a xs h => by rw [upd_ne (fun e => by rw [e, hq] at h; cases h)]; exact h
    frz := fun a o u h => by rw [upd_ne (fun e => by rw [e, hq] at h; cases h)]; exact h
    lst := fun a xs h z => ⟨by rw [upd_ne (fun e => nf (by rw [← e]; exact z))]; exact h, z⟩
    mu := fun _ _ h => h }
theorem wok_own {w : Wd} {H : Hp} {S : Store} {D : Addr} {vs vs' : List V} (k : WOk g w H S) (hq : H D = some (.lst vs)) (nf : ¬ w.fz D) (nm : D ∉ w.mu) : WOk g w (upd H D (.lst vs')) S := by
  refine ⟨k.len, k.nd, fun n a c e1 e2 => (k.cell n a c e1 e2).per (per_own hq nf) fun kus q => ?_, fun a z => ?_, tabs_lst k.tab hq⟩
  · rw [upd_ne (fun e => by rw [e, hq] at q; cases q)]; exact q
  · obtain ⟨z1, xs, z2⟩ := k.fz a z
    exact ⟨z1, xs, by rw [upd_ne (fun e => nf (by rw [← e]; exact z))]; exact z2⟩
/-- what the rules of comprehensions ask -/
structure CompR (g : G) (fr : Frm) (W : WX) (C : Ev) (X : Cx) (n : N) (own : List (Str × Nat)) (ex te ye : Expr) (ifs : List Expr) (scope : Scope) (wi : TI) (gg : TG) (tt : TT) (tee : TE) : Prop where
  hi : PI X te ye wi
  ok : BlkOk X.N X.env.scope scope own
  hg : ∀ (st : Shared) (H : Hp) (A : Addr) (cl : List (Str × Addr)) (fp : List Addr), PG (X.blk st H scope (compEnvC scope cl A X.env) fp) te gg
  ht : ∀ (st : Shared) (H : Hp) (A : Addr) (cl : List (Str × Addr)) (fp : List Addr), PTs (X.blk st H scope (compEnvC scope cl A X.env) fp) ifs tt
  he : ∀ (st : Shared) (H : Hp) (A : Addr) (cl : List (Str × Addr)) (fp : List Addr), PE (X.blk st H scope (compEnvC scope cl A X.env) fp) ex tee
  hs : ∀ v, foldedSetIterable ye X.env v = pure v
  im : ∀ σ H Q, tN g fr W C true n σ H Q → tLc wi gg tt tee (own.map (·.2)) σ H Q
theorem comp_parts {own : List (Str × Nat)} {elt tg it cond : N} (ie : Snd g fr C elt) (ig : Snd g fr C tg) (ii : Snd g fr C it) (ic : Snd g fr C cond) (x : XOk g C s X W) (p : Bool) (e : Expr) (h : chk s p (.comp own elt tg it cond) e = true) :
    ∃ ex te ye ifs scope pos wi gg tt tee, e = .ListComp ex [⟨te, ye, ifs, 0⟩] scope pos ∧ CompR g fr W C X (.comp own elt tg it cond) own ex te ye ifs scope wi gg tt tee := by
  unfold chk at h
  split at h
  · rename_i ex te ye ifs scope pos
    simp only [Bool.and_eq_true] at h
    obtain ⟨⟨⟨⟨h1, h2⟩, h3⟩, h4⟩, h5⟩ := h
    have h3 : chkG (blkS s scope) tg te = true := h3
    have ok0 := blkOk_by h2
    have ok : BlkOk X.N X.env.scope scope own := by rw [x.N, x.sc]; exact ok0
    refine ⟨ex, te, ye, ifs, scope, pos, tI g fr W C true it, tGt g fr tg, tTs g fr (fun _ _ _ _ => False) C cond, tE g fr (fun _ _ _ _ => False) C elt, rfl, ii.i x true te ye h1, ok, fun st H A cl fp => ig.tgt (x.blk ok st H A cl fp) _ h3, fun st H A cl fp => ic.c (x.blk ok st H A cl fp) _ h4,
      fun st H A cl fp => ie.e (x.blk ok st H A cl fp) false _ h5, foldS h1, fun σ H Q ⟨w, env, S, G, P⟩ => ?_⟩
    rw [ev] at P
    refine ⟨w, env, S, G, P.bind.imp (fun ds S1 P1 w1 H1 J G1 E1 itok D hD => ?_) fun _ _ _ x => x⟩
    have P1 : Post (compL (compF C own elt tg cond env) ds [] S1) (fun xs S' => ∀ w' H' v, OutN g true w H S' (.lst xs) w' H' v → Q v H') (fun _ _ _ => False) := compL_noex P1.bind
    have Gw := G1.wipe own
    let Pv : Nat → Hp → Prop := fun i H2 => ∃ w2 S2 acc vs, Ext w1 H1 w2 H2 ∧ WOk g w2 H2 S2 ∧ H2 D = some (.lst vs) ∧ Reps g H2 w2 acc vs ∧ ¬ w2.fz D ∧ D ∉ w2.mu ∧ Post (compL (compF C own elt tg cond env) (ds.drop i) acc S2) (fun xs S' => ∀ w' H' v, OutN g true w H S' (.lst xs) w' H' v → Q v H') (fun _ _ _ => False)
    refine ⟨fun i m H2 => m = ds.length - i ∧ i ≤ ds.length ∧ Pv i H2, ⟨ds.length, by simp, Nat.zero_le _, ?_⟩, ?_⟩
    · refine ⟨w1, S1, [], [], .newT hD, G1.wok.newT hD, upd_same, .nil, fun z => ?_, G1.wok.nmu hD, P1⟩
      obtain ⟨_, _, q⟩ := G1.wok.fz D z
      rw [q] at hD; cases hD
    · rintro i m H2 ⟨rfl, hi, w2, S2, acc, vs, E2, ok2, hq, rs, nf, nm, P2⟩
      by_cases hlt : i < ds.length
      · right
        obtain ⟨jgo, jy⟩ := itok.go i w2 H2 S2 ds[i] ok2 (show RelB true w1 H1 w2 H2 from E2) (List.getElem?_eq_getElem hlt)
        refine ⟨jgo, Pv (i + 1), fun H' q => ⟨ds.length - (i + 1), by omega, rfl, hlt, q⟩, fun v H3 y => ?_⟩
        obtain ⟨E3, ok3, r3⟩ := jy v H3 y
        rw [List.drop_eq_getElem_cons hlt] at P2
        unfold compL at P2
        have P3 : Post (compF C own elt tg cond env ds[i] S2) _ (fun _ _ _ => False) := P2.noex
        unfold compF at P3
        have hq3 : H3 D = some (.lst vs) := E3.keep D _ hq nm (fun _ z => by cases z)
        have rs3 := rs.per (E3.per ok2)
        have E13 := E2.trans E3
        split at P3
        · exact P3.elim
        · rename_i env' hb
          refine ⟨w2, wipeE env own, S2, ds[i], env', Gw.step E13 ok3, r3, hb, fun σ2 G2 A2 => ⟨?_, ?_⟩⟩
          · rw [wipe_eq (σ := L2.wipe σ (own.map (·.2))) ?_ ?_, wipe_wipe]
            · rw [← G2.len, ← Gw.len]
              exact bindT_len hb
            · intro j hj
              refine (A2 j ?_).2
              cases q : asgT tg j with
              | false => rfl
              | true => exact absurd ((tgt_own ok0 x.nd tg).1 _ h3 j q) hj
          · refine ⟨w2, env', S2, G2, (P3.bind).imp (fun k S4 P4 w4 H4 b G4 E4 eb => ?_) fun _ _ _ z => z.elim⟩
            cases eb
            have hq4 : H4 D = some (.lst vs) := E4.keep D _ hq3 nm (fun _ z => by cases z)
            have nf4 : ¬ w4.fz D := fun z => (E4.fzn D z).elim nf fun q => by rw [q] at hq3; cases hq3
            have nm4 : D ∉ w4.mu := fun z => (E4.mun D z).elim nm fun q => by rw [q] at hq3; cases hq3
            have rs4 := rs3.per (E4.per ok3)
            cases k with
            | false =>
              have P4 : Post (compL (compF C own elt tg cond env) (ds.drop (i + 1)) acc S4) _ _ := P4
              rw [if_neg Bool.false_ne_true]
              exact ⟨w4, S4, acc, vs, E13.trans E4, G4.wok, hq4, rs4, nf4, nm4, P4⟩
            | true =>
              have P4 : Post ((ev C elt env' S4).bind fun y S => Res.ok (some y) S) _ _ := P4
              rw [if_pos rfl]
              refine ⟨w4, env', S4, G4, P4.bind.imp (fun d S5 P5 w5 H5 v5 G5 E5 r5 => ?_) fun _ _ _ z => z.elim⟩
              have P5 : Post (if acc.length < lim then compL (compF C own elt tg cond env) (ds.drop (i + 1)) (acc ++ [d]) S5 else .st) _ _ := P5
              have hq5 : H5 D = some (.lst vs) := E5.keep D _ hq4 nm4 (fun _ z => by cases z)
              have nf5 : ¬ w5.fz D := fun z => (E5.fzn D z).elim nf4 fun q => by rw [q] at hq4; cases hq4
              have nm5 : D ∉ w5.mu := fun z => (E5.mun D z).elim nm4 fun q => by rw [q] at hq4; cases hq4
              have rs5 := rs4.per (E5.per G4.wok)
              split at P5
              · rename_i hl
                refine ⟨vs, hq5, by rw [← limE, ← rs.length]; exact hl, w5, S5, acc ++ [d], vs ++ [v5], ?_, ?_, upd_same, ?_, nf5, nm5, P5⟩
                · exact ext_own (E13.trans (E4.trans E5)) hD
                · exact wok_own G5.wok hq5 nf5 nm5
                · exact (rs5.snoc r5).per (per_own (vs' := vs ++ [v5]) hq5 nf5)
              · exact P5.elim
      · have e1 : i = ds.length := by omega
        subst e1
        left
        refine ⟨itok.stop w2 H2 S2 ok2 (show RelB true w1 H1 w2 H2 from E2), ?_⟩
        rw [List.drop_length] at P2
        exact P2 w2 H2 (.ref D) (.new (E1.trans E2) ok2 (E1.dom _ hD) nf nm hq rs)
  · cases h
theorem e_comp {own : List (Str × Nat)} {elt tg it cond : N} (ie : Snd g fr C elt) (ig : Snd g fr C tg) (ii : Snd g fr C it) (ic : Snd g fr C cond) (x : XOk g C s X W) (p : Bool) (e : Expr) (h : chk s p (.comp own elt tg it cond) e = true) : PE X e (tN g fr W C true (.comp own elt tg it cond)) := by
  obtain ⟨ex, te, ye, ifs, scope, pos, wi, gg, tt, tee, rfl, r⟩ := comp_parts ie ig ii ic x p e h
  exact PE.imp (pe_lc x.calm (by rw [x.N]; exact x.nd) r.hi r.ok r.hg r.ht r.he r.hs) r.im
end
end Fx

set_option maxHeartbeats 4000000
/-! Fx7i: x(lambda: e), x a def that tells what e is, or what it raised. -/
namespace Fx
open PySem PySem.Spec PyProof.Rows L2
section
variable {g : G} {fr : Frm} {W : WX} {C : Ev} {s : Sc} {X : Cx}
theorem XOk.lamC {scope : Scope} {ps : List Str} (x : XOk g C s X W) (h : s.lam = true) (L : LamK X.env.scope scope X.N ps) (eZ : PySem.Env) (outer : List PySem.Env) (s1 : Shared) (H1 : Hp) (E : XK) (f c' : Addr) :
    XOk g C { s with sc := scope, own := scope, def_ := false, lam := false } (LamX.lamCx X (X.A.deeper eZ) outer s1 H1 E scope f c') (fun cls dd _ H' => E cls dd H') := by
  obtain ⟨_, _, _, _, _, _, hr⟩ := x.lamOk h
  have r1 : Room 1 (LamX.lamCx X (X.A.deeper eZ) outer s1 H1 E scope f c').A := (hr.deeper _).deeper _
  exact {
    K := x.K
    mg := x.mg
    N := x.N
    sc := rfl
    kind := L.kind
    nd := x.nd
    calm := rfl
    gd := x.gd
    un := by have := r1.un; omega
    st := fun n h => by
      unfold stB at h
      simp only [Bool.or_eq_true, decide_eq_true_eq] at h
      rcases h with h | h
      · exact ⟨.inl h, .inr h⟩
      · exact absurd rfl (L.own _ (PySem.mem_of_lookup h)).1
    pass := passes_of rfl
    tk := takes_of rfl rfl rfl rfl
    free := x.free
    gcd := x.gcd
    fns := fun f ps hf => by
      obtain ⟨a, fd, k, h1, h2, h3, h4, h5⟩ := (x.fns f ps hf).ex
      exact ⟨a, fd, k, h1, h2, ((h4 h).deeper _).deeper _, fun z => absurd (show false = true from z) Bool.false_ne_true, h5⟩
    ex := x.ex
    fld := x.fld
    top := x.top
    rm := r1
    ci := x.ci
    cs := x.cs
    ct := x.ct
    hear := x.hear
    stk := fun z => absurd (show false = true from z) Bool.false_ne_true
    lamOk := fun z => absurd (show false = true from z) Bool.false_ne_true }
/-- the heap behind the making of a lambda -/
theorem ext_made {w : Wd} {H H1 : Hp} {S : Store} {P c' : Addr} {q : Str} (k : WOk g w H S) (h : H1 = H ∨ ∃ us qs, H P = some (.tbl us) ∧ H c' = none ∧ H1 = upd (upd H P (.tbl qs)) c' (LamX.CodeO c' q)) (t : LamX.Tabs g.T H1) : Ext w H w H1 ∧ WOk g w H1 S := by
  rcases h with rfl | ⟨us, qs, h1, h2, rfl⟩
  · exact ⟨.refl, k⟩
  · have at_ : ∀ a o, H a = some o → (∀ ps, o ≠ .tbl ps) → upd (upd H P (.tbl qs)) c' (LamX.CodeO c' q) a = some o := fun a o e n => by
      rw [upd_ne (ne_of_none e h2), upd_ne (fun z => n us (Option.some.inj (e.symm.trans (by rw [z]; exact h1))))]
      exact e
    have E : Ext w H w (upd (upd H P (.tbl qs)) c' (LamX.CodeO c' q)) := ⟨fun a o e _ n => at_ a o e n, fun a e => by
      by_cases n1 : a = c'
      · rw [n1]; exact h2
      · rw [upd_ne n1] at e
        by_cases n2 : a = P
        · rw [n2, upd_same] at e
          cases e
        · rw [upd_ne n2] at e
          exact e, fun _ z => z, fun _ z => .inl z, fun _ _ z => z, fun _ z => .inl z⟩
    refine ⟨E, k.len, k.nd, fun n a c e1 e2 => (k.cell n a c e1 e2).per (E.per k) fun kus z => at_ _ _ z fun _ y => (by cases y), fun a z => ?_, t⟩
    obtain ⟨q1, xs, q2⟩ := k.fz a z
    exact ⟨q1, xs, at_ _ _ q2 fun _ y => (by cases y)⟩
theorem e_hear {f : Str} {hs : List (Str × Str)} {e0 : N} (ie : Snd g fr C e0) (x : XOk g C s X W) (p : Bool) (e : Expr) (h : chk s p (.hear f hs e0) e = true) : PE X e (tQ g fr W C p (.hear f hs e0)) := by
  unfold chk at h
  split at h
  · rename_i y q1 params body scope lpos pos
    simp only [Bool.and_eq_true, decide_eq_true_eq] at h
    obtain ⟨⟨⟨⟨⟨⟨rfl, h2⟩, h3⟩, h4⟩, h5⟩, h6⟩, h7⟩ := h
    rw [← x.N, ← x.sc] at h6
    obtain ⟨ps, hps, L⟩ := lamB_ok h6
    obtain ⟨d, a, fd, rfl, hok, hm, F⟩ := x.hear _ _ h5
    obtain ⟨c, P, TB, hcode, hmT, hu, hr⟩ := x.lamOk h4
    refine PE.imp (pe_hearC (T := g.T) (t := fun E => tQ g fr (fun cls dd _ H' => E cls dd H') C false e0) (x.gl h2) hm F hok (okN_dbg h3) x.ex (fun c f q => (x.fld c f q).2) TB hcode hmT hu hr L hps (fun eZ outer s1 H1 E f c' => ie.e (x.lamC h4 L eZ outer s1 H1 E f c') false body h7)) fun σ H Q ⟨w, env, S, G, P0⟩ => ?_
    refine ⟨G.wok.tab, fun f c' H1 hp ht => ?_⟩
    obtain ⟨E1, k1⟩ := ext_made G.wok hp ht
    refine ⟨w, env, S, G.step E1 k1, ?_⟩
    rw [ev] at P0
    cases hr : ev C e0 env S with
    | st => rw [hr] at P0; exact P0.elim
    | ok d1 S' =>
      rw [hr] at P0
      intro w' H' b G2 E2 R2
      have R2 : Rep g H' w' d1 b := R2
      refine ⟨by simp [sizeLine_eq], fun q hq => ?_⟩
      have E3 : Ext w' H' { w' with fz := fun a => w'.fz a ∨ a = q } (upd H' q (.lst [b])) := .newL hq
      exact P0 _ _ _ (G2.step E3 (G2.wok.newL hq)) ((E1.trans E2).trans E3) (.of (.lst (.inl ⟨upd_same, .inr rfl⟩) (.cons (R2.per (E3.per G2.wok)) .nil)))
    | ex c0 p0 S' =>
      rw [hr] at P0
      cases hl : d.hs.lookup c0 with
      | none => simp only [hl] at P0; exact P0.elim
      | some w0 =>
        simp only [hl] at P0
        intro w' H' cc dd G2 E2 ⟨a0, m1, ecc, xc⟩
        subst ecc
        obtain ⟨fl, hfl⟩ := hd_in hok _ (mem_look hl)
        obtain ⟨g1, g2⟩ := x.fld _ _ hfl
        rw [g1] at xc
        obtain ⟨dx, v, rfl, hx, rv⟩ := xc
        rw [← x.mg, g2] at m1
        cases m1
        refine ⟨c0, fl, w0, dx, v, hl, hfl, rfl, rfl, hx, fun q hq => ?_⟩
        have E3 : Ext w' H' w' (upd H' q (.tup [.str w0, v])) := .newT hq
        exact P0 _ _ _ (G2.step E3 (G2.wok.newT hq)) ((E1.trans E2).trans E3) (.of (.tup (SqT.of upd_same) (.cons (.str w0) (.cons (rv.per (E3.per G2.wok)) .nil))))
  · cases h
end
end Fx

set_option maxHeartbeats 4000000
/-! Fx7h: every piece. -/
namespace Fx
open PySem PySem.Spec PyProof.Rows L2

theorem snd_all {g : G} {fr : Frm} {C : Ev} (n : N) : Snd g fr C n ∧ ValsSnd g fr C n := by
  induction n with
  | nil =>
    exact ⟨⟨fun x p e h => (by unfold chk at h; first | (cases h; done) | (simp at h; done)),
      fun x e hf h => (by cases hf),
      fun x p es h => as_nil h,
      fun x es h => kw_nil h,
      fun x e h => o_nil h,
      fun x e h => (by unfold chkT at h; cases h),
      fun x op es pos h => (by unfold chkT at h; first | (cases h; done) | (simp at h; done)),
      fun x p tg e h => (by unfold chkI at h; cases h),
      fun x es h => c_nil h,
      fun x e h => (by unfold chkG at h; cases h),
      fun x es h => gs_nil h⟩, vals_snd_nil⟩
  | cons a b ha hb =>
    exact ⟨⟨fun x p e h => (by unfold chk at h; first | (cases h; done) | (simp at h; done)),
      fun x e hf h => (by cases hf),
      fun x p es h => as_cons ha.1 hb.1 x p es h,
      fun x es h => kw_cons ha.1 hb.1 x es h,
      fun x e h => o_cons ha.1 x h,
      fun x e h => (by unfold chkT at h; cases h),
      fun x op es pos h => (by unfold chkT at h; first | (cases h; done) | (simp at h; done)),
      fun x p tg e h => (by unfold chkI at h; cases h),
      fun x es h => c_cons ha.1 x es h,
      fun x e h => (by unfold chkG at h; cases h),
      fun x es h => gs_cons ha.1 hb.1 x es h⟩, (vals_snd_cons ha.1 hb.2)⟩
  | var i =>
    exact ⟨⟨fun x p e h => e_var x p e h,
      fun x e hf h => (by cases hf),
      fun x p es h => (by unfold chks at h; cases h),
      fun x es h => (by unfold chkw at h; cases h),
      fun x e h => (by unfold chkO at h; cases h),
      fun x e h => (by unfold chkT at h; cases h),
      fun x op es pos h => (by unfold chkT at h; first | (cases h; done) | (simp at h; done)),
      fun x p tg e h => (by unfold chkI at h; cases h),
      fun x es h => (by unfold chkC at h; cases h),
      fun x e h => (by unfold chkG at h; cases h),
      fun x es h => (by unfold chkGs at h; cases h)⟩, fun x ks keys es pos hk hs => (by unfold chks at hs; cases hs)⟩
  | pk i =>
    exact ⟨⟨fun x p e h => e_pk x p e h,
      fun x e hf h => (by cases hf),
      fun x p es h => (by unfold chks at h; cases h),
      fun x es h => (by unfold chkw at h; cases h),
      fun x e h => (by unfold chkO at h; cases h),
      fun x e h => (by unfold chkT at h; cases h),
      fun x op es pos h => (by unfold chkT at h; first | (cases h; done) | (simp at h; done)),
      fun x p tg e h => (by unfold chkI at h; cases h),
      fun x es h => (by unfold chkC at h; cases h),
      fun x e h => (by unfold chkG at h; cases h),
      fun x es h => (by unfold chkGs at h; cases h)⟩, fun x ks keys es pos hk hs => (by unfold chks at hs; cases hs)⟩
  | gl x =>
    exact ⟨⟨fun x p e h => (by unfold chk at h; first | (cases h; done) | (simp at h; done)),
      fun x e hf h => (by cases hf),
      fun x p es h => (by unfold chks at h; cases h),
      fun x es h => (by unfold chkw at h; cases h),
      fun x e h => (by unfold chkO at h; cases h),
      fun x e h => (by unfold chkT at h; cases h),
      fun x op es pos h => (by unfold chkT at h; first | (cases h; done) | (simp at h; done)),
      fun x p tg e h => (by unfold chkI at h; cases h),
      fun x es h => (by unfold chkC at h; cases h),
      fun x e h => (by unfold chkG at h; cases h),
      fun x es h => (by unfold chkGs at h; cases h)⟩, fun x ks keys es pos hk hs => (by unfold chks at hs; cases hs)⟩
  | cI i =>
    exact ⟨⟨fun x p e h => e_cI x p e h,
      fun x e hf h => (by cases hf),
      fun x p es h => (by unfold chks at h; cases h),
      fun x es h => (by unfold chkw at h; cases h),
      fun x e h => (by unfold chkO at h; cases h),
      fun x e h => (by unfold chkT at h; cases h),
      fun x op es pos h => (by unfold chkT at h; first | (cases h; done) | (simp at h; done)),
      fun x p tg e h => (by unfold chkI at h; cases h),
      fun x es h => (by unfold chkC at h; cases h),
      fun x e h => (by unfold chkG at h; cases h),
      fun x es h => (by unfold chkGs at h; cases h)⟩, fun x ks keys es pos hk hs => (by unfold chks at hs; cases hs)⟩
  | cS x =>
    exact ⟨⟨fun x p e h => e_cS x p e h,
      fun x e hf h => (by cases hf),
      fun x p es h => (by unfold chks at h; cases h),
      fun x es h => (by unfold chkw at h; cases h),
      fun x e h => (by unfold chkO at h; cases h),
      fun x e h => (by unfold chkT at h; cases h),
      fun x op es pos h => (by unfold chkT at h; first | (cases h; done) | (simp at h; done)),
      fun x p tg e h => (by unfold chkI at h; cases h),
      fun x es h => (by unfold chkC at h; cases h),
      fun x e h => (by unfold chkG at h; cases h),
      fun x es h => (by unfold chkGs at h; cases h)⟩, fun x ks keys es pos hk hs => (by unfold chks at hs; cases hs)⟩
  | cB b =>
    exact ⟨⟨fun x p e h => e_cB p e h,
      fun x e hf h => (by cases hf),
      fun x p es h => (by unfold chks at h; cases h),
      fun x es h => (by unfold chkw at h; cases h),
      fun x e h => (by unfold chkO at h; cases h),
      fun x e h => (by unfold chkT at h; cases h),
      fun x op es pos h => (by unfold chkT at h; first | (cases h; done) | (simp at h; done)),
      fun x p tg e h => (by unfold chkI at h; cases h),
      fun x es h => (by unfold chkC at h; cases h),
      fun x e h => (by unfold chkG at h; cases h),
      fun x es h => (by unfold chkGs at h; cases h)⟩, fun x ks keys es pos hk hs => (by unfold chks at hs; cases hs)⟩
  | cT xs =>
    exact ⟨⟨fun x p e h => e_cT x p e h,
      fun x e hf h => (by cases hf),
      fun x p es h => (by unfold chks at h; cases h),
      fun x es h => (by unfold chkw at h; cases h),
      fun x e h => (by unfold chkO at h; cases h),
      fun x e h => (by unfold chkT at h; cases h),
      fun x op es pos h => (by unfold chkT at h; first | (cases h; done) | (simp at h; done)),
      fun x p tg e h => (by unfold chkI at h; cases h),
      fun x es h => (by unfold chkC at h; cases h),
      fun x e h => (by unfold chkG at h; cases h),
      fun x es h => (by unfold chkGs at h; cases h)⟩, fun x ks keys es pos hk hs => (by unfold chks at hs; cases hs)⟩
  | cN =>
    exact ⟨⟨fun x p e h => e_cN p e h,
      fun x e hf h => (by cases hf),
      fun x p es h => (by unfold chks at h; cases h),
      fun x es h => (by unfold chkw at h; cases h),
      fun x e h => (by unfold chkO at h; cases h),
      fun x e h => (by unfold chkT at h; cases h),
      fun x op es pos h => (by unfold chkT at h; first | (cases h; done) | (simp at h; done)),
      fun x p tg e h => (by unfold chkI at h; cases h),
      fun x es h => (by unfold chkC at h; cases h),
      fun x e h => (by unfold chkG at h; cases h),
      fun x es h => (by unfold chkGs at h; cases h)⟩, fun x ks keys es pos hk hs => (by unfold chks at hs; cases hs)⟩
  | tup es hes =>
    exact ⟨⟨fun x p e h => e_tup hes.1 x p e h,
      fun x e hf h => (by cases hf),
      fun x p es h => (by unfold chks at h; cases h),
      fun x es h => (by unfold chkw at h; cases h),
      fun x e h => (by unfold chkO at h; cases h),
      fun x e h => (by unfold chkT at h; cases h),
      fun x op es pos h => (by unfold chkT at h; first | (cases h; done) | (simp at h; done)),
      fun x p tg e h => (by unfold chkI at h; cases h),
      fun x es h => (by unfold chkC at h; cases h),
      fun x e h => (by unfold chkG at h; cases h),
      fun x es h => (by unfold chkGs at h; cases h)⟩, fun x ks keys es pos hk hs => (by unfold chks at hs; cases hs)⟩
  | lst es hes =>
    exact ⟨⟨fun x p e h => PE.ofN (e_lst hes.1 x e p h) p,
      fun x e hf h => e_lst hes.1 x e false h,
      fun x p es h => (by unfold chks at h; cases h),
      fun x es h => (by unfold chkw at h; cases h),
      fun x e h => (by unfold chkO at h; cases h),
      fun x e h => (by unfold chkT at h; cases h),
      fun x op es pos h => (by unfold chkT at h; first | (cases h; done) | (simp at h; done)),
      fun x p tg e h => (by unfold chkI at h; cases h),
      fun x es h => (by unfold chkC at h; cases h),
      fun x e h => (by unfold chkG at h; cases h),
      fun x es h => (by unfold chkGs at h; cases h)⟩, fun x ks keys es pos hk hs => (by unfold chks at hs; cases hs)⟩
  | dct ks vs hvs =>
    exact ⟨⟨fun x p e h => e_dct hvs.2 x p e h,
      fun x e hf h => (by cases hf),
      fun x p es h => (by unfold chks at h; cases h),
      fun x es h => (by unfold chkw at h; cases h),
      fun x e h => (by unfold chkO at h; cases h),
      fun x e h => (by unfold chkT at h; cases h),
      fun x op es pos h => (by unfold chkT at h; first | (cases h; done) | (simp at h; done)),
      fun x p tg e h => (by unfold chkI at h; cases h),
      fun x es h => (by unfold chkC at h; cases h),
      fun x e h => (by unfold chkG at h; cases h),
      fun x es h => (by unfold chkGs at h; cases h)⟩, fun x ks keys es pos hk hs => (by unfold chks at hs; cases hs)⟩
  | bin op a b ha hb =>
    exact ⟨⟨fun x p e h => PE.ofN (e_bin ha.1 hb.1 x p e h) p,
      fun x e hf h => e_bin ha.1 hb.1 x false e h,
      fun x p es h => (by unfold chks at h; cases h),
      fun x es h => (by unfold chkw at h; cases h),
      fun x e h => (by unfold chkO at h; cases h),
      fun x e h => (by unfold chkT at h; cases h),
      fun x op es pos h => (by unfold chkT at h; first | (cases h; done) | (simp at h; done)),
      fun x p tg e h => (by unfold chkI at h; cases h),
      fun x es h => (by unfold chkC at h; cases h),
      fun x e h => (by unfold chkG at h; cases h),
      fun x es h => (by unfold chkGs at h; cases h)⟩, fun x ks keys es pos hk hs => (by unfold chks at hs; cases hs)⟩
  | neg a ha =>
    exact ⟨⟨fun x p e h => e_neg ha.1 x p e h,
      fun x e hf h => (by cases hf),
      fun x p es h => (by unfold chks at h; cases h),
      fun x es h => (by unfold chkw at h; cases h),
      fun x e h => (by unfold chkO at h; cases h),
      fun x e h => (by unfold chkT at h; cases h),
      fun x op es pos h => (by unfold chkT at h; first | (cases h; done) | (simp at h; done)),
      fun x p tg e h => (by unfold chkI at h; cases h),
      fun x es h => (by unfold chkC at h; cases h),
      fun x e h => (by unfold chkG at h; cases h),
      fun x es h => (by unfold chkGs at h; cases h)⟩, fun x ks keys es pos hk hs => (by unfold chks at hs; cases hs)⟩
  | cmp op a b ha hb =>
    exact ⟨⟨fun x p e h => e_cmp ha.1 hb.1 x p e h,
      fun x e hf h => (by cases hf),
      fun x p es h => (by unfold chks at h; cases h),
      fun x es h => (by unfold chkw at h; cases h),
      fun x e h => (by unfold chkO at h; cases h),
      fun x e h => t_cmp ha.1 hb.1 x e h,
      fun x op es pos h => (by unfold chkT at h; first | (cases h; done) | (simp at h; done)),
      fun x p tg e h => (by unfold chkI at h; cases h),
      fun x es h => (by unfold chkC at h; cases h),
      fun x e h => (by unfold chkG at h; cases h),
      fun x es h => (by unfold chkGs at h; cases h)⟩, fun x ks keys es pos hk hs => (by unfold chks at hs; cases hs)⟩
  | chn o o2 a b c ha hb hc =>
    exact ⟨⟨fun x p e h => e_chn ha.1 hb.1 hc.1 x p e h,
      fun x e hf h => (by cases hf),
      fun x p es h => (by unfold chks at h; cases h),
      fun x es h => (by unfold chkw at h; cases h),
      fun x e h => (by unfold chkO at h; cases h),
      fun x e h => t_chn ha.1 hb.1 hc.1 x e h,
      fun x op es pos h => (by unfold chkT at h; first | (cases h; done) | (simp at h; done)),
      fun x p tg e h => (by unfold chkI at h; cases h),
      fun x es h => (by unfold chkC at h; cases h),
      fun x e h => (by unfold chkG at h; cases h),
      fun x es h => (by unfold chkGs at h; cases h)⟩, fun x ks keys es pos hk hs => (by unfold chks at hs; cases hs)⟩
  | vand a b ha hb =>
    exact ⟨⟨fun x p e h => e_vand ha.1 hb.1 x p e h,
      fun x e hf h => (by cases hf),
      fun x p es h => (by unfold chks at h; cases h),
      fun x es h => (by unfold chkw at h; cases h),
      fun x e h => (by unfold chkO at h; cases h),
      fun x e h => (by unfold chkT at h; cases h),
      fun x op es pos h => (by unfold chkT at h; first | (cases h; done) | (simp at h; done)),
      fun x p tg e h => (by unfold chkI at h; cases h),
      fun x es h => (by unfold chkC at h; cases h),
      fun x e h => (by unfold chkG at h; cases h),
      fun x es h => (by unfold chkGs at h; cases h)⟩, fun x ks keys es pos hk hs => (by unfold chks at hs; cases hs)⟩
  | vor a b ha hb =>
    exact ⟨⟨fun x p e h => e_vor ha.1 hb.1 x p e h,
      fun x e hf h => (by cases hf),
      fun x p es h => (by unfold chks at h; cases h),
      fun x es h => (by unfold chkw at h; cases h),
      fun x e h => (by unfold chkO at h; cases h),
      fun x e h => (by unfold chkT at h; cases h),
      fun x op es pos h => (by unfold chkT at h; first | (cases h; done) | (simp at h; done)),
      fun x p tg e h => (by unfold chkI at h; cases h),
      fun x es h => (by unfold chkC at h; cases h),
      fun x e h => (by unfold chkG at h; cases h),
      fun x es h => (by unfold chkGs at h; cases h)⟩, fun x ks keys es pos hk hs => (by unfold chks at hs; cases hs)⟩
  | vnot a ha =>
    exact ⟨⟨fun x p e h => e_vnot ha.1 x p e h,
      fun x e hf h => (by cases hf),
      fun x p es h => (by unfold chks at h; cases h),
      fun x es h => (by unfold chkw at h; cases h),
      fun x e h => (by unfold chkO at h; cases h),
      fun x e h => (by unfold chkT at h; cases h),
      fun x op es pos h => (by unfold chkT at h; first | (cases h; done) | (simp at h; done)),
      fun x p tg e h => (by unfold chkI at h; cases h),
      fun x es h => (by unfold chkC at h; cases h),
      fun x e h => (by unfold chkG at h; cases h),
      fun x es h => (by unfold chkGs at h; cases h)⟩, fun x ks keys es pos hk hs => (by unfold chks at hs; cases hs)⟩
  | ite c a b hc ha hb =>
    exact ⟨⟨fun x p e h => e_ite hc.1 ha.1 hb.1 x p e h,
      fun x e hf h => (by cases hf),
      fun x p es h => (by unfold chks at h; cases h),
      fun x es h => (by unfold chkw at h; cases h),
      fun x e h => (by unfold chkO at h; cases h),
      fun x e h => (by unfold chkT at h; cases h),
      fun x op es pos h => (by unfold chkT at h; first | (cases h; done) | (simp at h; done)),
      fun x p tg e h => (by unfold chkI at h; cases h),
      fun x es h => (by unfold chkC at h; cases h),
      fun x e h => (by unfold chkG at h; cases h),
      fun x es h => (by unfold chkGs at h; cases h)⟩, fun x ks keys es pos hk hs => (by unfold chks at hs; cases hs)⟩
  | idx a i ha hi =>
    exact ⟨⟨fun x p e h => e_idx ha.1 hi.1 x p e h,
      fun x e hf h => (by cases hf),
      fun x p es h => (by unfold chks at h; cases h),
      fun x es h => (by unfold chkw at h; cases h),
      fun x e h => (by unfold chkO at h; cases h),
      fun x e h => (by unfold chkT at h; cases h),
      fun x op es pos h => (by unfold chkT at h; first | (cases h; done) | (simp at h; done)),
      fun x p tg e h => (by unfold chkI at h; cases h),
      fun x es h => (by unfold chkC at h; cases h),
      fun x e h => (by unfold chkG at h; cases h),
      fun x es h => (by unfold chkGs at h; cases h)⟩, fun x ks keys es pos hk hs => (by unfold chks at hs; cases hs)⟩
  | slc a lo hi ha hlo hhi =>
    exact ⟨⟨fun x p e h => PE.ofN (e_slc ha.1 hlo.1 hhi.1 x p e h) p,
      fun x e hf h => e_slc ha.1 hlo.1 hhi.1 x false e h,
      fun x p es h => (by unfold chks at h; cases h),
      fun x es h => (by unfold chkw at h; cases h),
      fun x e h => (by unfold chkO at h; cases h),
      fun x e h => (by unfold chkT at h; cases h),
      fun x op es pos h => (by unfold chkT at h; first | (cases h; done) | (simp at h; done)),
      fun x p tg e h => (by unfold chkI at h; cases h),
      fun x es h => (by unfold chkC at h; cases h),
      fun x e h => (by unfold chkG at h; cases h),
      fun x es h => (by unfold chkGs at h; cases h)⟩, fun x ks keys es pos hk hs => (by unfold chks at hs; cases hs)⟩
  | dget d k hd =>
    exact ⟨⟨fun x p e h => e_dget hd.1 x p e h,
      fun x e hf h => (by cases hf),
      fun x p es h => (by unfold chks at h; cases h),
      fun x es h => (by unfold chkw at h; cases h),
      fun x e h => (by unfold chkO at h; cases h),
      fun x e h => (by unfold chkT at h; cases h),
      fun x op es pos h => (by unfold chkT at h; first | (cases h; done) | (simp at h; done)),
      fun x p tg e h => (by unfold chkI at h; cases h),
      fun x es h => (by unfold chkC at h; cases h),
      fun x e h => (by unfold chkG at h; cases h),
      fun x es h => (by unfold chkGs at h; cases h)⟩, fun x ks keys es pos hk hs => (by unfold chks at hs; cases hs)⟩
  | call f es ks ix hes hks =>
    exact ⟨⟨fun x p e h => e_call hes.1 hks.1 x p e h,
      fun x e hf h => (by cases hf),
      fun x p es h => (by unfold chks at h; cases h),
      fun x es h => (by unfold chkw at h; cases h),
      fun x e h => (by unfold chkO at h; cases h),
      fun x e h => (by unfold chkT at h; cases h),
      fun x op es pos h => (by unfold chkT at h; first | (cases h; done) | (simp at h; done)),
      fun x p tg e h => (by unfold chkI at h; cases h),
      fun x es h => (by unfold chkC at h; cases h),
      fun x e h => (by unfold chkG at h; cases h),
      fun x es h => (by unfold chkGs at h; cases h)⟩, fun x ks keys es pos hk hs => (by unfold chks at hs; cases hs)⟩
  | hear f hs e0 he0 =>
    exact ⟨⟨fun x p e h => e_hear he0.1 x p e h,
      fun x e hf h => (by cases hf),
      fun x p es h => (by unfold chks at h; cases h),
      fun x es h => (by unfold chkw at h; cases h),
      fun x e h => (by unfold chkO at h; cases h),
      fun x e h => (by unfold chkT at h; cases h),
      fun x op es pos h => (by unfold chkT at h; first | (cases h; done) | (simp at h; done)),
      fun x p tg e h => (by unfold chkI at h; cases h),
      fun x es h => (by unfold chkC at h; cases h),
      fun x e h => (by unfold chkG at h; cases h),
      fun x es h => (by unfold chkGs at h; cases h)⟩, fun x ks keys es pos hk hs => (by unfold chks at hs; cases hs)⟩
  | bi b es hes =>
    exact ⟨⟨fun x p e h => PE.ofN (e_bi hes.1 x e (by cases p with | true => exact .inr h | false => exact .inl h)) p,
      fun x e hf h => (by have q := e_bi (fr := fr) hes.1 x e (.inl h); cases b <;> first | (cases hf; done) | exact q),
      fun x p es h => (by unfold chks at h; cases h),
      fun x es h => (by unfold chkw at h; cases h),
      fun x e h => (by unfold chkO at h; cases h),
      fun x e h => (by unfold chkT at h; cases h),
      fun x op es pos h => (by unfold chkT at h; first | (cases h; done) | (simp at h; done)),
      fun x p tg e h => (by unfold chkI at h; cases h),
      fun x es h => (by unfold chkC at h; cases h),
      fun x e h => (by unfold chkG at h; cases h),
      fun x es h => (by unfold chkGs at h; cases h)⟩, fun x ks keys es pos hk hs => (by unfold chks at hs; cases hs)⟩
  | isi a t ha =>
    exact ⟨⟨fun x p e h => e_isi ha.1 x p e h,
      fun x e hf h => (by cases hf),
      fun x p es h => (by unfold chks at h; cases h),
      fun x es h => (by unfold chkw at h; cases h),
      fun x e h => (by unfold chkO at h; cases h),
      fun x e h => (by unfold chkT at h; cases h),
      fun x op es pos h => (by unfold chkT at h; first | (cases h; done) | (simp at h; done)),
      fun x p tg e h => (by unfold chkI at h; cases h),
      fun x es h => (by unfold chkC at h; cases h),
      fun x e h => (by unfold chkG at h; cases h),
      fun x es h => (by unfold chkGs at h; cases h)⟩, fun x ks keys es pos hk hs => (by unfold chks at hs; cases hs)⟩
  | callB f es hes =>
    exact ⟨⟨fun x p e h => e_callB hes.1 x p e h,
      fun x e hf h => (by cases hf),
      fun x p es h => (by unfold chks at h; cases h),
      fun x es h => (by unfold chkw at h; cases h),
      fun x e h => (by unfold chkO at h; cases h),
      fun x e h => (by unfold chkT at h; cases h),
      fun x op es pos h => (by unfold chkT at h; first | (cases h; done) | (simp at h; done)),
      fun x p tg e h => (by unfold chkI at h; cases h),
      fun x es h => (by unfold chkC at h; cases h),
      fun x e h => (by unfold chkG at h; cases h),
      fun x es h => (by unfold chkGs at h; cases h)⟩, fun x ks keys es pos hk hs => (by unfold chks at hs; cases hs)⟩
  | comp own elt tg it cond helt htg hit hcond =>
    exact ⟨⟨fun x p e h => PE.ofN (e_comp helt.1 htg.1 hit.1 hcond.1 x p e h) p,
      fun x e hf h => e_comp helt.1 htg.1 hit.1 hcond.1 x false e h,
      fun x p es h => (by unfold chks at h; cases h),
      fun x es h => (by unfold chkw at h; cases h),
      fun x e h => (by unfold chkO at h; cases h),
      fun x e h => (by unfold chkT at h; cases h),
      fun x op es pos h => (by unfold chkT at h; first | (cases h; done) | (simp at h; done)),
      fun x p tg e h => (by unfold chkI at h; cases h),
      fun x es h => (by unfold chkC at h; cases h),
      fun x e h => (by unfold chkG at h; cases h),
      fun x es h => (by unfold chkGs at h; cases h)⟩, fun x ks keys es pos hk hs => (by unfold chks at hs; cases hs)⟩
  | tv a ha =>
    exact ⟨⟨fun x p e h => (by unfold chk at h; first | (cases h; done) | (simp at h; done)),
      fun x e hf h => (by cases hf),
      fun x p es h => (by unfold chks at h; cases h),
      fun x es h => (by unfold chkw at h; cases h),
      fun x e h => (by unfold chkO at h; cases h),
      fun x e h => t_tv ha.1 x e h,
      fun x op es pos h => (by unfold chkT at h; first | (cases h; done) | (simp at h; done)),
      fun x p tg e h => (by unfold chkI at h; cases h),
      fun x es h => (by unfold chkC at h; cases h),
      fun x e h => (by unfold chkG at h; cases h),
      fun x es h => (by unfold chkGs at h; cases h)⟩, fun x ks keys es pos hk hs => (by unfold chks at hs; cases hs)⟩
  | tand a b ha hb =>
    exact ⟨⟨fun x p e h => (by unfold chk at h; first | (cases h; done) | (simp at h; done)),
      fun x e hf h => (by cases hf),
      fun x p es h => (by unfold chks at h; cases h),
      fun x es h => (by unfold chkw at h; cases h),
      fun x e h => (by unfold chkO at h; cases h),
      fun x e h => (by obtain ⟨op, es, pos, rfl⟩ := bool_of (.inl h); exact (tw_tand ha.1 hb.1 x op es pos h).pt),
      fun x op es pos h => tw_tand ha.1 hb.1 x op es pos h,
      fun x p tg e h => (by unfold chkI at h; cases h),
      fun x es h => (by unfold chkC at h; cases h),
      fun x e h => (by unfold chkG at h; cases h),
      fun x es h => (by unfold chkGs at h; cases h)⟩, fun x ks keys es pos hk hs => (by unfold chks at hs; cases hs)⟩
  | tor a b ha hb =>
    exact ⟨⟨fun x p e h => (by unfold chk at h; first | (cases h; done) | (simp at h; done)),
      fun x e hf h => (by cases hf),
      fun x p es h => (by unfold chks at h; cases h),
      fun x es h => (by unfold chkw at h; cases h),
      fun x e h => (by unfold chkO at h; cases h),
      fun x e h => (by obtain ⟨op, es, pos, rfl⟩ := bool_of (.inr h); exact (tw_tor ha.1 hb.1 x op es pos h).pt),
      fun x op es pos h => tw_tor ha.1 hb.1 x op es pos h,
      fun x p tg e h => (by unfold chkI at h; cases h),
      fun x es h => (by unfold chkC at h; cases h),
      fun x e h => (by unfold chkG at h; cases h),
      fun x es h => (by unfold chkGs at h; cases h)⟩, fun x ks keys es pos hk hs => (by unfold chks at hs; cases hs)⟩
  | tnot a ha =>
    exact ⟨⟨fun x p e h => (by unfold chk at h; first | (cases h; done) | (simp at h; done)),
      fun x e hf h => (by cases hf),
      fun x p es h => (by unfold chks at h; cases h),
      fun x es h => (by unfold chkw at h; cases h),
      fun x e h => (by unfold chkO at h; cases h),
      fun x e h => t_tnot ha.1 x e h,
      fun x op es pos h => (by unfold chkT at h; first | (cases h; done) | (simp at h; done)),
      fun x p tg e h => (by unfold chkI at h; cases h),
      fun x es h => (by unfold chkC at h; cases h),
      fun x e h => (by unfold chkG at h; cases h),
      fun x es h => (by unfold chkGs at h; cases h)⟩, fun x ks keys es pos hk hs => (by unfold chks at hs; cases hs)⟩
  | seq a ha =>
    exact ⟨⟨fun x p e h => (by unfold chk at h; first | (cases h; done) | (simp at h; done)),
      fun x e hf h => (by cases hf),
      fun x p es h => (by unfold chks at h; cases h),
      fun x es h => (by unfold chkw at h; cases h),
      fun x e h => (by unfold chkO at h; cases h),
      fun x e h => (by unfold chkT at h; cases h),
      fun x op es pos h => (by unfold chkT at h; first | (cases h; done) | (simp at h; done)),
      fun x p tg e h => i_seq ha.1 x p tg e h,
      fun x es h => (by unfold chkC at h; cases h),
      fun x e h => (by unfold chkG at h; cases h),
      fun x es h => (by unfold chkGs at h; cases h)⟩, fun x ks keys es pos hk hs => (by unfold chks at hs; cases hs)⟩
  | rng1 a ha =>
    exact ⟨⟨fun x p e h => (by unfold chk at h; first | (cases h; done) | (simp at h; done)),
      fun x e hf h => (by cases hf),
      fun x p es h => (by unfold chks at h; cases h),
      fun x es h => (by unfold chkw at h; cases h),
      fun x e h => (by unfold chkO at h; cases h),
      fun x e h => (by unfold chkT at h; cases h),
      fun x op es pos h => (by unfold chkT at h; first | (cases h; done) | (simp at h; done)),
      fun x p tg e h => i_rng1 ha.1 x p tg e h,
      fun x es h => (by unfold chkC at h; cases h),
      fun x e h => (by unfold chkG at h; cases h),
      fun x es h => (by unfold chkGs at h; cases h)⟩, fun x ks keys es pos hk hs => (by unfold chks at hs; cases hs)⟩
  | rng2 a b ha hb =>
    exact ⟨⟨fun x p e h => (by unfold chk at h; first | (cases h; done) | (simp at h; done)),
      fun x e hf h => (by cases hf),
      fun x p es h => (by unfold chks at h; cases h),
      fun x es h => (by unfold chkw at h; cases h),
      fun x e h => (by unfold chkO at h; cases h),
      fun x e h => (by unfold chkT at h; cases h),
      fun x op es pos h => (by unfold chkT at h; first | (cases h; done) | (simp at h; done)),
      fun x p tg e h => i_rng2 ha.1 hb.1 x p tg e h,
      fun x es h => (by unfold chkC at h; cases h),
      fun x e h => (by unfold chkG at h; cases h),
      fun x es h => (by unfold chkGs at h; cases h)⟩, fun x ks keys es pos hk hs => (by unfold chks at hs; cases hs)⟩
  | enum a ha =>
    exact ⟨⟨fun x p e h => (by unfold chk at h; first | (cases h; done) | (simp at h; done)),
      fun x e hf h => (by cases hf),
      fun x p es h => (by unfold chks at h; cases h),
      fun x es h => (by unfold chkw at h; cases h),
      fun x e h => (by unfold chkO at h; cases h),
      fun x e h => (by unfold chkT at h; cases h),
      fun x op es pos h => (by unfold chkT at h; first | (cases h; done) | (simp at h; done)),
      fun x p tg e h => i_enum ha.1 x p tg e h,
      fun x es h => (by unfold chkC at h; cases h),
      fun x e h => (by unfold chkG at h; cases h),
      fun x es h => (by unfold chkGs at h; cases h)⟩, fun x ks keys es pos hk hs => (by unfold chks at hs; cases hs)⟩
  | zip a b ha hb =>
    exact ⟨⟨fun x p e h => (by unfold chk at h; first | (cases h; done) | (simp at h; done)),
      fun x e hf h => (by cases hf),
      fun x p es h => (by unfold chks at h; cases h),
      fun x es h => (by unfold chkw at h; cases h),
      fun x e h => (by unfold chkO at h; cases h),
      fun x e h => (by unfold chkT at h; cases h),
      fun x op es pos h => (by unfold chkT at h; first | (cases h; done) | (simp at h; done)),
      fun x p tg e h => i_zip ha.1 hb.1 x p tg e h,
      fun x es h => (by unfold chkC at h; cases h),
      fun x e h => (by unfold chkG at h; cases h),
      fun x es h => (by unfold chkGs at h; cases h)⟩, fun x ks keys es pos hk hs => (by unfold chks at hs; cases hs)⟩
  | tn i =>
    exact ⟨⟨fun x p e h => (by unfold chk at h; first | (cases h; done) | (simp at h; done)),
      fun x e hf h => (by cases hf),
      fun x p es h => (by unfold chks at h; cases h),
      fun x es h => (by unfold chkw at h; cases h),
      fun x e h => (by unfold chkO at h; cases h),
      fun x e h => (by unfold chkT at h; cases h),
      fun x op es pos h => (by unfold chkT at h; first | (cases h; done) | (simp at h; done)),
      fun x p tg e h => (by unfold chkI at h; cases h),
      fun x es h => (by unfold chkC at h; cases h),
      fun x e h => g_tn x e h,
      fun x es h => (by unfold chkGs at h; cases h)⟩, fun x ks keys es pos hk hs => (by unfold chks at hs; cases hs)⟩
  | tt es hes =>
    exact ⟨⟨fun x p e h => (by unfold chk at h; first | (cases h; done) | (simp at h; done)),
      fun x e hf h => (by cases hf),
      fun x p es h => (by unfold chks at h; cases h),
      fun x es h => (by unfold chkw at h; cases h),
      fun x e h => (by unfold chkO at h; cases h),
      fun x e h => (by unfold chkT at h; cases h),
      fun x op es pos h => (by unfold chkT at h; first | (cases h; done) | (simp at h; done)),
      fun x p tg e h => (by unfold chkI at h; cases h),
      fun x es h => (by unfold chkC at h; cases h),
      fun x e h => g_tt hes.1 x e h,
      fun x es h => (by unfold chkGs at h; cases h)⟩, fun x ks keys es pos hk hs => (by unfold chks at hs; cases hs)⟩
  | _ =>
    exact ⟨⟨fun x p e h => (by unfold chk at h; first | (cases h; done) | (simp at h; done)),
      fun x e hf h => (by cases hf),
      fun x p es h => (by unfold chks at h; cases h),
      fun x es h => (by unfold chkw at h; cases h),
      fun x e h => (by unfold chkO at h; cases h),
      fun x e h => (by unfold chkT at h; cases h),
      fun x op es pos h => (by unfold chkT at h; first | (cases h; done) | (simp at h; done)),
      fun x p tg e h => (by unfold chkI at h; cases h),
      fun x es h => (by unfold chkC at h; cases h),
      fun x e h => (by unfold chkG at h; cases h),
      fun x es h => (by unfold chkGs at h; cases h)⟩, fun x ks keys es pos hk hs => (by unfold chks at hs; cases hs)⟩

theorem snd {g : G} {fr : Frm} {C : Ev} (n : N) : Snd g fr C n := (snd_all n).1
end Fx

set_option maxHeartbeats 4000000
/-! Fx8: statements. -/
namespace Fx
open PySem PySem.Spec PyProof.Rows L2

/-- what a statement writes -/
def asg : N → Nat → Bool
  | .cons a b, j => asg a j || asg b j
  | .set i _, j => i == j
  | .setO i _, j => i == j
  | .unp tg _, j => asgT tg j
  | .par i k _ _, j => i == j || k == j
  | .app i _, j => i == j
  | .frz i, j => i == j
  | .ifs _ a b, j => asg a j || asg b j
  | .for_ tg _ b, j => asgT tg j || asg b j
  | .tryB a _ _, j => asg a j
  | .lput i _ _, j => i == j
  | .whl _ b, j => asg b j
  | _, _ => false
def nmS (s : Sc) (i : Nat) (x : Str) : Bool := decide (s.N[i]? = some x) && stB s x
def lcB : Expr → Bool
  | .ListComp .. => true
  | .SetComp .. => true
  | .DictComp .. => true
  | _ => false
def parB (s : Sc) (x y : Str) (px py : Pos) (a b : Expr) : Bool :=
  decide (s.sc.names.lookup x = some .local) && decide (s.sc.names.lookup y = some .local) && (px.line == py.line) && !(x == y) && notStar a && notStar b && !(foldedForSure 8 a && foldedForSure 8 b) && !(constantsAlone 8 a && constantsAlone 8 b)
/-- the plain local names among the targets, on the first one's row -/
def plainN (lk : Str → Option NameKind) (ts : List Expr) : List Str := ts.filterMap fun
  | .Name id pos => if lk id == some .local && pos.line == (ts.head?.map (·.pos.line)).getD 0 then some id else none
  | _ => none
/-- no pair of stores is exchanged -/
def noSwap (lk : Str → Option NameKind) (ts : List Expr) : Expr → Bool
  | .Tuple vs _ _ => !(ts.length == 2 || ts.length == 3) || vs.length != ts.length || (plainN lk ts).length != ts.length || vs.all (foldedForSure 8)
  | _ => true
mutual
/-- a statement -/
def chkS (s : Sc) (n : N) (st : Stmt) : Bool :=
  match n with
  | .gl _ => true
  | .set i e => match st with
    | .Assign [.Name x _] v _ => nmS s i x && chk s false e v
    | _ => false
  | .setO i e => match st with
    | .Assign [.Name x _] v _ => nmS s i x && isFresh e && chk s false e v
    | _ => false
  | .unp tg e => match st with
    | .Assign [.Tuple ts k tp] v _ => noSwap (fun x => s.sc.names.lookup x) ts v && chkG s tg (.Tuple ts k tp) && chk s false e v
    | _ => false
  | .par i j a b => match st with
    | .Assign [.Tuple [.Name x px, .Name y py] _ _] (.Tuple [v, u] _ _) _ => decide (s.N[i]? = some x) && decide (s.N[j]? = some y) && decide (i ≠ j) && parB s x y px py v u && chk s false a v && chk s false b u
    | _ => false
  | .app i e => match st with
    | .Expr (.Call (.Attribute (.Name x _) m ap) [v] [] cp) _ => decide (m = ("append" : Str)) && nmB s i x && (ap.endLine == cp.line) && notStar v && chk s false e v
    | _ => false
  | .dput d k e => match st with
    | .Assign [.Subscript o (.Constant (.str y) _ _) _] v _ => decide (k = y) && chk s true d o && chk s false e v
    | _ => false
  | .expr e => match st with
    | .Expr v _ => !lcB v && chk s false e v
    | _ => false
  | .ret e => match st with
    | .Return (some v) _ => chk s false e v
    | _ => false
  | .retN => match st with
    | .Return none _ => true
    | _ => false
  | .ifs c a b => match st with
    | .If t x y _ => chkT s c t && chkB s a x && chkB s b y
    | _ => false
  | .for_ tg it b => match st with
    | .For t e body [] _ => chkI s false t it e && chkG s tg t && chkB s b body
    | _ => false
  | .whl c b => match st with
    | .While t body [] _ => chkT s c t && chkB s b body
    | _ => false
  | .tryB a c b => match st with
    | .Try bs [.ExceptHandler (some (.Name y _)) none [.Return (some (.Constant (.bool v) _ _)) _] _] [] [] _ => decide (c = y) && decide (b = v) && s.def_ && glB s y && okN y && (s.excs.lookup y).isSome && chkB s a bs
    | _ => false
  | .lput i e v => match st with
    | .Assign [.Subscript (.Name x _) u _] t _ => nmB s i x && noSlB u && chk s false e u && chk s false v t
    | _ => false
  | .raise_ c e => match st with
    | .Raise (some (.Call (.Name y _) [v] [] _)) none _ => decide (c = y) && glB s y && okN y && (s.excs.lookup y).isSome && notStar v && chk s false e v
    | _ => false
  | .brk => match st with
    | .Break _ => true
    | _ => false
  | .cnt => match st with
    | .Continue _ => true
    | _ => false
  | .pass => match st with
    | .Pass _ => true
    | .Expr (.Constant (.str _) _ _) _ => true
    | _ => false
  | _ => false
/-- a block -/
def chkB (s : Sc) (n : N) (sts : List Stmt) : Bool :=
  match n with
  | .nil => match sts with
    | [] => true
    | _ => false
  | .cons (.frz _) b => chkB s b sts
  | .cons a b => match sts with
    | st :: sts => chkS s a st && chkB s b sts
    | _ => false
  | _ => false
end

section
variable {g : G} {fr : Frm} {W : WX} {C : Ev} {s : Sc} {X : Cx}
/-- what is wanted of an end -/
def KS (g : G) (fr : Frm) (E : Ends) (As : Nat → Bool) (σ : L2.St) (env : Env) (w : Wd) (H : Hp) : Fl → Store → Prop := fun fl S =>
  match fl with
  | .nx e => ∀ w' H' σ', Good g fr σ' H' w' e S → Per w H w' H' → Agree As σ σ' env e → E.nx σ' H'
  | .bk e => ∀ w' H' σ', Good g fr σ' H' w' e S → Per w H w' H' → Agree As σ σ' env e → E.bk σ' H'
  | .ct e => ∀ w' H' σ', Good g fr σ' H' w' e S → Per w H w' H' → Agree As σ σ' env e → E.ct σ' H'
  | .rt d => ∀ w' H' v, WOk g w' H' S → Ext fr.w0 fr.H0 w' H' → Rep g H' w' d v → E.rt v H'
theorem KS.step {E : Ends} {As As1 As2 : Nat → Bool} {σ σ1 : L2.St} {env env1 : Env} {w w1 : Wd} {H H1 : Hp} (p : Per w H w1 H1) (a : Agree As1 σ σ1 env env1) (h1 : ∀ i, As i = false → As1 i = false) (h2 : ∀ i, As i = false → As2 i = false) {fl : Fl} {S : Store} (k : KS g fr E As σ env w H fl S) : KS g fr E As2 σ1 env1 w1 H1 fl S := by
  cases fl with
  | rt d => exact k
  | _ => exact fun w' H' σ' G q b => k w' H' σ' G (p.trans q) ((a.mono h1).trans (b.mono h2))
theorem XP.step {As As1 As2 : Nat → Bool} {σ σ1 : L2.St} {env env1 : Env} {w w1 : Wd} {H H1 : Hp} (p : Per w H w1 H1) (a : Agree As1 σ σ1 env env1) (h1 : ∀ i, As i = false → As1 i = false) (h2 : ∀ i, As i = false → As2 i = false) {c : Str} {d : D} {S : Store} (k : XP g fr W σ env As w H c d S) : XP g fr W σ1 env1 As2 w1 H1 c d S :=
  fun w' H' σ' env' cc dd G q b x => k w' H' σ' env' cc dd G (p.trans q) ((a.mono h1).trans (b.mono h2)) x
theorem KS.per {E : Ends} {As : Nat → Bool} {σ : L2.St} {env : Env} {w w1 : Wd} {H H1 : Hp} (p : Per w H w1 H1) {fl : Fl} {S : Store} (k : KS g fr E As σ env w H fl S) : KS g fr E As σ env w1 H1 fl S :=
  k.step p (As1 := As) .refl (fun _ h => h) fun _ h => h
/-- a statement's reading -/
def tS (g : G) (fr : Frm) (W : WX) (C : Ev) (n : N) : TS := fun E σ H => ∃ w env S, Good g fr σ H w env S ∧ Post (exec C n env S) (KS g fr E (asg n) σ env w H) (XP g fr W σ env (asg n) w H)
structure SndS (g : G) (fr : Frm) (C : Ev) (n : N) : Prop where
  st : ∀ {s : Sc} {X : Cx} {W : WX} (x : XOk g C s X W) (st : Stmt), chkS s n st = true → PS X st (tS g fr W C n)
  bl : ∀ {s : Sc} {X : Cx} {W : WX} (x : XOk g C s X W) (sts : List Stmt), chkB s n sts = true → PSs X sts (tS g fr W C n)

/-- a part whose value goes on -/
theorem part {α β : Type} {r1 : Env → Store → Res α} {R1 : Hp → Wd → α → β → Prop} {r2 : α → Store → Res Fl} {E : Ends} {As : Nat → Bool} {σ : L2.St} {H : Hp} {w : Wd} {env : Env} {S : Store} {Q : β → Hp → Prop}
    (G0 : Good g fr σ H w env S) (P : Post ((r1 env S).bind r2) (KS g fr E As σ env w H) (XP g fr W σ env As w H))
    (h : ∀ a S1 w1 H1 b, Good g fr σ H1 w1 env S1 → Ext w H w1 H1 → R1 H1 w1 a b → Post (r2 a S1) (KS g fr E As σ env w1 H1) (XP g fr W σ env As w1 H1) → Q b H1) : tG g fr W r1 R1 σ H Q :=
  ⟨w, env, S, G0, P.bind.imp (fun a S1 q w1 H1 b G1 E1 R1 => h a S1 w1 H1 b G1 E1 R1 (q.imp (fun _ _ k => k.per (E1.per G0.wok)) fun _ _ _ x => x.per (E1.per G0.wok))) fun _ _ _ x => x.xx G0.wok⟩
theorem partN {n : N} {f : Bool} {r2 : D → Store → Res Fl} {E : Ends} {As : Nat → Bool} {σ : L2.St} {H : Hp} {w : Wd} {env : Env} {S : Store} {Q : VK}
    (G0 : Good g fr σ H w env S) (P : Post ((ev C n env S).bind r2) (KS g fr E As σ env w H) (XP g fr W σ env As w H))
    (h : ∀ a S1 w1 H1 b, OutN g f w H S1 a w1 H1 b → Post (r2 a S1) (KS g fr E As σ env w H) (XP g fr W σ env As w H) → Q b H1) : tN g fr W C f n σ H Q :=
  ⟨w, env, S, G0, P.bind.imp (fun a S1 q w1 H1 b o => h a S1 w1 H1 b o q) fun _ _ _ x => x.xx G0.wok⟩
theorem sw_none {v : Expr} {env : PySem.Env} {t : Option Expr} {l : Nat} (h : lcB v = false) : swapsWith v t l env = pure false := by
  cases v <;> first
    | rfl
    | cases h
theorem sw_other {v t : Expr} {env : PySem.Env} {l : Nat} (h : ∀ x p, t ≠ .Name x p) : swapsWith v (some t) l env = pure false := by
  cases v <;> first
    | rfl
    | (cases t <;> first
        | rfl
        | exact absurd rfl (h _ _))
/-- name = value, whichever way it is stored -/
theorem ps_name {i : Nat} {y : Str} {e : N} {v : Expr} {py sp : Pos} {t : TE} (x : XOk g C s X W) (hn : nmS s i y = true) (hc : chk s false e v = true) (h : PE X v t) (ht : ∀ σ H Q, isFresh e = true → t σ H Q → tN g fr W C true e σ H Q) :
    PS X (.Assign [.Name y py] v sp) (tAsg t (gName i)) := by
  unfold nmS at hn
  simp only [Bool.and_eq_true, decide_eq_true_eq] at hn
  obtain ⟨h1, h2⟩ := x.st _ hn.2
  have hN : X.N.Nodup := by rw [x.N]; exact x.nd
  have hi : X.N[i]? = some y := by rw [x.N]; exact hn.1
  cases hl : lcB v with
  | false => exact ps_set hN hi h1 h (sw_none hl) h2
  | true =>
    -- a list comprehension
    obtain ⟨own, elt, tg, it, cond, rfl⟩ : ∃ own elt tg it cond, e = .comp own elt tg it cond := by
      cases e with
      | comp own elt tg it cond => exact ⟨_, _, _, _, _, rfl⟩
      | _ => exfalso; unfold chk at hc; cases v <;> first | (cases hl; done) | (cases hc; done)
    obtain ⟨ex, te', ye, ifs, scope, pos, wi, gg, tt, tee, rfl, r⟩ := comp_parts (fr := fr) (snd elt) (snd tg) (snd it) (snd cond) x false v hc
    obtain ⟨b, hb⟩ : ∃ b, swapsWith (.ListComp ex [⟨te', ye, ifs, 0⟩] scope pos) (some (.Name y py)) sp.line X.env = pure b := ⟨_, rfl⟩
    cases b with
    | false => exact ps_set hN hi h1 h hb h2
    | true =>
      have hyl : X.env.scope.names.lookup y = some .local := by
        rcases h1 with z | z
        · exact z
        · exfalso
          have e2 : (X.env.kindOf y == some NameKind.local) = false := by
            have z' : X.env.kindOf y = some .cell := z
            rw [z']; rfl
          have q : swapsWith (.ListComp ex [⟨te', ye, ifs, 0⟩] scope pos) (some (.Name y py)) sp.line X.env = pure (X.env.blockKind == .function && X.env.kindOf y == some .local && py.line == (Expr.ListComp ex [⟨te', ye, ifs, 0⟩] scope pos).pos.line && !(scope.names.any fun (n, k) => n == y && (k == .local || k == .cell))) := rfl
          rw [q, e2, Bool.and_false, Bool.false_and, Bool.false_and] at hb
          cases hb
      exact PS.imp (ps_setLc x.calm hN hi hyl hb r.hi r.ok r.hg r.ht r.he r.hs) fun E σ H q => r.im _ _ _ (ht _ _ _ rfl q)

/-! ### slots of own lists -/
theorem Good.setO {σ : L2.St} {H H' : Hp} {w w' : Wd} {env : Env} {S S' : Store} {p : Addr} {xs : List D} {vs : List V} (G : Good g fr σ H w env S) (e : Ext w H w' H') (k : WOk g w' H' S') (hp : H p = none) (nf : ¬ w'.fz p) (hl : H' p = some (.lst vs)) (r : Reps g H' w' xs vs) (i : Nat) :
    Good g fr (σ.set i (some (.ref p))) H' w' (env.set i (.own xs)) S' := by
  have G' := G.step e k
  have other : ∀ (j : Nat) ys, env[j]? = some (.own ys) → σ[j]? ≠ some (some (.ref p)) := fun j ys h z => by
    obtain ⟨a, us, h1, h2, _⟩ := G.own h
    rw [z] at h1
    cases h1
    rw [hp] at h2; cases h2
  refine ⟨k, G'.ext, by rw [List.length_set, List.length_set, G.len], fun j t o h1 h2 => ?_, fun j l a ys zs hne h1 h2 h3 h4 => ?_⟩
  · rcases getset h1 with ⟨e, rfl⟩ | ⟨e, h1⟩
    · subst e
      rcases getset h2 with ⟨_, rfl⟩ | ⟨e, _⟩
      · exact .own hl r nf (G.ext.dom _ hp)
      · exact absurd rfl e
    · rcases getset h2 with ⟨e', _⟩ | ⟨_, h2⟩
      · exact absurd e' e
      · exact G'.sl j t o h1 h2
  · rcases getset h1 with ⟨e1, _⟩ | ⟨e1, h1⟩
    · subst e1
      rcases getset h2 with ⟨e2, _⟩ | ⟨e2, h2⟩
      · exact hne e2
      · rw [List.getElem?_set_ne hne] at h4
        rcases getset h3 with ⟨_, q⟩ | ⟨q, _⟩
        · cases q; exact other l zs h2 h4
        · exact q rfl
    · rw [List.getElem?_set_ne e1] at h3
      rcases getset h2 with ⟨e2, _⟩ | ⟨e2, h2⟩
      · subst e2
        rcases getset h4 with ⟨_, q⟩ | ⟨q, _⟩
        · cases q; exact other j ys h1 h3
        · exact q rfl
      · rw [List.getElem?_set_ne e2] at h4
        exact G.sep j l a ys zs hne h1 h2 h3 h4
theorem RepT.upd {H : Hp} {w : Wd} {d : D} {v : V} {b : Addr} {o : HO} (h : RepT g H w d v) (P : Per w H w (upd H b o)) (ne : v ≠ .ref b) : RepT g (upd H b o) w d v := by
  cases h with
  | rep h => exact .rep (h.per P)
  | own h r => exact .own (by rw [upd_ne fun z => ne (by rw [z])]; exact h) (r.per P)
theorem RepT.frz1 {H : Hp} {w : Wd} {d : D} {v : V} {a : Addr} (h : RepT g H w d v) : RepT g H (w.frz a) d v := by
  cases h with
  | rep h => exact .rep (h.per Per.frz1)
  | own h r => exact .own h (r.per Per.frz1)
theorem Good.app {σ : L2.St} {H : Hp} {w : Wd} {env : Env} {S : Store} {i : Nat} {xs : List D} {d : D} {v : V} (G : Good g fr σ H w env S) (h : env[i]? = some (.own xs)) (r : Rep g H w d v) :
    ∃ a vs, σ[i]? = some (some (.ref a)) ∧ H a = some (.lst vs) ∧ vs.length = xs.length ∧ Good g fr σ (upd H a (.lst (vs ++ [v]))) w (env.set i (.own (xs ++ [d]))) S ∧ Per w H w (upd H a (.lst (vs ++ [v]))) := by
  obtain ⟨a, vs, h1, h2, rs, nz, n0⟩ := G.own h
  have nm : a ∉ w.mu := fun z => by
    obtain ⟨u, q⟩ := G.wok.dict z
    rw [q] at h2; cases h2
  have P : Per w H w (upd H a (.lst (vs ++ [v]))) := per_own h2 nz
  refine ⟨a, vs, h1, h2, rs.length.symm, ⟨wok_own G.wok h2 nz nm, ext_own G.ext n0, by rw [List.length_set, G.len], fun j t o q1 q2 => ?_, fun j l b ys zs hne q1 q2 q3 q4 => ?_⟩, P⟩
  · rcases getset q1 with ⟨e, rfl⟩ | ⟨e, q1⟩
    · subst e
      rw [h1] at q2
      cases q2
      exact .own upd_same ((rs.snoc r).per P) nz n0
    · have z := G.sl j t o q1 q2
      cases z with
      | un => exact .un
      | val z => exact .val (z.per P)
      | @own ys b us z1 z2 z3 z4 =>
        have ne : b ≠ a := fun e' => by
          subst e'
          exact G.sep i j b xs ys e h q1 h1 q2
        exact .own (by rw [upd_ne ne]; exact z1) (z2.per P) z3 z4
      | bor z1 z2 => exact .bor (z1.upd P fun e => z2 _ e n0) z2
  · have k1 : ∃ ys, env[j]? = some (.own ys) := by
      rcases getset q1 with ⟨e, _⟩ | ⟨_, q1⟩
      · exact ⟨xs, by rw [← e]; exact h⟩
      · exact ⟨ys, q1⟩
    have k2 : ∃ ys, env[l]? = some (.own ys) := by
      rcases getset q2 with ⟨e, _⟩ | ⟨_, q2⟩
      · exact ⟨xs, by rw [← e]; exact h⟩
      · exact ⟨zs, q2⟩
    obtain ⟨_, k1⟩ := k1
    obtain ⟨_, k2⟩ := k2
    exact G.sep j l b _ _ hne k1 k2 q3 q4
theorem Good.frz {σ : L2.St} {H : Hp} {w : Wd} {env : Env} {S : Store} {i : Nat} {xs : List D} (G : Good g fr σ H w env S) (h : env[i]? = some (.own xs)) : ∃ a, Good g fr σ H (w.frz a) (env.set i (.val (.lst xs))) S := by
  obtain ⟨a, vs, h1, h2, rs, nz, n0⟩ := G.own h
  refine ⟨a, G.wok.frz1 h2, ⟨G.ext.keep, G.ext.dom, fun b z => .inl (G.ext.fz b z), fun b z => ?_, G.ext.mu, G.ext.mun⟩, by rw [List.length_set, G.len], fun j t o q1 q2 => ?_, fun j l b ys zs hne q1 q2 q3 q4 => ?_⟩
  · rcases z with z | z
    · exact G.ext.fzn b z
    · rw [z]; exact .inr n0
  · rcases getset q1 with ⟨e, rfl⟩ | ⟨e, q1⟩
    · subst e
      rw [h1] at q2
      cases q2
      exact .val (.lst (.inl ⟨h2, .inr rfl⟩) (rs.per Per.frz1))
    · have z := G.sl j t o q1 q2
      cases z with
      | un => exact .un
      | val z => exact .val (z.per Per.frz1)
      | @own ys b us z1 z2 z3 z4 =>
        refine .own z1 (z2.per Per.frz1) (fun z => ?_) z4
        rcases z with z | z
        · exact z3 z
        · subst z
          exact G.sep i j b xs ys e h q1 h1 q2
      | bor z1 z2 => exact .bor z1.frz1 z2
  · rcases getset q1 with ⟨_, q⟩ | ⟨_, q1⟩
    · cases q
    rcases getset q2 with ⟨_, q⟩ | ⟨_, q2⟩
    · cases q
    exact G.sep j l b ys zs hne q1 q2 q3 q4
theorem Agree.setE {As : Nat → Bool} {σ : L2.St} {env : Env} {i : Nat} {t : Sl} (h : As i = true) : Agree As σ σ env (env.set i t) := fun j hj => by
  have ne : i ≠ j := fun e => by rw [e, hj] at h; cases h
  exact ⟨List.getElem?_set_ne ne, rfl⟩

/-! ### small statements -/
theorem s_set {i : Nat} {e : N} (x : XOk g C s X W) (st : Stmt) (h : chkS s (.set i e) st = true) : PS X st (tS g fr W C (.set i e)) := by
  unfold chkS at h
  split at h
  · rw [Bool.and_eq_true] at h
    refine PS.imp (ps_name (fr := fr) x h.1 h.2 ((snd (fr := fr) e).e x false _ h.2) fun _ _ _ _ q => tN.q q) fun E σ H ⟨w, env, S, G, P⟩ => ?_
    rw [exec] at P
    refine part G P fun d S1 w1 H1 v G1 E1 R1 P1 => ?_
    split at P1
    · exact P1 w1 H1 _ (G1.setV R1 i) .refl (.set (by simp [asg]))
    · exact P1.elim
  · cases h
theorem s_setO {i : Nat} {e : N} (x : XOk g C s X W) (st : Stmt) (h : chkS s (.setO i e) st = true) : PS X st (tS g fr W C (.setO i e)) := by
  unfold chkS at h
  split at h
  · simp only [Bool.and_eq_true] at h
    refine PS.imp (ps_name (fr := fr) x h.1.1 h.2 ((snd (fr := fr) e).f x _ h.1.2 h.2) fun _ _ _ _ q => q) fun E σ H ⟨w, env, S, G, P⟩ => ?_
    rw [exec] at P
    refine partN G P fun d S1 w1 H1 v o P1 => ?_
    split at P1
    · split at P1
      · cases o with
        | rep hf => exact absurd rfl (hf rfl _)
        | new e k hp nf nm hl r => exact P1 _ _ _ (G.setO e k hp nf hl r i) (e.per G.wok) (.set (by simp [asg]))
      · exact P1.elim
    · exact P1.elim
  · cases h
theorem sw_stores {env : PySem.Env} {ts : List Expr} {k : Nat} {tp : Pos} {v : Expr} (hb : env.blockKind = .function) (h : noSwap (fun x => env.scope.names.lookup x) ts v = true) : swappedStores [.Tuple ts k tp] v env = pure none := by
  cases v with
  | Tuple vs k2 vp =>
    unfold noSwap at h
    unfold swappedStores
    simp only [Bool.or_eq_true] at h
    simp only
    by_cases c1 : (!(ts.length == 2 || ts.length == 3) || vs.length != ts.length || env.blockKind != .function) = true
    · rw [if_pos c1]
    · rw [if_neg c1]
      rw [Bool.not_eq_true, Bool.or_eq_false_iff, Bool.or_eq_false_iff] at c1
      rcases h with ((h | h) | h) | h
      · rw [c1.1.1] at h; cases h
      · rw [c1.1.2] at h; cases h
      · split
        · rfl
        · exact if_pos (Bool.or_eq_true_iff.mpr (.inl h))
      · split
        · rfl
        · split
          · rfl
          · first | rfl | exact if_pos h
  | _ => rfl
theorem s_unp {tg e : N} (x : XOk g C s X W) (st : Stmt) (h : chkS s (.unp tg e) st = true) : PS X st (tS g fr W C (.unp tg e)) := by
  unfold chkS at h
  split at h
  · rename_i ts k tp v sp
    simp only [Bool.and_eq_true] at h
    refine PS.imp (ps_asg ((snd (fr := fr) e).e x false _ h.2) ((snd (fr := fr) tg).tgt x _ h.1.2) (show swapsWithSole [.Tuple ts k tp] v sp.line X.env = pure false from sw_other (t := .Tuple ts k tp) (env := X.env) (l := sp.line) fun _ _ z => by cases z) (sw_stores (show X.env.blockKind = .function by unfold PySem.Env.blockKind; rw [x.kind]; rfl) (by have q := h.1.1; rw [← x.sc] at q; exact q)) rfl) fun E σ H ⟨w, env, S, G, P⟩ => ?_
    rw [exec] at P
    refine part G P fun d S1 w1 H1 v G1 E1 R1 P1 => ?_
    split at P1
    · rename_i env' hb
      exact ⟨w1, env, S1, d, env', G1, R1, hb, fun σ' G' A => P1 w1 H1 σ' G' .refl A⟩
    · exact P1.elim
  · cases h
theorem s_app {i : Nat} {e : N} (x : XOk g C s X W) (st : Stmt) (h : chkS s (.app i e) st = true) : PS X st (tS g fr W C (.app i e)) := by
  unfold chkS at h
  split at h
  · simp only [Bool.and_eq_true, decide_eq_true_eq] at h
    obtain ⟨⟨⟨⟨rfl, h1⟩, h2⟩, h3⟩, h4⟩ := h
    refine PS.imp (ps_expr (pe_bm PySem.F.plainAttrs_list PySem.F.slot_list_append PySem.F.type_list_append mt_append (x.pv h1) (pa_1 ((snd (fr := fr) e).e x false _ h4) h3) rfl (by rw [star_ok h3]; rfl) h2 (star_ok h3) rfl)) fun E σ H ⟨w, env, S, G, P⟩ => ?_
    rw [exec] at P
    split at P
    · rename_i xs hx
      obtain ⟨a, vs, e1, e2, _⟩ := G.own hx
      refine ⟨.ref a, e1, .inl ⟨rfl, vs, .inl (.inl e2)⟩, part G P fun d S1 w1 H1 v G1 E1 R1 P1 => ?_⟩
      split at P1
      · rename_i hl
        obtain ⟨b, us, e3, e4, hlen, G2, P2⟩ := G1.app hx R1
        rw [e1] at e3; cases e3
        exact ⟨a, us, v, rfl, rfl, e4, by rw [← limE, hlen]; exact hl, P1 w1 _ σ G2 P2 (.setE (by simp [asg]))⟩
      · exact P1.elim
    · exact P.elim
  · cases h
theorem s_par {i j : Nat} {a b : N} (x : XOk g C s X W) (st : Stmt) (h : chkS s (.par i j a b) st = true) : PS X st (tS g fr W C (.par i j a b)) := by
  unfold chkS at h
  split at h
  · rename_i n px m py k1 tp v u k2 vp sp
    simp only [Bool.and_eq_true, decide_eq_true_eq] at h
    obtain ⟨⟨⟨⟨⟨hi, hj⟩, hij⟩, hp⟩, hv⟩, hu⟩ := h
    unfold parB at hp
    simp only [Bool.and_eq_true, decide_eq_true_eq, Bool.not_eq_true'] at hp
    obtain ⟨⟨⟨⟨⟨⟨⟨p1, p2⟩, p3⟩, p4⟩, p5⟩, p6⟩, p7⟩, p8⟩ := hp
    have lx : X.env.scope.names.lookup n = some .local := by rw [x.sc]; exact p1
    have ly : X.env.scope.names.lookup m = some .local := by rw [x.sc]; exact p2
    have kx : X.env.kindOf n = some .local := lx
    have ky : X.env.kindOf m = some .local := ly
    have hb : X.env.blockKind = .function := by unfold PySem.Env.blockKind; rw [x.kind]; rfl
    have hne : n ≠ m := by simpa using p4
    have hw : swappedStores [.Tuple [.Name n px, .Name m py] k1 tp] (.Tuple [v, u] k2 vp) X.env = pure (some [n, m]) := by
      unfold swappedStores
      have a1 : (List.any [v, u] fun | .Starred .. => true | _ => false) = false := by
        cases v <;> cases u <;> first | rfl | (cases p5; done) | (cases p6; done)
      have a2 : (List.all [v, u] (foldedForSure 8)) = false := by
        show (foldedForSure 8 v && (foldedForSure 8 u && true)) = false
        rw [Bool.and_true]; exact p7
      have a3 : (List.all [v, u] (constantsAlone 8)) = false := by
        show (constantsAlone 8 v && (constantsAlone 8 u && true)) = false
        rw [Bool.and_true]; exact p8
      have a4 : [n, m].eraseDups.length = 2 := by
        have ne2 : (!m == n) = true := by
          have : (m == n) = false := by simpa using Ne.symm hne
          rw [this]; rfl
        rw [List.eraseDups_cons, List.filter_cons, if_pos ne2, List.filter_nil, List.eraseDups_cons, List.filter_nil, List.eraseDups_nil]
        rfl
      have p3' : (py.line == px.line) = true := by
        have : px.line = py.line := by simpa using p3
        rw [this]; simp
      simp only [hb, a1, a2, a3]
      simp [kx, ky, p3', a4]
      have ep : (Expr.Name n px).pos = px := rfl
      have el : py.line = px.line := by simpa using p3'
      refine (if_neg ?_).trans ?_
      · intro z
        rcases z with z | z
        · split at z
          · cases p5
          · cases z
        · split at z
          · cases p6
          · cases z
      simp only [List.filterMap_cons, List.filterMap_nil, kx, ky, ep, el, and_self, if_true, a4]
      simp
    refine PS.imp (ps_par x.calm (by rw [x.N]; exact x.nd) (by rw [x.N]; exact hi) (by rw [x.N]; exact hj) hij lx ly (pa_2 ((snd (fr := fr) a).e x false _ hv) ((snd (fr := fr) b).e x false _ hu) p5 p6) hw rfl) fun E σ H ⟨w, env, S, G, P⟩ => ?_
    rw [exec] at P
    refine part G P fun d1 S1 w1 H1 v1 G1 E1 R1 P1 => part G1 P1 fun d2 S2 w2 H2 v2 G2 E2 R2 P2 => ?_
    split at P2
    · exact ⟨v1, v2, rfl, P2 w2 H2 _ ((G2.setV (RepP.ext (p := false) G1.wok E2 R1) i).setV R2 j) .refl ((Agree.set (by simp [asg])).trans (.set (by simp [asg])))⟩
    · exact P2.elim
  · cases h
theorem any_keys {α β : Type} {k : Key} : ∀ {l : List (Key × α)} {m : List (Key × β)}, l.map (·.1) = m.map (·.1) → (l.any fun kv => decide (kv.1 = k)) = m.any fun kv => decide (kv.1 = k)
  | [], [], _ => rfl
  | [], _ :: _, h => by cases h
  | _ :: _, [], h => by cases h
  | p :: l, q :: m, h => by
    rw [List.map_cons, List.map_cons, List.cons.injEq] at h
    rw [List.any_cons, List.any_cons, h.1, any_keys h.2]
theorem set_keys {α : Type} {k : Key} {d : α} : ∀ {l : List (Key × α)}, (l.map fun kv => if kv.1 = k then (kv.1, d) else kv).map (·.1) = l.map (·.1)
  | [] => rfl
  | p :: l => by
    rw [List.map_cons, List.map_cons, List.map_cons, set_keys (l := l)]
    split <;> rfl
theorem set_vals {w : Wd} {H : Hp} {k : Key} {d : D} {v : V} (rv : Rep g H w d v) : ∀ {kvs : List (Key × D)} {kus : List (Key × V)}, kvs.map (·.1) = kus.map (·.1) → Reps g H w (kvs.map (·.2)) (kus.map (·.2)) →
    Reps g H w ((kvs.map fun kv => if kv.1 = k then (kv.1, d) else kv).map (·.2)) ((kus.map fun kv => if kv.1 = k then (kv.1, v) else kv).map (·.2))
  | [], [], _, _ => .nil
  | [], _ :: _, h, _ => by cases h
  | _ :: _, [], h, _ => by cases h
  | p :: l, q :: m, h, r => by
    rw [List.map_cons, List.map_cons, List.cons.injEq] at h
    rw [List.map_cons, List.map_cons] at r
    rw [List.map_cons, List.map_cons, List.map_cons, List.map_cons]
    cases r with
    | cons r rs =>
      refine .cons ?_ (set_vals rv h.2 rs)
      rw [h.1]
      split
      · exact rv
      · exact r
theorem setK_val {w : Wd} {H : Hp} {k : Key} {d : D} {v : V} {kvs : List (Key × D)} {kus : List (Key × V)} (e : kvs.map (·.1) = kus.map (·.1)) (r : Reps g H w (kvs.map (·.2)) (kus.map (·.2))) (rv : Rep g H w d v) :
    (setK kvs k d).map (·.1) = (L2.putK kus k v).map (·.1) ∧ Reps g H w ((setK kvs k d).map (·.2)) ((L2.putK kus k v).map (·.2)) := by
  unfold setK L2.putK
  rw [any_keys e]
  split
  · exact ⟨by rw [set_keys, set_keys, e], set_vals rv e r⟩
  · refine ⟨by rw [List.map_append, List.map_append, e]; rfl, ?_⟩
    rw [List.map_append, List.map_append]
    exact r.append (.cons rv .nil)
theorem s_dput {d e : N} {k : Str} (x : XOk g C s X W) (st : Stmt) (h : chkS s (.dput d k e) st = true) : PS X st (tS g fr W C (.dput d k e)) := by
  unfold chkS at h
  split at h
  · simp only [Bool.and_eq_true, decide_eq_true_eq] at h
    obtain ⟨⟨rfl, h1⟩, h2⟩ := h
    refine PS.imp (ps_dput (by have := x.un; omega) ((snd (fr := fr) d).e x true _ h1) pe_str ((snd (fr := fr) e).e x false _ h2) (sw_other fun _ _ z => by cases z)) fun E σ H ⟨w, env, S, G, P⟩ => ?_
    rw [exec] at P
    refine part G P fun d1 S1 w1 H1 v1 G1 E1 R1 P1 => part G1 P1 fun d2 S2 w2 H2 v2 G2 E2 R2 P2 => ?_
    split at P2
    · rename_i S3 hS
      unfold dPut at hS
      split at hS
      · rename_i n
        split at hS
        · rename_i kvs hc
          split at hS
          · rename_i hl
            cases hS
            obtain ⟨a, rfl, ha⟩ := Rep.ref_ R2.t
            obtain ⟨kus, hH, ek, rk⟩ := get_cell G2.wok ha hc
            have rv : Rep g H2 w2 d1 v1 := RepP.ext (p := false) G1.wok E2 R1
            obtain ⟨ek2, rk2⟩ := setK_val ek rk rv
            have hm : a ∈ w2.mu := List.mem_of_getElem? ha
            have Ex : Ext w2 H2 w2 (upd H2 a (.dK (L2.putK kus (keyStr k) v1))) := .put hm
            have ok3 := G2.wok.put ha ek2 rk2
            refine ⟨a, _, rfl, .k (k := keyStr k) hH ?_, P2 w2 _ σ (G2.step Ex ok3) (Ex.per G2.wok) .refl⟩
            have q : kvs.length = kus.length := by
              have := congrArg List.length ek
              simpa using this
            rw [sizeLine_eq]; omega
          · cases hS
        · cases hS
      · cases hS
    · exact P2.elim
  · cases h
theorem s_expr {e : N} (x : XOk g C s X W) (st : Stmt) (h : chkS s (.expr e) st = true) : PS X st (tS g fr W C (.expr e)) := by
  unfold chkS at h
  split at h
  · simp only [Bool.and_eq_true, Bool.not_eq_true'] at h
    refine PS.imp (ps_expr ((snd (fr := fr) e).e x false _ h.2) (sw_none h.1)) fun E σ H ⟨w, env, S, G, P⟩ => ?_
    rw [exec] at P
    exact part G P fun d S1 w1 H1 v G1 E1 R1 P1 => P1 w1 H1 σ G1 .refl .refl
  · cases h
theorem s_ret {e : N} (x : XOk g C s X W) (st : Stmt) (h : chkS s (.ret e) st = true) : PS X st (tS g fr W C (.ret e)) := by
  unfold chkS at h
  split at h
  · refine PS.imp (ps_ret ((snd (fr := fr) e).e x false _ h)) fun E σ H ⟨w, env, S, G, P⟩ => ?_
    rw [exec] at P
    exact part G P fun d S1 w1 H1 v G1 E1 R1 P1 => P1 w1 H1 v G1.wok G1.ext R1
  · cases h
theorem s_raise {c : Str} {e : N} (x : XOk g C s X W) (st : Stmt) (h : chkS s (.raise_ c e) st = true) : PS X st (tS g fr W C (.raise_ c e)) := by
  unfold chkS at h
  split at h
  · simp only [Bool.and_eq_true, decide_eq_true_eq] at h
    obtain ⟨⟨⟨⟨⟨rfl, h2⟩, h3⟩, h4⟩, h5⟩, h6⟩ := h
    obtain ⟨fl, hfl⟩ := Option.isSome_iff_exists.mp h4
    obtain ⟨g1, g2⟩ := x.fld _ _ hfl
    have E := exB_ok x.ex hfl
    have ne : s.excs ≠ [] := fun z => by rw [z] at hfl; cases hfl
    refine PS.imp (ps_raise x.calm x.tk (pmk_nx E.nx (x.top ne) (x.gl h2) g2 x.rm ((snd (fr := fr) e).e x false _ h6) (okN_dbg h3) (star_ok h5))) fun En σ H ⟨w, env, S, G, P⟩ => ?_
    rw [exec] at P
    refine part G P fun d S1 w1 H1 v G1 E1 R1 P1 dx hd => ?_
    have R1 : Rep g H1 w1 d v := R1
    have E2 : Ext w1 H1 w1 (upd H1 dx (.xd [(fl, v)])) := .newT hd
    exact P1 w1 _ σ env _ _ (G1.step E2 (G1.wok.newT hd)) (E2.per G1.wok) (fun _ _ => ⟨rfl, rfl⟩) ⟨_, by rw [← x.mg]; exact g2, rfl, by rw [g1]; exact ⟨dx, v, rfl, upd_same, R1.per (E2.per G1.wok)⟩⟩
  · cases h
theorem Good.put {σ : L2.St} {H : Hp} {w : Wd} {env : Env} {S : Store} {i : Nat} {xs ys : List D} {k : Int} {d : D} {v : V} (G : Good g fr σ H w env S) (h : env[i]? = some (.own xs)) (r : Rep g H w d v) (hp : putI xs k d = some ys) :
    ∃ a vs j, σ[i]? = some (some (.ref a)) ∧ H a = some (.lst vs) ∧ ixN vs.length k = some j ∧ Good g fr σ (upd H a (.lst (vs.set j v))) w (env.set i (.own ys)) S ∧ Per w H w (upd H a (.lst (vs.set j v))) := by
  obtain ⟨a, vs, h1, h2, rs, nz, n0⟩ := G.own h
  have nm : a ∉ w.mu := fun z => by
    obtain ⟨u, q⟩ := G.wok.dict z
    rw [q] at h2; cases h2
  unfold putI at hp
  obtain ⟨jj, hj, rfl⟩ := Option.map_eq_some_iff.mp hp
  rw [rs.length] at hj
  have P : Per w H w (upd H a (.lst (vs.set jj v))) := per_own h2 nz
  refine ⟨a, vs, jj, h1, h2, hj, ⟨wok_own G.wok h2 nz nm, ext_own G.ext n0, by rw [List.length_set, G.len], fun j t o q1 q2 => ?_, fun j l b ys zs hne q1 q2 q3 q4 => ?_⟩, P⟩
  · rcases getset q1 with ⟨e, rfl⟩ | ⟨e, q1⟩
    · subst e
      rw [h1] at q2
      cases q2
      exact .own upd_same ((rs.set r jj).per P) nz n0
    · have z := G.sl j t o q1 q2
      cases z with
      | un => exact .un
      | val z => exact .val (z.per P)
      | @own ys b us z1 z2 z3 z4 =>
        have ne : b ≠ a := fun e' => by
          subst e'
          exact G.sep i j b xs ys e h q1 h1 q2
        exact .own (by rw [upd_ne ne]; exact z1) (z2.per P) z3 z4
      | bor z1 z2 => exact .bor (z1.upd P fun e => z2 _ e n0) z2
  · have k1 : ∃ ys, env[j]? = some (.own ys) := by
      rcases getset q1 with ⟨e, _⟩ | ⟨_, q1⟩
      · exact ⟨xs, by rw [← e]; exact h⟩
      · exact ⟨ys, q1⟩
    have k2 : ∃ ys, env[l]? = some (.own ys) := by
      rcases getset q2 with ⟨e, _⟩ | ⟨_, q2⟩
      · exact ⟨xs, by rw [← e]; exact h⟩
      · exact ⟨zs, q2⟩
    obtain ⟨_, k1⟩ := k1
    obtain ⟨_, k2⟩ := k2
    exact G.sep j l b _ _ hne k1 k2 q3 q4
theorem s_lput {i : Nat} {e v : N} (x : XOk g C s X W) (st : Stmt) (h : chkS s (.lput i e v) st = true) : PS X st (tS g fr W C (.lput i e v)) := by
  unfold chkS at h
  split at h
  · rename_i y p1 u p2 t sp
    simp only [Bool.and_eq_true] at h
    obtain ⟨⟨⟨h1, h0⟩, h2⟩, h3⟩ := h
    refine PS.imp (ps_asg ((snd (fr := fr) v).e x false _ h3) (pg_sub (x.pv h1) ((snd (fr := fr) e).e x false _ h2) set_list (by intro v; cases u <;> first | rfl | cases h0)) (show swapsWithSole [.Subscript (.Name y p1) u p2] t sp.line X.env = pure false from sw_other (t := .Subscript (.Name y p1) u p2) (env := X.env) (l := sp.line) fun _ _ z => by cases z) (by cases t <;> rfl) (by rfl)) fun E σ H ⟨w, env, S, G, P⟩ => ?_
    rw [exec] at P
    refine part G P fun d S1 w1 H1 u G1 E1 R1 P1 => ?_
    split at P1
    · rename_i xs hx
      obtain ⟨a, vs, e1, e2, _⟩ := G1.own hx
      refine ⟨.ref a, e1, part G1 P1 fun d2 S2 w2 H2 u2 G2 E2 R2 P2 => ?_⟩
      split at P2
      · rename_i k
        split at P2
        · rename_i ys hys
          obtain ⟨b, us, j, e3, e4, hj, G3, P3⟩ := G2.put hx (RepP.ext (p := false) G1.wok E2 R1) hys
          rw [e1] at e3; cases e3
          have R2 : Rep g H2 w2 (.int k) u2 := R2
          cases R2
          exact ⟨a, us, k, j, rfl, rfl, e4, hj, P2 w2 _ σ G3 P3 (.setE (by simp [asg]))⟩
        · exact P2.elim
      · exact P2.elim
    · exact P1.elim
  · cases h
theorem XOk.tr (x : XOk g C s X W) {W' : WX} {pn : List (Addr × Obj)} {xe : Value → Shared → Prop} (tk : Takes (X.tr pn xe) W') (pa : PassesOwn (model X.prog X.w) X.A X.env xe) : XOk g C s (X.tr pn xe) W' :=
  { K := x.K
    mg := x.mg
    N := x.N
    sc := x.sc
    kind := x.kind
    nd := x.nd
    calm := x.calm
    gd := x.gd
    un := x.un
    st := x.st
    pass := pa
    tk := tk
    free := x.free
    gcd := x.gcd
    fns := fun f ps hf => by
      obtain ⟨a, fd, k, h1, h2, h3, h4, h5⟩ := (x.fns f ps hf).ex
      exact ⟨a, fd, k, h1, h2, h3, h4, h5⟩
    ex := x.ex
    fld := x.fld
    top := x.top
    rm := x.rm
    ci := x.ci
    cs := x.cs
    ct := x.ct
    hear := x.hear
    stk := x.stk
    lamOk := x.lamOk }
theorem s_tryB {a : N} {c : Str} {b : Bool} (ia : SndS g fr C a) (x : XOk g C s X W) (st : Stmt) (h : chkS s (.tryB a c b) st = true) : PS X st (tS g fr W C (.tryB a c b)) := by
  unfold chkS at h
  split at h
  · rename_i bs y p1 v k p2 p3 p4 p5
    simp only [Bool.and_eq_true, decide_eq_true_eq] at h
    obtain ⟨⟨⟨⟨⟨⟨rfl, rfl⟩, h1⟩, h2⟩, h3⟩, h4⟩, h5⟩ := h
    obtain ⟨fl, hfl⟩ := Option.isSome_iff_exists.mp h4
    obtain ⟨g1, g2⟩ := x.fld _ _ hfl
    have E := exB_ok x.ex hfl
    have ex := E.exm (c, fl) (mem_look hfl)
    obtain ⟨k1, k2⟩ := x.stk h1
    refine PS.imp (ps_try_only k1 k2 ⟨x.gl h2, okN_dbg h3, .inl g2⟩ x.tk (fun W' pn xe tk pa => ia.bl (x.tr tk pa) _ h5) fun a oe cls d pn z hf => pss_one (ps_ret (te := tC (.bl b)) pe_bl)) fun En σ H ⟨w, env, S, G, P⟩ => ?_
    rw [exec] at P
    refine ⟨w, env, S, G, ?_⟩
    cases hr : exec C a env S with
    | st => rw [hr] at P; exact P.elim
    | ok f1 S1 => rw [hr] at P; exact P
    | ex c' p S1 =>
      rw [hr] at P
      simp only at P
      split at P
      · rename_i hc
        subst hc
        intro w' H' σ' env' cc dd G' pe ag xc
        obtain ⟨a0, m1, ecc, _⟩ := xc
        subst ecc
        rw [← x.mg, g2] at m1
        cases m1
        refine ⟨true, ?_, fun _ a na => P w' H' _ G'.wok G'.ext (.bl b), fun z => by cases z⟩
        rw [ex]
        simp
      · exact P.elim
  · cases h
theorem s_retN (x : XOk g C s X W) (st : Stmt) (h : chkS s .retN st = true) : PS X st (tS g fr W C .retN) := by
  unfold chkS at h
  split at h
  · refine PS.imp ps_retN fun E σ H ⟨w, env, S, G, P⟩ => ?_
    rw [exec] at P
    exact P w H .non G.wok G.ext .non
  · cases h
theorem s_brk (x : XOk g C s X W) (st : Stmt) (h : chkS s .brk st = true) : PS X st (tS g fr W C .brk) := by
  unfold chkS at h
  split at h
  · refine PS.imp ps_break fun E σ H ⟨w, env, S, G, P⟩ => ?_
    rw [exec] at P
    exact P w H σ G .refl .refl
  · cases h
theorem s_cnt (x : XOk g C s X W) (st : Stmt) (h : chkS s .cnt st = true) : PS X st (tS g fr W C .cnt) := by
  unfold chkS at h
  split at h
  · refine PS.imp ps_continue fun E σ H ⟨w, env, S, G, P⟩ => ?_
    rw [exec] at P
    exact P w H σ G .refl .refl
  · cases h
theorem s_pass (x : XOk g C s X W) (st : Stmt) (h : chkS s .pass st = true) : PS X st (tS g fr W C .pass) := by
  have go : ∀ E σ H, tS g fr W C .pass E σ H → tNext E σ H := fun E σ H ⟨w, env, S, G, P⟩ => by
    rw [exec] at P
    exact P w H σ G .refl .refl
  unfold chkS at h
  split at h
  · exact PS.imp ps_pass go
  · exact PS.imp ps_doc go
  · cases h
theorem s_gl {n : Str} (st : Stmt) : PS X st (tS g fr W C (.gl n)) := PS.imp ps_never fun E σ H ⟨w, env, S, G, P⟩ => (P : False)
end
end Fx

set_option maxHeartbeats 4000000
/-! Fx8b: blocks, tests, loops. -/
namespace Fx
open PySem PySem.Spec PyProof.Rows L2

section
variable {g : G} {fr : Frm} {W : WX} {C : Ev} {s : Sc} {X : Cx}
theorem s_ifs {c a b : N} (ia : SndS g fr C a) (ib : SndS g fr C b) (x : XOk g C s X W) (st : Stmt) (h : chkS s (.ifs c a b) st = true) : PS X st (tS g fr W C (.ifs c a b)) := by
  unfold chkS at h
  split at h
  · simp only [Bool.and_eq_true] at h
    refine PS.imp (ps_if ((snd (fr := fr) c).t x _ h.1.1) (ia.bl x _ h.1.2) (ib.bl x _ h.2)) fun E σ H ⟨w, env, S, G, P⟩ => ?_
    rw [exec] at P
    refine part G P fun k S1 w1 H1 b G1 E1 R1 P1 => ?_
    cases R1
    have lo : ∀ i, asg (.ifs c a b) i = false → asg a i = false ∧ asg b i = false := fun i hi => Bool.or_eq_false_iff.mp hi
    cases k with
    | true =>
      rw [if_pos rfl] at P1 ⊢
      exact ⟨w1, env, S1, G1, P1.imp (fun _ _ k => k.step .refl (As1 := no) .refl (fun _ _ => rfl) fun i hi => (lo i hi).1) fun _ _ _ x => x.step .refl (As1 := no) .refl (fun _ _ => rfl) fun i hi => (lo i hi).1⟩
    | false =>
      rw [if_neg Bool.false_ne_true] at P1 ⊢
      exact ⟨w1, env, S1, G1, P1.imp (fun _ _ k => k.step .refl (As1 := no) .refl (fun _ _ => rfl) fun i hi => (lo i hi).2) fun _ _ _ x => x.step .refl (As1 := no) .refl (fun _ _ => rfl) fun i hi => (lo i hi).2⟩
  · cases h
/-- while: as many turns as the evaluator takes -/
theorem s_whl {c b : N} (ib : SndS g fr C b) (x : XOk g C s X W) (st : Stmt) (h : chkS s (.whl c b) st = true) : PS X st (tS g fr W C (.whl c b)) := by
  unfold chkS at h
  split at h
  · simp only [Bool.and_eq_true] at h
    refine PS.imp (ps_while x.pass ((snd (fr := fr) c).t x _ h.1) (ib.bl x _ h.2)) fun E σ H ⟨w, env, S, G, P⟩ => ?_
    rw [exec] at P
    refine ⟨fun m σ2 H2 => ∃ w2 env2 S2, Good g fr σ2 H2 w2 env2 S2 ∧ Per w H w2 H2 ∧ Agree (asg b) σ σ2 env env2 ∧ Post (whileL (evT C c) (exec C b) m env2 S2) (KS g fr E (asg b) σ env w H) (XP g fr W σ env (asg b) w H), ⟨C.wf, w, env, S, G, .refl, .refl, P⟩, ?_⟩
    rintro m σ2 H2 ⟨w2, env2, S2, G2, p2, a2, P2⟩
    cases m with
    | zero => exact P2.elim
    | succ m =>
      unfold whileL at P2
      refine ⟨w2, env2, S2, G2, P2.bind.imp (fun k S3 P3 w3 H3 k' G3 E3 R3 => ?_) fun _ _ _ z => (z.step (As2 := no) p2 a2 (fun _ h => h) (fun _ _ => rfl)).xx G2.wok⟩
      cases R3
      have p3 := p2.trans (E3.per G2.wok)
      cases k with
      | true =>
        rw [if_pos rfl] at P3 ⊢
        refine ⟨fun σ4 H4 => ∃ w4 env4 S4, Good g fr σ4 H4 w4 env4 S4 ∧ Per w H w4 H4 ∧ Agree (asg b) σ σ4 env env4 ∧ Post (whileL (evT C c) (exec C b) m env4 S4) (KS g fr E (asg b) σ env w H) (XP g fr W σ env (asg b) w H), fun σ4 H4 q => ⟨m, Nat.lt_succ_self m, q⟩, w3, env2, S3, G3, ?_⟩
        refine P3.bind.imp (fun fl S4 P4 => ?_) fun _ _ _ z => z.step p3 a2 (fun _ h => h) (fun _ h => h)
        cases fl with
        | nx e => exact fun w' H' σ' G' p' a' => ⟨w', e, S4, G', p3.trans p', a2.trans a', P4⟩
        | ct e => exact fun w' H' σ' G' p' a' => ⟨w', e, S4, G', p3.trans p', a2.trans a', P4⟩
        | bk e => exact fun w' H' σ' G' p' a' => P4 w' H' σ' G' (p3.trans p') (a2.trans a')
        | rt d => exact P4
      | false =>
        rw [if_neg Bool.false_ne_true] at P3 ⊢
        exact P3 w3 H3 σ2 G3 p3 a2
  · cases h
theorem s_for {tg it b : N} (ib : SndS g fr C b) (x : XOk g C s X W) (st : Stmt) (h : chkS s (.for_ tg it b) st = true) : PS X st (tS g fr W C (.for_ tg it b)) := by
  unfold chkS at h
  split at h
  · simp only [Bool.and_eq_true] at h
    refine PS.imp (ps_for x.pass x.calm ((snd (fr := fr) it).i x false _ _ h.1.1) ((snd (fr := fr) (C := C) tg).tgt x _ h.1.2) (ib.bl x _ h.2) (foldS h.1.1)) fun E σ H ⟨w, env, S, G, P⟩ => ?_
    rw [exec] at P
    refine ⟨w, env, S, G, P.bind.imp (fun ds S1 P1 w1 H1 J G1 E1 itok => ?_) fun _ _ _ z => z.xx G.wok⟩
    have lo : ∀ i, asg (.for_ tg it b) i = false → asgT tg i = false ∧ asg b i = false := fun i hi => Bool.or_eq_false_iff.mp hi
    generalize hA : asg (.for_ tg it b) = As at P1 lo
    generalize hf : (fun d e S => match bindT tg d e with | some e => exec C b e S | none => (Res.st : Res Fl)) = f at P1
    let Pv : Nat → L2.St → Hp → Prop := fun i σ2 H2 => ∃ w2 env2 S2, Good g fr σ2 H2 w2 env2 S2 ∧ Per w1 H1 w2 H2 ∧ Agree As σ σ2 env env2 ∧ Post (forL f (ds.drop i) env2 S2) (KS g fr E As σ env w H) (XP g fr W σ env As w H)
    have p01 := E1.per G.wok
    refine ⟨fun i m σ2 H2 => m = ds.length - i ∧ i ≤ ds.length ∧ Pv i σ2 H2, ⟨ds.length, by simp, Nat.zero_le _, w1, env, S1, G1, .refl, .refl, P1⟩, ?_⟩
    rintro i m σ2 H2 ⟨rfl, hi, w2, env2, S2, G2, p2, a2, P2⟩
    by_cases hlt : i < ds.length
    · right
      obtain ⟨jgo, jy⟩ := itok.go i w2 H2 S2 ds[i] G2.wok (show RelB false w1 H1 w2 H2 from p2) (List.getElem?_eq_getElem hlt)
      refine ⟨jgo, Pv (i + 1), fun σ' H' q => ⟨ds.length - (i + 1), by omega, rfl, hlt, q⟩, fun v H3 y => ?_⟩
      obtain ⟨E3, ok3, r3⟩ := jy v H3 y
      rw [List.drop_eq_getElem_cons hlt] at P2
      unfold forL at P2
      have p3 := p2.trans (E3.per G2.wok)
      have P3 := P2.bind
      rw [← hf] at P3
      simp only at P3
      split at P3
      · rename_i env' hb
        refine ⟨w2, env2, S2, ds[i], env', G2.step E3 ok3, r3, hb, fun σ' G' a' => ?_⟩
        have a3 : Agree As σ σ' env env' := a2.trans (a'.mono fun i hi => (lo i hi).1)
        refine ⟨w2, env', S2, G', P3.imp (fun fl S4 P4 => ?_) fun _ _ _ z => z.step (p01.trans p3) a3 (fun _ h => h) (fun i hi => (lo i hi).2)⟩
        cases fl with
        | nx e => exact fun w' H' σ4 G4 p' a4 => ⟨w', e, S4, G4, p3.trans p', a3.trans (a4.mono fun i hi => (lo i hi).2), hf ▸ P4⟩
        | ct e => exact fun w' H' σ4 G4 p' a4 => ⟨w', e, S4, G4, p3.trans p', a3.trans (a4.mono fun i hi => (lo i hi).2), hf ▸ P4⟩
        | bk e => exact fun w' H' σ4 G4 p' a4 => P4 w' H' σ4 G4 (p01.trans (p3.trans p')) (a3.trans (a4.mono fun i hi => (lo i hi).2))
        | rt d => exact P4
      · exact P3.elim
    · have e1 : i = ds.length := by omega
      subst e1
      left
      rw [List.drop_length] at P2
      exact ⟨itok.stop w2 H2 S2 G2.wok (show RelB false w1 H1 w2 H2 from p2), P2 w2 H2 σ2 G2 (p01.trans p2) a2⟩
  · cases h
theorem b_nil (sts : List Stmt) (h : chkB s .nil sts = true) : PSs X sts (tS g fr W C .nil) := by
  unfold chkB at h
  split at h
  · refine PSs.imp pss_nil fun E σ H ⟨w, env, S, G, P⟩ => ?_
    rw [exec] at P
    exact P w H σ G .refl .refl
  · cases h
theorem b_frz {i : Nat} {b : N} (ib : SndS g fr C b) (x : XOk g C s X W) (sts : List Stmt) (h : chkB s (.cons (.frz i) b) sts = true) : PSs X sts (tS g fr W C (.cons (.frz i) b)) := by
  unfold chkB at h
  refine PSs.imp (ib.bl x _ h) fun E σ H ⟨w, env, S, G, P⟩ => ?_
  rw [exec, exec] at P
  have lo : ∀ j, asg (.cons (.frz i) b) j = false → i ≠ j ∧ asg b j = false := fun j hj => by
    have z : (i == j || asg b j) = false := hj
    obtain ⟨z1, z2⟩ := Bool.or_eq_false_iff.mp z
    exact ⟨by simpa using z1, z2⟩
  split at P
  · rename_i xs hx
    obtain ⟨a, G1⟩ := G.frz hx
    have A1 : Agree (fun j => i == j) σ σ env (env.set i (.val (.lst xs))) := .setE (by simp)
    have P : Post (exec C b (env.set i (.val (.lst xs))) S) _ _ := P
    exact ⟨_, _, S, G1, P.imp (fun _ _ k => k.step Per.frz1 A1 (fun j hj => by simpa using (lo j hj).1) fun j hj => (lo j hj).2) fun _ _ _ z => z.step Per.frz1 A1 (fun j hj => by simpa using (lo j hj).1) fun j hj => (lo j hj).2⟩
  · have P : Post (exec C b env S) _ _ := P
    exact ⟨w, env, S, G, P.imp (fun _ _ k => k.step .refl (As1 := no) .refl (fun _ _ => rfl) fun j hj => (lo j hj).2) fun _ _ _ z => z.step .refl (As1 := no) .refl (fun _ _ => rfl) fun j hj => (lo j hj).2⟩
theorem chkB_c {a b : N} {st : Stmt} {sts : List Stmt} (hz : ∀ i, a ≠ .frz i) : chkB s (.cons a b) (st :: sts) = (chkS s a st && chkB s b sts) := by
  cases a <;> first
    | exact absurd rfl (hz _)
    | (conv => lhs; unfold chkB)
theorem chkB_n {a b : N} (hz : ∀ i, a ≠ .frz i) : chkB s (.cons a b) [] = false := by
  cases a <;> first
    | exact absurd rfl (hz _)
    | (conv => lhs; unfold chkB)
theorem b_cons {a b : N} (ia : SndS g fr C a) (ib : SndS g fr C b) (x : XOk g C s X W) (sts : List Stmt) (h : chkB s (.cons a b) sts = true) : PSs X sts (tS g fr W C (.cons a b)) := by
  by_cases hz : ∃ i, a = .frz i
  · obtain ⟨i, rfl⟩ := hz
    exact b_frz ib x sts h
  cases sts with
  | nil => rw [chkB_n fun i q => hz ⟨i, q⟩] at h; cases h
  | cons st sts =>
    rw [chkB_c fun i q => hz ⟨i, q⟩, Bool.and_eq_true] at h
    refine PSs.imp (pss_cons (ia.st x _ h.1) (ib.bl x _ h.2)) fun E σ H ⟨w, env, S, G, P⟩ => ?_
    rw [exec] at P
    have lo : ∀ j, asg (.cons a b) j = false → asg a j = false ∧ asg b j = false := fun j hj => Bool.or_eq_false_iff.mp hj
    refine ⟨w, env, S, G, P.bind.imp (fun fl S1 P1 => ?_) fun _ _ _ z => z.step .refl (As1 := no) .refl (fun _ _ => rfl) fun j hj => (lo j hj).1⟩
    cases fl with
    | nx e =>
      intro w' H' σ' G' p' a'
      exact ⟨w', e, S1, G', P1.imp (fun _ _ k => k.step p' a' (fun j hj => (lo j hj).1) fun j hj => (lo j hj).2) fun _ _ _ z => z.step p' a' (fun j hj => (lo j hj).1) fun j hj => (lo j hj).2⟩
    | ct e => exact fun w' H' σ' G' p' a' => P1 w' H' σ' G' p' (a'.mono fun j hj => (lo j hj).1)
    | bk e => exact fun w' H' σ' G' p' a' => P1 w' H' σ' G' p' (a'.mono fun j hj => (lo j hj).1)
    | rt d => exact P1
theorem snds (n : N) : SndS g fr C n := by
  induction n with
  | gl n => exact ⟨fun x st h => s_gl st, fun x st h => (by unfold chkB at h; cases h)⟩
  | set i e => exact ⟨fun x st h => s_set x st h, fun x st h => (by unfold chkB at h; cases h)⟩
  | setO i e => exact ⟨fun x st h => s_setO x st h, fun x st h => (by unfold chkB at h; cases h)⟩
  | unp tg e => exact ⟨fun x st h => s_unp x st h, fun x st h => (by unfold chkB at h; cases h)⟩
  | par i j a b => exact ⟨fun x st h => s_par x st h, fun x st h => (by unfold chkB at h; cases h)⟩
  | app i e => exact ⟨fun x st h => s_app x st h, fun x st h => (by unfold chkB at h; cases h)⟩
  | dput d k e => exact ⟨fun x st h => s_dput x st h, fun x st h => (by unfold chkB at h; cases h)⟩
  | raise_ c e => exact ⟨fun x st h => s_raise x st h, fun x st h => (by unfold chkB at h; cases h)⟩
  | expr e => exact ⟨fun x st h => s_expr x st h, fun x st h => (by unfold chkB at h; cases h)⟩
  | ret e => exact ⟨fun x st h => s_ret x st h, fun x st h => (by unfold chkB at h; cases h)⟩
  | retN => exact ⟨fun x st h => s_retN x st h, fun x st h => (by unfold chkB at h; cases h)⟩
  | brk => exact ⟨fun x st h => s_brk x st h, fun x st h => (by unfold chkB at h; cases h)⟩
  | cnt => exact ⟨fun x st h => s_cnt x st h, fun x st h => (by unfold chkB at h; cases h)⟩
  | pass => exact ⟨fun x st h => s_pass x st h, fun x st h => (by unfold chkB at h; cases h)⟩
  | lput i e v => exact ⟨fun x st h => s_lput x st h, fun x st h => (by unfold chkB at h; cases h)⟩
  | tryB a c b ia => exact ⟨fun x st h => s_tryB ia x st h, fun x st h => (by unfold chkB at h; cases h)⟩
  | ifs c a b _ ia ib => exact ⟨fun x st h => s_ifs ia ib x st h, fun x st h => (by unfold chkB at h; cases h)⟩
  | whl c b _ ib => exact ⟨fun x st h => s_whl ib x st h, fun x st h => (by unfold chkB at h; cases h)⟩
  | for_ tg it b _ _ ib => exact ⟨fun x st h => s_for ib x st h, fun x st h => (by unfold chkB at h; cases h)⟩
  | nil => exact ⟨fun x st h => (by unfold chkS at h; cases h), fun x st h => b_nil st h⟩
  | cons a b ia ib => exact ⟨fun x st h => (by unfold chkS at h; cases h), fun x st h => b_cons ia ib x st h⟩
  | _ => exact ⟨fun x st h => (by unfold chkS at h; cases h), fun x st h => (by unfold chkB at h; cases h)⟩
end
end Fx

set_option maxHeartbeats 4000000
/-! Fx9b: the defs of a module. -/
namespace Fx
open PySem PySem.Spec PyProof.Rows L2

/-- a def as written, with its body in the small language -/
structure Df where
  name : Str
  qual : Str
  ps : List Str
  params : Arguments
  body : List Stmt
  scope : Scope
  N : List Str
  F : Fn
  lam : Bool := false
/-- the module's constants -/
structure Cn where
  ci : List (Str × Int) := []
  cs : List (Str × Str) := []
  ct : List (Str × List Str) := []
def Df.sc (d : Df) (fns : List (Str × List Str)) (free : List Str) (gc : Bool) (excs : List (Str × Str)) (hrs : List (Str × List (Str × Str))) (cn : Cn) : Sc := { N := d.N, sc := d.scope, own := d.scope, fns := fns, free := free, gcd := gc, def_ := true, excs := excs, hrs := hrs, lam := d.lam, cints := cn.ci, cstrs := cn.cs, ctups := cn.ct }
def Df.ok (d : Df) (fns : List (Str × List Str)) (free : List Str) (gc : Bool) (excs : List (Str × Str)) (hrs : List (Str × List (Str × Str))) (cn : Cn) : Bool :=
  scopeB d.N d.ps d.scope && plainP d.params && decide (d.params.args.map (·.arg) = d.ps) && chkB (d.sc fns free gc excs hrs cn) d.F.body d.body && decide (d.F.np = d.ps.length) && decide (d.F.nn = d.N.length) && decide (d.ps.length ≤ d.N.length)
def fnsOf (ds : List Df) : List (Str × List Str) := ds.map fun d => (d.name, d.ps)
def hrsOf (hds : List Hd) : List (Str × List (Str × Str)) := hds.map fun d => (d.name, d.hs)
def lamq (q : Str) : Str := (q ++ ".<locals>.") ++ "<lambda>"
/-- the defs, each an object of the module -/
structure ModOk (P : Program) (K : PySem.W.Frag) (mg : Str → Option Value) (base : Heap) (g : G) (ds : List Df) (T : Tab) (free : List Str) (gc : Bool) (excs : List (Str × Str)) (hds : List Hd) (cn : Cn) : Prop where
  fd : ∀ d ∈ ds, ∃ f fd, mg d.name = some (.ref f) ∧ FunD K d.name d.qual d.params d.body d.scope [] [] f fd
  tab : ∀ d ∈ ds, T d.name = some d.F
  ok : ∀ d ∈ ds, d.ok (fnsOf ds) free gc excs (hrsOf hds) cn = true
  free : ∀ x, free.contains x = true → mg x = none
  gcd : gc = true → mg "gcd" = some (.builtin "math.gcd")
  ex : exB P.main.file K excs = true
  fld : ∀ c f, excs.lookup c = some f → g.fld c = some f ∧ mg c = some (.ref (He.ga K c))
  top : excs ≠ [] → (P.main.scope.names.lookup ("super" : Str)).isSome = false
  hd : ∀ d ∈ hds, d.ok excs = true ∧ ∃ f fd, mg d.name = some (.ref f) ∧ FunD K d.name d.qual d.params d.body d.scope [] [] f fd
  ci : ∀ y z, cn.ci.lookup y = some z → ∃ t, mg y = some (.int z t)
  cs : ∀ y z, cn.cs.lookup y = some z → ∃ t, mg y = some (.str z t)
  ct : ∀ y xs, cn.ct.lookup y = some xs → ∃ (a : Addr) (o : Obj) (its : Array Value) (n : Nat), mg y = some (.ref a) ∧ K.lookup a = some o ∧ o.cls = .type "tuple" ∧ o.data = .seq its n ∧ its.size ≤ sizeLine ∧ Vals (xs.map V.str) its.toList
  lam : ∀ d ∈ ds, d.lam = true → ∀ f fd, mg d.name = some (.ref f) → FunD K d.name d.qual d.params d.body d.scope [] [] f fd → ∃ c Q, fd.code = .ref c ∧ LamX.TabB base mg c Q ∧ (Q, lamq d.qual) ∈ g.T ∧ ∀ p ∈ g.T, p.1 = Q → p.2 = lamq d.qual

section
variable {P : Program} {w : World} {K : PySem.W.Frag} {mg : Str → Option Value} {base : Heap} {ds : List Df} {T : Tab} {free : List Str} {gc : Bool} {wf : Nat} {excs : List (Str × Str)} {hds : List Hd} {g : G} {cn : Cn}
theorem FnR.mono {k k' : Nat} {f : Addr} {fd : FuncData} {ps : List Str} {sp : Sp} (F : FnR P w K mg base k f fd ps sp) (h : k ≤ k') : FnR P w K mg base k' f fd ps sp := ⟨F.len, fun A outer s H args us vs Q E hr => F.run A outer s H args us vs Q E (hr.mono h)⟩
theorem start_get {N : List Str} {vs : List V} {i : Nat} : (L2.start N vs)[i]? = if i < vs.length then (vs[i]?).map some else if i < vs.length + (N.length - vs.length) then some none else none := by
  unfold L2.start
  by_cases h : i < vs.length
  · rw [if_pos h, List.getElem?_append_left (by simpa using h), List.getElem?_map]
  · rw [if_neg h, List.getElem?_append_right (by simpa using Nat.le_of_not_lt h), List.length_map, List.getElem?_replicate]
    by_cases h2 : i < vs.length + (N.length - vs.length)
    · rw [if_pos h2, if_pos (by omega)]
    · rw [if_neg h2, if_neg (by omega)]
theorem startE_get {nn : Nat} {ds : List D} {i : Nat} : (startE nn ds)[i]? = if i < ds.length then (ds[i]?).map Sl.val else if i < ds.length + (nn - ds.length) then some .un else none := by
  unfold startE
  by_cases h : i < ds.length
  · rw [if_pos h, List.getElem?_append_left (by simpa using h), List.getElem?_map]
  · rw [if_neg h, List.getElem?_append_right (by simpa using Nat.le_of_not_lt h), List.length_map, List.getElem?_replicate]
    by_cases h2 : i < ds.length + (nn - ds.length)
    · rw [if_pos h2, if_pos (by omega)]
    · rw [if_neg h2, if_neg (by omega)]
/-- a body's entry -/
theorem good_start {g : G} {w : Wd} {H : Hp} {S : Store} {xs : List D} {vs : List V} {N : List Str} (k : WOk g w H S) (r : Reps g H w xs vs) : Good g ⟨w, H⟩ (L2.start N vs) H w (startE N.length xs) S := by
  have hl := r.length
  refine ⟨k, .refl, ?_, fun i t o h1 h2 => ?_, fun i j a ys zs _ h1 => ?_⟩
  · unfold L2.start startE
    rw [List.length_append, List.length_append, List.length_map, List.length_map, List.length_replicate, List.length_replicate, hl]
  · rw [startE_get] at h1
    rw [start_get] at h2
    rw [← hl] at h2
    split at h1
    · rename_i hi
      rw [if_pos hi] at h2
      have e1 : xs[i]? = some xs[i] := List.getElem?_eq_getElem hi
      obtain ⟨v, e2, rv⟩ := r.get e1
      rw [e1] at h1
      rw [e2] at h2
      cases h1
      cases h2
      exact .val rv
    · rename_i hi
      rw [if_neg hi] at h2
      split at h1
      · cases h1
        exact .un
      · cases h1
  · rw [startE_get] at h1
    split at h1
    · cases q : xs[i]? with
      | none => rw [q] at h1; cases h1
      | some d => rw [q] at h1; cases h1
    · split at h1 <;> cases h1
theorem startB_get {nn : Nat} {ds : List D} {i : Nat} : (startM true nn ds)[i]? = if i < ds.length then (ds[i]?).map lent else if i < ds.length + (nn - ds.length) then some .un else none := by
  unfold startM
  rw [if_pos rfl]
  by_cases h : i < ds.length
  · rw [if_pos h, List.getElem?_append_left (by simpa using h), List.getElem?_map]
  · rw [if_neg h, List.getElem?_append_right (by simpa using Nat.le_of_not_lt h), List.length_map, List.getElem?_replicate]
    by_cases h2 : i < ds.length + (nn - ds.length)
    · rw [if_pos h2, if_pos (by omega)]
    · rw [if_neg h2, if_neg (by omega)]
theorem lent_own {d : D} {xs : List D} (h : lent d = .own xs) : False := by
  cases d <;> cases h
theorem lent_at {g : G} {w : Wd} {H : Hp} {S : Store} {d : D} {v : V} (k : WOk g w H S) (r : RepT g H w d v) : SlAt g ⟨w, H⟩ H w (lent d) (some v) := by
  cases d with
  | lst xs =>
    refine .bor r fun a e => ?_
    subst e
    cases r with
    | rep h =>
      cases h with
      | lst h _ => rcases h with ⟨h, _⟩ | ⟨o, h⟩ <;> (show H _ ≠ none; rw [h]; simp)
    | own h _ => show H _ ≠ none; rw [h]; simp
  | _ =>
    cases r with
    | rep h => exact .val h
theorem good_startB {g : G} {w : Wd} {H : Hp} {S : Store} {xs : List D} {vs : List V} {N : List Str} (k : WOk g w H S) (r : RepTs g H w xs vs) : Good g ⟨w, H⟩ (L2.start N vs) H w (startM true N.length xs) S := by
  have hl := r.length
  refine ⟨k, .refl, ?_, fun i t o h1 h2 => ?_, fun i j a ys zs _ h1 => ?_⟩
  · unfold L2.start startM
    rw [if_pos rfl, List.length_append, List.length_append, List.length_map, List.length_map, List.length_replicate, List.length_replicate, hl]
  · rw [startB_get] at h1
    rw [start_get] at h2
    rw [← hl] at h2
    split at h1
    · rename_i hi
      rw [if_pos hi] at h2
      have e1 : xs[i]? = some xs[i] := List.getElem?_eq_getElem hi
      obtain ⟨v, e2, rv⟩ := r.get e1
      rw [e1] at h1
      rw [e2] at h2
      cases h1
      cases h2
      exact lent_at k rv
    · rename_i hi
      rw [if_neg hi] at h2
      split at h1
      · cases h1
        exact .un
      · cases h1
  · rw [startB_get] at h1
    split at h1
    · cases q : xs[i]? with
      | none => rw [q] at h1; cases h1
      | some d => rw [q] at h1; exact (lent_own (Option.some.inj h1)).elim
    · split at h1 <;> cases h1
/-- lent, or not -/
def spM (g : G) (b : Bool) (n : Nat) (cf : List D → Store → Res D) : Sp := fun vs H Q E => vs.length = n ∧ ∃ w S ds, WOk g w H S ∧ (if b = true then RepTs g H w ds vs else Reps g H w ds vs) ∧
  Post (cf ds S) (fun d S' => ∀ w' H' v, WOk g w' H' S' → Ext w H w' H' → Rep g H' w' d v → Q v H') fun c p S' => ∀ w' H' cc dd, WOk g w' H' S' → Ext w H w' H' → ExcAt g H' w' c p cc dd → E cc dd H'
theorem spM_len {g : G} {b : Bool} {H : Hp} {w : Wd} {ds : List D} {vs : List V} (h : if b = true then RepTs g H w ds vs else Reps g H w ds vs) : ds.length = vs.length := by
  cases b with
  | true => exact RepTs.length (by simpa using h)
  | false => exact Reps.length (by simpa using h)
theorem good_startM {g : G} {b : Bool} {w : Wd} {H : Hp} {S : Store} {xs : List D} {vs : List V} {N : List Str} (k : WOk g w H S) (r : if b = true then RepTs g H w xs vs else Reps g H w xs vs) : Good g ⟨w, H⟩ (L2.start N vs) H w (startM b N.length xs) S := by
  cases b with
  | true => exact good_startB k (by simpa using r)
  | false => exact good_start k (by simpa using r)
theorem fns_look {x : Str} {ps : List Str} : ∀ {ds : List Df}, (fnsOf ds).lookup x = some ps → ∃ d ∈ ds, d.name = x ∧ d.ps = ps
  | d :: ds, h => by
    unfold fnsOf at h
    rw [List.map_cons, List.lookup_cons] at h
    cases hb : x == d.name with
    | true =>
      rw [hb] at h
      cases h
      exact ⟨d, List.mem_cons_self, (by simpa using hb : x = d.name).symm, rfl⟩
    | false =>
      rw [hb] at h
      obtain ⟨e, he, q⟩ := fns_look h
      exact ⟨e, List.mem_cons_of_mem _ he, q⟩
/-- THE DEFS: each does what the evaluator tells, as deep as the room lets -/
theorem hrs_look {x : Str} {hs : List (Str × Str)} : ∀ {hds : List Hd}, (hrsOf hds).lookup x = some hs → ∃ d ∈ hds, d.name = x ∧ d.hs = hs := fun {hds} h => by
  obtain ⟨d, hd, e⟩ := List.mem_map.mp (mem_look h)
  cases e
  exact ⟨d, hd, rfl, rfl⟩
theorem fn_run (hgK : g.K = K) (hgm : g.mg = mg) (M : ModOk P K mg base g ds T free gc excs hds cn) : ∀ (k : Nat), ∀ d ∈ ds, ∀ f fd, mg d.name = some (.ref f) → FunD K d.name d.qual d.params d.body d.scope [] [] f fd → ∀ b, FnR P w K mg base (3 * k + 3) f fd d.ps (spM g b d.ps.length (callM T wf k b d.name))
  | 0, d, _, f, fd, _, _ => fun b => ⟨fun vs H Q E h => h.1, fun A outer s H args us vs Q E hr hg e0 hb rv ⟨_, _, _, _, _, _, h⟩ => h.elim⟩
  | k + 1, d, hd, f, fd, hmd, F => fun b => by
    have ih := fn_run hgK hgm M k
    have ok := M.ok d hd
    unfold Df.ok at ok
    simp only [Bool.and_eq_true, decide_eq_true_eq] at ok
    obtain ⟨⟨⟨⟨⟨⟨o1, o2⟩, o3⟩, o4⟩, o5⟩, o6⟩, o7⟩ := ok
    have S := scopeB_ok o1
    refine ⟨fun vs H Q E h => h.1, fun A outer s H args us vs Q E hr hg e0 hb rv hsp => ?_⟩
    obtain ⟨oc, od, dV, kV, doc, pm, an, cdv, ct, osl, rfl, lk, hcd, _, _⟩ := F.ex
    obtain ⟨hl, w0, S0, xs, wok, rx, P0⟩ := hsp
    have KX : K.In s.heap := e0.mod.kin.keeps fun b o e => (e0.bs b o e).1
    have nol : s.heap.NoLimit := e0.mod.nolimit.keeps fun b o e => (e0.bs b o e).1
    have kinds : ∀ y ∈ d.ps.zip us, d.scope.names.lookup y.1 = some .local ∨ (d.scope.names.lookup y.1 = some .cell ∧ ((cellsFrom (s.heap.objs.size + 1) d.scope.names []).lookup y.1).isSome = true) := fun y hy => by
      rcases S.par y.1 (List.of_mem_zip (a := y.1) (b := y.2) hy).1 with q | q
      · exact .inl q
      · exact .inr ⟨q, PySem.W.cellsFrom_some _ _ _ (.inl q)⟩
    refine codeAny_call_function hr.depth (KX _ _ lk) rfl S.co S.gen rfl (PySem.W.codeRec_of KX hcd) (hb _ _ _ _ ?_)
    refine wpAny_newFunctionEnv_cells S.kind kinds fun env he s1 x => ?_
    subst he
    refine ⟨nol.keeps x.toInCall.keep, codeAny_func ?_⟩
    have I : L2.Inv (cxOf (L2.CX P w) P w K mg base d.N d.qual d.scope f cdv A outer s H E) [] (L2.start d.N vs) H s1 := inv_start S hr.hd e0 hl rv x
    -- the place
    let C : Ev := ⟨callM T wf k false, callM T wf k true, wf⟩
    have hr1 : Room (3 * k + 5) (A.deeper (envOfC d.qual d.scope s.heap.objs.size f cdv)) := hr.deeper (k := 3 * k + 5) _
    have hr2 : Room (3 * k + 3) (A.deeper (envOfC d.qual d.scope s.heap.objs.size f cdv)) := hr1.mono (by omega)
    have xok : XOk g C (d.sc (fnsOf ds) free gc excs (hrsOf hds) cn) (cxOf (L2.CX P w) P w K mg base d.N d.qual d.scope f cdv A outer s H E) (fun cls dd _ H' => E cls dd H') :=
      { K := hgK.symm
        mg := hgm.symm
        N := rfl
        sc := rfl
        kind := S.kind
        nd := S.nd
        calm := rfl
        gd := hg
        un := by have := hr2.un; show (A.deeper _).units + 200 < cLine; omega
        st := fun y h => by
          unfold stB at h
          simp only [Bool.or_eq_true, decide_eq_true_eq] at h
          exact ⟨h, .inl rfl⟩
        pass := passes_of rfl
        tk := takes_of rfl rfl rfl rfl
        free := M.free
        gcd := M.gcd
        fns := fun f' ps' h => by
          obtain ⟨d', hd', rfl, rfl⟩ := fns_look h
          obtain ⟨fa, fd', hm, F'⟩ := M.fd d' hd'
          refine ⟨fa, fd', 3 * k + 3, hm, F'.kp, hr2, fun _ => hr1, ih d' hd' fa fd' hm F' false, ih d' hd' fa fd' hm F' true, fun s us ws ks hb hw => ?_⟩
          obtain ⟨oc', od', dV', kV', doc', pm', an', cdv', ct', osl', rfl, _, _, hD', _⟩ := F'.ex
          have ok' := M.ok d' hd'
          unfold Df.ok at ok'
          simp only [Bool.and_eq_true, decide_eq_true_eq] at ok'
          have e : dV' = .none := by
            rcases hD' with ⟨_, e⟩ | ⟨e, _⟩
            · exact e
            · exact absurd rfl e
          subst e
          exact .of_eq (bind_all ok'.1.1.1.1.1.2 ok'.1.1.1.1.2 hb hw)
        ex := M.ex
        fld := fun c f h => M.fld c f h
        top := M.top
        rm := hr1.mono (by omega)
        hear := fun f' hs h => by
          obtain ⟨d', hd', rfl, rfl⟩ := hrs_look h
          obtain ⟨ok', fa, fd', hm, F'⟩ := M.hd d' hd'
          exact ⟨d', fa, fd', rfl, ok', hm, F'⟩
        ci := M.ci
        cs := M.cs
        ct := M.ct
        stk := fun _ => ⟨rfl, rfl⟩
        lamOk := fun h => by
          obtain ⟨c, Q', ec, TB, hm, hu⟩ := M.lam d hd h _ _ hmd F
          exact ⟨c, Q', TB, ec, hm, hu, hr1.mono (by omega)⟩ }
    have T0 : callM T wf (k + 1) b d.name xs S0 = if xs.length = d.F.np then (exec C d.F.body (startM b d.F.nn xs) S0).bind ofFl else .st := by
      show (match T d.name with | some F => if xs.length = F.np then (exec ⟨callM T wf k false, callM T wf k true, wf⟩ F.body (startM b F.nn xs) S0).bind ofFl else .st | none => .st) = _
      rw [M.tab d hd]
    have hlen : xs.length = d.F.np := by rw [o5, ← hl, spM_len rx]
    rw [T0, if_pos hlen, o6] at P0
    have hq : tS g ⟨w0, H⟩ (fun cls dd _ H' => E cls dd H') C d.F.body { nx := fun _ H' => Q .non H', rt := Q } (L2.start d.N vs) H := by
      refine ⟨w0, startM b d.N.length xs, S0, good_startM wok rx, P0.bind.imp (fun fl S1 q => ?_) fun c p S1 q w' H' σ' env' cc dd G pe a xc => q w' H' cc dd G.wok G.ext xc⟩
      cases fl with
      | nx e => exact fun w' H' σ' G pe a => q w' H' .non G.wok G.ext .non
      | rt v => exact q
      | bk e => exact q.elim
      | ct e => exact q.elim
    refine wpAny_mono (((snds d.F.body).bl xok d.body o4).run [] s1 (L2.start d.N vs) H _ I hq) (fun fl s' hs => ?_) fun e s' hs => hs
    have fin : ∀ {σ' : L2.St} {H' : Hp} {v : V} {u : Value}, L2.Inv (cxOf (L2.CX P w) P w K mg base d.N d.qual d.scope f cdv A outer s H E) [] σ' H' s' → RelV v u → Q v H' → CE outer P w H s Q u s' :=
      fun {σ' H' v u} J rv q => ⟨v, H', J.os, J.bare, J.base, J.hok, rv, q⟩
    cases fl with
    | ret u =>
      obtain ⟨v, σ', H', J, rv, q⟩ := hs
      exact fin J rv q
    | next =>
      obtain ⟨σ', H', J, q⟩ := hs
      exact fin (v := V.non) (u := Value.none) J rfl q
    | brk =>
      obtain ⟨_, _, _, q⟩ := hs
      exact q.elim
    | cont =>
      obtain ⟨_, _, _, q⟩ := hs
      exact q.elim
end
end Fx

set_option maxHeartbeats 4000000
/-! Fx9c: from the defs to the law. -/
namespace Fx
open PySem PySem.Spec PyProof.Rows L2

/-- no list stands in the written part -/
def noL (K : PySem.W.Frag) : Bool := K.all fun p => match p.2.cls with
  | .type n => !(n == "list")
  | _ => true
theorem noL_ok {K : PySem.W.Frag} (h : noL K = true) {a : Addr} {o : Obj} (e : K.lookup a = some o) : o.cls ≠ .type "list" := fun q => by
  have hm : (a, o) ∈ K := mem_of e
  have z := List.all_eq_true.mp h _ hm
  rw [show (a, o).2.cls = .type "list" from q] at z
  cases z
where mem_of {a : Addr} {o : Obj} : ∀ {K : PySem.W.Frag}, K.lookup a = some o → (a, o) ∈ K
  | p :: r, h => by
    obtain ⟨b, u⟩ := p
    rw [List.lookup_cons] at h
    cases hb : a == b with
    | true =>
      rw [hb] at h
      cases h
      rw [show a = b by simpa using hb]
      exact List.mem_cons_self
    | false =>
      rw [hb] at h
      exact List.mem_cons_of_mem _ (mem_of h)
/-! ### what is seen of the module: K0 with the tables of code objects, K without -/
def isTab (o : Obj) : Bool := match o.cls with
  | .none => (match o.data with
    | .fields _ => true
    | _ => false)
  | _ => false
def noTab (K : PySem.W.Frag) : PySem.W.Frag := K.filter fun p => !isTab p.2
def AllIn (K : PySem.W.Frag) (h : Heap) : Prop := ∀ p ∈ K, h.get? p.1 = some p.2
theorem memA {a : Addr} {o : Obj} : ∀ {K : PySem.W.Frag}, K.lookup a = some o → (a, o) ∈ K := fun {K} h => noL_ok.mem_of h
theorem AllIn.is {K : PySem.W.Frag} {h : Heap} (x : AllIn K h) : K.In h := fun a o e => x (a, o) (memA e)
theorem AllIn.no {K : PySem.W.Frag} {h : Heap} (x : AllIn K h) : (noTab K).In h := AllIn.is fun p hp => x p (List.mem_filter.mp hp).1
theorem noTab_tab {K : PySem.W.Frag} {a : Addr} {o : Obj} (e : (noTab K).lookup a = some o) : isTab o = false := by
  have z := (List.mem_filter.mp (memA (K := noTab K) e)).2
  simpa using z
/-- the cells that functions have -/
def cellsG (g : Addr → Option Obj) (as : List Addr) : List Addr := as.flatMap fun a => match g a with
  | some ⟨_, _, .func fd, _⟩ => fd.closure.map (·.2)
  | _ => []
def seenG (g : Addr → Option Obj) (n : Nat) : PySem.W.Frag := He.frG g (cStatics :: (He.asD g n ++ cellsG g (He.asD g n)))
theorem frG_all {h : Heap} {as : List Addr} : AllIn (He.frG h.get? as) h := fun p hp => by
  obtain ⟨a, _, e⟩ := List.mem_filterMap.mp hp
  cases hg : h.get? a with
  | none => rw [hg] at e; cases e
  | some o => rw [hg] at e; cases e; exact hg
/-- the head's facts, and one's own word -/
def hookX (n : Nat) (fa : List He.Fa) (fn : List He.DefD) (ex : PySem.W.Frag → Bool) : PySem.W.Hook where
  α := Bool × He.AlD
  obs := fun s => (ex (seenG s.heap.get? n), He.obsD fa fn (noTab (seenG s.heap.get? n)))
  val := fun _ => (true, He.valD fn)
  says := fun _ h => ∃ K0 : PySem.W.Frag, AllIn K0 h ∧ He.SaysD fa fn (noTab K0) ∧ ex K0 = true
  of := fun _ _ e => ⟨_, frG_all, congrArg (fun z : Bool × He.AlD => z.2) e, congrArg (fun z : Bool × He.AlD => z.1) e⟩
  keeps := fun _ _ _ ⟨K, hK, c, z⟩ k => ⟨K, fun p hp => k _ _ (hK p hp), c, z⟩
def obX (n : Nat) (fa : List He.Fa) (fn : List He.DefD) (ex : PySem.W.Frag → Bool) (s : PySem.W.SharedT) : Bool × He.AlD :=
  (ex (seenG (HandSHeadRun.getT s) n), He.obsD fa fn (noTab (seenG (HandSHeadRun.getT s) n)))
theorem obX_eq {n : Nat} {fa : List He.Fa} {fn : List He.DefD} {ex : PySem.W.Frag → Bool} (s : PySem.W.SharedT) : obX n fa fn ex s = (hookX n fa fn ex).obs s.abs := by
  have e : HandSHeadRun.getT s = s.abs.heap.get? := funext (HandSHeadRun.getT_eq s)
  unfold obX
  rw [e] <;> rfl
/-- a def's code object and its table -/
def tabAd (K : PySem.W.Frag) (x : Str) : Addr × Addr := match K.lookup (He.ga K x) with
  | some ⟨_, _, .func fd, _⟩ => (match fd.code with
    | .ref c => (match K.lookup c with
      | some ⟨_, _, .fields vs, _⟩ => (match (vs[11]? : Option Value) with
        | some (.ref P) => (c, P)
        | _ => (0, 0))
      | _ => (0, 0))
    | _ => (0, 0))
  | _ => (0, 0)
def tabB (K : PySem.W.Frag) (x : Str) : Bool := (match K.lookup (He.ga K x) with
  | some ⟨_, _, .func fd, _⟩ => decide (fd.code = .ref (tabAd K x).1)
  | _ => false) && (match K.lookup (tabAd K x).1 with
  | some ⟨.type ty, _, .fields vs, _⟩ => ty == "code" && decide ((vs[11]? : Option Value) = some (.ref (tabAd K x).2)) && decide (vs.getD 11 .none = .ref (tabAd K x).2) && (match vs.getD 18 .none with
      | .str _ _ => true
      | _ => false) && (match vs.getD 7 .none with
      | .int _ _ => true
      | _ => false) && (match vs.getD 9 .none with
      | .bool _ => true
      | _ => false) && (match vs.getD 10 .none with
      | .int _ _ => true
      | _ => false)
  | _ => false) && decide ((tabAd K x).1 ≠ (tabAd K x).2) && (match K.lookup (tabAd K x).2 with
  | some ⟨.none, none, .fields vs, sl⟩ => vs.isEmpty && sl.isEmpty
  | _ => false)
theorem tabB_ok {K : PySem.W.Frag} {x : Str} {h : Heap} (X : K.In h) (hB : tabB K x = true) : PySem.W.CodeHd h (tabAd K x).1 (tabAd K x).2 ∧ K.lookup (tabAd K x).2 = some (PySem.W.tabObj #[]) ∧ ∃ oc od fd osl, K.lookup (He.ga K x) = some ⟨oc, od, .func fd, osl⟩ ∧ fd.code = .ref (tabAd K x).1 := by
  unfold tabB at hB
  simp only [Bool.and_eq_true] at hB
  obtain ⟨⟨⟨h1, h2⟩, h3⟩, h4⟩ := hB
  refine ⟨?_, ?_, ?_⟩
  · split at h2
    · rename_i ty od vs sl lk
      simp only [Bool.and_eq_true, decide_eq_true_eq, beq_iff_eq] at h2
      obtain ⟨⟨⟨⟨⟨⟨rfl, q2⟩, q3⟩, q4⟩, q5⟩, q6⟩, q7⟩ := h2
      split at q4
      · rename_i fl tf e4
        split at q5
        · rename_i fi tg e5
          split at q6
          · rename_i b e6
            split at q7
            · rename_i ti tt e7
              exact ⟨_, vs, fl, tf, fi, tg, b, ti, tt, X _ _ lk, rfl, rfl, q2, q3, e4, e5, e6, e7, of_decide_eq_true h3⟩
            · cases q7
          · cases q6
        · cases q5
      · cases q4
    · cases h2
  · split at h4
    · rename_i vs sl lk
      simp only [Bool.and_eq_true, Array.isEmpty_iff] at h4
      obtain ⟨rfl, rfl⟩ := h4
      rw [lk] <;> rfl
    · cases h4
  · split at h1
    · rename_i oc od fd osl lk
      exact ⟨oc, od, fd, osl, lk, of_decide_eq_true h1⟩
    · cases h1

theorem ints_reps {g : G} {H : Hp} {w : Wd} (ns : List Int) : Reps g H w (ns.map D.int) (ns.map V.int) := Reps.ints
/-- THE LAW'S CALL: where the evaluator tells True at every script, the def does; cs: the code objects that grow, their tables -/
theorem law_run {P : Program} {w : World} {K : PySem.W.Frag} {mg mb : Str → Option Value} {k : Nat} {fa a : Addr} {cs : List (Addr × Addr)} {fd : FuncData} {g : G} {x : Str} {cf : List D → Store → Res D} {t₁ : Shared} {us : List Value} {ns : List Int}
    (hgT : ∀ p ∈ g.T, p.1 ∈ cs.map (·.2)) (KI : K.In t₁.heap) (nl : noL K = true) (hgl : t₁.heap.Ns mainGlobals mg) (hbl : t₁.heap.Ns builtinsNs mb) (hbo : ∀ y : Str, y ≠ "__name__" → mb y = bootBuiltins y) (hlm : t₁.heap.NoLimit) (hgn : t₁.gens = #[])
    (hT : ∀ p ∈ cs, t₁.heap.get? p.2 = some (PySem.W.tabObj #[])) (nT : ∀ p ∈ cs, K.lookup p.2 = none) (hC : ∀ p ∈ cs, PySem.W.CodeHd t₁.heap p.1 p.2)
    (hbm : ∃ (bm : Addr) (ob : Obj), mg "__builtins__" = some (.ref bm) ∧ bm ≠ builtinsNs ∧ t₁.heap.get? bm = some ob ∧ ob.cls = .type "module" ∧ ob.dict = some builtinsNs ∧ ob.data = .plain)
    (hobj : t₁.heap.get? a = some { cls := .type "list", data := .seq us.toArray }) (hin : IntsAre us ns) (hln : ns.length ≤ sizeLine) (hrm : Room k callerA)
    (F : ∀ base : Heap, K.In base → base.Ns mainGlobals mg → (∀ p ∈ cs, LamX.TabB base mg p.1 p.2) → FnR P w K mg base k fa fd [x] (spF g 1 cf)) (hbd : ∀ (s : Shared) (u : Value), BindsTo s fd ⟨[u], []⟩ [(x, u)])
    (hR : ∃ S', cf [.lst (ns.map D.int)] [] = .ok (.bl true) S') :
    codeAny (model P w) callerA (.call (.ref fa) ⟨[.ref a], []⟩) (fun r s' => r = .ok (.ret (.bool true)) ∧ OldK t₁.heap s'.heap ∧ s'.os = t₁.os ∧ AllBare s'.gens) t₁ := by
  have rvs := vals_ints hin
  have hka : K.lookup a = none := by
    cases q : K.lookup a with
    | none => rfl
    | some o =>
      have e := KI a o q
      rw [hobj] at e
      exact absurd (by rw [← Option.some.inj e]) (noL_ok nl q)
  let O : Obj := { cls := .type "list", data := .seq us.toArray }
  have tabAt : ∀ b, b ∈ cs.map (·.2) → t₁.heap.get? b = some (PySem.W.tabObj #[]) := fun b hb => by
    obtain ⟨p, hp, rfl⟩ := List.mem_map.mp hb
    exact hT p hp
  have aT : a ∉ cs.map (·.2) := fun z => by
    have q := tabAt a z
    rw [hobj] at q
    cases q
  -- what is tracked: the script, the tables
  let H : Hp := fun b => if b = a then some (.frz O (.lst (ns.map V.int))) else if b ∈ cs.map (·.2) then some (.tbl #[]) else none
  have Ha : H a = some (.frz O (.lst (ns.map V.int))) := if_pos rfl
  have Ht : ∀ b, b ∈ cs.map (·.2) → H b = some (.tbl #[]) := fun b hb => by
    have n : b ≠ a := fun z => aT (by rw [← z]; exact hb)
    exact (if_neg n).trans (if_pos hb)
  have Hn : ∀ b, b ≠ a → b ∉ cs.map (·.2) → H b = none := fun b h1 h2 => (if_neg h1).trans (if_neg h2)
  have only : ∀ b u, H b = some u → (b = a ∧ u = .frz O (.lst (ns.map V.int))) ∨ (b ∈ cs.map (·.2) ∧ u = .tbl #[]) := fun b u h => by
    by_cases e : b = a
    · subst e
      rw [Ha] at h
      exact .inl ⟨rfl, (Option.some.inj h).symm⟩
    · by_cases e2 : b ∈ cs.map (·.2)
      · rw [Ht b e2] at h
        exact .inr ⟨e2, (Option.some.inj h).symm⟩
      · rw [Hn b e e2] at h; cases h
  have hok : HOk P w H t₁.heap := fun b u h => by
    rcases only b u h with ⟨rfl, rfl⟩ | ⟨h1, rfl⟩
    · exact ⟨hobj, by rw [List.length_map]; exact hln, us, _, rvs, hobj⟩
    · exact tabAt b h1
  have inB : ∀ {b : Addr} {o : Obj}, t₁.heap.get? b = some o → b ≠ a → b ∉ cs.map (·.2) → (hidT t₁.heap H).get? b = some o := fun e n m => hidT_get e (Hn _ n m)
  have un_ : ∀ {b : Addr} {o : Obj}, t₁.heap.get? b = some o → (∀ vs n, o.data ≠ .seq vs n) → o.data ≠ .fields #[] → b ≠ a ∧ b ∉ cs.map (·.2) := fun {b o} e h1 h2 => ⟨fun z => by
    rw [z, hobj] at e
    cases e
    exact h1 _ _ rfl, fun z => by
    rw [tabAt b z] at e
    cases e
    exact h2 rfl⟩
  have dct_ : ∀ {b : Addr} {o : Obj} {es : Array DictEntry} {ep : Nat}, t₁.heap.get? b = some o → o.data = .dict es ep → b ≠ a ∧ b ∉ cs.map (·.2) := fun {b o es ep} e d => un_ e (fun vs n z => by rw [d] at z; cases z) fun z => by rw [d] at z; cases z
  have nsB : ∀ {b : Addr} {m : Str → Option Value}, t₁.heap.Ns b m → (hidT t₁.heap H).Ns b m := fun {b m} ⟨o, es, ep, e, d, r⟩ => ⟨o, es, ep, inB e (dct_ e d).1 (dct_ e d).2, d, r⟩
  have KB : K.In (hidT t₁.heap H) := fun b o e => inB (KI b o e) (fun z => by
    rw [z, hka] at e; cases e) fun z => by
    obtain ⟨p, hp, rfl⟩ := List.mem_map.mp z
    rw [nT p hp] at e
    cases e
  have md : Mod K mg (hidT t₁.heap H) := by
    obtain ⟨mc, q1, q2⟩ := hlm
    exact ⟨KB, nsB hgl, ⟨mb, nsB hbl, hbo⟩, ⟨mc, nsB q1, q2⟩⟩
  have TB : ∀ p ∈ cs, LamX.TabB (hidT t₁.heap H) mg p.1 p.2 := fun p hp => by
    refine ⟨?_, ?_, fun z => ?_⟩
    · obtain ⟨o, vs, file, tf, flags, tg, inF, text, tt, e1, r1, r2, r3, r⟩ := hC p hp
      have u := un_ e1 (fun vs n z => by rw [r2] at z; cases z) fun z => by
        rw [r2] at z
        cases z
        simp at r3
      exact ⟨o, vs, file, tf, flags, tg, inF, text, tt, inB e1 u.1 u.2, r1, r2, r3, r⟩
    · obtain ⟨bm, ob, b1, b2, b3, b4, b5, b6⟩ := hbm
      have u := un_ b3 (fun vs n z => by rw [b6] at z; cases z) fun z => by rw [b6] at z; cases z
      refine ⟨bm, ob, b1, b2, fun q => ?_, fun q => u.2 (by rw [q]; exact List.mem_map.mpr ⟨p, hp, rfl⟩), inB b3 u.1 u.2, b4, b5, b6⟩
      obtain ⟨o, es, ep, e, hd, _⟩ := hgl
      rw [q, e] at b3
      cases b3
      rw [hd] at b6
      cases b6
    · obtain ⟨o, es, ep, e, hd, _⟩ := hgl
      rw [z, hT p hp] at e
      cases e
      cases hd
  have e0 : Env0 P w K mg (hidT t₁.heap H) callerA [] t₁ H :=
    { frames := rfl, mod := md, bs := fun b o e => of_hidT e, bsz := Nat.le_of_eq (hidT_size _ _), funs := trivial, frf := fun b hb => absurd (show b ∈ ([] : List Addr) from hb) (by simp), hok := hok, bare := .of_eq hgn }
  have tabs : LamX.Tabs g.T H := fun p hp => .nil (Ht _ (hgT p hp))
  have wok : WOk g ⟨[], fun _ => False⟩ H [] := ⟨rfl, .nil, fun n b c e => by simp at e, fun b z => z.elim, tabs⟩
  have rep : Rep g H ⟨[], fun _ => False⟩ (.lst (ns.map D.int)) (.ref a) := .lst (.inr ⟨O, Ha⟩) (ints_reps ns)
  have sp : spF g 1 cf [.ref a] H (fun v _ => v = .bl true) (fun _ _ _ => False) := by
    refine ⟨rfl, ⟨[], fun _ => False⟩, [], [.lst (ns.map D.int)], wok, .cons rep .nil, ?_⟩
    obtain ⟨S', e⟩ := hR
    rw [e]
    exact fun w' H' v _ _ r => r.bl_
  refine codeAny_mono ((F _ KB (nsB hgl) TB).run callerA [] t₁ H ⟨[.ref a], []⟩ [.ref a] [.ref a] _ _ hrm rfl e0 (hbd t₁ (.ref a)) (.cons rfl .nil) sp) fun r s' h => ?_
  cases r with
  | error e =>
    obtain ⟨_, _, _, _, _, _, _, _, _, _, _, _, z⟩ := h
    exact z.elim
  | ok fl =>
    cases fl with
    | next => exact h.elim
    | brk => exact h.elim
    | cont => exact h.elim
    | ret u =>
      obtain ⟨v, H', os, bare, un, hok', r', q⟩ := h
      have q : v = .bl true := q
      subst q
      obtain rfl : u = Value.bool true := r'
      have stay : ∀ b o, b ∉ cs.map (·.2) → t₁.heap.get? b = some o → s'.heap.get? b = some o := fun b o nb e => by
        by_cases hb : b = a
        · subst hb
          have z2 := un.frzs b O _ Ha
          obtain ⟨e2, _⟩ := hok' b _ z2
          rw [hobj] at e; cases e
          exact e2
        · exact un.keep b o e (Hn b hb nb) (fun z => absurd (show b ∈ ([] : List Addr) from z) (by simp)) (by simp)
      have grow : ∀ p ∈ cs, ∃ more : Array Value, s'.heap.get? p.2 = some { cls := .none, data := .fields more } := fun p hp => by
        obtain ⟨more, z⟩ := un.tbls p.2 #[] (Ht _ (List.mem_map.mpr ⟨p, hp, rfl⟩))
        exact ⟨_, hok' p.2 _ z⟩
      refine ⟨rfl, ⟨fun b o e => ?_, fun b o e => ?_⟩, os, bare⟩
      · by_cases hb : b ∈ cs.map (·.2)
        · obtain ⟨p, hp, rfl⟩ := List.mem_map.mp hb
          obtain ⟨more, hm⟩ := grow p hp
          rw [hT p hp] at e
          cases e
          exact .inr (.inl ⟨((hC p hp).tab (hT p hp)).isCodeTable, rfl, #[], more, rfl, by rw [Array.empty_append]; exact hm⟩)
        · exact .inl (stay b o hb e)
      · by_cases hb : b ∈ cs.map (·.2)
        · obtain ⟨p, hp, rfl⟩ := List.mem_map.mp hb
          obtain ⟨more, hm⟩ := grow p hp
          exact ⟨_, hm⟩
        · exact ⟨o, stay b o hb e⟩

/-! ### the module's facts -/
def Df.dd (d : Df) : He.DefD := ⟨(d.name, none), d.name, d.qual, d.params, d.body, d.scope, [], []⟩
def Hd.dd (d : Hd) : He.DefD := ⟨(d.name, none), d.name, d.qual, d.params, d.body, d.scope, [], []⟩
def factsOf (ds : List Df) (hds : List Hd) (free : List Str) : List He.Fa := (ds.map fun d => He.Fa.glo d.name) ++ ((hds.map fun d => He.Fa.glo d.name) ++ free.map He.Fa.free)
def ddsOf (ds : List Df) (hds : List Hd) : List He.DefD := ds.map Df.dd ++ hds.map Hd.dd
def tabOf (ds : List Df) : Tab := fun x => (ds.find? fun d => decide (d.name = x)).map (·.F)
def okAll (ds : List Df) (free : List Str) (gc : Bool) (excs : List (Str × Str)) (hds : List Hd) (cn : Cn) : Bool := (ds.all fun d => d.ok (fnsOf ds) free gc excs (hrsOf hds) cn) && hds.all fun d => d.ok excs
def lamsOf (ds : List Df) : List Df := ds.filter (·.lam)
/-- the module's constants as they lie -/
def strV : List Str → List Value → Bool
  | [], [] => true
  | x :: xs, .str y _ :: vs => decide (x = y) && strV xs vs
  | _, _ => false
theorem strV_ok : ∀ {xs : List Str} {vs : List Value}, strV xs vs = true → Vals (xs.map V.str) vs
  | [], [], _ => .nil
  | [], _ :: _, h => by cases h
  | x :: xs, [], h => by cases h
  | x :: xs, v :: vs, h => by
    cases v with
    | str y t =>
      unfold strV at h
      rw [Bool.and_eq_true, decide_eq_true_eq] at h
      obtain ⟨rfl, h⟩ := h
      exact .cons ⟨_, rfl⟩ (strV_ok h)
    | _ => cases h
def ciB (K : PySem.W.Frag) (p : Str × Int) : Bool := match PySem.W.nsIn K mainGlobals p.1 with
  | some (some (.int z _)) => decide (z = p.2)
  | _ => false
def csB (K : PySem.W.Frag) (p : Str × Str) : Bool := match PySem.W.nsIn K mainGlobals p.1 with
  | some (some (.str z _)) => decide (z = p.2)
  | _ => false
def ctB (K : PySem.W.Frag) (p : Str × List Str) : Bool := match PySem.W.nsIn K mainGlobals p.1 with
  | some (some (.ref a)) => (match K.lookup a with
    | some ⟨.type n, _, .seq its _, _⟩ => n == "tuple" && decide (its.size ≤ 1000) && strV p.2 its.toList
    | _ => false)
  | _ => false
def cnB (K : PySem.W.Frag) (cn : Cn) : Bool := cn.ci.all (ciB K) && cn.cs.all (csB K) && cn.ct.all (ctB K)
section
variable {K : PySem.W.Frag} {h : Heap} {mg : Str → Option Value} {cn : Cn}
theorem ci_ok (KX : K.In h) (N : h.Ns mainGlobals mg) (hB : cnB K cn = true) (y : Str) (z : Int) (hl : cn.ci.lookup y = some z) : ∃ t, mg y = some (.int z t) := by
  unfold cnB at hB
  simp only [Bool.and_eq_true] at hB
  have q := List.all_eq_true.mp hB.1.1 _ (mem_look hl)
  unfold ciB at q
  split at q
  · rename_i z' t e
    simp only [decide_eq_true_eq] at q
    subst q
    exact ⟨t, PySem.W.mg_of KX N e⟩
  · cases q
theorem cs_ok (KX : K.In h) (N : h.Ns mainGlobals mg) (hB : cnB K cn = true) (y : Str) (z : Str) (hl : cn.cs.lookup y = some z) : ∃ t, mg y = some (.str z t) := by
  unfold cnB at hB
  simp only [Bool.and_eq_true] at hB
  have q := List.all_eq_true.mp hB.1.2 _ (mem_look hl)
  unfold csB at q
  split at q
  · rename_i z' t e
    simp only [decide_eq_true_eq] at q
    subst q
    exact ⟨t, PySem.W.mg_of KX N e⟩
  · cases q
theorem ct_ok (KX : K.In h) (N : h.Ns mainGlobals mg) (hB : cnB K cn = true) (y : Str) (xs : List Str) (hl : cn.ct.lookup y = some xs) :
    ∃ (a : Addr) (o : Obj) (its : Array Value) (n : Nat), mg y = some (.ref a) ∧ K.lookup a = some o ∧ o.cls = .type "tuple" ∧ o.data = .seq its n ∧ its.size ≤ sizeLine ∧ Vals (xs.map V.str) its.toList := by
  unfold cnB at hB
  simp only [Bool.and_eq_true] at hB
  have q := List.all_eq_true.mp hB.2 _ (mem_look hl)
  unfold ctB at q
  split at q
  · rename_i a e
    split at q
    · rename_i n od its cap sl lk
      simp only [Bool.and_eq_true, decide_eq_true_eq, beq_iff_eq] at q
      obtain ⟨⟨rfl, q2⟩, q3⟩ := q
      exact ⟨a, _, its, cap, PySem.W.mg_of KX N e, lk, rfl, rfl, by rw [sizeLine_eq]; omega, strV_ok q3⟩
    · cases q
  · cases q
end
/-- one's own word of the head -/
def word (gc : Bool) (file : Str) (excs : List (Str × Str)) (lams : List Str) (cn : Cn) (K0 : PySem.W.Frag) : Bool :=
  noL (noTab K0) && (!gc || He.eqO (PySem.W.nsIn (noTab K0) mainGlobals "gcd") (some (some (.builtin "math.gcd")))) && exB file (noTab K0) excs &&
  (lams.all fun x => He.eqO (PySem.W.nsIn K0 mainGlobals x) (some (some (.ref (He.ga K0 x)))) && tabB K0 x) && (lams.all fun x => lams.all fun y => !decide ((tabAd K0 x).2 = (tabAd K0 y).2) || decide (x = y)) && cnB (noTab K0) cn
theorem tab_of {ds : List Df} (nd : (ds.map (·.name)).Nodup) {d : Df} (hd : d ∈ ds) : tabOf ds d.name = some d.F := by
  unfold tabOf
  induction ds with
  | nil => cases hd
  | cons e ds ih =>
    rw [List.map_cons, List.nodup_cons] at nd
    rw [List.find?_cons]
    rcases List.mem_cons.mp hd with rfl | hd
    · simp
    · have ne : e.name ≠ d.name := fun q => nd.1 (by rw [q]; exact List.mem_map.mpr ⟨d, hd, rfl⟩)
      have e2 : decide (e.name = d.name) = false := by simpa using ne
      rw [e2]
      exact ih nd.2 hd
theorem df_inj {ds : List Df} (nd : (ds.map (·.name)).Nodup) {d e : Df} (hd : d ∈ ds) (he : e ∈ ds) (h : d.name = e.name) : d = e := by
  induction ds with
  | nil => cases hd
  | cons a ds ih =>
    rw [List.map_cons, List.nodup_cons] at nd
    rcases List.mem_cons.mp hd with q1 | q1
    · rcases List.mem_cons.mp he with q2 | q2
      · rw [q1, q2]
      · exact absurd (by rw [← q1, h]; exact List.mem_map.mpr ⟨e, q2, rfl⟩) nd.1
    · rcases List.mem_cons.mp he with q2 | q2
      · exact absurd (by rw [← q2, ← h]; exact List.mem_map.mpr ⟨d, q1, rfl⟩) nd.1
      · exact ih nd.2 q1 q2
section
variable {P : Program} {K0 : PySem.W.Frag} {h : Heap} {mg : Str → Option Value} {ds : List Df} {hds : List Hd} {free : List Str} {gc : Bool} {excs : List (Str × Str)} {cn : Cn}
def gOf (K0 : PySem.W.Frag) (mg : Str → Option Value) (ds : List Df) (excs : List (Str × Str)) : G := ⟨noTab K0, mg, fun c => excs.lookup c, (lamsOf ds).map fun d => ((tabAd K0 d.name).2, lamq d.qual)⟩
def csOf (K0 : PySem.W.Frag) (ds : List Df) : List (Addr × Addr) := (lamsOf ds).map fun d => tabAd K0 d.name
theorem mod_of (K0X : AllIn K0 h) (N : h.Ns mainGlobals mg) (c : He.SaysD (factsOf ds hds free) (ddsOf ds hds) (noTab K0)) (hw : word gc P.main.file excs ((lamsOf ds).map (·.name)) cn K0 = true) (ok : okAll ds free gc excs hds cn = true) (nd : (ds.map (·.name)).Nodup) (top : excs ≠ [] → (P.main.scope.names.lookup ("super" : Str)).isSome = false)
    {base : Heap} (TB : ∀ p ∈ csOf K0 ds, LamX.TabB base mg p.1 p.2) : ModOk P (noTab K0) mg base (gOf K0 mg ds excs) ds (tabOf ds) free gc excs hds cn := by
  unfold okAll at ok
  rw [Bool.and_eq_true] at ok
  unfold word at hw
  simp only [Bool.and_eq_true] at hw
  obtain ⟨⟨⟨⟨⟨w1, w2⟩, w3⟩, w4⟩, w5⟩, w6⟩ := hw
  have KX : (noTab K0).In h := K0X.no
  exact {
    fd := fun d hd => by
      obtain ⟨i, hi, e⟩ := List.getElem_of_mem hd
      have e1 : ds[i]? = some d := by rw [List.getElem?_eq_getElem hi, e]
      have f1 : (factsOf ds hds free)[i]? = some (.glo d.name) := by
        unfold factsOf
        rw [List.getElem?_append_left (by simpa using hi), List.getElem?_map, e1]
        rfl
      obtain ⟨fd, F⟩ := c.def_ i (d := d.dd) (by unfold ddsOf; rw [List.getElem?_append_left (by simpa using hi), List.getElem?_map, e1]; rfl)
      exact ⟨_, fd, He.glo_ok KX N (c.fact i f1), F⟩
    tab := fun d hd => tab_of nd hd
    ok := fun d hd => List.all_eq_true.mp ok.1 d hd
    free := fun x hx => by
      have hm : x ∈ free := by simpa using hx
      obtain ⟨i, hi, e⟩ := List.getElem_of_mem hm
      have f1 : (factsOf ds hds free)[ds.length + (hds.length + i)]? = some (.free x) := by
        unfold factsOf
        rw [List.getElem?_append_right (by simp), List.length_map, Nat.add_sub_cancel_left, List.getElem?_append_right (by simp), List.length_map, Nat.add_sub_cancel_left, List.getElem?_map, List.getElem?_eq_getElem hi, e]
        rfl
      exact He.free_ok KX N (c.fact _ f1)
    gcd := fun hg => by
      rw [hg] at w2
      simp only [Bool.not_true, Bool.false_or] at w2
      exact PySem.W.mg_of KX N (He.eqO_ok w2)
    ex := w3
    fld := fun x f hl => ⟨hl, nxB_mg KX N (exB_ok w3 hl).nx⟩
    top := top
    ci := ci_ok KX N w6
    cs := cs_ok KX N w6
    ct := ct_ok KX N w6
    hd := fun d hd => by
      refine ⟨List.all_eq_true.mp ok.2 d hd, ?_⟩
      obtain ⟨i, hi, e⟩ := List.getElem_of_mem hd
      have e1 : hds[i]? = some d := by rw [List.getElem?_eq_getElem hi, e]
      have f1 : (factsOf ds hds free)[ds.length + i]? = some (.glo d.name) := by
        unfold factsOf
        rw [List.getElem?_append_right (by simp), List.length_map, Nat.add_sub_cancel_left, List.getElem?_append_left (by simpa using hi), List.getElem?_map, e1]
        rfl
      obtain ⟨fd, F⟩ := c.def_ (ds.length + i) (d := d.dd) (by
        unfold ddsOf
        rw [List.getElem?_append_right (by simp), List.length_map, Nat.add_sub_cancel_left, List.getElem?_map, e1]
        rfl)
      exact ⟨_, fd, He.glo_ok KX N (c.fact _ f1), F⟩
    lam := fun d hd hl f fd hm F => by
      have hin : d ∈ lamsOf ds := List.mem_filter.mpr ⟨hd, hl⟩
      have q := List.all_eq_true.mp w4 d.name (List.mem_map.mpr ⟨d, hin, rfl⟩)
      rw [Bool.and_eq_true] at q
      obtain ⟨t1, t2, oc, od, fd0, osl, t3, t4⟩ := tabB_ok K0X.is q.2
      have ha := PySem.W.mg_of K0X.is N (He.eqO_ok q.1)
      rw [hm] at ha
      cases ha
      obtain ⟨_, _, _, _, _, _, _, _, _, _, rfl, lk, _⟩ := F.ex
      have z1 := KX _ _ lk
      have z2 := K0X.is _ _ t3
      rw [z1] at z2
      cases z2
      refine ⟨_, _, t4, TB _ (List.mem_map.mpr ⟨d, hin, rfl⟩), List.mem_map.mpr ⟨d, hin, rfl⟩, fun p hp e => ?_⟩
      obtain ⟨d', hd', rfl⟩ := List.mem_map.mp hp
      have q5 := List.all_eq_true.mp (List.all_eq_true.mp w5 d'.name (List.mem_map.mpr ⟨d', hd', rfl⟩)) d.name (List.mem_map.mpr ⟨d, hin, rfl⟩)
      simp only [Bool.or_eq_true, Bool.not_eq_true', decide_eq_false_iff_not, decide_eq_true_eq] at q5
      rcases q5 with q5 | q5
      · exact absurd e q5
      · rw [df_inj nd (List.mem_filter.mp hd').1 hd q5] }
end
theorem bind1 {K : PySem.W.Frag} {d : Df} {f : Addr} {fd : FuncData} {x : Str} (F : FunD K d.name d.qual d.params d.body d.scope [] [] f fd) (h1 : plainP d.params = true) (h2 : d.params.args.map (·.arg) = [x]) (s : Shared) (u : Value) : BindsTo s fd ⟨[u], []⟩ [(x, u)] := by
  obtain ⟨oc, od, dV, kV, doc, pm, an, cdv, ct, osl, rfl, _, _, hD, _⟩ := F.ex
  have e : dV = .none := by
    rcases hD with ⟨_, e⟩ | ⟨e, _⟩
    · exact e
    · exact absurd rfl e
  subst e
  refine .of_eq ((bind_all (us := [u]) (ws := []) (ks := []) h1 h2 ?_ rfl).trans ?_)
  · unfold bindB
    simp
  · rfl
/-- THE END of a law: its defs ds, the law one of them -/
theorem law_walk {l : PySem.W.OpenLaw} {n k wf m : Nat} {q : Program} {loose : List Str} {XP : (Str → Option Value) → Heap → Prop} {d : DefRec} {x : Str} {ds : List Df} {hds : List Hd} {free : List Str} {gc : Bool} {excs : List (Str × Str)} {lams : List Str} {cn : Cn} {file : Str} {dl : Df}
    (hm : l.most = some n) (hms : n ≤ sizeLine) (hdf : d.params.defaults = []) (hrm : Room (3 * k + 3) callerA) (hn : d.name = dl.name) (hl : dl ∈ ds) (hps : dl.ps = [x]) (ok : okAll ds free gc excs hds cn = true) (nd : (ds.map (·.name)).Nodup)
    (hlm : lams = (lamsOf ds).map (·.name)) (hfl : file = l.prog.main.file) (top : (l.prog.main.scope.names.lookup ("super" : Str)).isSome = false)
    (law : ∀ ns : List Int, ns.length ≤ n → (∀ z ∈ ns, Builtin.Int.intBits z ≤ 1048576) → ∃ S', callF (tabOf ds) wf k dl.name [.lst (ns.map D.int)] [] = .ok (.bl true) S') :
    PySem.W.WalkO q loose XP (hookX m (factsOf ds hds free) (ddsOf ds hds) (word gc file excs lams cn)).says l.row.toRowW d [] (fun f vs => PySem.call f vs) := by
  subst hlm hfl
  refine Att.attach_callB hm hdf fun w s₀ s₁ mg mb fa o pm cd doc a vs ns Gr Y ho hd hcd hmg hobj hints hlen hbits hgens => ?_
  obtain ⟨K0, KX, c, hw⟩ := Y
  have tabs : ∀ x ∈ (lamsOf ds).map (·.name), tabB K0 x = true := fun x hx => by
    have hw := hw
    unfold word at hw
    simp only [Bool.and_eq_true] at hw
    have q := List.all_eq_true.mp hw.1.1.2 x hx
    rw [Bool.and_eq_true] at q
    exact q.2
  have isT : ∀ p ∈ csOf K0 ds, K0.lookup p.2 = some (PySem.W.tabObj #[]) ∧ PySem.W.CodeHd s₁.heap p.1 p.2 := fun p hp => by
    obtain ⟨d', hd', rfl⟩ := List.mem_map.mp hp
    obtain ⟨t1, t2, _⟩ := tabB_ok KX.is (tabs d'.name (List.mem_map.mpr ⟨d', hd', rfl⟩))
    exact ⟨t2, t1⟩
  have noK : ∀ p ∈ csOf K0 ds, (noTab K0).lookup p.2 = none := fun p hp => by
    cases z : (noTab K0).lookup p.2 with
    | none => rfl
    | some o' =>
      have e1 := KX.no _ _ z
      have e2 := KX.is _ _ (isT p hp).1
      rw [e1] at e2
      cases e2
      cases noTab_tab z
  have nl : noL (noTab K0) = true := by
    unfold word at hw
    simp only [Bool.and_eq_true] at hw
    exact hw.1.1.1.1.1
  have M : ∀ base : Heap, (∀ p ∈ csOf K0 ds, LamX.TabB base mg p.1 p.2) → ModOk l.prog (noTab K0) mg base (gOf K0 mg ds excs) ds (tabOf ds) free gc excs hds cn := fun base TB => mod_of KX Gr.T.g c hw ok nd (fun _ => top) TB
  have okd : dl.ok (fnsOf ds) free gc excs (hrsOf hds) cn = true := by
    unfold okAll at ok
    rw [Bool.and_eq_true] at ok
    exact List.all_eq_true.mp ok.1 dl hl
  unfold Df.ok at okd
  simp only [Bool.and_eq_true, decide_eq_true_eq] at okd
  -- the law's own function
  obtain ⟨i, hi, ei⟩ := List.getElem_of_mem hl
  have e1 : ds[i]? = some dl := by rw [List.getElem?_eq_getElem hi, ei]
  have f1 : (factsOf ds hds free)[i]? = some (.glo dl.name) := by
    unfold factsOf
    rw [List.getElem?_append_left (by simpa using hi), List.getElem?_map, e1]
    rfl
  obtain ⟨fd, F⟩ := c.def_ i (d := dl.dd) (by unfold ddsOf; rw [List.getElem?_append_left (by simpa using hi), List.getElem?_map, e1]; rfl)
  have hf := He.glo_ok KX.no Gr.T.g (c.fact i f1)
  have hf2 := hf
  rw [← hn, hmg] at hf
  cases hf
  refine law_run (g := gOf K0 mg ds excs) (cs := csOf K0 ds) (fun p hp => ?_) KX.no nl Gr.T.g Gr.T.b Gr.T.builtins Gr.T.nolimit hgens (fun p hp => KX.is _ _ (isT p hp).1) noK (fun p hp => (isT p hp).2) Gr.T.bmain hobj hints (Nat.le_trans hlen hms) hrm (fun base hK hG TB => ?_) (fun s u => bind1 F okd.1.1.1.1.1.2 (okd.1.1.1.1.2.trans hps) s u) (law ns hlen hbits)
  · obtain ⟨d', hd', rfl⟩ := List.mem_map.mp hp
    exact List.mem_map.mpr ⟨_, List.mem_map.mpr ⟨d', hd', rfl⟩, rfl⟩
  · have r := fn_run (P := l.prog) (w := w) (base := base) (wf := wf) (g := gOf K0 mg ds excs) rfl rfl (M base TB) k dl hl _ fd hf2 F false
    have r : FnR l.prog w (noTab K0) mg base (3 * k + 3) _ fd dl.ps (spF (gOf K0 mg ds excs) dl.ps.length (callF (tabOf ds) wf k dl.name)) := r
    rw [hps] at r
    rw [hn]
    exact r
end Fx

set_option maxHeartbeats 4000000
/-! Fp1: the evaluator, step by step; integers. -/
namespace Fx
open PySem (Str)

theorem call_step {T : Tab} {wf k : Nat} {f : Str} {F : Fn} {ds : List D} {S : Store} (h : T f = some F) (hl : ds.length = F.np) :
    callF T wf (k + 1) f ds S = (exec ⟨callF T wf k, callM T wf k true, wf⟩ F.body (startE F.nn ds) S).bind ofFl := by
  show (match T f with | some F => if ds.length = F.np then (exec ⟨callF T wf k, callM T wf k true, wf⟩ F.body (startE F.nn ds) S).bind ofFl else .st | none => .st) = _
  rw [h]
  exact if_pos hl
theorem lent_step {T : Tab} {wf k : Nat} {f : Str} {F : Fn} {ds : List D} {S : Store} (h : T f = some F) (hl : ds.length = F.np) :
    callM T wf (k + 1) true f ds S = (exec ⟨callF T wf k, callM T wf k true, wf⟩ F.body (startM true F.nn ds) S).bind ofFl := by
  show (match T f with | some F => if ds.length = F.np then (exec ⟨callF T wf k, callM T wf k true, wf⟩ F.body (startM true F.nn ds) S).bind ofFl else .st | none => .st) = _
  rw [h]
  exact if_pos hl
@[simp] theorem eqD_int (i j : Int) : eqD (.int i) (.int j) = some (i == j) := by
  show (if PySem.SeqAt.shaped (.int i) && PySem.SeqAt.shaped (.int j) then some (PySem.PyData.eqv (.int i) (.int j)) else none) = _
  rw [if_pos]
  · show some (i == j) = _
    rfl
  · have h : ∀ n : Int, PySem.SeqAt.shaped (.int n) = true := fun n => rfl
    rw [h, h]
    rfl
/-- smaller than 2 ^ n -/
def Bd (n : Nat) (i : Int) : Prop := i.natAbs < 2 ^ n
theorem Bd.mono {n m : Nat} {i : Int} (h : Bd n i) (l : n ≤ m) : Bd m i := Nat.lt_of_lt_of_le h (Nat.pow_le_pow_right (by decide) l)
theorem Bd.log {n : Nat} {i : Int} (h : Bd n i) (h0 : 0 < n) : i.natAbs.log2 < n := by
  by_cases e : i.natAbs = 0
  · rw [e]; exact h0
  · exact (Nat.log2_lt e).mpr h
theorem Bd.mul {n m : Nat} {i j : Int} (h : Bd n i) (h2 : Bd m j) : Bd (n + m) (i * j) := by
  unfold Bd at *
  rw [Int.natAbs_mul, Nat.pow_add]
  exact Nat.mul_lt_mul'' h h2
theorem Bd.add {n : Nat} {i j : Int} (h : Bd n i) (h2 : Bd n j) : Bd (n + 1) (i + j) := by
  unfold Bd at *
  have := Int.natAbs_add_le i j
  rw [Nat.pow_succ]
  omega
theorem Bd.neg {n : Nat} {i : Int} (h : Bd n i) : Bd n (-i) := by unfold Bd at *; rwa [Int.natAbs_neg]
theorem mul_ok {n m : Nat} {i j : Int} (h : Bd n i) (h2 : Bd m j) (l : n + m ≤ 900000) : mulOk i j = true := by
  unfold mulOk
  have a := (h.mono (Nat.le_succ n)).log (Nat.succ_pos n)
  have b := (h2.mono (Nat.le_succ m)).log (Nat.succ_pos m)
  simp only [Bool.or_eq_true, decide_eq_true_eq]
  right; omega
theorem mul_bin {n m : Nat} {i j : Int} (h : Bd n i) (h2 : Bd m j) (l : n + m ≤ 900000) : binOp .mul (.int i) (.int j) = some (.int (i * j)) := by
  show (if mulOk i j then some (D.int (i * j)) else none) = _
  rw [mul_ok h h2 l]
  rfl
theorem div_bin {n : Nat} {i j : Int} (h : Bd n j) (h0 : j ≠ 0) (l : n ≤ 8000) : binOp .fdiv (.int i) (.int j) = some (.int (i.fdiv j)) := by
  show (if divOk j then some (D.int (i.fdiv j)) else none) = _
  have a := (h.mono (Nat.le_succ n)).log (Nat.succ_pos n)
  rw [if_pos]
  unfold divOk
  simp only [Bool.and_eq_true, decide_eq_true_eq]
  exact ⟨h0, by omega⟩
theorem mod_bin {i j : Int} (h0 : j ≠ 0) : binOp .mod (.int i) (.int j) = some (.int (i.fmod j)) := by
  show (if j ≠ 0 then some (D.int (i.fmod j)) else none) = _
  rw [if_pos h0]

/-! ### one rule a node -/
section
variable {C : Ev} {env : Env} {S : Store}
@[simp] theorem ev_var {i : Nat} {d : D} (h : env[i]? = some (.val d)) : ev C (.var i) env S = .ok d S := by
  show (match env[i]? with | some (.val d) => Res.ok d S | _ => .st) = _
  rw [h]
@[simp] theorem ev_pkV {i : Nat} {d : D} (h : env[i]? = some (.val d)) : ev C (.pk i) env S = .ok d S := by
  show (match env[i]? with | some (.val d) => Res.ok d S | some (.own xs) => .ok (.lst xs) S | some (.bor xs) => .ok (.lst xs) S | _ => .st) = _
  rw [h]
@[simp] theorem ev_pkO {i : Nat} {xs : List D} (h : env[i]? = some (.own xs)) : ev C (.pk i) env S = .ok (.lst xs) S := by
  show (match env[i]? with | some (.val d) => Res.ok d S | some (.own xs) => .ok (.lst xs) S | some (.bor xs) => .ok (.lst xs) S | _ => .st) = _
  rw [h]
@[simp] theorem ev_pkB {i : Nat} {xs : List D} (h : env[i]? = some (.bor xs)) : ev C (.pk i) env S = .ok (.lst xs) S := by
  show (match env[i]? with | some (.val d) => Res.ok d S | some (.own xs) => .ok (.lst xs) S | some (.bor xs) => .ok (.lst xs) S | _ => .st) = _
  rw [h]
@[simp] theorem ev_cT {xs : List Str} : ev C (.cT xs) env S = .ok (.tup (xs.map .str)) S := id rfl
@[simp] theorem ev_callB {f : Str} {es : N} : ev C (.callB f es) env S = (evs C es env S).bind fun ds S => C.act f ds S := id rfl
@[simp] theorem ex_expr {e : N} : exec C (.expr e) env S = (ev C e env S).bind fun _ S => .ok (.nx env) S := id rfl
@[simp] theorem ex_tryB {body : N} {c : Str} {b : Bool} : exec C (.tryB body c b) env S = match exec C body env S with | .ok fl S => .ok fl S | .ex c' p S => if c' = c then .ok (.rt (.bl b)) S else .st | .st => .st := id rfl
@[simp] theorem ex_lput {i : Nat} {e v : N} : exec C (.lput i e v) env S = (ev C v env S).bind fun x S => match env[i]? with | some (.own xs) => ((ev C e env S).bind fun y S => match y with | .int k => (match putI xs k x with | some ys => .ok (.nx (env.set i (.own ys))) S | none => .st) | _ => .st) | _ => .st := id rfl
@[simp] theorem ev_cI {z : Int} : ev C (.cI z) env S = .ok (.int z) S := id rfl
@[simp] theorem ev_cS {z : Str} : ev C (.cS z) env S = .ok (.str z) S := id rfl
@[simp] theorem ev_cB {z : Bool} : ev C (.cB z) env S = .ok (.bl z) S := id rfl
@[simp] theorem ev_cN : ev C .cN env S = .ok .non S := id rfl
@[simp] theorem ev_tup {es : N} : ev C (.tup es) env S = (evs C es env S).bind fun ds S => .ok (.tup ds) S := id rfl
@[simp] theorem ev_lst {es : N} : ev C (.lst es) env S = (evs C es env S).bind fun ds S => .ok (.lst ds) S := id rfl
@[simp] theorem ev_dct {ks : List Str} {vs : N} : ev C (.dct ks vs) env S = (evs C vs env S).bind fun ds S => if ks.length = ds.length then .ok (.ref S.length) (S ++ [.dct ((ks.map keyStr).zip ds)]) else .st := id rfl
@[simp] theorem ev_bin {op : Op} {a b : N} : ev C (.bin op a b) env S = (ev C a env S).bind fun x S => (ev C b env S).bind fun y S => ofO (binOp op x y) S := id rfl
@[simp] theorem ev_neg {a : N} : ev C (.neg a) env S = (ev C a env S).bind fun x S => match x with | .int i => .ok (.int (-i)) S | _ => .st := id rfl
@[simp] theorem ev_cmp {op : Cp} {a b : N} : ev C (.cmp op a b) env S = (ev C a env S).bind fun x S => (ev C b env S).bind fun y S => ofO ((cmpOp op x y).map .bl) S := id rfl
@[simp] theorem ev_vand {a b : N} : ev C (.vand a b) env S = (ev C a env S).bind fun x S => match x with | .bl true => ev C b env S | .bl false => .ok (.bl false) S | _ => .st := id rfl
@[simp] theorem ev_vor {a b : N} : ev C (.vor a b) env S = (ev C a env S).bind fun x S => match x with | .bl true => .ok (.bl true) S | .bl false => ev C b env S | _ => .st := id rfl
@[simp] theorem ev_vnot {a : N} : ev C (.vnot a) env S = (ev C a env S).bind fun x S => match x with | .bl k => .ok (.bl (!k)) S | _ => .st := id rfl
@[simp] theorem ev_ite {c a b : N} : ev C (.ite c a b) env S = (evT C c env S).bind fun k S => if k then ev C a env S else ev C b env S := id rfl
@[simp] theorem ev_idx {a i : N} : ev C (.idx a i) env S = (ev C a env S).bind fun x S => (ev C i env S).bind fun y S => ofO (ixD x y) S := id rfl
@[simp] theorem ev_slc {a lo hi : N} : ev C (.slc a lo hi) env S = (ev C a env S).bind fun x S => (evO C lo env S).bind fun l S => (evO C hi env S).bind fun h S => ofO (slD x l h) S := id rfl
@[simp] theorem ev_dget {d : N} {k : Str} : ev C (.dget d k) env S = (ev C d env S).bind fun x S => ofO (dGet x k S) S := id rfl
@[simp] theorem ev_call {f : Str} {es ks : N} {ix : List Nat} : ev C (.call f es ks ix) env S = (evs C es env S).bind fun ds S => (evs C ks env S).bind fun dk S => match pickIx ix (ds ++ dk) with | some ds => C.call f ds S | none => .st := id rfl
@[simp] theorem ev_bi {b : Bi} {es : N} : ev C (.bi b es) env S = (evs C es env S).bind fun ds S => ofO (biOp b ds) S := id rfl
@[simp] theorem ev_isi {a : N} {t : String} : ev C (.isi a t) env S = (ev C a env S).bind fun x S => ofO ((isTy x t).map .bl) S := id rfl
@[simp] theorem ev_comp {own : List (Str × Nat)} {elt tg it cond : N} : ev C (.comp own elt tg it cond) env S = (evI C it env S).bind fun ds S => (compL (compF C own elt tg cond env) ds [] S).bind fun xs S => .ok (.lst xs) S := id rfl
@[simp] theorem evs_nil : evs C .nil env S = .ok [] S := id rfl
@[simp] theorem evs_cons_ {a b : N} : evs C (.cons a b) env S = (ev C a env S).bind fun x S => (evs C b env S).bind fun xs S => .ok (x :: xs) S := id rfl
@[simp] theorem evO_nil : evO C .nil env S = .ok none S := id rfl
@[simp] theorem evO_cons {a : N} : evO C (.cons a .nil) env S = (ev C a env S).bind fun x S => match x with | .int i => .ok (some i) S | _ => .st := id rfl
@[simp] theorem evT_nil : evT C .nil env S = .ok true S := id rfl
@[simp] theorem evT_cons {a b : N} : evT C (.cons a b) env S = evT C a env S := id rfl
@[simp] theorem evT_tv {a : N} : evT C (.tv a) env S = (ev C a env S).bind fun x S => ofO (truthy x) S := id rfl
@[simp] theorem evT_tand {a b : N} : evT C (.tand a b) env S = (evT C a env S).bind fun k S => if k then evT C b env S else .ok false S := id rfl
@[simp] theorem evT_tor {a b : N} : evT C (.tor a b) env S = (evT C a env S).bind fun k S => if k then .ok true S else evT C b env S := id rfl
@[simp] theorem evT_tnot {a : N} : evT C (.tnot a) env S = (evT C a env S).bind fun k S => .ok (!k) S := id rfl
@[simp] theorem evT_cmp {op : Cp} {a b : N} : evT C (.cmp op a b) env S = (ev C a env S).bind fun x S => (ev C b env S).bind fun y S => ofO (cmpOp op x y) S := id rfl
@[simp] theorem evI_seq {a : N} : evI C (.seq a) env S = (ev C a env S).bind fun x S => ofO (seqD x) S := id rfl
@[simp] theorem evI_rng1 {a : N} : evI C (.rng1 a) env S = (ev C a env S).bind fun x S => match x with | .int n => if rgOk 0 n then .ok (rangeD 0 n) S else .st | _ => .st := id rfl
@[simp] theorem evI_enum {a : N} : evI C (.enum a) env S = (ev C a env S).bind fun x S => ofO ((seqD x).map enumD) S := id rfl
@[simp] theorem evI_zip {a b : N} : evI C (.zip a b) env S = (ev C a env S).bind fun x S => (ev C b env S).bind fun y S => match seqD x, seqD y with | some xs, some ys => .ok (zipD xs ys) S | _, _ => .st := id rfl
@[simp] theorem ex_nil : exec C .nil env S = .ok (.nx env) S := id rfl
@[simp] theorem ex_cons {a b : N} : exec C (.cons a b) env S = (exec C a env S).bind fun fl S => match fl with | .nx e => exec C b e S | fl => .ok fl S := id rfl
@[simp] theorem ex_set {i : Nat} {e : N} : exec C (.set i e) env S = (ev C e env S).bind fun x S => if i < env.length then .ok (.nx (env.set i (.val x))) S else .st := id rfl
@[simp] theorem ex_setO {i : Nat} {e : N} : exec C (.setO i e) env S = (ev C e env S).bind fun x S => match x with | .lst xs => if i < env.length then .ok (.nx (env.set i (.own xs))) S else .st | _ => .st := id rfl
@[simp] theorem ex_unp {tg e : N} : exec C (.unp tg e) env S = (ev C e env S).bind fun x S => match bindT tg x env with | some e => .ok (.nx e) S | none => .st := id rfl
@[simp] theorem ex_par {i j : Nat} {a b : N} : exec C (.par i j a b) env S = (ev C a env S).bind fun x S => (ev C b env S).bind fun y S => if i < env.length ∧ j < env.length then .ok (.nx ((env.set i (.val x)).set j (.val y))) S else .st := id rfl
@[simp] theorem ex_app {i : Nat} {e : N} : exec C (.app i e) env S = match env[i]? with | some (.own xs) => (ev C e env S).bind fun x S => if xs.length < lim then .ok (.nx (env.set i (.own (xs ++ [x])))) S else .st | _ => .st := id rfl
@[simp] theorem ex_dput {d e : N} {k : Str} : exec C (.dput d k e) env S = (ev C e env S).bind fun x S => (ev C d env S).bind fun y S => match dPut y k x S with | some S => .ok (.nx env) S | none => .st := id rfl
@[simp] theorem ex_frz {i : Nat} : exec C (.frz i) env S = match env[i]? with | some (.own xs) => .ok (.nx (env.set i (.val (.lst xs)))) S | _ => .ok (.nx env) S := id rfl
@[simp] theorem ex_ret {e : N} : exec C (.ret e) env S = (ev C e env S).bind fun x S => .ok (.rt x) S := id rfl
@[simp] theorem ex_ifs {c a b : N} : exec C (.ifs c a b) env S = (evT C c env S).bind fun k S => if k then exec C a env S else exec C b env S := id rfl
def forF (C : Ev) (tg body : N) (d : D) (e : Env) (S : Store) : Res Fl := match bindT tg d e with
  | some e => exec C body e S
  | none => .st
@[simp] theorem ex_for {tg it body : N} : exec C (.for_ tg it body) env S = (evI C it env S).bind fun ds S => forL (forF C tg body) ds env S := id rfl
@[simp] theorem ex_whl {c body : N} : exec C (.whl c body) env S = whileL (evT C c) (exec C body) C.wf env S := id rfl
@[simp] theorem ofFl_rt {d : D} : ofFl (.rt d) S = .ok d S := id rfl
@[simp] theorem ofFl_nx {e : Env} : ofFl (.nx e) S = .ok .non S := id rfl
@[simp] theorem cmp_eq {i j : Int} : cmpOp .eq (.int i) (.int j) = some (i == j) := eqD_int i j
@[simp] theorem cmp_ne {i j : Int} : cmpOp .ne (.int i) (.int j) = some (!(i == j)) := by
  show (eqD (.int i) (.int j)).map (!·) = _
  rw [eqD_int]
  rfl
@[simp] theorem cmp_lt {i j : Int} : cmpOp .lt (.int i) (.int j) = some (decide (i < j)) := id rfl
@[simp] theorem cmp_gt {i j : Int} : cmpOp .gt (.int i) (.int j) = some (decide (j < i)) := id rfl
@[simp] theorem cmp_le {i j : Int} : cmpOp .le (.int i) (.int j) = some (decide (i ≤ j)) := id rfl
@[simp] theorem cmp_ge {i j : Int} : cmpOp .ge (.int i) (.int j) = some (decide (j ≤ i)) := id rfl
@[simp] theorem cmp_isn {d : D} : cmpOp .isn d .non = some (!isNone d) := id rfl
@[simp] theorem bin_add {i j : Int} : binOp .add (.int i) (.int j) = some (.int (i + j)) := id rfl
@[simp] theorem bin_sub {i j : Int} : binOp .sub (.int i) (.int j) = some (.int (i - j)) := id rfl
@[simp] theorem bi_gcd {i j : Int} : biOp .gcd [.int i, .int j] = some (.int ((Nat.gcd i.natAbs j.natAbs : Nat) : Int)) := id rfl
@[simp] theorem bi_abs {i : Int} : biOp .abs [.int i] = some (.int (if i < 0 then -i else i)) := id rfl
@[simp] theorem bi_int {i : Int} : biOp .int [.int i] = some (.int i) := id rfl
@[simp] theorem bi_intB {b : Bool} : biOp .int [.bl b] = some (.int (if b then 1 else 0)) := id rfl
@[simp] theorem bi_tupL {xs : List D} : biOp .tuple [.lst xs] = some (.tup xs) := id rfl
@[simp] theorem bi_tupT {xs : List D} : biOp .tuple [.tup xs] = some (.tup xs) := id rfl
@[simp] theorem bi_lstL {xs : List D} : biOp .list [.lst xs] = some (.lst xs) := id rfl
@[simp] theorem bi_lstT {xs : List D} : biOp .list [.tup xs] = some (.lst xs) := id rfl
@[simp] theorem bi_lenL {xs : List D} : biOp .len [.lst xs] = some (.int xs.length) := id rfl
@[simp] theorem bi_lenT {xs : List D} : biOp .len [.tup xs] = some (.int xs.length) := id rfl
@[simp] theorem seqD_l {xs : List D} : seqD (.lst xs) = some xs := id rfl
@[simp] theorem seqD_t {xs : List D} : seqD (.tup xs) = some xs := id rfl
@[simp] theorem isTy_int {i : Int} {t : String} : isTy (.int i) t = some (t == "int") := id rfl
@[simp] theorem isTy_tup {xs : List D} {t : String} : isTy (.tup xs) t = some (t == "tuple") := id rfl
@[simp] theorem bindT_tn {i : Nat} {d : D} {env : Env} : bindT (.tn i) d env = if i < env.length then some (env.set i (.val d)) else none := id rfl
@[simp] theorem bindT_tt {es : N} {ds : List D} {env : Env} : bindT (.tt es) (.tup ds) env = bindT.bindTs es ds env := id rfl
@[simp] theorem bindTs_nil {env : Env} : bindT.bindTs .nil [] env = some env := id rfl
@[simp] theorem bindTs_cons {t r : N} {d : D} {ds : List D} {env : Env} : bindT.bindTs (.cons t r) (d :: ds) env = (bindT t d env).bind (bindT.bindTs r ds) := id rfl
end
end Fx

set_option maxHeartbeats 4000000
/-! Fp2: rows of integers over one bottom, lowered. -/
namespace Fx

def gcdF (g : Nat) (ns : List Int) : Nat := ns.foldl (fun g n => Nat.gcd g n.natAbs) g
def gcdL (ns : List Int) : Nat := gcdF 0 ns
theorem gcdF_cons {g : Nat} {n : Int} {ns : List Int} : gcdF g (n :: ns) = gcdF (Nat.gcd g n.natAbs) ns := rfl
theorem gcdF_dvd : ∀ {ns : List Int} {g : Nat}, gcdF g ns ∣ g ∧ ∀ n ∈ ns, gcdF g ns ∣ n.natAbs
  | [], g => ⟨Nat.dvd_refl g, fun n h => by cases h⟩
  | n :: ns, g => by
    rw [gcdF_cons]
    obtain ⟨h1, h2⟩ := gcdF_dvd (ns := ns) (g := Nat.gcd g n.natAbs)
    refine ⟨Nat.dvd_trans h1 (Nat.gcd_dvd_left _ _), fun m hm => ?_⟩
    rcases List.mem_cons.mp hm with rfl | hm
    · exact Nat.dvd_trans h1 (Nat.gcd_dvd_right _ _)
    · exact h2 m hm
theorem gcdL_dvd {ns : List Int} {n : Int} (h : n ∈ ns) : gcdL ns ∣ n.natAbs := gcdF_dvd.2 n h
theorem gcdL_dvdI {ns : List Int} {n : Int} (h : n ∈ ns) : ((gcdL ns : Nat) : Int) ∣ n := Int.ofNat_dvd_left.mpr (gcdL_dvd h)
theorem gcdF_mul {c : Nat} : ∀ {ns : List Int} {g : Nat}, gcdF (c * g) (ns.map fun n => (c : Int) * n) = c * gcdF g ns
  | [], g => rfl
  | n :: ns, g => by
    rw [List.map_cons, gcdF_cons, gcdF_cons]
    have e : ((c : Int) * n).natAbs = c * n.natAbs := by rw [Int.natAbs_mul, Int.natAbs_natCast]
    rw [e, Nat.gcd_mul_left, gcdF_mul]
theorem gcdL_mul {c : Nat} {ns : List Int} : gcdL (ns.map fun n => (c : Int) * n) = c * gcdL ns := gcdF_mul (g := 0)
theorem gcdL_pos {ns : List Int} {b : Int} (h : b ∈ ns) (hb : b ≠ 0) : 0 < gcdL ns := by
  have := gcdL_dvd h
  rcases Nat.eq_zero_or_pos (gcdL ns) with e | e
  · rw [e] at this
    exact absurd (Int.natAbs_eq_zero.mp (Nat.eq_zero_of_zero_dvd this)) hb
  · exact e
/-- divided by the common part -/
def low (ns : List Int) : List Int := if gcdL ns < 2 then ns else ns.map fun n => n.fdiv (gcdL ns)
theorem low_mul {ns : List Int} {b : Int} (h : b ∈ ns) (hb : b ≠ 0) : (low ns).map (fun n => ((gcdL ns : Nat) : Int) * n) = ns := by
  unfold low
  have hp := gcdL_pos h hb
  split
  · have e : gcdL ns = 1 := by omega
    rw [e]
    simp
  · rw [List.map_map]
    have : ∀ n ∈ ns, ((fun n => ((gcdL ns : Nat) : Int) * n) ∘ fun n => n.fdiv (gcdL ns)) n = n := fun n hn => Int.mul_fdiv_cancel' (gcdL_dvdI hn)
    rw [List.map_congr_left this]
    simp
theorem low_one {ns : List Int} {b : Int} (h : b ∈ ns) (hb : b ≠ 0) : gcdL (low ns) = 1 := by
  have e := congrArg gcdL (low_mul h hb)
  rw [gcdL_mul] at e
  have hp := gcdL_pos h hb
  exact Nat.eq_of_mul_eq_mul_left hp (by rw [e, Nat.mul_one])
theorem low_len {ns : List Int} : (low ns).length = ns.length := by
  unfold low
  split
  · rfl
  · rw [List.length_map]

/-- values over one bottom, in lowest terms -/
structure IsRow (R : List Int) (qs : List Rat) : Prop where
  ex : ∃ xs b, R = xs ++ [b] ∧ 0 < b ∧ gcdL R = 1 ∧ xs.map (fun x => Rat.divInt x b) = qs
theorem split_last {R : List Int} {n : Nat} (h : R.length = n + 1) : ∃ xs b, R = xs ++ [b] ∧ xs.length = n := by
  have hne : R ≠ [] := fun e => by rw [e] at h; cases h
  refine ⟨R.dropLast, R.getLast hne, (List.dropLast_concat_getLast hne).symm, ?_⟩
  rw [List.length_dropLast]; omega
theorem low_row {xs : List Int} {b : Int} (hb : 0 < b) : IsRow (low (xs ++ [b])) (xs.map fun x => Rat.divInt x b) := by
  have hm : b ∈ xs ++ [b] := by simp
  have h0 : b ≠ 0 := by omega
  have e := low_mul hm h0
  have hp := gcdL_pos hm h0
  obtain ⟨ys, c, e1, hl⟩ := split_last (R := low (xs ++ [b])) (n := xs.length) (by rw [low_len]; simp)
  rw [e1, List.map_append] at e
  obtain ⟨e2, e3⟩ := List.append_inj e (by rw [List.length_map, hl])
  have e3 : ((gcdL (xs ++ [b]) : Nat) : Int) * c = b := by simpa using e3
  have hg : (0 : Int) < ((gcdL (xs ++ [b]) : Nat) : Int) := by omega
  have hl1 := low_one hm h0
  generalize ((gcdL (xs ++ [b]) : Nat) : Int) = G at e e2 e3 hg
  have hc : 0 < c := by
    rcases Int.lt_trichotomy c 0 with z | z | z
    · have := Int.mul_neg_of_pos_of_neg hg z
      omega
    · rw [z, Int.mul_zero] at e3; omega
    · exact z
  refine ⟨ys, c, e1, hc, hl1, ?_⟩
  rw [← e2, List.map_map]
  refine List.map_congr_left fun y _ => ?_
  show Rat.divInt y c = Rat.divInt (G * y) b
  rw [← e3, Rat.divInt_mul_left (by omega)]
theorem row_uniq {R R' : List Int} {qs : List Rat} (h : IsRow R qs) (h' : IsRow R' qs) : R = R' := by
  obtain ⟨xs, b, rfl, hb, g1, e1⟩ := h.ex
  obtain ⟨ys, c, rfl, hc, g2, e2⟩ := h'.ex
  have hl : xs.length = ys.length := by
    have := congrArg List.length (e1.trans e2.symm)
    simpa using this
  have cross : ∀ i (h1 : i < xs.length) (h2 : i < ys.length), xs[i] * c = ys[i] * b := fun i h1 h2 => by
    have q : (xs.map fun x => Rat.divInt x b)[i]? = (ys.map fun x => Rat.divInt x c)[i]? := by rw [e1, e2]
    rw [List.getElem?_map, List.getElem?_map, List.getElem?_eq_getElem h1, List.getElem?_eq_getElem h2] at q
    exact (Rat.divInt_eq_divInt_iff (by omega) (by omega)).mp (Option.some.inj q)
  obtain ⟨B, rfl⟩ : ∃ B : Nat, b = (B : Int) := ⟨b.toNat, by omega⟩
  obtain ⟨C, rfl⟩ : ∃ C : Nat, c = (C : Int) := ⟨c.toNat, by omega⟩
  have e : (xs ++ [(B : Int)]).map (fun n => (C : Int) * n) = (ys ++ [(C : Int)]).map (fun n => (B : Int) * n) := by
    rw [List.map_append, List.map_append]
    congr 1
    · refine List.ext_getElem (by simpa using hl) fun i h1 h2 => ?_
      rw [List.getElem_map, List.getElem_map, Int.mul_comm, cross i (by simpa using h1) (by simpa using h2), Int.mul_comm]
    · simp [Int.mul_comm]
  have g := congrArg gcdL e
  rw [gcdL_mul, gcdL_mul, g1, g2, Nat.mul_one, Nat.mul_one] at g
  subst g
  congr 1
  refine List.ext_getElem hl fun i h1 h2 => ?_
  exact Int.eq_of_mul_eq_mul_right (by omega) (cross i h1 h2)
/-- two lowered rows of the same values -/
theorem low_eq {xs ys : List Int} {b c : Int} (hb : 0 < b) (hc : 0 < c) (h : xs.map (fun x => Rat.divInt x b) = ys.map fun y => Rat.divInt y c) : low (xs ++ [b]) = low (ys ++ [c]) :=
  row_uniq (low_row hb) (h ▸ low_row hc)
theorem IsRow.low {R : List Int} {qs : List Rat} (h : IsRow R qs) : Fx.low R = R := by
  obtain ⟨xs, b, rfl, hb, g1, e1⟩ := h.ex
  unfold Fx.low
  rw [g1]
  rfl
def BdL (n : Nat) (ns : List Int) : Prop := ∀ x ∈ ns, Bd n x
theorem fdiv_bd {n : Nat} {x : Int} {g : Nat} (h : Bd n x) (hd : (g : Int) ∣ x) (hg : 0 < g) : Bd n (x.fdiv g) := by
  have e : (g : Int) * x.fdiv g = x := Int.mul_fdiv_cancel' hd
  unfold Bd at *
  have e2 := congrArg Int.natAbs e
  rw [Int.natAbs_mul, Int.natAbs_natCast] at e2
  refine Nat.lt_of_le_of_lt ?_ h
  rw [← e2]
  exact Nat.le_mul_of_pos_left _ hg
theorem low_bd {n : Nat} {ns : List Int} (h : BdL n ns) : BdL n (low ns) := by
  unfold low
  split
  · exact h
  · intro x hx
    obtain ⟨y, hy, rfl⟩ := List.mem_map.mp hx
    exact fdiv_bd (h y hy) (gcdL_dvdI hy) (by omega)
theorem gcdL_bd {n : Nat} {ns : List Int} {b : Int} (h : BdL n ns) (hm : b ∈ ns) (hb : b ≠ 0) : Bd n ((gcdL ns : Nat) : Int) := by
  unfold Bd
  rw [Int.natAbs_natCast]
  refine Nat.lt_of_le_of_lt (Nat.le_of_dvd ?_ (gcdL_dvd hm)) (h b hm)
  omega
theorem gcdF_zero : ∀ {ns : List Int}, (∀ n ∈ ns, n = 0) → gcdF 0 ns = 0
  | [], _ => rfl
  | n :: ns, h => by
    rw [gcdF_cons, h n List.mem_cons_self]
    exact gcdF_zero fun m hm => h m (List.mem_cons_of_mem _ hm)
theorem gcdL_bd' {n : Nat} {ns : List Int} (h : BdL n ns) : Bd n ((gcdL ns : Nat) : Int) := by
  by_cases z : ∀ x ∈ ns, x = 0
  · have e : gcdL ns = 0 := gcdF_zero z
    rw [e]
    unfold Bd
    simp
    exact Nat.pow_pos (by decide)
  · obtain ⟨x, hx⟩ := Classical.not_forall.mp z
    obtain ⟨hm, hx⟩ := Classical.not_imp.mp hx
    exact gcdL_bd h hm hx
end Fx

set_option maxHeartbeats 4000000
/-! Fp3: lists and tuples of integers in the evaluator. -/
namespace Fx
abbrev V (ns : List Int) : D := .tup (ns.map D.int)
abbrev L (ns : List Int) : D := .lst (ns.map D.int)
@[simp] theorem forL_nil {f : D → Env → Store → Res Fl} {env : Env} {S : Store} : forL f [] env S = .ok (.nx env) S := id rfl
@[simp] theorem forL_cons {f : D → Env → Store → Res Fl} {d : D} {ds : List D} {env : Env} {S : Store} : forL f (d :: ds) env S = (f d env S).bind fun fl S => match fl with
    | .nx e => forL f ds e S
    | .ct e => forL f ds e S
    | .bk e => .ok (.nx e) S
    | .rt v => .ok (.rt v) S := id rfl
theorem compL_map {α : Type} {emb g : α → D} {f : D → Store → Res (Option D)} {S : Store} : ∀ {l : List α} {acc : List D}, (∀ a ∈ l, f (emb a) S = .ok (some (g a)) S) → acc.length + l.length ≤ lim → compL f (l.map emb) acc S = .ok (acc ++ l.map g) S
  | [], acc, _, _ => by simp [compL]
  | a :: l, acc, h, hl => by
    rw [List.map_cons]
    unfold compL
    rw [h a List.mem_cons_self]
    rw [List.length_cons] at hl
    show (if acc.length < lim then compL f (l.map emb) (acc ++ [g a]) S else .st) = _
    rw [if_pos (by omega), compL_map (fun b hb => h b (List.mem_cons_of_mem _ hb)) (by rw [List.length_append, List.length_singleton]; omega)]
    simp
@[simp] theorem zipD_map {α β : Type} {f : α → D} {g : β → D} : ∀ {xs : List α} {ys : List β}, zipD (xs.map f) (ys.map g) = (xs.zip ys).map fun p => .tup [f p.1, g p.2]
  | [], _ => by simp [zipD]
  | _ :: _, [] => by simp [zipD]
  | x :: xs, y :: ys => by
    have := zipD_map (f := f) (g := g) (xs := xs) (ys := ys)
    unfold zipD at this ⊢
    simp [this]
theorem sumD_fold : ∀ {ns : List Int} {a : Int}, sumD a (ns.map D.int) = some (ns.foldl (· + ·) a)
  | [], a => rfl
  | n :: ns, a => by
    show sumD (a + n) (ns.map D.int) = _
    rw [sumD_fold]
    rfl
@[simp] theorem bi_sumL {ns : List Int} : biOp .sum [L ns] = some (.int (ns.foldl (· + ·) 0)) := by
  show (sumD 0 (ns.map D.int)).map D.int = _
  rw [sumD_fold]
  rfl
theorem cut_1 {ds : List D} {d : D} : cutD (ds ++ [d]) none (some (-1)) = ds := by
  unfold cutD HT.sIx
  simp only [List.length_append, List.length_singleton, Nat.sub_zero, List.drop_zero]
  rw [if_pos (by omega), show (-1 + ((ds.length + 1 : Nat) : Int)).toNat = ds.length by omega]
  simp
theorem cut_2 {ds : List D} {d e : D} : cutD (ds ++ [d, e]) none (some (-2)) = ds := by
  unfold cutD HT.sIx
  simp only [List.length_append, List.length_cons, List.length_nil, Nat.sub_zero, List.drop_zero]
  rw [if_pos (by omega), show (-2 + ((ds.length + (0 + 1 + 1) : Nat) : Int)).toNat = ds.length by omega]
  simp
theorem at_1 {ds : List D} {d : D} : L2.atI (ds ++ [d]) (-1) = some d := by
  unfold L2.atI L2.ixN
  simp only [List.length_append, List.length_singleton]
  rw [if_neg (by omega), if_pos (by omega)]
  show (ds ++ [d])[((-1 : Int) + ((ds.length + 1 : Nat) : Int)).toNat]? = _
  rw [show ((-1 : Int) + ((ds.length + 1 : Nat) : Int)).toNat = ds.length by omega]
  simp
theorem at_2 {ds : List D} {d e : D} : L2.atI (ds ++ [d, e]) (-2) = some d := by
  unfold L2.atI L2.ixN
  simp only [List.length_append, List.length_cons, List.length_nil]
  rw [if_neg (by omega), if_pos (by omega)]
  show (ds ++ [d, e])[((-2 : Int) + ((ds.length + (0 + 1 + 1) : Nat) : Int)).toNat]? = _
  rw [show ((-2 : Int) + ((ds.length + (0 + 1 + 1) : Nat) : Int)).toNat = ds.length by omega]
  simp
theorem at_nat {ds : List D} {i : Nat} {d : D} (h : ds[i]? = some d) : L2.atI ds (i : Int) = some d := by
  have hl := (List.getElem?_eq_some_iff.mp h).1
  unfold L2.atI L2.ixN
  rw [if_pos (by omega), if_pos (by omega)]
  show ds[(i : Int).toNat]? = _
  rw [Int.toNat_natCast]
  exact h
end Fx

set_option maxHeartbeats 4000000
/-! Fp4: THE row of given values. -/
namespace Fx
def dens : List Rat → Nat
  | [] => 1
  | q :: qs => q.den * dens qs
theorem dens_pos : ∀ {qs : List Rat}, 0 < dens qs
  | [] => by decide
  | q :: qs => Nat.mul_pos q.den_pos dens_pos
theorem den_dvd {q : Rat} : ∀ {qs : List Rat}, q ∈ qs → q.den ∣ dens qs
  | p :: qs, h => by
    rcases List.mem_cons.mp h with rfl | h
    · exact Nat.dvd_mul_right _ _
    · exact Nat.dvd_trans (den_dvd h) (Nat.dvd_mul_left _ _)
/-- the one row of these values -/
def cn (qs : List Rat) : List Int := low (qs.map (fun q => q.num * ((dens qs / q.den : Nat) : Int)) ++ [((dens qs : Nat) : Int)])
theorem cn_row (qs : List Rat) : IsRow (cn qs) qs := by
  have h := low_row (xs := qs.map (fun q => q.num * ((dens qs / q.den : Nat) : Int))) (b := ((dens qs : Nat) : Int)) (by have := dens_pos (qs := qs); omega)
  have e : (qs.map (fun q => q.num * ((dens qs / q.den : Nat) : Int))).map (fun x => Rat.divInt x ((dens qs : Nat) : Int)) = qs := by
    rw [List.map_map]
    have : ∀ q ∈ qs, ((fun x => Rat.divInt x ((dens qs : Nat) : Int)) ∘ fun q : Rat => q.num * ((dens qs / q.den : Nat) : Int)) q = q := fun q hq => by
      obtain ⟨c, hc⟩ := den_dvd hq
      show Rat.divInt (q.num * ((dens qs / q.den : Nat) : Int)) ((dens qs : Nat) : Int) = q
      have hp := dens_pos (qs := qs)
      have c0 : c ≠ 0 := fun z => by rw [z, Nat.mul_zero] at hc; omega
      rw [hc, Nat.mul_div_cancel_left _ q.den_pos, Int.natCast_mul, Rat.divInt_mul_right (by omega), Rat.num_divInt_den]
    rw [List.map_congr_left this]
    simp
  rw [e] at h
  exact h
theorem cn_eq {R : List Int} {qs : List Rat} (h : IsRow R qs) : R = cn qs := row_uniq h (cn_row qs)
theorem low_cn {xs : List Int} {b : Int} (hb : 0 < b) : low (xs ++ [b]) = cn (xs.map fun x => Rat.divInt x b) := cn_eq (low_row hb)
theorem cn_ex (qs : List Rat) : ∃ xs b, cn qs = xs ++ [b] ∧ 0 < b ∧ gcdL (cn qs) = 1 ∧ xs.map (fun x => Rat.divInt x b) = qs := (cn_row qs).ex
theorem cn_len {qs : List Rat} : (cn qs).length = qs.length + 1 := by
  unfold cn
  rw [low_len]
  simp
/-- how large its numbers are -/
def Bq (m : Nat) (qs : List Rat) : Prop := BdL m (cn qs)
theorem Bq.of {m : Nat} {xs : List Int} {b : Int} (hb : 0 < b) (h : BdL m (xs ++ [b])) : Bq m (xs.map fun x => Rat.divInt x b) := by
  unfold Bq
  rw [← low_cn hb]
  exact low_bd h
theorem Bq.mono {m n : Nat} {qs : List Rat} (h : Bq m qs) (l : m ≤ n) : Bq n qs := fun x hx => (h x hx).mono l
/-- a fraction -/
abbrev fr (q : Rat) : D := V (cn [q])
theorem low_fr {t b : Int} (hb : 0 < b) : low [t, b] = cn [Rat.divInt t b] := low_cn (xs := [t]) hb
theorem fr_ex (q : Rat) : ∃ t b, cn [q] = [t, b] ∧ 0 < b ∧ Rat.divInt t b = q := by
  obtain ⟨xs, b, h1, h2, _, h4⟩ := cn_ex [q]
  match xs, h4 with
  | [t], h4 =>
    refine ⟨t, b, h1, h2, ?_⟩
    simpa using h4
def dotQ (qs vs : List Rat) : Rat := ((qs.zip vs).map fun p => p.1 * p.2).foldl (· + ·) 0
theorem foldQ {ns : List Int} {c : Int} (hc : c ≠ 0) : ∀ {a : Int}, Rat.divInt (ns.foldl (· + ·) a) c = (ns.map fun n => Rat.divInt n c).foldl (· + ·) (Rat.divInt a c) := by
  induction ns with
  | nil => intro a; rfl
  | cons n ns ih =>
    intro a
    rw [List.foldl_cons, ih, List.map_cons, List.foldl_cons]
    congr 1
    rw [Rat.divInt_add_divInt _ _ hc hc, ← Int.add_mul, Rat.divInt_mul_right hc]
theorem zipD2 {xs ps : List Int} {b p : Int} : (xs.zip ps).map (fun z => Rat.divInt (z.1 * z.2) (b * p)) = ((xs.map fun x => Rat.divInt x b).zip (ps.map fun x => Rat.divInt x p)).map fun z => z.1 * z.2 := by
  induction xs generalizing ps with
  | nil => simp
  | cons x xs ih =>
    cases ps with
    | nil => simp
    | cons y ps =>
      simp only [List.map_cons, List.zip_cons_cons, ih]
      rw [Rat.divInt_mul_divInt]
theorem zipS2 {xs ys : List Int} {b c : Int} (hb : b ≠ 0) (hc : c ≠ 0) : ((xs.zip ys).map fun p => c * p.1 + b * p.2).map (fun z => Rat.divInt z (b * c)) = List.zipWith (· + ·) (xs.map fun x => Rat.divInt x b) (ys.map fun x => Rat.divInt x c) := by
  induction xs generalizing ys with
  | nil => simp
  | cons x xs ih =>
    cases ys with
    | nil => simp
    | cons y ys =>
      simp only [List.map_cons, List.zip_cons_cons, List.zipWith_cons_cons, ih]
      rw [Rat.divInt_add_divInt _ _ hb hc, Int.mul_comm c x, Int.mul_comm b y]
end Fx

set_option maxHeartbeats 4000000
/-! Fp5: rules of the later words: raise, hear, is, isinstance of other kinds; what stands at which place. -/
namespace Fx
open PySem (Str)
section
variable {C : Ev} {env : Env} {S : Store}
@[simp] theorem ex_raise {c : Str} {e : N} : exec C (.raise_ c e) env S = (ev C e env S).bind fun x S => .ex c x S := id rfl
theorem hear_ok {f : Str} {hs : List (Str × Str)} {e : N} {d : D} {S' : Store} (h : ev C e env S = .ok d S') : ev C (.hear f hs e) env S = .ok (.lst [d]) S' := by
  rw [ev, h]
theorem hear_ex {f c w : Str} {hs : List (Str × Str)} {e : N} {p : D} {S' : Store} (h : ev C e env S = .ex c p S') (hl : hs.lookup c = some w) : ev C (.hear f hs e) env S = .ok (.tup [.str w, p]) S' := by
  rw [ev, h]
  simp only [hl]
@[simp] theorem cmp_is {d : D} : cmpOp .is d .non = some (isNone d) := id rfl
@[simp] theorem isNone_non : isNone .non = true := id rfl
@[simp] theorem isNone_int {i : Int} : isNone (.int i) = false := id rfl
@[simp] theorem isTy_bl {b : Bool} {t : String} : isTy (.bl b) t = some (t == "bool" || t == "int") := id rfl
@[simp] theorem isTy_str {x : Str} {t : String} : isTy (.str x) t = some (t == "str") := id rfl
@[simp] theorem isTy_lst {xs : List D} {t : String} : isTy (.lst xs) t = some (t == "list") := id rfl
@[simp] theorem isTy_non {t : String} : isTy .non t = some (t == "NoneType") := id rfl
@[simp] theorem isTy_ref {n : Nat} {t : String} : isTy (.ref n) t = some (t == "dict") := id rfl
@[simp] theorem bi_all {xs : List D} : biOp .all [.lst xs] = (allD xs).map .bl := id rfl
@[simp] theorem cmp_mem {x : Str} {ys : List D} : cmpOp .mem (.str x) (.tup ys) = (strsD ys).map fun l => l.any (· == x) := id rfl
@[simp] theorem cmp_nin {x : Str} {ys : List D} : cmpOp .nin (.str x) (.tup ys) = (strsD ys).map fun l => !l.any (· == x) := id rfl
@[simp] theorem truthy_bl {b : Bool} : truthy (.bl b) = some b := id rfl
end
/-- each with its place -/
def prs : Nat → List D → List (Nat × D)
  | _, [] => []
  | i, d :: ds => (i, d) :: prs (i + 1) ds
def prD (p : Nat × D) : D := .tup [.int (p.1 : Int), p.2]
theorem prs_zip : ∀ {xs : List D} {i : Nat}, (List.range' i xs.length).zipWith (fun i d => D.tup [.int (i : Nat), d]) xs = (prs i xs).map prD
  | [], _ => rfl
  | d :: ds, i => by
    rw [List.length_cons, List.range'_succ, List.zipWith_cons_cons, prs_zip]
    rfl
theorem enum_prs {xs : List D} : enumD xs = (prs 0 xs).map prD := by
  unfold enumD
  rw [List.range_eq_range', prs_zip]
theorem prs_len : ∀ {xs : List D} {i : Nat}, (prs i xs).length = xs.length
  | [], _ => rfl
  | _ :: ds, i => by rw [prs, List.length_cons, prs_len, List.length_cons]
theorem prs_mem : ∀ {xs : List D} {i : Nat} {p : Nat × D}, p ∈ prs i xs → p.2 ∈ xs ∧ p.1 < i + xs.length
  | d :: ds, i, p, h => by
    rcases List.mem_cons.mp h with rfl | h
    · exact ⟨List.mem_cons_self, by simp⟩
    · obtain ⟨a, b⟩ := prs_mem h
      exact ⟨List.mem_cons_of_mem _ a, by rw [List.length_cons]; omega⟩
def isI : D → Bool
  | .int _ => true
  | _ => false
/-- the places of what is no integer -/
def odds (xs : List D) : List (Nat × D) := (prs 0 xs).filter fun p => !isI p.2
theorem ints_of : ∀ {xs : List D} {i : Nat}, (prs i xs).filter (fun p => !isI p.2) = [] → ∃ ns : List Int, xs = ns.map D.int
  | [], _, _ => ⟨[], rfl⟩
  | d :: ds, i, h => by
    rw [prs, List.filter_cons] at h
    cases d with
    | int z =>
      obtain ⟨ns, e⟩ := ints_of (xs := ds) (i := i + 1) (by simpa [isI] using h)
      exact ⟨z :: ns, by rw [e]; rfl⟩
    | _ => simp [isI] at h
end Fx

set_option maxHeartbeats 4000000
namespace K12
open PySem PySem.Spec PyProof.Rows L2 Fx
def top (i : Nat) : PySem.Stmt := PySem.Challenge.pw_everyfont_k12_systems_judged.main.body.getD i (.Pass ⟨0, 0, 0, 0⟩)
def n_is_integer : N := (.cons (.ret (.vand (.isi (.var 0) "int") (.vnot (.isi (.var 0) "bool")))) .nil)
def d_is_integer : Df := { name := "is_integer", qual := "is_integer", ps := ["value"], params := defArgs (top 7), body := defBody (top 7), scope := defScope (top 7), N := ["value"], F := ⟨1, 1, n_is_integer⟩ }
def n_sign_of : N := (.cons (.ifs (.cmp .eq (.var 0) (.cI 0)) (.cons (.ret (.cI 0)) .nil) .nil) (.cons (.ret (.ite (.cmp .gt (.var 0) (.cI 0)) (.cI 1) (.neg (.cI 1)))) .nil))
def d_sign_of : Df := { name := "sign_of", qual := "sign_of", ps := ["number"], params := defArgs (top 8), body := defBody (top 8), scope := defScope (top 8), N := ["number"], F := ⟨1, 1, n_sign_of⟩ }
def n_common_part : N := (.cons (.set 1 (.cI 0)) (.cons (.for_ (.tn 2) (.seq (.var 0)) (.cons (.set 1 (.bi .gcd (.cons (.var 1) (.cons (.var 2) .nil)))) .nil)) (.cons (.ret (.var 1)) .nil)))
def d_common_part : Df := { name := "common_part", qual := "common_part", ps := ["numbers"], params := defArgs (top 9), body := defBody (top 9), scope := defScope (top 9), N := ["numbers", "found", "number"], F := ⟨1, 3, n_common_part⟩ }
def n_first_odd : N := (.cons (.ifs (.tor (.tnot (.tv (.isi (.var 0) "tuple"))) (.cmp .ne (.bi .len (.cons (.var 0) .nil)) (.var 1))) (.cons (.ret (.neg (.cI 1))) .nil) .nil) (.cons (.for_ (.tt (.cons (.tn 2) (.cons (.tn 3) .nil))) (.enum (.var 0)) (.cons (.ifs (.tnot (.tv (.call "is_integer" (.cons (.var 3) .nil) .nil [0]))) (.cons (.ret (.var 2)) .nil) .nil) .nil)) (.cons (.ret .cN) .nil)))
def d_first_odd : Df := { name := "first_odd", qual := "first_odd", ps := ["value", "size"], params := defArgs (top 11), body := defBody (top 11), scope := defScope (top 11), N := ["value", "size", "place", "entry"], F := ⟨2, 4, n_first_odd⟩ }
def n_check_point : N := (.cons (.set 2 (.call "first_odd" (.cons (.var 1) (.cons (.bin .add (.var 0) (.cI 1)) .nil)) .nil [0, 1])) (.cons (.ifs (.cmp .isn (.var 2) .cN) (.cons (.raise_ "NotPoint" (.var 2)) .nil) .nil) (.cons (.ifs (.cmp .lt (.idx (.var 1) (.var 0)) (.cI 1)) (.cons (.raise_ "NotPoint" (.var 0)) .nil) .nil) (.cons (.ifs (.cmp .gt (.call "common_part" (.cons (.var 1) .nil) .nil [0]) (.cI 1)) (.cons (.raise_ "NotPoint" (.neg (.cI 2))) .nil) .nil) (.cons (.ret (.var 1)) .nil)))))
def d_check_point : Df := { name := "check_point", qual := "check_point", ps := ["size", "value"], params := defArgs (top 12), body := defBody (top 12), scope := defScope (top 12), N := ["size", "value", "place"], F := ⟨2, 3, n_check_point⟩ }
def n_check_row : N := (.cons (.set 2 (.call "first_odd" (.cons (.var 1) (.cons (.bin .add (.var 0) (.cI 2)) .nil)) .nil [0, 1])) (.cons (.ifs (.cmp .isn (.var 2) .cN) (.cons (.raise_ "NotRow" (.var 2)) .nil) .nil) (.cons (.ifs (.cmp .lt (.idx (.var 1) (.bin .add (.var 0) (.cI 1))) (.cI 1)) (.cons (.raise_ "NotRow" (.bin .add (.var 0) (.cI 1))) .nil) .nil) (.cons (.ifs (.cmp .gt (.call "common_part" (.cons (.var 1) .nil) .nil [0]) (.cI 1)) (.cons (.raise_ "NotRow" (.neg (.cI 2))) .nil) .nil) (.cons (.ret (.var 1)) .nil)))))
def d_check_row : Df := { name := "check_row", qual := "check_row", ps := ["size", "value"], params := defArgs (top 14), body := defBody (top 14), scope := defScope (top 14), N := ["size", "value", "place"], F := ⟨2, 3, n_check_row⟩ }
def n_total_at : N := (.cons (.ret (.bi .sum (.cons (.comp [("a", 2), ("x", 3)] (.bin .mul (.var 2) (.var 3)) (.tt (.cons (.tn 2) (.cons (.tn 3) .nil))) (.zip (.slc (.var 0) .nil (.cons (.neg (.cI 1)) .nil)) (.var 1)) .nil) .nil))) .nil)
def d_total_at : Df := { name := "total_at", qual := "total_at", ps := ["row", "point"], params := defArgs (top 15), body := defBody (top 15), scope := defScope (top 15), N := ["row", "point", "a", "x"], F := ⟨2, 4, n_total_at⟩ }
def n_row_sign : N := (.cons (.ret (.call "sign_of" (.cons (.call "total_at" (.cons (.var 0) (.cons (.var 1) .nil)) .nil [0, 1]) .nil) .nil [0])) .nil)
def d_row_sign : Df := { name := "row_sign", qual := "row_sign", ps := ["row", "point"], params := defArgs (top 16), body := defBody (top 16), scope := defScope (top 16), N := ["row", "point"], F := ⟨2, 2, n_row_sign⟩ }
def n_is_pair : N := (.cons (.ifs (.tor (.tnot (.tv (.isi (.var 1) "tuple"))) (.cmp .ne (.bi .len (.cons (.var 1) .nil)) (.cI 2))) (.cons (.ret (.cB false)) .nil) .nil) (.cons (.ifs (.tor (.tnot (.tv (.isi (.idx (.var 1) (.cI 0)) "str"))) (.cmp .nin (.idx (.var 1) (.cI 0)) (.cT ["ge", "gt", "eq"]))) (.cons (.ret (.cB false)) .nil) .nil) (.cons (.tryB (.cons (.expr (.call "check_row" (.cons (.var 0) (.cons (.idx (.var 1) (.cI 1)) .nil)) .nil [0, 1])) .nil) "NotRow" false) (.cons (.ret (.cB true)) .nil))))
def d_is_pair : Df := { name := "is_pair", qual := "is_pair", ps := ["count", "value"], params := defArgs (top 23), body := defBody (top 23), scope := defScope (top 23), N := ["count", "value"], F := ⟨2, 2, n_is_pair⟩ }
def n_check_system : N := (.cons (.ifs (.tor (.tnot (.tv (.isi (.var 1) "tuple"))) (.cmp .gt (.bi .len (.cons (.var 1) .nil)) (.cI 60))) (.cons (.raise_ "NotSystem" .cN) .nil) .nil) (.cons (.for_ (.tt (.cons (.tn 2) (.cons (.tn 3) .nil))) (.enum (.var 1)) (.cons (.ifs (.tnot (.tv (.call "is_pair" (.cons (.var 0) (.cons (.var 3) .nil)) .nil [0, 1]))) (.cons (.raise_ "NotSystem" (.var 2)) .nil) .nil) .nil)) (.cons (.ret (.var 1)) .nil)))
def d_check_system : Df := { name := "check_system", qual := "check_system", ps := ["count", "system"], params := defArgs (top 24), body := defBody (top 24), scope := defScope (top 24), N := ["count", "system", "number", "pair"], F := ⟨2, 4, n_check_system⟩ }
def n_does_hold : N := (.cons (.set 2 (.call "row_sign" (.cons (.idx (.var 0) (.cI 1)) (.cons (.var 1) .nil)) .nil [0, 1])) (.cons (.ifs (.cmp .eq (.idx (.var 0) (.cI 0)) (.cS "eq")) (.cons (.ret (.cmp .eq (.var 2) (.cI 0))) .nil) .nil) (.cons (.ret (.ite (.cmp .eq (.idx (.var 0) (.cI 0)) (.cS "gt")) (.cmp .gt (.var 2) (.cI 0)) (.cmp .ge (.var 2) (.cI 0)))) .nil)))
def d_does_hold : Df := { name := "does_hold", qual := "does_hold", ps := ["pair", "point"], params := defArgs (top 25), body := defBody (top 25), scope := defScope (top 25), N := ["pair", "point", "sign"], F := ⟨2, 3, n_does_hold⟩ }
def n_all_hold : N := (.cons (.ret (.bi .all (.cons (.comp [("pair", 2)] (.call "does_hold" (.cons (.var 2) (.cons (.var 1) .nil)) .nil [0, 1]) (.tn 2) (.seq (.var 0)) .nil) .nil))) .nil)
def d_all_hold : Df := { name := "all_hold", qual := "all_hold", ps := ["pairs", "point"], params := defArgs (top 26), body := defBody (top 26), scope := defScope (top 26), N := ["pairs", "point", "pair"], F := ⟨2, 3, n_all_hold⟩ }
def n_holds_all : N := (.cons (.expr (.call "check_system" (.cons (.var 0) (.cons (.var 1) .nil)) .nil [0, 1])) (.cons (.ret (.call "all_hold" (.cons (.var 1) (.cons (.call "check_point" (.cons (.var 0) (.cons (.var 2) .nil)) .nil [0, 1]) .nil)) .nil [0, 1])) .nil))
def d_holds_all : Df := { name := "holds_all", qual := "holds_all", ps := ["count", "system", "point"], params := defArgs (top 27), body := defBody (top 27), scope := defScope (top 27), N := ["count", "system", "point"], F := ⟨3, 3, n_holds_all⟩ }
def n_first_broken : N := (.cons (.expr (.call "check_system" (.cons (.var 0) (.cons (.var 1) .nil)) .nil [0, 1])) (.cons (.expr (.call "check_point" (.cons (.var 0) (.cons (.var 2) .nil)) .nil [0, 1])) (.cons (.for_ (.tt (.cons (.tn 3) (.cons (.tn 4) .nil))) (.enum (.var 1)) (.cons (.ifs (.tnot (.tv (.call "does_hold" (.cons (.var 4) (.cons (.var 2) .nil)) .nil [0, 1]))) (.cons (.ret (.var 3)) .nil) .nil) .nil)) (.cons (.ret .cN) .nil))))
def d_first_broken : Df := { name := "first_broken", qual := "first_broken", ps := ["count", "system", "point"], params := defArgs (top 28), body := defBody (top 28), scope := defScope (top 28), N := ["count", "system", "point", "number", "pair"], F := ⟨3, 5, n_first_broken⟩ }
def n__law_begun : N := (.cons (.set 2 (.bin .add (.slc (.var 0) (.cons (.var 1) .nil) .nil) (.slc (.var 0) .nil (.cons (.var 1) .nil)))) (.cons (.set 3 (.comp [("cell", 5)] (.var 5) (.tn 5) (.seq (.var 2)) (.cons (.cmp .ge (.var 5) (.bin .pow (.cI 10) (.cI 18))) .nil))) (.cons (.set 4 (.bin .add (.cI 91) (.var 1))) (.cons (.for_ (.tn 5) (.seq (.var 2)) (.cons (.set 4 (.bin .mod (.bi .int (.cons (.bin .add (.bin .mul (.var 4) (.cI 48271)) (.var 5)) .nil)) (.cI 2147483647))) .nil)) (.cons (.ret (.dct ["left", "seed", "cells", "spot"] (.cons (.ite (.cmp .ne (.var 3) (.lst .nil)) (.idx (.var 3) (.cI 0)) (.cI 0)) (.cons (.var 4) (.cons (.bin .add (.var 2) (.lst (.cons (.bin .add (.bin .mul (.cI 61) (.var 1)) (.cI 17)) .nil))) (.cons (.cI 0) .nil)))))) .nil)))))
def d__law_begun : Df := { name := "_law_begun", qual := "_law_begun", ps := ["script", "k"], params := defArgs (top 30), body := defBody (top 30), scope := defScope (top 30), N := ["script", "k", "cells", "great", "seed", "cell"], F := ⟨2, 6, n__law_begun⟩ }
def n__law_draw : N := (.cons (.ifs (.cmp .gt (.dget (.var 0) "left") (.cI 0)) (.cons (.set 5 (.bin .mod (.bi .int (.cons (.dget (.var 0) "left") .nil)) (.var 1))) (.cons (.dput (.var 0) "left" (.bin .fdiv (.dget (.var 0) "left") (.var 1))) (.cons (.ret (.var 5)) .nil))) .nil) (.cons (.set 2 (.dget (.var 0) "spot")) (.cons (.dput (.var 0) "spot" (.bin .add (.var 2) (.cI 1))) (.cons (.par 6 7 (.dget (.var 0) "cells") (.bin .add (.dget (.var 0) "seed") (.bin .mul (.bin .mul (.cI 40503) (.var 2)) (.var 2)))) (.cons (.set 3 (.idx (.var 6) (.bin .mod (.bi .int (.cons (.var 2) .nil)) (.bi .len (.cons (.var 6) .nil))))) (.cons (.set 4 (.bin .mod (.bi .int (.cons (.bin .add (.bin .mul (.var 3) (.bin .add (.bin .mul (.cI 2) (.var 2)) (.cI 3))) (.var 7)) .nil)) (.cI 2147483647))) (.cons (.set 4 (.bin .mod (.bi .int (.cons (.bin .add (.bin .add (.bin .mul (.var 4) (.var 4)) (.bin .mul (.cI 69621) (.var 2))) (.dget (.var 0) "seed")) .nil)) (.cI 2147483629))) (.cons (.ret (.bin .mod (.bin .fdiv (.bin .mod (.bi .int (.cons (.bin .add (.bin .mul (.var 4) (.cI 48271)) (.var 2)) .nil)) (.cI 2147483647)) (.cI 11)) (.var 1))) .nil))))))))
def d__law_draw : Df := { name := "_law_draw", qual := "_law_draw", ps := ["m", "bound"], params := defArgs (top 31), body := defBody (top 31), scope := defScope (top 31), N := ["m", "bound", "spot", "cell", "blend", "found", "cells", "extra"], F := ⟨2, 8, n__law_draw⟩ }
def n__law_of : N := (.cons (.ret (.idx (.pk 1) (.call "_law_draw" (.cons (.var 0) (.cons (.bi .len (.cons (.pk 1) .nil)) .nil)) .nil [0, 1]))) .nil)
def d__law_of : Df := { name := "_law_of", qual := "_law_of", ps := ["m", "some"], params := defArgs (top 32), body := defBody (top 32), scope := defScope (top 32), N := ["m", "some"], F := ⟨2, 2, n__law_of⟩ }
def n__law_like : N := (.cons (.ret (.cmp .eq (.bi .repr (.cons (.pk 0) .nil)) (.bi .repr (.cons (.pk 1) .nil)))) .nil)
def d__law_like : Df := { name := "_law_like", qual := "_law_like", ps := ["told", "due"], params := defArgs (top 33), body := defBody (top 33), scope := defScope (top 33), N := ["told", "due"], F := ⟨2, 2, n__law_like⟩ }
def n__law_common : N := (.cons (.set 1 (.cI 0)) (.cons (.for_ (.tn 2) (.seq (.var 0)) (.cons (.set 3 (.bi .abs (.cons (.var 2) .nil))) (.cons (.whl (.cmp .ne (.var 3) (.cI 0)) (.cons (.par 1 3 (.var 3) (.bin .mod (.bi .int (.cons (.var 1) .nil)) (.var 3))) .nil)) .nil))) (.cons (.ret (.var 1)) .nil)))
def d__law_common : Df := { name := "_law_common", qual := "_law_common", ps := ["numbers"], params := defArgs (top 34), body := defBody (top 34), scope := defScope (top 34), N := ["numbers", "found", "number", "remnant"], F := ⟨1, 4, n__law_common⟩ }
def n__law_lowered : N := (.cons (.set 1 (.call "_law_common" (.cons (.var 0) .nil) .nil [0])) (.cons (.ret (.ite (.cmp .gt (.var 1) (.cI 1)) (.bi .tuple (.cons (.comp [("number", 2)] (.bin .fdiv (.var 2) (.var 1)) (.tn 2) (.seq (.var 0)) .nil) .nil)) (.bi .tuple (.cons (.var 0) .nil)))) .nil))
def d__law_lowered : Df := { name := "_law_lowered", qual := "_law_lowered", ps := ["numbers"], params := defArgs (top 35), body := defBody (top 35), scope := defScope (top 35), N := ["numbers", "whole", "number"], F := ⟨1, 3, n__law_lowered⟩ }
def n__law_point : N := (.cons (.set 2 (.ite (.cmp .gt (.var 1) (.cI 0)) (.cI 1) (.neg (.cI 1)))) (.cons (.ret (.call "_law_lowered" (.cons (.bin .add (.comp [("number", 3)] (.bin .mul (.var 2) (.var 3)) (.tn 3) (.seq (.var 0)) .nil) (.lst (.cons (.bin .mul (.var 2) (.var 1)) .nil))) .nil) .nil [0])) .nil))
def d__law_point : Df := { name := "_law_point", qual := "_law_point", ps := ["numbers", "bottom"], params := defArgs (top 36), body := defBody (top 36), scope := defScope (top 36), N := ["numbers", "bottom", "sign", "number"], F := ⟨2, 4, n__law_point⟩ }
def n__law_rowed : N := (.cons (.set 2 (.ite (.cmp .gt (.var 1) (.cI 0)) (.cI 1) (.neg (.cI 1)))) (.cons (.ret (.call "_law_lowered" (.cons (.bin .add (.comp [("number", 3)] (.bin .mul (.var 2) (.var 3)) (.tn 3) (.seq (.var 0)) .nil) (.lst (.cons (.bin .mul (.var 2) (.var 1)) .nil))) .nil) .nil [0])) .nil))
def d__law_rowed : Df := { name := "_law_rowed", qual := "_law_rowed", ps := ["numbers", "bottom"], params := defArgs (top 37), body := defBody (top 37), scope := defScope (top 37), N := ["numbers", "bottom", "sign", "number"], F := ⟨2, 4, n__law_rowed⟩ }
def n__law_total : N := (.cons (.ret (.bi .sum (.cons (.comp [("one", 2), ("other", 3)] (.bin .mul (.var 2) (.var 3)) (.tt (.cons (.tn 2) (.cons (.tn 3) .nil))) (.zip (.slc (.var 0) .nil (.cons (.neg (.cI 1)) .nil)) (.var 1)) .nil) .nil))) .nil)
def d__law_total : Df := { name := "_law_total", qual := "_law_total", ps := ["row", "point_so"], params := defArgs (top 38), body := defBody (top 38), scope := defScope (top 38), N := ["row", "point_so", "one", "other"], F := ⟨2, 4, n__law_total⟩ }
def n__law_drawn_row : N := (.cons (.setO 3 (.comp [("k", 4)] (.bin .sub (.call "_law_draw" (.cons (.var 0) (.cons (.bin .add (.bin .mul (.cI 2) (.var 2)) (.cI 1)) .nil)) .nil [0, 1]) (.var 2)) (.tn 4) (.rng1 (.bin .add (.var 1) (.cI 1))) .nil)) (.cons (.ifs (.cmp .eq (.comp [("number", 5)] (.var 5) (.tn 5) (.seq (.slc (.pk 3) .nil (.cons (.neg (.cI 1)) .nil))) (.cons (.cmp .ne (.var 5) (.cI 0)) .nil)) (.lst .nil)) (.cons (.lput 3 (.call "_law_draw" (.cons (.var 0) (.cons (.var 1) .nil)) .nil [0, 1]) (.cI 1)) .nil) .nil) (.cons (.frz 3) (.cons (.ret (.call "_law_rowed" (.cons (.var 3) (.cons (.call "_law_of" (.cons (.var 0) (.cons (.lst (.cons (.cI 1) (.cons (.cI 1) (.cons (.cI 1) (.cons (.cI 2) (.cons (.cI 3) .nil)))))) .nil)) .nil [0, 1]) .nil)) .nil [0, 1])) .nil))))
def d__law_drawn_row : Df := { name := "_law_drawn_row", qual := "_law_drawn_row", ps := ["m", "size", "span"], params := defArgs (top 39), body := defBody (top 39), scope := defScope (top 39), N := ["m", "size", "span", "numbers", "k", "number"], F := ⟨3, 6, n__law_drawn_row⟩ }
def n__law_system : N := (.cons (.setO 3 (.lst .nil)) (.cons (.for_ (.tn 4) (.rng1 (.var 2)) (.cons (.par 5 6 (.call "_law_drawn_row" (.cons (.var 0) (.cons (.var 1) (.cons (.cI 2) .nil))) .nil [0, 1, 2]) (.call "_law_draw" (.cons (.var 0) (.cons (.cI 8) .nil)) .nil [0, 1])) (.cons (.ifs (.tand (.cmp .eq (.var 6) (.cI 0)) (.cmp .ne (.pk 3) (.lst .nil))) (.cons (.set 5 (.idx (.callB "_law_of" (.cons (.var 0) (.cons (.pk 3) .nil))) (.cI 1))) (.cons (.set 5 (.call "_law_rowed" (.cons (.bin .add (.comp [("number", 9)] (.neg (.var 9)) (.tn 9) (.seq (.slc (.var 5) .nil (.cons (.neg (.cI 2)) .nil))) .nil) (.lst (.cons (.bin .sub (.call "_law_draw" (.cons (.var 0) (.cons (.cI 5) .nil)) .nil [0, 1]) (.cI 2)) .nil))) (.cons (.cI 1) .nil)) .nil [0, 1])) .nil)) .nil) (.cons (.ifs (.tand (.cmp .eq (.var 6) (.cI 1)) (.cmp .ne (.pk 3) (.lst .nil))) (.cons (.par 7 8 (.idx (.callB "_law_of" (.cons (.var 0) (.cons (.pk 3) .nil))) (.cI 1)) (.idx (.callB "_law_of" (.cons (.var 0) (.cons (.pk 3) .nil))) (.cI 1))) (.cons (.set 5 (.call "_law_rowed" (.cons (.comp [("a", 10), ("b", 11)] (.bin .add (.var 10) (.bin .mul (.call "_law_of" (.cons (.var 0) (.cons (.lst (.cons (.neg (.cI 1)) (.cons (.cI 1) (.cons (.cI 2) .nil)))) .nil)) .nil [0, 1]) (.var 11))) (.tt (.cons (.tn 10) (.cons (.tn 11) .nil))) (.zip (.slc (.var 7) .nil (.cons (.neg (.cI 1)) .nil)) (.slc (.var 8) .nil (.cons (.neg (.cI 1)) .nil))) .nil) (.cons (.cI 1) .nil)) .nil [0, 1])) .nil)) .nil) (.cons (.ifs (.cmp .eq (.var 6) (.cI 2)) (.cons (.set 5 (.call "_law_rowed" (.cons (.bin .add (.bin .mul (.lst (.cons (.cI 0) .nil)) (.var 1)) (.lst (.cons (.bin .sub (.call "_law_draw" (.cons (.var 0) (.cons (.cI 4) .nil)) .nil [0, 1]) (.cI 1)) .nil))) (.cons (.cI 2) .nil)) .nil [0, 1])) .nil) .nil) (.cons (.app 3 (.tup (.cons (.call "_law_of" (.cons (.var 0) (.cons (.lst (.cons (.cS "ge") (.cons (.cS "ge") (.cons (.cS "gt") (.cons (.cS "gt") (.cons (.cS "eq") .nil)))))) .nil)) .nil [0, 1]) (.cons (.var 5) .nil)))) .nil)))))) (.cons (.ret (.bi .tuple (.cons (.pk 3) .nil))) .nil)))
def d__law_system : Df := { name := "_law_system", qual := "_law_system", ps := ["m", "count_so", "many"], params := defArgs (top 40), body := defBody (top 40), scope := defScope (top 40), N := ["m", "count_so", "many", "found", "k", "row", "way", "near", "far", "number", "a", "b"], F := ⟨3, 12, n__law_system⟩ }
def n__law_stands : N := (.cons (.ret (.ite (.cmp .eq (.var 0) (.cS "eq")) (.cmp .eq (.var 1) (.cI 0)) (.ite (.cmp .eq (.var 0) (.cS "gt")) (.cmp .gt (.var 1) (.cI 0)) (.cmp .ge (.var 1) (.cI 0))))) .nil)
def d__law_stands : Df := { name := "_law_stands", qual := "_law_stands", ps := ["word", "number"], params := defArgs (top 41), body := defBody (top 41), scope := defScope (top 41), N := ["word", "number"], F := ⟨2, 2, n__law_stands⟩ }
def n__law_bent : N := (.cons (.set 3 (.bin .add (.bin .mul (.tup (.cons (.cI 0) .nil)) (.var 1)) (.tup (.cons (.cI 1) (.cons (.cI 1) .nil))))) (.cons (.setO 4 (.lst (.cons .cN (.cons (.tup .nil) (.cons (.tup (.cons (.cS "ge") .nil)) (.cons (.tup (.cons (.cS "lt") (.cons (.var 3) .nil))) (.cons (.lst (.cons (.cS "ge") (.cons (.var 3) .nil))) (.cons (.tup (.cons (.cS "ge") (.cons (.slc (.var 3) (.cons (.cI 1) .nil) .nil) .nil))) (.cons (.tup (.cons (.cS "eq") (.cons (.bi .list (.cons (.var 3) .nil)) .nil))) (.cons (.tup (.cons (.cI 5) (.cons (.var 3) .nil))) (.cons (.tup (.cons (.cS "gt") (.cons .cN .nil))) .nil))))))))))) (.cons (.setO 4 (.bin .add (.pk 4) (.lst (.cons (.tup (.cons (.cS "ge") (.cons (.bin .add (.tup (.cons (.cB true) .nil)) (.slc (.var 3) (.cons (.cI 1) .nil) .nil)) .nil))) (.cons (.tup (.cons (.cS "ge") (.cons (.bin .add (.slc (.var 3) .nil (.cons (.neg (.cI 1)) .nil)) (.tup (.cons (.cI 0) .nil))) .nil))) (.cons (.tup (.cons (.cS "ge") (.cons (.bin .add (.slc (.var 3) .nil (.cons (.neg (.cI 1)) .nil)) (.tup (.cons (.neg (.cI 1)) .nil))) .nil))) .nil)))))) (.cons (.app 4 (.tup (.cons (.cS "gt") (.cons (.bin .add (.slc (.var 3) .nil (.cons (.neg (.cI 2)) .nil)) (.tup (.cons (.cI 2) (.cons (.cI 2) .nil)))) .nil)))) (.cons (.setO 4 (.bin .add (.pk 4) (.lst (.cons (.tup (.cons (.cS "ge") (.cons (.bin .add (.slc (.var 3) .nil (.cons (.neg (.cI 1)) .nil)) (.tup (.cons (.cS "1") .nil))) .nil))) (.cons (.tup (.cons (.cS "ge") (.cons (.var 3) (.cons (.var 3) .nil)))) (.cons (.tup (.cons (.lst (.cons (.cS "ge") .nil)) (.cons (.var 3) .nil))) .nil)))))) (.cons (.par 6 7 (.call "_law_draw" (.cons (.var 0) (.cons (.cI 5) .nil)) .nil [0, 1]) (.call "_law_draw" (.cons (.var 0) (.cons (.bin .add (.bi .len (.cons (.var 2) .nil)) (.cI 1)) .nil)) .nil [0, 1])) (.cons (.ifs (.cmp .eq (.var 6) (.cI 0)) (.cons (.ret (.tup (.cons (.call "_law_of" (.cons (.var 0) (.cons (.lst (.cons .cN (.cons (.bi .list (.cons (.var 2) .nil)) (.cons (.dct [] .nil) (.cons (.cS "ge") (.cons (.bin .mul (.tup (.cons (.tup (.cons (.cS "ge") (.cons (.var 3) .nil))) .nil)) (.cI 61)) .nil)))))) .nil)) .nil [0, 1]) (.cons .cN .nil)))) .nil) .nil) (.cons (.frz 4) (.cons (.set 5 (.bin .add (.bin .add (.slc (.var 2) .nil (.cons (.var 7) .nil)) (.tup (.cons (.call "_law_of" (.cons (.var 0) (.cons (.var 4) .nil)) .nil [0, 1]) .nil))) (.slc (.var 2) (.cons (.var 7) .nil) .nil))) (.cons (.frz 4) (.cons (.ret (.tup (.cons (.ite (.cmp .eq (.var 6) (.cI 1)) (.bin .add (.var 5) (.tup (.cons (.call "_law_of" (.cons (.var 0) (.cons (.var 4) .nil)) .nil [0, 1]) .nil))) (.var 5)) (.cons (.var 7) .nil)))) .nil)))))))))))
def d__law_bent : Df := { name := "_law_bent", qual := "_law_bent", ps := ["m", "count_so", "system_so"], params := defArgs (top 44), body := defBody (top 44), scope := defScope (top 44), N := ["m", "count_so", "system_so", "none", "odd", "found", "way", "spot"], F := ⟨3, 8, n__law_bent⟩ }
def n__law_systems_right : N := (.cons (.ifs (.tnot (.tv (.call "_law_like" (.cons (.lst (.cons (.call "check_system" (.cons (.var 1) (.cons (.var 2) .nil)) .nil [0, 1]) (.cons (.call "check_system" .nil (.cons (.var 2) (.cons (.var 1) .nil)) [1, 0]) .nil))) (.cons (.lst (.cons (.var 2) (.cons (.var 2) .nil))) .nil)) .nil [0, 1]))) (.cons (.ret (.cB false)) .nil) .nil) (.cons (.unp (.tt (.cons (.tn 6) (.cons (.tn 7) .nil))) (.call "_law_bent" (.cons (.var 0) (.cons (.var 1) (.cons (.var 2) .nil))) .nil [0, 1, 2])) (.cons (.setO 3 (.lst (.cons (.hear "_law_told" [("NotSystem", "system"), ("NotPoint", "point")] (.call "check_system" (.cons (.var 1) (.cons (.var 6) .nil)) .nil [0, 1])) (.cons (.hear "_law_told" [("NotSystem", "system"), ("NotPoint", "point")] (.call "holds_all" (.cons (.var 1) (.cons (.var 6) (.cons .cN .nil))) .nil [0, 1, 2])) .nil)))) (.cons (.app 3 (.hear "_law_told" [("NotSystem", "system"), ("NotPoint", "point")] (.call "first_broken" (.cons (.var 1) (.cons (.var 6) (.cons .cN .nil))) .nil [0, 1, 2]))) (.cons (.ifs (.cmp .ne (.pk 3) (.bin .mul (.lst (.cons (.tup (.cons (.cS "system") (.cons (.var 7) .nil))) .nil)) (.cI 3))) (.cons (.ret (.cB false)) .nil) .nil) (.cons (.for_ (.tn 4) (.rng1 (.cI 3)) (.cons (.set 8 (.call "_law_point" (.cons (.comp [("k", 11)] (.bin .sub (.call "_law_draw" (.cons (.var 0) (.cons (.cI 9) .nil)) .nil [0, 1]) (.cI 4)) (.tn 11) (.rng1 (.var 1)) .nil) (.cons (.bin .add (.cI 1) (.call "_law_draw" (.cons (.var 0) (.cons (.cI 3) .nil)) .nil [0, 1])) .nil)) .nil [0, 1])) (.cons (.set 9 (.comp [("k", 11), ("word", 12), ("row", 13)] (.var 11) (.tt (.cons (.tn 11) (.cons (.tt (.cons (.tn 12) (.cons (.tn 13) .nil))) .nil))) (.enum (.var 2)) (.cons (.tnot (.tv (.call "_law_stands" (.cons (.var 12) (.cons (.call "_law_total" (.cons (.var 13) (.cons (.var 8) .nil)) .nil [0, 1]) .nil)) .nil [0, 1]))) .nil))) (.cons (.setO 3 (.lst (.cons (.call "holds_all" .nil (.cons (.var 8) (.cons (.var 2) (.cons (.var 1) .nil))) [2, 1, 0]) .nil))) (.cons (.app 3 (.call "first_broken" .nil (.cons (.var 8) (.cons (.var 2) (.cons (.var 1) .nil))) [2, 1, 0])) (.cons (.ifs (.tnot (.tv (.callB "_law_like" (.cons (.pk 3) (.cons (.lst (.cons (.cmp .eq (.var 9) (.lst .nil)) (.cons (.ite (.cmp .ne (.var 9) (.lst .nil)) (.idx (.var 9) (.cI 0)) .cN) .nil))) .nil))))) (.cons (.ret (.cB false)) .nil) .nil) .nil)))))) (.cons (.set 5 (.lst (.cons (.tup (.cons .cN (.cons (.neg (.cI 1)) .nil))) (.cons (.tup (.cons (.slc (.var 8) .nil (.cons (.neg (.cI 1)) .nil)) (.cons (.neg (.cI 1)) .nil))) (.cons (.tup (.cons (.bi .list (.cons (.var 8) .nil)) (.cons (.neg (.cI 1)) .nil))) (.cons (.tup (.cons (.bin .add (.slc (.var 8) .nil (.cons (.neg (.cI 1)) .nil)) (.tup (.cons (.cI 0) .nil))) (.cons (.var 1) .nil))) (.cons (.tup (.cons (.bin .add (.slc (.var 8) .nil (.cons (.neg (.cI 1)) .nil)) (.tup (.cons (.cB true) .nil))) (.cons (.var 1) .nil))) .nil))))))) (.cons (.unp (.tt (.cons (.tn 6) (.cons (.tn 10) .nil))) (.call "_law_of" (.cons (.var 0) (.cons (.var 5) .nil)) .nil [0, 1])) (.cons (.setO 3 (.lst (.cons (.hear "_law_told" [("NotSystem", "system"), ("NotPoint", "point")] (.call "first_broken" (.cons (.var 1) (.cons (.var 2) (.cons (.var 6) .nil))) .nil [0, 1, 2])) (.cons (.hear "_law_told" [("NotSystem", "system"), ("NotPoint", "point")] (.call "holds_all" (.cons (.var 1) (.cons (.var 2) (.cons (.var 6) .nil))) .nil [0, 1, 2])) .nil)))) (.cons (.ret (.cmp .eq (.pk 3) (.bin .mul (.lst (.cons (.tup (.cons (.cS "point") (.cons (.var 10) .nil))) .nil)) (.cI 2)))) .nil))))))))))
def d__law_systems_right : Df := { name := "_law_systems_right", qual := "_law_systems_right", ps := ["m", "count_so", "system_so"], params := defArgs (top 45), body := defBody (top 45), scope := defScope (top 45), N := ["m", "count_so", "system_so", "told", "turn", "some", "odd", "number", "point_so", "faults", "place", "k", "word", "row"], F := ⟨3, 14, n__law_systems_right⟩, lam := true }
def n_law : N := (.cons (.for_ (.tn 1) (.rng1 (.bin .add (.cI 2) (.bi .min (.cons (.cI 3) (.cons (.bi .len (.cons (.var 0) .nil)) .nil))))) (.cons (.set 6 (.call "_law_begun" (.cons (.var 0) (.cons (.var 1) .nil)) .nil [0, 1])) (.cons (.set 7 (.bin .add (.cI 1) (.call "_law_draw" (.cons (.var 6) (.cons (.cI 6) .nil)) .nil [0, 1]))) (.cons (.for_ (.tn 8) (.seq (.tup (.cons (.cI 3) (.cons (.cI 8) .nil)))) (.cons (.ifs (.tnot (.tv (.call "_law_systems_right" (.cons (.var 6) (.cons (.var 7) (.cons (.call "_law_system" (.cons (.var 6) (.cons (.var 7) (.cons (.call "_law_draw" (.cons (.var 6) (.cons (.var 8) .nil)) .nil [0, 1]) .nil))) .nil [0, 1, 2]) .nil))) .nil [0, 1, 2]))) (.cons (.ret (.cB false)) .nil) .nil) .nil)) .nil)))) (.cons (.set 2 (.bin .mul (.tup (.cons (.tup (.cons (.cS "ge") (.cons (.tup (.cons (.cI 0) (.cons (.cI 0) (.cons (.cI 1) .nil)))) .nil))) .nil)) (.cI 60))) (.cons (.set 3 (.tup (.cons (.tup (.cons (.cS "eq") (.cons (.bin .add (.bin .mul (.tup (.cons (.cI 0) .nil)) (.cI 23)) (.tup (.cons (.cI 3) (.cons (.neg (.cI 1)) (.cons (.cI 2) .nil))))) .nil))) .nil))) (.cons (.setO 4 (.lst (.cons (.hear "_law_told" [("NotSystem", "system"), ("NotPoint", "point")] (.cmp .eq (.call "check_system" (.cons (.cI 1) (.cons (.var 2) .nil)) .nil [0, 1]) (.var 2))) (.cons (.hear "_law_told" [("NotSystem", "system"), ("NotPoint", "point")] (.call "check_system" (.cons (.cI 1) (.cons (.bin .add (.var 2) (.slc (.var 2) .nil (.cons (.cI 1) .nil))) .nil)) .nil [0, 1])) .nil)))) (.cons (.app 4 (.hear "_law_told" [("NotSystem", "system"), ("NotPoint", "point")] (.call "holds_all" (.cons (.cI 24) (.cons (.var 3) (.cons (.bin .add (.bin .mul (.tup (.cons (.cI 0) .nil)) (.cI 23)) (.tup (.cons (.cI 1) (.cons (.cI 3) .nil)))) .nil))) .nil [0, 1, 2]))) (.cons (.app 4 (.hear "_law_told" [("NotSystem", "system"), ("NotPoint", "point")] (.cmp .eq (.call "check_system" (.cons (.cI 24) (.cons (.var 3) .nil)) .nil [0, 1]) (.var 3)))) (.cons (.app 4 (.hear "_law_told" [("NotSystem", "system"), ("NotPoint", "point")] (.call "check_system" (.cons (.cI 1) (.cons (.tup (.cons (.tup (.cons (.cS "eq") (.cons (.tup (.cons (.cI 1) (.cons (.cI 0) (.cons (.cI 1) .nil)))) .nil))) (.cons .cN .nil))) .nil)) .nil [0, 1]))) (.cons (.set 5 (.lst (.cons (.lst (.cons (.cB true) .nil)) (.cons (.tup (.cons (.cS "system") (.cons .cN .nil))) (.cons (.lst (.cons (.cB true) .nil)) (.cons (.lst (.cons (.cB true) .nil)) (.cons (.tup (.cons (.cS "system") (.cons (.cI 1) .nil))) .nil))))))) (.cons (.frz 4) (.cons (.ret (.call "_law_like" (.cons (.var 4) (.cons (.var 5) .nil)) .nil [0, 1])) .nil))))))))))
def d_law : Df := { name := "law", qual := "law", ps := ["script"], params := defArgs (top 46), body := defBody (top 46), scope := defScope (top 46), N := ["script", "turn", "wide", "long", "told", "due", "m", "count_so", "many"], F := ⟨1, 9, n_law⟩, lam := true }
def d__law_told : Hd := { name := "_law_told", qual := "_law_told", params := defArgs (top 43), body := defBody (top 43), scope := defScope (top 43), a := "call", n := "error", hs := [("NotSystem", "system"), ("NotPoint", "point")], fo := some "found" }
def hds : List Hd := [d__law_told]
def excs : List (PySem.Str × PySem.Str) := [("NotPoint", "place"), ("NotRow", "place"), ("NotSystem", "number")]
def cons : Cn := { ci := [("MOST_PAIRS", 60)], cs := [("ABOVE", "gt"), ("EVEN", "eq")], ct := [("WORDS", ["ge", "gt", "eq"])] }
def lams : List PySem.Str := ["_law_systems_right", "law"]
def defs : List Df := [d_is_integer, d_sign_of, d_common_part, d_first_odd, d_check_point, d_check_row, d_total_at, d_row_sign, d_is_pair, d_check_system, d_does_hold, d_all_hold, d_holds_all, d_first_broken, d__law_begun, d__law_draw, d__law_of, d__law_like, d__law_common, d__law_lowered, d__law_point, d__law_rowed, d__law_total, d__law_drawn_row, d__law_system, d__law_stands, d__law_bent, d__law_systems_right, d_law]
def free : List PySem.Str := ["abs", "all", "bool", "enumerate", "int", "isinstance", "len", "list", "min", "range", "repr", "str", "sum", "tuple", "zip"]
def isGcd : Bool := true
/-- the defs by name -/
def tab : Tab := fun x => (defs.find? fun d => decide (d.name = x)).map (·.F)
end K12

set_option maxHeartbeats 4000000
namespace K12
open Fx
theorem nd : (defs.map (·.name)).Nodup := by decide +kernel
abbrev T : Tab := tabOf defs
theorem T_is_integer : T "is_integer" = some ⟨1, 1, n_is_integer⟩ := tab_of nd (d := d_is_integer) (List.mem_of_getElem? (i := 0) rfl)
theorem T_sign_of : T "sign_of" = some ⟨1, 1, n_sign_of⟩ := tab_of nd (d := d_sign_of) (List.mem_of_getElem? (i := 1) rfl)
theorem T_common_part : T "common_part" = some ⟨1, 3, n_common_part⟩ := tab_of nd (d := d_common_part) (List.mem_of_getElem? (i := 2) rfl)
theorem T_first_odd : T "first_odd" = some ⟨2, 4, n_first_odd⟩ := tab_of nd (d := d_first_odd) (List.mem_of_getElem? (i := 3) rfl)
theorem T_check_point : T "check_point" = some ⟨2, 3, n_check_point⟩ := tab_of nd (d := d_check_point) (List.mem_of_getElem? (i := 4) rfl)
theorem T_check_row : T "check_row" = some ⟨2, 3, n_check_row⟩ := tab_of nd (d := d_check_row) (List.mem_of_getElem? (i := 5) rfl)
theorem T_total_at : T "total_at" = some ⟨2, 4, n_total_at⟩ := tab_of nd (d := d_total_at) (List.mem_of_getElem? (i := 6) rfl)
theorem T_row_sign : T "row_sign" = some ⟨2, 2, n_row_sign⟩ := tab_of nd (d := d_row_sign) (List.mem_of_getElem? (i := 7) rfl)
theorem T_is_pair : T "is_pair" = some ⟨2, 2, n_is_pair⟩ := tab_of nd (d := d_is_pair) (List.mem_of_getElem? (i := 8) rfl)
theorem T_check_system : T "check_system" = some ⟨2, 4, n_check_system⟩ := tab_of nd (d := d_check_system) (List.mem_of_getElem? (i := 9) rfl)
theorem T_does_hold : T "does_hold" = some ⟨2, 3, n_does_hold⟩ := tab_of nd (d := d_does_hold) (List.mem_of_getElem? (i := 10) rfl)
theorem T_all_hold : T "all_hold" = some ⟨2, 3, n_all_hold⟩ := tab_of nd (d := d_all_hold) (List.mem_of_getElem? (i := 11) rfl)
theorem T_holds_all : T "holds_all" = some ⟨3, 3, n_holds_all⟩ := tab_of nd (d := d_holds_all) (List.mem_of_getElem? (i := 12) rfl)
theorem T_first_broken : T "first_broken" = some ⟨3, 5, n_first_broken⟩ := tab_of nd (d := d_first_broken) (List.mem_of_getElem? (i := 13) rfl)
theorem T__law_begun : T "_law_begun" = some ⟨2, 6, n__law_begun⟩ := tab_of nd (d := d__law_begun) (List.mem_of_getElem? (i := 14) rfl)
theorem T__law_draw : T "_law_draw" = some ⟨2, 8, n__law_draw⟩ := tab_of nd (d := d__law_draw) (List.mem_of_getElem? (i := 15) rfl)
theorem T__law_of : T "_law_of" = some ⟨2, 2, n__law_of⟩ := tab_of nd (d := d__law_of) (List.mem_of_getElem? (i := 16) rfl)
theorem T__law_like : T "_law_like" = some ⟨2, 2, n__law_like⟩ := tab_of nd (d := d__law_like) (List.mem_of_getElem? (i := 17) rfl)
theorem T__law_common : T "_law_common" = some ⟨1, 4, n__law_common⟩ := tab_of nd (d := d__law_common) (List.mem_of_getElem? (i := 18) rfl)
theorem T__law_lowered : T "_law_lowered" = some ⟨1, 3, n__law_lowered⟩ := tab_of nd (d := d__law_lowered) (List.mem_of_getElem? (i := 19) rfl)
theorem T__law_point : T "_law_point" = some ⟨2, 4, n__law_point⟩ := tab_of nd (d := d__law_point) (List.mem_of_getElem? (i := 20) rfl)
theorem T__law_rowed : T "_law_rowed" = some ⟨2, 4, n__law_rowed⟩ := tab_of nd (d := d__law_rowed) (List.mem_of_getElem? (i := 21) rfl)
theorem T__law_total : T "_law_total" = some ⟨2, 4, n__law_total⟩ := tab_of nd (d := d__law_total) (List.mem_of_getElem? (i := 22) rfl)
theorem T__law_drawn_row : T "_law_drawn_row" = some ⟨3, 6, n__law_drawn_row⟩ := tab_of nd (d := d__law_drawn_row) (List.mem_of_getElem? (i := 23) rfl)
theorem T__law_system : T "_law_system" = some ⟨3, 12, n__law_system⟩ := tab_of nd (d := d__law_system) (List.mem_of_getElem? (i := 24) rfl)
theorem T__law_stands : T "_law_stands" = some ⟨2, 2, n__law_stands⟩ := tab_of nd (d := d__law_stands) (List.mem_of_getElem? (i := 25) rfl)
theorem T__law_bent : T "_law_bent" = some ⟨3, 8, n__law_bent⟩ := tab_of nd (d := d__law_bent) (List.mem_of_getElem? (i := 26) rfl)
theorem T__law_systems_right : T "_law_systems_right" = some ⟨3, 14, n__law_systems_right⟩ := tab_of nd (d := d__law_systems_right) (List.mem_of_getElem? (i := 27) rfl)
theorem T_law : T "law" = some ⟨1, 9, n_law⟩ := tab_of nd (d := d_law) (List.mem_of_getElem? (i := 28) rfl)
end K12

set_option maxHeartbeats 4000000
namespace K12
open Fx
open PySem (Str)
variable {wf k : Nat} {S : Store}
theorem s_is_integer (n : Int) : callF T wf (k + 1) "is_integer" [.int n] S = .ok (.bl true) S := by
  rw [call_step T_is_integer rfl]
  simp [n_is_integer, startE]
theorem l_common {C : Ev} (v : Sl) : ∀ (ns : List Int) (g : Nat) (x : Sl), ∃ y, forL (forF C (.tn 2) (.cons (.set 1 (.bi .gcd (.cons (.var 1) (.cons (.var 2) .nil)))) .nil)) (ns.map D.int) [v, .val (.int (g : Int)), x] S = .ok (.nx [v, .val (.int (gcdF g ns : Nat)), y]) S
  | [], g, x => ⟨x, rfl⟩
  | n :: ns, g, x => by
    obtain ⟨y, h⟩ := l_common (C := C) v ns (Nat.gcd g n.natAbs) (.val (.int n))
    refine ⟨y, ?_⟩
    rw [List.map_cons, forL_cons]
    simp [forF]
    exact h
theorem s_common_part {d : D} {ns : List Int} (h : seqD d = some (ns.map D.int)) : callF T wf (k + 1) "common_part" [d] S = .ok (.int (gcdL ns : Nat)) S := by
  rw [call_step T_common_part rfl]
  obtain ⟨y, e⟩ := l_common (C := ⟨callF T wf k, callM T wf k true, wf⟩) (S := S) (.val d) ns 0 .un
  simp [n_common_part, startE, h]
  rw [show (0 : Int) = ((0 : Nat) : Int) from rfl, e]
  simp [gcdL]
theorem c_low {C : Ev} {env : Env} {ns : List Int} {own : List (Str × Nat)} {i j g m : Nat} (hi : i < (wipeE env own).length) (hij : i ≠ j) (hj : (wipeE env own)[j]? = some (.val (.int (g : Int)))) (hg : 0 < g) (hb : Bd m (g : Int)) (hm : m ≤ 8000) (hl : ns.length ≤ lim) :
    compL (compF C own (.bin .fdiv (.var i) (.var j)) (.tn i) .nil env) (ns.map D.int) [] S = .ok (ns.map fun n => D.int (n.fdiv g)) S := by
  have := compL_map (emb := D.int) (g := fun n : Int => D.int (n.fdiv g)) (f := compF C own (.bin .fdiv (.var i) (.var j)) (.tn i) .nil env) (S := S) (l := ns) (acc := []) (fun n _ => ?_) (by simpa using hl)
  · simpa using this
  · have h1 : ((wipeE env own).set i (.val (.int n)))[i]? = some (.val (.int n)) := List.getElem?_set_self hi
    have h2 : ((wipeE env own).set i (.val (.int n)))[j]? = some (.val (.int (g : Int))) := by rw [List.getElem?_set_ne hij]; exact hj
    simp [compF, hi, h1, h2, div_bin hb (by omega) hm]
theorem sl_1 {ns : List Int} {b : Int} : slD (V (ns ++ [b])) none (some (-1)) = some (V ns) := by
  show some (D.tup (cutD ((ns ++ [b]).map D.int) none (some (-1)))) = _
  rw [List.map_append]
  exact congrArg (fun z => some (D.tup z)) cut_1
theorem ix_1 {ns : List Int} {b : Int} : ixD (V (ns ++ [b])) (.int (-1)) = some (.int b) := by
  show L2.atI ((ns ++ [b]).map D.int) (-1) = _
  rw [List.map_append]
  exact at_1
end K12

set_option maxHeartbeats 4000000
namespace K12
open Fx
open PySem (Str)
variable {wf k : Nat} {S : Store}
theorem fmod_nat {f r : Nat} : ((f : Nat) : Int).fmod ((r : Nat) : Int) = ((f % r : Nat) : Int) := by
  rw [Int.fmod_eq_emod_of_nonneg _ (by omega)]
  rfl
abbrev wB : N := .cons (.par 1 3 (.var 3) (.bin .mod (.bi .int (.cons (.var 1) .nil)) (.var 3))) .nil
theorem l_euclid {C : Ev} (v x : Sl) : ∀ (n f r fuel : Nat), r < 2 ^ n → 2 * n + 1 ≤ fuel →
    whileL (evT C (.cmp .ne (.var 3) (.cI 0))) (exec C wB) fuel [v, .val (.int (f : Int)), x, .val (.int (r : Int))] S = .ok (.nx [v, .val (.int (Nat.gcd f r : Nat)), x, .val (.int 0)]) S
  | n, f, 0, fuel + 1, _, _ => by
    unfold whileL
    simp
  | 0, f, r + 1, fuel, h, _ => by
    exfalso
    simp at h
  | n + 1, f, r + 1, 0, h, hf => by omega
  | n + 1, f, r + 1, 1, h, hf => by omega
  | n + 1, f, r + 1, fuel + 2, h, hf => by
    have e1 : (((r + 1 : Nat) : Int) == 0) = false := by
      have : ((r + 1 : Nat) : Int) ≠ 0 := by omega
      simpa using this
    have m1 : binOp .mod (.int (f : Int)) (.int ((r + 1 : Nat) : Int)) = some (.int ((f % (r + 1) : Nat) : Int)) := by
      rw [mod_bin (by omega), fmod_nat]
    have one : ∀ fuel, whileL (evT C (.cmp .ne (.var 3) (.cI 0))) (exec C wB) (fuel + 1) [v, .val (.int (f : Int)), x, .val (.int ((r + 1 : Nat) : Int))] S = whileL (evT C (.cmp .ne (.var 3) (.cI 0))) (exec C wB) fuel [v, .val (.int ((r + 1 : Nat) : Int)), x, .val (.int ((f % (r + 1) : Nat) : Int))] S := fun fuel => by
      rw [whileL]
      simp only [evT_cmp, ev_var (i := 3) (env := [v, .val (.int (f : Int)), x, .val (.int ((r + 1 : Nat) : Int))]) rfl, Res.bind_ok, ev_cI, cmp_ne, e1, ofO_some, Bool.not_false, if_true]
      simp only [wB, ex_cons, ex_par, ev_var (i := 3) (env := [v, .val (.int (f : Int)), x, .val (.int ((r + 1 : Nat) : Int))]) rfl, ev_bin, ev_bi, evs_cons_, evs_nil, ev_var (i := 1) (env := [v, .val (.int (f : Int)), x, .val (.int ((r + 1 : Nat) : Int))]) rfl, Res.bind_ok, bi_int, ofO_some, m1]
      simp
    rw [one]
    have g1 : Nat.gcd f (r + 1) = Nat.gcd (r + 1) (f % (r + 1)) := by rw [Nat.gcd_comm f, Nat.gcd_rec, Nat.gcd_comm]
    rw [g1]
    have hlt : f % (r + 1) < r + 1 := Nat.mod_lt _ (by omega)
    generalize hs : f % (r + 1) = s at hlt
    cases s with
    | zero => exact l_euclid v x 0 (r + 1) 0 (fuel + 1) (by decide) (by omega)
    | succ s =>
      have e2 : (((s + 1 : Nat) : Int) == 0) = false := by
        have : ((s + 1 : Nat) : Int) ≠ 0 := by omega
        simpa using this
      have m2 : binOp .mod (.int ((r + 1 : Nat) : Int)) (.int ((s + 1 : Nat) : Int)) = some (.int (((r + 1) % (s + 1) : Nat) : Int)) := by
        rw [mod_bin (by omega), fmod_nat]
      have two : whileL (evT C (.cmp .ne (.var 3) (.cI 0))) (exec C wB) (fuel + 1) [v, .val (.int ((r + 1 : Nat) : Int)), x, .val (.int ((s + 1 : Nat) : Int))] S = whileL (evT C (.cmp .ne (.var 3) (.cI 0))) (exec C wB) fuel [v, .val (.int ((s + 1 : Nat) : Int)), x, .val (.int (((r + 1) % (s + 1) : Nat) : Int))] S := by
        rw [whileL]
        simp only [evT_cmp, ev_var (i := 3) (env := [v, .val (.int ((r + 1 : Nat) : Int)), x, .val (.int ((s + 1 : Nat) : Int))]) rfl, Res.bind_ok, ev_cI, cmp_ne, e2, ofO_some, Bool.not_false, if_true]
        simp only [wB, ex_cons, ex_par, ev_var (i := 3) (env := [v, .val (.int ((r + 1 : Nat) : Int)), x, .val (.int ((s + 1 : Nat) : Int))]) rfl, ev_bin, ev_bi, evs_cons_, evs_nil, ev_var (i := 1) (env := [v, .val (.int ((r + 1 : Nat) : Int)), x, .val (.int ((s + 1 : Nat) : Int))]) rfl, Res.bind_ok, bi_int, ofO_some, m2]
        simp
      rw [two]
      have g2 : Nat.gcd (r + 1) (s + 1) = Nat.gcd (s + 1) ((r + 1) % (s + 1)) := by rw [Nat.gcd_comm (r + 1), Nat.gcd_rec, Nat.gcd_comm]
      rw [g2]
      have h3 : (r + 1) % (s + 1) < s + 1 := Nat.mod_lt _ (by omega)
      have h4 : (r + 1) % (s + 1) + (s + 1) ≤ r + 1 := by
        have := Nat.div_add_mod (r + 1) (s + 1)
        have hq : 1 ≤ (r + 1) / (s + 1) := (Nat.le_div_iff_mul_le (by omega)).mpr (by omega)
        have := Nat.mul_le_mul_left (s + 1) hq
        omega
      refine l_euclid v x n (s + 1) ((r + 1) % (s + 1)) fuel ?_ (by omega)
      rw [Nat.pow_succ] at h
      omega
end K12

set_option maxHeartbeats 4000000
namespace K12
open Fx
open PySem (Str)
variable {wf k : Nat} {S : Store}
theorem abs_nat {n : Int} : (if n < 0 then -n else n) = ((n.natAbs : Nat) : Int) := by split <;> omega
theorem l__law_common {C : Ev} (v : Sl) {m : Nat} (hw : 2 * m + 1 ≤ C.wf) : ∀ (ns : List Int) (f : Nat) (x y : Sl), BdL m ns → ∃ x' y', forL (forF C (.tn 2) (.cons (.set 3 (.bi .abs (.cons (.var 2) .nil))) (.cons (.whl (.cmp .ne (.var 3) (.cI 0)) wB) .nil))) (ns.map D.int) [v, .val (.int (f : Int)), x, y] S = .ok (.nx [v, .val (.int (gcdF f ns : Nat)), x', y']) S
  | [], f, x, y, _ => ⟨x, y, rfl⟩
  | n :: ns, f, x, y, h => by
    obtain ⟨x', y', ih⟩ := l__law_common (C := C) (m := m) v hw ns (Nat.gcd f n.natAbs) (.val (.int n)) (.val (.int 0)) (fun a ha => h a (List.mem_cons_of_mem _ ha))
    refine ⟨x', y', ?_⟩
    have e := l_euclid (C := C) (S := S) v (.val (.int n)) m f n.natAbs C.wf (h n List.mem_cons_self) hw
    rw [List.map_cons, forL_cons]
    simp only [forF, bindT_tn, List.length_cons, List.length_nil]
    simp [abs_nat, e]
    exact ih
theorem s__law_common {d : D} {ns : List Int} {m : Nat} (h : seqD d = some (ns.map D.int)) (hb : BdL m ns) (hw : 2 * m + 1 ≤ wf) : callF T wf (k + 1) "_law_common" [d] S = .ok (.int (gcdL ns : Nat)) S := by
  rw [call_step T__law_common rfl]
  obtain ⟨x, y, e⟩ := l__law_common (C := ⟨callF T wf k, callM T wf k true, wf⟩) (S := S) (.val d) hw ns 0 .un .un hb
  rw [show ((0 : Nat) : Int) = 0 from rfl] at e
  simp only [wB] at e
  simp [n__law_common, startE, h, e, gcdL]
theorem s__law_lowered {d : D} {ns : List Int} {m : Nat} (h : d = V ns ∨ d = L ns) (hb : BdL m ns) (hm : m ≤ 8000) (hw : 2 * m + 1 ≤ wf) (hl : ns.length ≤ lim) : callF T wf (k + 2) "_law_lowered" [d] S = .ok (V (low ns)) S := by
  have hd : seqD d = some (ns.map D.int) := by rcases h with rfl | rfl <;> rfl
  have ht : biOp .tuple [d] = some (V ns) := by rcases h with rfl | rfl <;> rfl
  rw [call_step T__law_lowered rfl]
  have e := s__law_common (wf := wf) (k := k) (S := S) hd hb hw
  unfold low
  by_cases h2 : gcdL ns < 2
  · have h3 : ¬ 1 < ((gcdL ns : Nat) : Int) := by omega
    simp [n__law_lowered, startE, pickIx, e, h2, h3, ht]
  · have h3 : 1 < ((gcdL ns : Nat) : Int) := by omega
    have c := c_low (C := ⟨callF T wf (k + 1), callM T wf (k + 1) true, wf⟩) (S := S) (env := [.val d, .val (.int (gcdL ns : Nat)), .un]) (own := [("number", 2)]) (i := 2) (j := 1) (ns := ns) (by simp [wipeE]) (by decide) (by simp [wipeE]) (by omega) (gcdL_bd' hb) hm hl
    simp [n__law_lowered, startE, pickIx, e, h2, h3, hd, c]
theorem c_id {C : Ev} {env : Env} {own : List (Str × Nat)} {i j : Nat} {ns : List Int} (hi : i < (wipeE env own).length) (hij : i ≠ j) (hj : (wipeE env own)[j]? = some (.val (.int 1))) (hl : ns.length ≤ lim) :
    compL (compF C own (.bin .mul (.var j) (.var i)) (.tn i) .nil env) (ns.map D.int) [] S = .ok (ns.map D.int) S := by
  have := compL_map (emb := D.int) (g := D.int) (f := compF C own (.bin .mul (.var j) (.var i)) (.tn i) .nil env) (S := S) (l := ns) (acc := []) (fun n _ => ?_) (by simpa using hl)
  · simpa using this
  · have v1 := ev_var (C := C) (S := S) (show ((wipeE env own).set i (.val (.int n)))[i]? = some (.val (.int n)) from List.getElem?_set_self hi)
    have v2 := ev_var (C := C) (S := S) (show ((wipeE env own).set i (.val (.int n)))[j]? = some (.val (.int 1)) by rw [List.getElem?_set_ne hij]; exact hj)
    have q : binOp .mul (.int 1) (.int n) = some (.int n) := by
      show (if mulOk 1 n then some (D.int (1 * n)) else none) = _
      rw [show mulOk 1 n = true from rfl, Int.one_mul]
      rfl
    simp [compF, hi, v1, v2, q]
theorem add_lst {xs ys : List D} (h : xs.length + ys.length ≤ lim) : binOp .add (.lst xs) (.lst ys) = some (.lst (xs ++ ys)) := if_pos h
theorem s__law_point {d : D} {ns : List Int} {b : Int} {m : Nat} (h : d = V ns ∨ d = L ns) (h0 : 0 < b) (hb : BdL m (ns ++ [b])) (hm : m ≤ 8000) (hw : 2 * m + 1 ≤ wf) (hl : ns.length < lim) : callF T wf (k + 3) "_law_point" [d, .int b] S = .ok (V (low (ns ++ [b]))) S := by
  have hd : seqD d = some (ns.map D.int) := by rcases h with rfl | rfl <;> rfl
  have e := s__law_lowered (wf := wf) (k := k) (S := S) (d := L (ns ++ [b])) (.inr rfl) hb hm hw (by simp; omega)
  have c := c_id (C := ⟨callF T wf (k + 2), callM T wf (k + 2) true, wf⟩) (S := S) (env := [.val d, .val (.int b), .val (.int 1), .un]) (own := [("number", 3)]) (i := 3) (j := 2) (ns := ns) (by simp [wipeE]) (by decide) (by simp [wipeE]) (by omega)
  have q : binOp .mul (.int 1) (.int b) = some (.int b) := by
    show (if mulOk 1 b then some (D.int (1 * b)) else none) = _
    rw [show mulOk 1 b = true from rfl, Int.one_mul]
    rfl
  have a : binOp .add (.lst (ns.map D.int)) (.lst [.int b]) = some (L (ns ++ [b])) := by
    rw [add_lst (by simp; omega)]
    simp
  rw [call_step T__law_point rfl]
  simp [n__law_point, startE, pickIx, h0, hd, c, q, a, e]
end K12

set_option maxHeartbeats 4000000
namespace K12
open Fx
open PySem (Str)
variable {wf k : Nat} {S : Store}
def mD (l s : Int) (cs : List Int) (sp : Nat) : Cell := .dct [(keyStr "left", .int l), (keyStr "seed", .int s), (keyStr "cells", D.lst (cs.map D.int)), (keyStr "spot", .int (sp : Int))]
section
variable {n sp : Nat} {l s : Int} {cs : List Int}
theorem g_left (h : S[n]? = some (mD l s cs sp)) : dGet (.ref n) "left" S = some (.int l) := by
  unfold dGet
  simp only [h]
  rfl
theorem g_seed (h : S[n]? = some (mD l s cs sp)) : dGet (.ref n) "seed" S = some (.int s) := by
  unfold dGet
  simp only [h]
  rfl
theorem g_cells (h : S[n]? = some (mD l s cs sp)) : dGet (.ref n) "cells" S = some (.lst (cs.map D.int)) := by
  unfold dGet
  simp only [h]
  rfl
theorem g_spot (h : S[n]? = some (mD l s cs sp)) : dGet (.ref n) "spot" S = some (.int (sp : Int)) := by
  unfold dGet
  simp only [h]
  rfl
theorem p_left {l' : Int} (h : S[n]? = some (mD l s cs sp)) : dPut (.ref n) "left" (.int l') S = some (S.set n (mD l' s cs sp)) := by
  unfold dPut
  simp only [h]
  rfl
theorem p_spot {sp' : Int} (h : S[n]? = some (mD l s cs sp)) : dPut (.ref n) "spot" (.int sp') S = some (S.set n (.dct [(keyStr "left", .int l), (keyStr "seed", .int s), (keyStr "cells", D.lst (cs.map D.int)), (keyStr "spot", .int sp')])) := by
  unfold dPut
  simp only [h]
  rfl
end
/-- the drawing dict -/
def MOk (S : Store) (n j : Nat) : Prop := ∃ l s cs sp, S[n]? = some (mD l s cs sp) ∧ cs ≠ [] ∧ sp ≤ j
theorem MOk.set {n j : Nat} {l s : Int} {cs : List Int} {sp : Nat} (hn : n < S.length) (hc : cs ≠ []) (h : sp ≤ j) : MOk (S.set n (mD l s cs sp)) n j := ⟨l, s, cs, sp, by rw [List.getElem?_set_self hn], hc, h⟩
theorem mul_sm {i j : Int} (h : j.natAbs < 2 ^ 64) : binOp .mul (.int i) (.int j) = some (.int (i * j)) := by
  have e : mulOk i j = true := by
    unfold mulOk
    simp [h]
  show (if mulOk i j then some (D.int (i * j)) else none) = _
  rw [e]
  rfl
theorem mul_sm' {i j : Int} (h : i.natAbs < 2 ^ 64) : binOp .mul (.int i) (.int j) = some (.int (i * j)) := by
  have e : mulOk i j = true := by
    unfold mulOk
    simp [h]
  show (if mulOk i j then some (D.int (i * j)) else none) = _
  rw [e]
  rfl
theorem div_sm {i j : Int} (h : 0 < j) (h2 : j < 1000) : binOp .fdiv (.int i) (.int j) = some (.int (i.fdiv j)) := div_bin (n := 10) (by unfold Bd; omega) (by omega) (by decide)
theorem s__law_draw {n j : Nat} {b : Int} (hm : MOk S n j) (hj : j < 1000000) (hb : 0 < b) (hb2 : b < 1000) : ∃ r S', callF T wf (k + 1) "_law_draw" [.ref n, .int b] S = .ok (.int r) S' ∧ 0 ≤ r ∧ r < b ∧ MOk S' n (j + 1) := by
  obtain ⟨l, s, cs, sp, h, hc, hs⟩ := hm
  have hn := (List.getElem?_eq_some_iff.mp h).1
  rw [call_step T__law_draw rfl]
  by_cases hl : 0 < l
  · refine ⟨l.fmod b, S.set n (mD (l.fdiv b) s cs sp), ?_, Int.fmod_nonneg_of_pos _ hb, Int.fmod_lt_of_pos _ hb, .set hn hc (by omega)⟩
    simp [n__law_draw, startE, g_left h, hl, mod_bin (i := l) (show b ≠ 0 by omega), div_sm (i := l) hb hb2, p_left h]
  · have h1 : (S.set n (.dct [(keyStr "left", .int l), (keyStr "seed", .int s), (keyStr "cells", D.lst (cs.map D.int)), (keyStr "spot", .int ((sp : Int) + 1))]))[n]? = some (mD l s cs (sp + 1)) := by
      rw [List.getElem?_set_self hn]
      rfl
    have hpos : 0 < cs.length := List.length_pos_iff.mpr hc
    have i1 : binOp .mod (.int (sp : Int)) (.int (cs.length : Int)) = some (.int ((sp % cs.length : Nat) : Int)) := by
      rw [mod_bin (by omega), fmod_nat]
    have hlt : sp % cs.length < cs.length := Nat.mod_lt _ hpos
    have i2 : ixD (.lst (cs.map D.int)) (.int ((sp % cs.length : Nat) : Int)) = some (.int cs[sp % cs.length]) := at_nat (by rw [List.getElem?_map, List.getElem?_eq_getElem hlt]; rfl)
    generalize cs[sp % cs.length] = c at i2
    generalize ((sp % cs.length : Nat) : Int) = I at i1 i2
    generalize hS : S.set n (.dct [(keyStr "left", .int l), (keyStr "seed", .int s), (keyStr "cells", D.lst (cs.map D.int)), (keyStr "spot", .int ((sp : Int) + 1))]) = S1 at h1
    have ps := p_spot (sp' := (sp : Int) + 1) h
    rw [hS] at ps
    have ln : biOp .len [.lst (cs.map D.int)] = some (.int (cs.length : Int)) := by
      show some (D.int ((cs.map D.int).length : Nat)) = _
      rw [List.length_map]
    have m1 := mul_sm' (i := 40503) (j := (sp : Int)) (by decide)
    have m2 := mul_sm (i := 40503 * (sp : Int)) (j := (sp : Int)) (by omega)
    have m3 := mul_sm' (i := 2) (j := (sp : Int)) (by decide)
    have m4 := mul_sm (i := c) (j := 2 * (sp : Int) + 3) (by omega)
    have q1 := mod_bin (i := c * (2 * (sp : Int) + 3) + (s + 40503 * (sp : Int) * (sp : Int))) (j := 2147483647) (by decide)
    generalize hb1 : (c * (2 * (sp : Int) + 3) + (s + 40503 * (sp : Int) * (sp : Int))).fmod 2147483647 = B1 at q1
    have r1 : 0 ≤ B1 ∧ B1 < 2147483647 := by
      rw [← hb1]
      exact ⟨Int.fmod_nonneg_of_pos _ (by decide), Int.fmod_lt_of_pos _ (by decide)⟩
    have m5 := mul_sm (i := B1) (j := B1) (by omega)
    have m6 := mul_sm' (i := 69621) (j := (sp : Int)) (by decide)
    have q2 := mod_bin (i := B1 * B1 + 69621 * (sp : Int) + s) (j := 2147483629) (by decide)
    generalize hb2' : (B1 * B1 + 69621 * (sp : Int) + s).fmod 2147483629 = B2 at q2
    have m7 := mul_sm (i := B2) (j := 48271) (by decide)
    have q3 := mod_bin (i := B2 * 48271 + (sp : Int)) (j := 2147483647) (by decide)
    have q4 := div_sm (i := (B2 * 48271 + (sp : Int)).fmod 2147483647) (j := 11) (by decide) (by decide)
    have q5 := mod_bin (i := ((B2 * 48271 + (sp : Int)).fmod 2147483647).fdiv 11) (show b ≠ 0 by omega)
    refine ⟨(((B2 * 48271 + (sp : Int)).fmod 2147483647).fdiv 11).fmod b, S1, ?_, Int.fmod_nonneg_of_pos _ hb, Int.fmod_lt_of_pos _ hb, ⟨l, s, cs, sp + 1, h1, hc, by omega⟩⟩
    have gl := g_left h
    have gs := g_spot h
    have gc := g_cells h1
    have gd := g_seed h1
    simp [n__law_draw, startE, gl, hl, gs, ps, gc, gd, m1, m2, ln, i1, i2, m3, m4, q1, m5, m6, q2, m7, q3, q4, q5]
end K12

set_option maxHeartbeats 4000000
namespace K12
open Fx
open PySem (Str)
variable {wf k : Nat} {S : Store}
theorem pys_ints : ∀ {ns : List Int}, D.pys (ns.map D.int) = some (ns.map PySem.PyData.int)
  | [] => rfl
  | n :: ns => by
    show (match (D.int n).py, D.pys (ns.map D.int) with | some p, some ps => some (p :: ps) | _, _ => none) = _
    rw [pys_ints]
    rfl
theorem lay_ints : ∀ {ns : List Int}, PySem.PyData.canLayAll0 (ns.map PySem.PyData.int) = true
  | [] => rfl
  | n :: ns => by
    show (true && PySem.PyData.canLayAll0 (ns.map PySem.PyData.int)) = true
    rw [lay_ints]
    rfl
theorem compL_fil {α : Type} {emb g : α → D} {p : α → Bool} {f : D → Store → Res (Option D)} : ∀ {l : List α} {acc : List D}, (∀ a ∈ l, f (emb a) S = .ok (if p a then some (g a) else none) S) → acc.length + l.length ≤ lim → compL f (l.map emb) acc S = .ok (acc ++ (l.filter p).map g) S
  | [], acc, _, _ => by simp [compL]
  | a :: l, acc, h, hl => by
    rw [List.map_cons]
    unfold compL
    rw [h a List.mem_cons_self]
    rw [List.length_cons] at hl
    cases hp : p a with
    | true =>
      rw [List.filter_cons_of_pos hp]
      show (if acc.length < lim then compL f (l.map emb) (acc ++ [g a]) S else .st) = _
      rw [if_pos (by omega), compL_fil (fun b hb => h b (List.mem_cons_of_mem _ hb)) (by rw [List.length_append, List.length_singleton]; omega)]
      simp
    | false =>
      rw [List.filter_cons_of_neg (by rw [hp]; decide)]
      show compL f (l.map emb) acc S = _
      exact compL_fil (fun b hb => h b (List.mem_cons_of_mem _ hb)) (by omega)
theorem cut_ints {ns : List Int} {lo hi : Option Int} : ∃ cs : List Int, slD (L ns) lo hi = some (L cs) ∧ cs.length ≤ ns.length := by
  refine ⟨(ns.drop (HT.sIx ns.length 0 lo)).take (HT.sIx ns.length ns.length hi - HT.sIx ns.length 0 lo), ?_, ?_⟩
  · show some (D.lst (cutD (ns.map D.int) lo hi)) = _
    unfold cutD
    rw [List.length_map, ← List.map_drop, ← List.map_take]
  · rw [List.length_take, List.length_drop]
    omega
theorem l_seed {C : Ev} {v0 v1 v2 v3 : Sl} : ∀ (cs : List Int) (s : Int) (x : Sl), ∃ s' y, forL (forF C (.tn 5) (.cons (.set 4 (.bin .mod (.bi .int (.cons (.bin .add (.bin .mul (.var 4) (.cI 48271)) (.var 5)) .nil)) (.cI 2147483647))) .nil)) (cs.map D.int) [v0, v1, v2, v3, .val (.int s), x] S = .ok (.nx [v0, v1, v2, v3, .val (.int s'), y]) S
  | [], s, x => ⟨s, x, rfl⟩
  | c :: cs, s, x => by
    obtain ⟨s', y, e⟩ := l_seed (C := C) (v0 := v0) (v1 := v1) (v2 := v2) (v3 := v3) cs ((s * 48271 + c).fmod 2147483647) (.val (.int c))
    refine ⟨s', y, ?_⟩
    have m := mul_sm (i := s) (j := 48271) (by decide)
    have q := mod_bin (i := s * 48271 + c) (j := 2147483647) (by decide)
    rw [List.map_cons, forL_cons]
    simp [forF, m, q]
    exact e
theorem pow_bin {i j : Int} (h : powOk i j = true) : binOp .pow (.int i) (.int j) = some (.int (i ^ j.toNat)) := by
  show (if powOk i j then some (D.int (i ^ j.toNat)) else none) = _
  rw [h]
  rfl
theorem pow18 : binOp .pow (.int 10) (.int 18) = some (.int 1000000000000000000) := by
  rw [pow_bin (by decide)]
  rfl
theorem dep_ints : ∀ {ns : List Int}, PySem.PyData.depthAll (ns.map PySem.PyData.int) = 0
  | [] => rfl
  | n :: ns => by
    show max 0 (PySem.PyData.depthAll (ns.map PySem.PyData.int)) = 0
    rw [dep_ints]
    rfl
theorem ne_nil {ns : List Int} : cmpOp .ne (L ns) (.lst []) = some (!ns.isEmpty) := by
  have h1 : (L ns).py = some (.list (ns.map PySem.PyData.int)) := by
    show (D.pys (ns.map D.int)).map PySem.PyData.list = _
    rw [pys_ints]
    rfl
  have h2 : (D.lst []).py = some (.list []) := rfl
  have s1 : PySem.SeqAt.shaped (.list (ns.map PySem.PyData.int)) = true := by
    show (PySem.PyData.canLayAll0 (ns.map PySem.PyData.int) && decide (PySem.PyData.depthAll (ns.map PySem.PyData.int) + 1 ≤ 64)) = true
    rw [lay_ints, dep_ints]
    rfl
  have s2 : PySem.SeqAt.shaped (.list []) = true := rfl
  show (eqD (L ns) (.lst [])).map (!·) = _
  unfold eqD
  simp only [h1, h2, s1, s2]
  cases ns <;> rfl
theorem s__law_begun {ns : List Int} {k0 : Nat} (hn : ns.length ≤ 1000) : ∃ S', callF T wf (k + 1) "_law_begun" [L ns, .int (k0 : Int)] S = .ok (.ref S.length) S' ∧ MOk S' S.length 0 := by
  rw [call_step T__law_begun rfl]
  obtain ⟨c1, e1, l1⟩ := cut_ints (ns := ns) (lo := some (k0 : Int)) (hi := none)
  obtain ⟨c2, e2, l2⟩ := cut_ints (ns := ns) (lo := none) (hi := some (k0 : Int))
  have a1 : binOp .add (L c1) (L c2) = some (L (c1 ++ c2)) := by
    rw [add_lst (by simp; unfold lim; omega), ← List.map_append]
  have hc : (c1 ++ c2).length ≤ 2000 := by rw [List.length_append]; omega
  generalize c1 ++ c2 = cs at a1 hc
  obtain ⟨s', y, es⟩ := l_seed (C := ⟨callF T wf k, callM T wf k true, wf⟩) (S := S) (v0 := .val (L ns)) (v1 := .val (.int (k0 : Int))) (v2 := .val (L cs)) (v3 := .val (L (cs.filter fun c => decide (1000000000000000000 ≤ c)))) cs (91 + (k0 : Int)) .un
  have cm := compL_fil (emb := D.int) (g := D.int) (p := fun c => decide (1000000000000000000 ≤ c)) (f := compF ⟨callF T wf k, callM T wf k true, wf⟩ [("cell", 5)] (.var 5) (.tn 5) (.cons (.cmp .ge (.var 5) (.bin .pow (.cI 10) (.cI 18))) .nil) [.val (L ns), .val (.int (k0 : Int)), .val (L cs), .un, .un, .un]) (S := S) (l := cs) (acc := []) (fun c _ => ?_) (by simp; unfold lim; omega)
  · rw [List.nil_append] at cm
    have a2 : binOp .add (L cs) (.lst [.int (61 * (k0 : Int) + 17)]) = some (L (cs ++ [61 * (k0 : Int) + 17])) := by
      rw [add_lst (by simp; unfold lim; omega)]
      simp
    have m1 := mul_sm' (i := 61) (j := (k0 : Int)) (by decide)
    have nn := ne_nil (ns := cs.filter fun c => decide (1000000000000000000 ≤ c))
    have fin : ∀ left : Int, MOk (S ++ [mD left s' (cs ++ [61 * (k0 : Int) + 17]) 0]) S.length 0 := fun left => ⟨left, s', cs ++ [61 * (k0 : Int) + 17], 0, by simp, by simp, Nat.le_refl _⟩
    cases hg : cs.filter (fun c => decide (1000000000000000000 ≤ c)) with
    | nil =>
      rw [hg] at cm es nn
      refine ⟨_, ?_, fin 0⟩
      simp only [L, List.map_nil] at cm es nn a1 a2 e1 e2
      simp [n__law_begun, startE, e1, e2, a1, cm, es, nn, m1, a2, L, mD, -List.map_append]
    | cons g gs =>
      rw [hg] at cm es nn
      refine ⟨_, ?_, fin g⟩
      have i0 : ixD (L (g :: gs)) (.int 0) = some (.int g) := at_nat (i := 0) rfl
      simp only [L] at cm es nn a1 a2 e1 e2 i0
      simp only [List.map_cons] at cm es nn i0
      simp [n__law_begun, startE, e1, e2, a1, cm, es, nn, i0, m1, a2, L, mD, -List.map_append]
  · by_cases hp : (1000000000000000000 : Int) ≤ c <;> simp [compF, wipeE, pow18, hp]
end K12

set_option maxHeartbeats 4000000
namespace K12
open Fx
open PySem (Str)
variable {wf k : Nat} {S : Store}
/-! ### statement by statement -/
theorem run_step {C : Ev} {a b : N} {env e : Env} {S' : Store} {X : Res D} (h : exec C a env S = .ok (.nx e) S') (q : (exec C b e S').bind ofFl = X) : (exec C (.cons a b) env S).bind ofFl = X := by
  rw [ex_cons, h, Res.bind_ok]
  exact q
theorem run_ret {C : Ev} {a b : N} {env : Env} {S' : Store} {d : D} (h : ev C a env S = .ok d S') : (exec C (.cons (.ret a) b) env S).bind ofFl = .ok d S' := by
  rw [ex_cons, ex_ret, h, Res.bind_ok, Res.bind_ok]
  rfl
theorem run_no {C : Ev} {c a r : N} {env : Env} {S' : Store} {X : Res D} (h : evT C c env S = .ok false S') (q : (exec C r env S').bind ofFl = X) : (exec C (.cons (.ifs c a .nil) r) env S).bind ofFl = X := by
  refine run_step (e := env) (S' := S') ?_ q
  rw [ex_ifs, h, Res.bind_ok, if_neg Bool.false_ne_true]
  rfl
/-- a list drawn item by item -/
theorem c_draw {β : Type} {emb : β → D} {n c J : Nat} {P : β → Prop} {f : D → Store → Res (Option D)} : ∀ (l : List D) (acc : List D) (S : Store) (j : Nat), (∀ d ∈ l, ∀ S j, MOk S n j → j + c ≤ J → ∃ r S', f d S = .ok (some (emb r)) S' ∧ P r ∧ MOk S' n (j + c)) → MOk S n j → j + l.length * c ≤ J → acc.length + l.length ≤ lim →
    ∃ (rs : List β) (S' : Store), compL f l acc S = .ok (acc ++ rs.map emb) S' ∧ rs.length = l.length ∧ (∀ r ∈ rs, P r) ∧ MOk S' n (j + l.length * c)
  | [], acc, S, j, _, h, _, _ => ⟨[], S, by simp [compL], rfl, fun r hr => (by cases hr), by simpa using h⟩
  | d :: l, acc, S, j, hf, h, hj, hl => by
    rw [List.length_cons, Nat.succ_mul] at hj
    rw [List.length_cons] at hl
    obtain ⟨r, S1, e1, p1, m1⟩ := hf d List.mem_cons_self S j h (by omega)
    obtain ⟨rs, S2, e2, l2, p2, m2⟩ := c_draw l (acc ++ [emb r]) S1 (j + c) (fun a ha => hf a (List.mem_cons_of_mem _ ha)) m1 (by omega) (by rw [List.length_append, List.length_singleton]; omega)
    refine ⟨r :: rs, S2, ?_, by rw [List.length_cons, List.length_cons, l2], fun a ha => ?_, ?_⟩
    · unfold compL
      rw [e1]
      show (if acc.length < lim then compL f l (acc ++ [emb r]) S1 else .st) = _
      rw [if_pos (by omega), e2]
      simp
    · rcases List.mem_cons.mp ha with rfl | ha
      · exact p1
      · exact p2 a ha
    · rw [List.length_cons, Nat.succ_mul]
      have : j + (l.length * c + c) = j + c + l.length * c := by omega
      rw [this]
      exact m2
theorem rg_ok {n : Nat} (h : n ≤ 1000) : rgOk 0 (n : Int) = true := by
  unfold rgOk
  simp only [Bool.and_eq_true, decide_eq_true_eq]
  refine ⟨⟨⟨⟨by decide, by decide⟩, by omega⟩, by omega⟩, ?_⟩
  unfold lim
  omega
theorem rg_len {n : Nat} : (rangeD 0 (n : Int)).length = n := by
  unfold rangeD
  simp
theorem Bd_of {n : Nat} {i : Int} (h : -(2 ^ n : Nat) < i) (h2 : i < (2 ^ n : Nat)) : Bd n i := by
  unfold Bd
  omega
theorem last_cut {ns : List Int} {a : Int} : slD (L (ns ++ [a])) (some (-1)) none = some (L [a]) := by
  show some (D.lst (cutD ((ns ++ [a]).map D.int) (some (-1)) none)) = _
  unfold cutD HT.sIx
  simp only [List.map_append, List.length_append, List.length_map, List.length_singleton]
  rw [if_pos (by decide), show (-1 + ((ns.length + 1 : Nat) : Int)).toNat = ns.length by omega]
  simp
end K12

set_option maxHeartbeats 4000000
namespace Fx
open PySem (Str PyData)
theorem ok_of (s : String) : PyData.strOk (Str.ofString s) = true := by
  unfold PyData.strOk
  rw [Str.ofString_eq_toList]
  simp only [List.all_toArray, List.all_eq_true, decide_eq_true_eq]
  intro c hc
  obtain ⟨a, _, rfl⟩ := List.mem_map.mp hc
  have := a.valid
  rcases this with h | h
  · have h : a.toNat < 0xd800 := h
    omega
  · have h : 0xdfff < a.toNat ∧ a.toNat < 0x110000 := h
    exact h.2
theorem ok_app {x y : Str} (h : PyData.strOk x = true) (h2 : PyData.strOk y = true) : PyData.strOk (x ++ y) = true := by
  unfold PyData.strOk at *
  show ((x.cps ++ y.cps).all fun c => decide (c < 0x110000)) = true
  rw [Array.all_append, h, h2]
  rfl
theorem ok_text : ∀ {ts : List Str} {k : Nat} {acc : Str}, PyData.strOk acc = true → (∀ t ∈ ts, PyData.strOk t = true) → PyData.strOk (PySem.textFrom k acc ts) = true
  | [], _, _, h, _ => h
  | t :: ts, k, acc, h, ht => ok_text (ts := ts) (k := k + 1) (ok_app (ok_app h (ok_of _)) (ht t List.mem_cons_self)) fun u hu => ht u (List.mem_cons_of_mem _ hu)
theorem ok_join : ∀ {ts : List Str}, (∀ t ∈ ts, PyData.strOk t = true) → PyData.strOk (Str.join ", " ts) = true
  | [], _ => by
    unfold PyData.strOk
    show (#[] : Array Nat).all (fun c => decide (c < 0x110000)) = true
    simp
  | [x], h => h x List.mem_cons_self
  | x :: y :: r, h => ok_app (ok_app (h x List.mem_cons_self) (ok_of _)) (ok_join (ts := y :: r) fun u hu => h u (List.mem_cons_of_mem _ hu))
mutual
def okD : PyData → Bool
  | .int i => decide (i.natAbs.log2 < 1920)
  | .list xs => okDs xs
  | .tuple xs => okDs xs
  | .none => true
  | .bool _ => true
  | .str x => (PyData.str x).showable && (PyData.str x).leavesShort 1921 && PyData.strOk (PyData.str x).shown
  | .dict _ => false
def okDs : List PyData → Bool
  | [] => true
  | x :: xs => okD x && okDs xs
end
mutual
theorem okD_all : ∀ {d : PyData}, okD d = true → d.showable = true ∧ d.leavesShort 1921 = true ∧ PyData.strOk d.shown = true
  | .int i, h => by
    have h : i.natAbs.log2 < 1920 := of_decide_eq_true h
    refine ⟨decide_eq_true h, decide_eq_true ?_, ok_of _⟩
    show (Str.ofString (toString i)).length ≤ 1921
    rw [PySem.ofString_length]
    exact PySem.int_text_length_le (k := 1920) (by decide) h
  | .list xs, h => by
    obtain ⟨h1, h2, h3⟩ := okDs_all (xs := xs) h
    exact ⟨h1, h2, ok_app (ok_text (ok_of _) h3) (ok_of _)⟩
  | .tuple xs, h => by
    obtain ⟨h1, h2, h3⟩ := okDs_all (xs := xs) h
    exact ⟨h1, h2, ok_app (ok_app (ok_of _) (ok_join h3)) (ok_of _)⟩
  | .none, _ => ⟨rfl, by decide +kernel, by decide +kernel⟩
  | .bool b, _ => by cases b <;> exact ⟨rfl, by decide +kernel, by decide +kernel⟩
  | .str x, h => by
    have h : ((PyData.str x).showable && (PyData.str x).leavesShort 1921 && PyData.strOk (PyData.str x).shown) = true := h
    simp only [Bool.and_eq_true] at h
    exact ⟨h.1.1, h.1.2, h.2⟩
  | .dict _, h => by cases h
theorem okDs_all : ∀ {xs : List PyData}, okDs xs = true → PyData.showableAll xs = true ∧ PyData.leavesShortAll 1921 xs = true ∧ ∀ t ∈ PyData.shownAll xs, PyData.strOk t = true
  | [], _ => ⟨rfl, rfl, fun t h => by cases h⟩
  | x :: xs, h => by
    have h : (okD x && okDs xs) = true := h
    obtain ⟨a, b⟩ := Bool.and_eq_true_iff.mp h
    obtain ⟨a1, a2, a3⟩ := okD_all a
    obtain ⟨b1, b2, b3⟩ := okDs_all b
    refine ⟨?_, ?_, fun t ht => ?_⟩
    · show (x.showable && PyData.showableAll xs) = true
      rw [a1, b1]; rfl
    · show (x.leavesShort 1921 && PyData.leavesShortAll 1921 xs) = true
      rw [a2, b2]; rfl
    · rcases List.mem_cons.mp ht with rfl | ht
      · exact a3
      · exact b3 t ht
end
end Fx
namespace K12
open Fx
open PySem (Str PyData)
variable {wf k : Nat} {S : Store}
theorem eqD_str {x : Str} (h : PyData.strOk x = true) : cmpOp .eq (.str x) (.str x) = some true := by
  have s1 : PySem.SeqAt.shaped (.str x) = true := by
    show (PyData.strOk x && decide (0 ≤ 64)) = true
    rw [h]
    rfl
  show (if PySem.SeqAt.shaped (.str x) && PySem.SeqAt.shaped (.str x) then some (PyData.eqv (.str x) (.str x)) else none) = _
  rw [s1]
  show some (x == x) = _
  rw [beq_self_eq_true]
theorem s__law_like {d : D} {p : PyData} (hp : d.py = some p) (ok : okD p = true) (hd : p.depth ≤ 64) (hb : p.bulk ≤ 8000) : callF T wf (k + 1) "_law_like" [d, d] S = .ok (.bl true) S := by
  obtain ⟨a1, a2, a3⟩ := okD_all ok
  have l := PyData.shown_le_bulk 1921 (by decide) p a2
  have hl : p.shown.length ≤ lim := by
    unfold lim
    have := Nat.mul_le_mul_left (1921 + 2) hb
    omega
  have r : biOp .repr [d] = some (.str p.shown) := by
    show reprD d = _
    unfold reprD
    simp only [hp]
    rw [if_pos]
    simp only [Bool.and_eq_true, decide_eq_true_eq]
    exact ⟨⟨a1, hd⟩, hl⟩
  rw [call_step T__law_like rfl]
  exact run_ret (by simp [startE, r, eqD_str a3])
end K12

set_option maxHeartbeats 4000000
namespace K12
open Fx
open PySem (Str PyData)
variable {wf k : Nat} {S : Store}
/-- may be shown -/
def GD (n h : Nat) (d : D) : Prop := ∃ p, d.py = some p ∧ okD p = true ∧ p.depth ≤ h ∧ p.bulk ≤ n
theorem GD.mono {n h m g : Nat} {d : D} (q : GD n h d) (l : n ≤ m) (l2 : h ≤ g) : GD m g d := by
  obtain ⟨p, a, b, c, e⟩ := q
  exact ⟨p, a, b, Nat.le_trans c l2, Nat.le_trans e l⟩
theorem GD_int {i : Int} (h : Bd 1900 i) : GD 0 0 (.int i) := ⟨.int i, rfl, decide_eq_true (Nat.lt_trans (h.log (by decide)) (by decide)), Nat.le_refl _, Nat.le_refl _⟩
theorem GD_non : GD 0 0 .non := ⟨.none, rfl, rfl, Nat.le_refl _, Nat.le_refl _⟩
theorem GD_bl {b : Bool} : GD 0 0 (.bl b) := ⟨.bool b, rfl, rfl, Nat.le_refl _, Nat.le_refl _⟩
theorem GD_str {x : Str} {n : Nat} (h : okD (.str x) = true) (hx : x.cps.size ≤ n) : GD n 0 (.str x) := ⟨.str x, rfl, h, Nat.le_refl _, by unfold PyData.bulk; exact hx⟩
theorem GDs {n h : Nat} : ∀ {ds : List D}, (∀ d ∈ ds, GD n h d) → ∃ ps, D.pys ds = some ps ∧ okDs ps = true ∧ PyData.depthAll ps ≤ h ∧ PyData.bulkAll ps ≤ ds.length * (n + 1)
  | [], _ => ⟨[], rfl, rfl, Nat.zero_le _, Nat.zero_le _⟩
  | d :: ds, q => by
    obtain ⟨p, a, b, c, e⟩ := q d List.mem_cons_self
    obtain ⟨ps, a', b', c', e'⟩ := GDs (ds := ds) fun x hx => q x (List.mem_cons_of_mem _ hx)
    refine ⟨p :: ps, ?_, ?_, ?_, ?_⟩
    · show (match d.py, D.pys ds with | some p, some ps => some (p :: ps) | _, _ => none) = _
      rw [a, a']
    · show (okD p && okDs ps) = true
      rw [b, b']; rfl
    · show max p.depth (PyData.depthAll ps) ≤ h
      omega
    · show p.bulk + 1 + PyData.bulkAll ps ≤ _
      rw [List.length_cons, Nat.succ_mul]
      omega
theorem GD_tup {n h : Nat} {ds : List D} (q : ∀ d ∈ ds, GD n h d) : GD (ds.length * (n + 1)) (h + 1) (.tup ds) := by
  obtain ⟨ps, a, b, c, e⟩ := GDs q
  refine ⟨.tuple ps, ?_, b, Nat.succ_le_succ c, e⟩
  show (D.pys ds).map PyData.tuple = _
  rw [a]; rfl
theorem GD_lst {n h : Nat} {ds : List D} (q : ∀ d ∈ ds, GD n h d) : GD (ds.length * (n + 1)) (h + 1) (.lst ds) := by
  obtain ⟨ps, a, b, c, e⟩ := GDs q
  refine ⟨.list ps, ?_, b, Nat.succ_le_succ c, e⟩
  show (D.pys ds).map PyData.list = _
  rw [a]; rfl
theorem GD_row {m : Nat} {qs : List Rat} (h : Bq m qs) (hm : m ≤ 1900) : GD (qs.length + 1) 1 (V (cn qs)) := by
  have q := GD_tup (n := 0) (h := 0) (ds := (cn qs).map D.int) fun d hd => by
    obtain ⟨x, hx, rfl⟩ := List.mem_map.mp hd
    exact GD_int ((h x hx).mono hm)
  rw [List.length_map, cn_len] at q
  exact q.mono (by omega) (Nat.le_refl _)
theorem like_of {n h : Nat} {d : D} (q : GD n h d) (hn : n ≤ 8000) (hh : h ≤ 64) : callF T wf (k + 1) "_law_like" [d, d] S = .ok (.bl true) S := by
  obtain ⟨p, a, b, c, e⟩ := q
  exact s__law_like a b (by omega) (by omega)
end K12

set_option maxHeartbeats 4000000
namespace K12
open Fx
open PySem (Str)
variable {wf k : Nat} {S : Store}
/-- an entry -/
inductive Lf (n : Nat) : D → Prop
  | int {i : Int} (h : Bd n i) : Lf n (.int i)
  | non : Lf n .non
  | bl (b : Bool) : Lf n (.bl b)
  | str : Lf n (.str "1")
  | tup : Lf n (.tup [.int 1])
  | lst : Lf n (.lst [.int 1])
theorem Lf.mono {n m : Nat} {d : D} (h : Lf n d) (l : n ≤ m) : Lf m d := by
  cases h with
  | int h => exact .int (h.mono l)
  | non => exact .non
  | bl b => exact .bl b
  | str => exact .str
  | tup => exact .tup
  | lst => exact .lst
theorem Bd1 : Bd 1900 1 := Bd.mono (n := 1) (by unfold Bd; decide) (by decide)
theorem Lf.gd {n : Nat} {d : D} (h : Lf n d) (hn : n ≤ 1900) : GD 1 1 d := by
  cases h with
  | int h => exact (GD_int (h.mono hn)).mono (by decide) (by decide)
  | non => exact GD_non.mono (by decide) (by decide)
  | bl b => exact GD_bl.mono (by decide) (by decide)
  | str => exact (GD_str (n := 1) (by decide +kernel) (by decide +kernel)).mono (by decide) (by decide)
  | tup => exact GD_tup (n := 0) (h := 0) (ds := [.int 1]) fun d hd => by rw [List.mem_singleton.mp hd]; exact GD_int Bd1
  | lst => exact GD_lst (n := 0) (h := 0) (ds := [.int 1]) fun d hd => by rw [List.mem_singleton.mp hd]; exact GD_int Bd1
theorem is_int {n : Nat} {d : D} (h : Lf n d) : callF T wf (k + 1) "is_integer" [d] S = .ok (.bl (isI d)) S := by
  rw [call_step T_is_integer rfl]
  cases h <;> simp [n_is_integer, startE, isI]
theorem l_odd {n : Nat} {a b : Sl} : ∀ (l : List (Nat × D)) (x y : Sl), (∀ p ∈ l, Lf n p.2) → ∃ x' y', forL (forF ⟨callF T wf (k + 1), callM T wf (k + 1) true, wf⟩ (.tt (.cons (.tn 2) (.cons (.tn 3) .nil))) (.cons (.ifs (.tnot (.tv (.call "is_integer" (.cons (.var 3) .nil) .nil [0]))) (.cons (.ret (.var 2)) .nil) .nil) .nil)) (l.map prD) [a, b, x, y] S =
    match (l.filter fun p => !isI p.2).head? with
    | none => .ok (.nx [a, b, x', y']) S
    | some p => .ok (.rt (.int (p.1 : Int))) S
  | [], x, y, _ => ⟨x, y, rfl⟩
  | p :: l, x, y, h => by
    obtain ⟨x', y', e⟩ := l_odd (n := n) (a := a) (b := b) l (.val (.int (p.1 : Int))) (.val p.2) fun q hq => h q (List.mem_cons_of_mem _ hq)
    refine ⟨x', y', ?_⟩
    have i := is_int (wf := wf) (k := k) (S := S) (h p List.mem_cons_self)
    rw [List.map_cons, forL_cons, List.filter_cons]
    cases hp : isI p.2 with
    | true =>
      rw [hp] at i
      simp [prD, forF, pickIx, i, -List.head?_filter]
      exact e
    | false =>
      rw [hp] at i
      simp [prD, forF, pickIx, i]
/-- what is judged: a tuple or a list of entries, or nothing -/
inductive Th (n m : Nat) : D → Prop
  | tup {xs : List D} (h : ∀ d ∈ xs, Lf n d) (l : xs.length ≤ m) : Th n m (.tup xs)
  | lst {xs : List D} (h : ∀ d ∈ xs, Lf n d) (l : xs.length ≤ m) : Th n m (.lst xs)
  | non : Th n m .non
theorem Th.gd {n m : Nat} {d : D} (h : Th n m d) (hn : n ≤ 1900) : GD (2 * m) 2 d := by
  cases h with
  | tup h l => exact (GD_tup fun d hd => (h d hd).gd hn).mono (by omega) (by decide)
  | lst h l => exact (GD_lst fun d hd => (h d hd).gd hn).mono (by omega) (by decide)
  | non => exact GD_non.mono (by omega) (by decide)
/-- the first place at which it is odd, of length s -/
def oddP (d : D) (s : Int) : Option Int :=
  match d with
  | .tup xs => if (xs.length : Int) = s then (odds xs).head?.map fun p => (p.1 : Int) else some (-1)
  | _ => some (-1)
def oD : Option Int → D
  | none => .non
  | some i => .int i
theorem q_first_odd {n m : Nat} {d : D} (h : Th n m d) (s : Int) : callF T wf (k + 2) "first_odd" [d, .int s] S = .ok (oD (oddP d s)) S := by
  rw [call_step T_first_odd rfl]
  cases h with
  | non => simp [n_first_odd, startE, oddP, oD]
  | lst => simp [n_first_odd, startE, oddP, oD]
  | @tup xs h l =>
    obtain ⟨x, y, e⟩ := l_odd (wf := wf) (k := k) (S := S) (n := n) (a := .val (.tup xs)) (b := .val (.int s)) (prs 0 xs) .un .un fun p hp => h _ (prs_mem hp).1
    by_cases hs : (xs.length : Int) = s
    · subst hs
      simp only [oddP, if_true]
      unfold odds
      cases hh : ((prs 0 xs).filter fun p => !isI p.2).head? with
      | none =>
        rw [hh] at e
        simp [n_first_odd, startE, enum_prs, e, oD]
      | some p =>
        rw [hh] at e
        simp [n_first_odd, startE, enum_prs, e, oD]
    · simp [n_first_odd, startE, oddP, oD, hs]
end K12

set_option maxHeartbeats 4000000
namespace K12
open Fx
open PySem (Str)
variable {wf k : Nat} {S : Store}
/-- a row, a point: s integers, the last one above 0, no common part -/
structure RowI (B s : Nat) (ns : List Int) : Prop where
  len : ns.length = s
  bd : BdL B ns
  one : gcdL ns = 1
  pos : ∃ ms b, ns = ms ++ [b] ∧ 0 < b
theorem low_rowI {B : Nat} {ms : List Int} {b : Int} (hb : 0 < b) (h : BdL B (ms ++ [b])) : RowI B (ms.length + 1) (low (ms ++ [b])) := by
  obtain ⟨xs, c, e, hc, g, _⟩ := (low_row (xs := ms) hb).ex
  exact ⟨by rw [low_len]; simp, low_bd h, g, xs, c, e, hc⟩
theorem odds_ints : ∀ {ns : List Int} {i : Nat}, (prs i (ns.map D.int)).filter (fun p => !isI p.2) = []
  | [], _ => rfl
  | n :: ns, i => by
    rw [List.map_cons, prs, List.filter_cons_of_neg (by simp [isI])]
    exact odds_ints
theorem oddP_ints {ns : List Int} {s : Int} (h : (ns.length : Int) = s) : oddP (V ns) s = none := by
  show (if ((ns.map D.int).length : Int) = s then (odds (ns.map D.int)).head?.map (fun p => (p.1 : Int)) else some (-1)) = none
  rw [if_pos (by simpa using h)]
  unfold odds
  rw [odds_ints]
  rfl
theorem lf_ints {n : Nat} {ns : List Int} (h : BdL n ns) : ∀ d ∈ ns.map D.int, Lf n d := fun d hd => by
  obtain ⟨z, hz, rfl⟩ := List.mem_map.mp hd
  exact .int (h z hz)
theorem fo_ints {n : Nat} {ns : List Int} {s : Int} (h : BdL n ns) (hl : (ns.length : Int) = s) : callF T wf (k + 2) "first_odd" [V ns, .int s] S = .ok .non S := by
  have e := q_first_odd (wf := wf) (k := k) (S := S) (n := n) (m := ns.length) (d := V ns) (.tup (lf_ints h) (by simp)) s
  rw [oddP_ints hl] at e
  exact e
theorem cr_ok {c B : Nat} {ns : List Int} (h : RowI B (c + 2) ns) : callF T wf (k + 3) "check_row" [.int (c : Int), V ns] S = .ok (V ns) S := by
  obtain ⟨ms, b, e, hb⟩ := h.pos
  have l : ms.length = c + 1 := by
    have := h.len
    rw [e] at this
    simpa using this
  have o := fo_ints (wf := wf) (k := k) (S := S) (s := (c : Int) + 2) h.bd (by have := h.len; omega)
  have g := s_common_part (wf := wf) (k := k + 1) (S := S) (d := V ns) (ns := ns) rfl
  have at_ : ixD (V ns) (.int ((c : Int) + 1)) = some (.int b) := by
    have := at_nat (ds := ns.map D.int) (i := c + 1) (d := .int b) (by rw [e, ← l]; simp)
    exact this
  rw [h.one] at g
  have hb1 : ¬ b < 1 := by omega
  rw [call_step T_check_row rfl]
  generalize V ns = v at *
  simp [n_check_row, startE, pickIx, o, at_, hb1, g]
theorem cr_bad {c B : Nat} {ms : List Int} {b : Int} (hl : ms.length = c + 1) (hB : BdL B (ms ++ [b])) (hb : b < 1 ∨ 1 < gcdL (ms ++ [b])) : ∃ p, callF T wf (k + 3) "check_row" [.int (c : Int), V (ms ++ [b])] S = .ex "NotRow" p S := by
  have o := fo_ints (wf := wf) (k := k) (S := S) (s := (c : Int) + 2) hB (by simp; omega)
  have g := s_common_part (wf := wf) (k := k + 1) (S := S) (d := V (ms ++ [b])) (ns := ms ++ [b]) rfl
  have at_ : ixD (V (ms ++ [b])) (.int ((c : Int) + 1)) = some (.int b) := by
    have := at_nat (ds := (ms ++ [b]).map D.int) (i := c + 1) (d := .int b) (by rw [← hl]; simp)
    exact this
  rw [call_step T_check_row rfl]
  generalize V (ms ++ [b]) = v at *
  by_cases h1 : b < 1
  · exact ⟨.int ((c : Int) + 1), by simp [n_check_row, startE, pickIx, o, at_, h1]⟩
  · have h2 : (1 : Int) < (gcdL (ms ++ [b]) : Nat) := by omega
    exact ⟨.int (-2), by simp [n_check_row, startE, pickIx, o, at_, h1, g, h2]⟩
theorem cr_odd {c n m : Nat} {d : D} (h : Th n m d) {p : Int} (e : oddP d ((c : Int) + 2) = some p) : callF T wf (k + 3) "check_row" [.int (c : Int), d] S = .ex "NotRow" (.int p) S := by
  have o := q_first_odd (wf := wf) (k := k) (S := S) h ((c : Int) + 2)
  rw [e] at o
  rw [call_step T_check_row rfl]
  simp only [oD] at o
  simp [n_check_row, startE, pickIx, o]
theorem cp_ok {c B : Nat} {ns : List Int} (h : RowI B (c + 1) ns) : callF T wf (k + 3) "check_point" [.int (c : Int), V ns] S = .ok (V ns) S := by
  obtain ⟨ms, b, e, hb⟩ := h.pos
  have l : ms.length = c := by
    have := h.len
    rw [e] at this
    simpa using this
  have o := fo_ints (wf := wf) (k := k) (S := S) (s := (c : Int) + 1) h.bd (by have := h.len; omega)
  have g := s_common_part (wf := wf) (k := k + 1) (S := S) (d := V ns) (ns := ns) rfl
  have at_ : ixD (V ns) (.int (c : Int)) = some (.int b) := by
    have := at_nat (ds := ns.map D.int) (i := c) (d := .int b) (by rw [e, ← l]; simp)
    exact this
  rw [h.one] at g
  have hb1 : ¬ b < 1 := by omega
  rw [call_step T_check_point rfl]
  generalize V ns = v at *
  simp [n_check_point, startE, pickIx, o, at_, hb1, g]
theorem cp_zero {c B : Nat} {ms : List Int} (hl : ms.length = c) (hB : BdL B (ms ++ [0])) : callF T wf (k + 3) "check_point" [.int (c : Int), V (ms ++ [0])] S = .ex "NotPoint" (.int (c : Int)) S := by
  have o := fo_ints (wf := wf) (k := k) (S := S) (s := (c : Int) + 1) hB (by simp; omega)
  have at_ : ixD (V (ms ++ [0])) (.int (c : Int)) = some (.int 0) := by
    have := at_nat (ds := (ms ++ [0]).map D.int) (i := c) (d := .int 0) (by rw [← hl]; simp)
    exact this
  rw [call_step T_check_point rfl]
  generalize V (ms ++ [0]) = v at *
  simp [n_check_point, startE, pickIx, o, at_]
theorem cp_odd {c n m : Nat} {d : D} (h : Th n m d) {p : Int} (e : oddP d ((c : Int) + 1) = some p) : callF T wf (k + 3) "check_point" [.int (c : Int), d] S = .ex "NotPoint" (.int p) S := by
  have o := q_first_odd (wf := wf) (k := k) (S := S) h ((c : Int) + 1)
  rw [e] at o
  rw [call_step T_check_point rfl]
  simp only [oD] at o
  simp [n_check_point, startE, pickIx, o]

/-! ### pairs -/
/-- the words -/
inductive Wd3 : Str → Prop
  | ge : Wd3 "ge"
  | gt : Wd3 "gt"
  | eq : Wd3 "eq"
theorem nin_word {w : Str} (h : Wd3 w) : ¬ Str.ofString "ge" = w → ¬ Str.ofString "gt" = w → Str.ofString "eq" = w := by
  intro a b
  cases h with
  | ge => exact absurd rfl a
  | gt => exact absurd rfl b
  | eq => rfl
abbrev prw (w : Str) (ns : List Int) : D := .tup [.str w, V ns]
theorem strsD3 : strsD [.str "ge", .str "gt", .str "eq"] = some (["ge", "gt", "eq"] : List Str) := rfl
theorem ip_of {c : Int} {w : Str} {d : D} {r : Res D} (hw : Wd3 w) (h : callF T wf (k + 3) "check_row" [.int c, d] S = r) (b : Bool) (hr : (b = true ∧ ∃ v, r = .ok v S) ∨ (b = false ∧ ∃ p, r = .ex "NotRow" p S)) :
    callF T wf (k + 4) "is_pair" [.int c, .tup [.str w, d]] S = .ok (.bl b) S := by
  have i0 : ixD (.tup [.str w, d]) (.int 0) = some (.str w) := at_nat (ds := [.str w, d]) (i := 0) rfl
  have i1 : ixD (.tup [.str w, d]) (.int 1) = some d := at_nat (ds := [.str w, d]) (i := 1) rfl
  have nw := nin_word hw
  rw [call_step T_is_pair rfl]
  rcases hr with ⟨rfl, v, rfl⟩ | ⟨rfl, p, rfl⟩
  · simp only [n_is_pair]
    refine run_no (S' := S) (by simp [startE]) ?_
    refine run_no (S' := S) (by simp [startE, i0, strsD3]; exact nw) ?_
    refine run_step (e := [.val (.int c), .val (.tup [.str w, d])]) (S' := S) (by simp [startE, i1, pickIx, h]) ?_
    exact run_ret rfl
  · simp only [n_is_pair]
    refine run_no (S' := S) (by simp [startE]) ?_
    refine run_no (S' := S) (by simp [startE, i0, strsD3]; exact nw) ?_
    simp [startE, i1, pickIx, h]
/-- what is a pair of c unknowns, and what is none -/
def PairB (c : Nat) (d : D) (b : Bool) : Prop := ∀ (wf k : Nat) (S : Store), callF T wf (k + 4) "is_pair" [.int (c : Int), d] S = .ok (.bl b) S
theorem pair_ok {c B : Nat} {w : Str} {ns : List Int} (hw : Wd3 w) (h : RowI B (c + 2) ns) : PairB c (prw w ns) true := fun wf k S => ip_of hw (cr_ok h) true (.inl ⟨rfl, _, rfl⟩)
theorem pair_ex {c : Nat} {w : Str} {d : D} (hw : Wd3 w) (h : ∀ (wf k : Nat) (S : Store), ∃ p, callF T wf (k + 3) "check_row" [.int (c : Int), d] S = .ex "NotRow" p S) : PairB c (.tup [.str w, d]) false := fun wf k S => by
  obtain ⟨p, e⟩ := h wf k S
  exact ip_of hw e false (.inr ⟨rfl, p, rfl⟩)
end K12

set_option maxHeartbeats 4000000
namespace K12
open Fx
open PySem (Str)
variable {wf k : Nat} {S : Store}
theorem prs_app : ∀ {xs ys : List D} {i : Nat}, prs i (xs ++ ys) = prs i xs ++ prs (i + xs.length) ys
  | [], ys, i => rfl
  | x :: xs, ys, i => by
    rw [List.cons_append, prs, prs_app, prs, List.length_cons, List.cons_append, show i + 1 + xs.length = i + (xs.length + 1) by omega]
theorem odd_some {xs : List D} {d : D} (hd : d ∈ xs) (hi : isI d = false) (s : Int) : ∃ p, oddP (.tup xs) s = some p := by
  show ∃ p, (if (xs.length : Int) = s then (odds xs).head?.map (fun p => (p.1 : Int)) else some (-1)) = some p
  split
  · cases h : odds xs with
    | nil =>
      obtain ⟨ns, rfl⟩ := ints_of h
      obtain ⟨z, _, rfl⟩ := List.mem_map.mp hd
      cases hi
    | cons p r => exact ⟨_, rfl⟩
  · exact ⟨_, rfl⟩
theorem odd_len {xs : List D} {s : Int} (h : (xs.length : Int) ≠ s) : oddP (.tup xs) s = some (-1) := if_neg h
theorem odd_last {ns : List Int} {d : D} (hi : isI d = false) : oddP (.tup (ns.map D.int ++ [d])) ((ns.length : Int) + 1) = some (ns.length : Int) := by
  show (if ((ns.map D.int ++ [d]).length : Int) = (ns.length : Int) + 1 then (odds (ns.map D.int ++ [d])).head?.map (fun p => (p.1 : Int)) else some (-1)) = _
  rw [if_pos (by simp)]
  unfold odds
  rw [prs_app, List.filter_append, odds_ints, List.nil_append]
  show (List.filter _ [(0 + (ns.map D.int).length, d)]).head?.map _ = _
  rw [List.filter_cons_of_pos (by simp [hi])]
  simp
theorem gcdF_z {g : Nat} {ns : List Int} : ∀ {c : Nat}, gcdF g (List.replicate c 0 ++ ns) = gcdF g ns
  | 0 => rfl
  | c + 1 => by
    rw [List.replicate_succ, List.cons_append, gcdF_cons]
    show gcdF (Nat.gcd g 0) _ = _
    rw [Nat.gcd_zero_right, gcdF_z]
theorem bdz {c n : Nat} {ns : List Int} (h : BdL n ns) : BdL n (List.replicate c 0 ++ ns) := fun x hx => by
  rcases List.mem_append.mp hx with hx | hx
  · rw [(List.mem_replicate.mp hx).2]
    unfold Bd
    exact Nat.pow_pos (by decide)
  · exact h x hx
theorem bd4 {x : Int} (h : x.natAbs < 16 := by decide) : Bd 4 x := h
abbrev zs (c : Nat) : List Int := List.replicate c 0
abbrev nn (c : Nat) : List Int := zs c ++ [1, 1]
abbrev nt (c : Nat) : List Int := zs (c - 1) ++ [1, 1]
def oddL (c : Nat) : List D := [.non, .tup [], .tup [.str "ge"], .tup [.str "lt", V (nn c)], .lst [.str "ge", V (nn c)], .tup [.str "ge", V (nt c)], .tup [.str "eq", L (nn c)], .tup [.int 5, V (nn c)], .tup [.str "gt", .non],
  .tup [.str "ge", .tup (.bl true :: (nt c).map D.int)], .tup [.str "ge", V (zs c ++ [1, 0])], .tup [.str "ge", V (zs c ++ [1, -1])], .tup [.str "gt", V (zs c ++ [2, 2])], .tup [.str "ge", .tup ((zs c ++ [1]).map D.int ++ [.str "1"])], .tup [.str "ge", V (nn c), V (nn c)], .tup [.lst [.str "ge"], V (nn c)]]
theorem bd_l {ns : List Int} (h : ∀ x ∈ ns, x.natAbs < 16) : BdL 4 ns := fun x hx => h x hx
theorem odd_pair {c : Nat} (hc : 1 ≤ c) : ∀ d ∈ oddL c, PairB c d false := by
  have b11 : BdL 4 [1, 1] := bd_l (by decide)
  have th : ∀ ns, BdL 4 ns → ∃ m, Th 4 m (V ns) := fun ns h => ⟨ns.length, .tup (lf_ints h) (by simp)⟩
  intro d hd
  simp only [oddL, List.mem_cons, List.not_mem_nil, or_false] at hd
  rcases hd with rfl | rfl | rfl | rfl | rfl | rfl | rfl | rfl | rfl | rfl | rfl | rfl | rfl | rfl | rfl | rfl
  · intro wf k S
    rw [call_step T_is_pair rfl]
    simp [n_is_pair, startE]
  · intro wf k S
    rw [call_step T_is_pair rfl]
    simp [n_is_pair, startE]
  · intro wf k S
    rw [call_step T_is_pair rfl]
    simp [n_is_pair, startE]
  · intro wf k S
    generalize V (nn c) = v
    have i0 : ixD (.tup [.str "lt", v]) (.int 0) = some (.str "lt") := at_nat (ds := [.str "lt", v]) (i := 0) rfl
    rw [call_step T_is_pair rfl]
    simp [n_is_pair, startE, i0, strsD3]
    rw [if_pos (by decide +kernel)]
    rfl
  · intro wf k S
    rw [call_step T_is_pair rfl]
    simp [n_is_pair, startE]
  · obtain ⟨m, t⟩ := th (nt c) (bdz b11)
    exact pair_ex .ge fun wf k S => ⟨_, cr_odd t (odd_len (by simp; omega))⟩
  · exact pair_ex .eq fun wf k S => ⟨_, cr_odd (n := 4) (m := (nn c).length) (.lst (lf_ints (bdz b11)) (by simp)) rfl⟩
  · intro wf k S
    generalize V (nn c) = v
    have i0 : ixD (.tup [.int 5, v]) (.int 0) = some (.int 5) := at_nat (ds := [.int 5, v]) (i := 0) rfl
    rw [call_step T_is_pair rfl]
    simp [n_is_pair, startE, i0]
  · exact pair_ex .gt fun wf k S => ⟨_, cr_odd (n := 4) (m := 4) .non rfl⟩
  · obtain ⟨p, e⟩ := odd_some (xs := .bl true :: (nt c).map D.int) (d := .bl true) List.mem_cons_self rfl ((c : Int) + 2)
    refine pair_ex .ge fun wf k S => ⟨_, cr_odd (n := 4) (m := (nt c).length + 1) (.tup (fun d hd => ?_) (by simp)) e⟩
    rcases List.mem_cons.mp hd with rfl | hd
    · exact .bl true
    · exact lf_ints (bdz b11) d hd
  · refine pair_ex .ge fun wf k S => ?_
    have := cr_bad (wf := wf) (k := k) (S := S) (c := c) (B := 4) (ms := zs c ++ [1]) (b := 0) (by simp) (by rw [List.append_assoc]; exact bdz (bd_l (by decide))) (.inl (by decide))
    rw [List.append_assoc] at this
    exact this
  · refine pair_ex .ge fun wf k S => ?_
    have := cr_bad (wf := wf) (k := k) (S := S) (c := c) (B := 4) (ms := zs c ++ [1]) (b := -1) (by simp) (by rw [List.append_assoc]; exact bdz (bd_l (by decide))) (.inl (by decide))
    rw [List.append_assoc] at this
    exact this
  · refine pair_ex .gt fun wf k S => ?_
    have := cr_bad (wf := wf) (k := k) (S := S) (c := c) (B := 4) (ms := zs c ++ [2]) (b := 2) (by simp) (by rw [List.append_assoc]; exact bdz (bd_l (by decide))) (.inr (by rw [List.append_assoc]; unfold gcdL; rw [gcdF_z]; decide))
    rw [List.append_assoc] at this
    exact this
  · obtain ⟨p, e⟩ := odd_some (xs := (zs c ++ [1]).map D.int ++ [.str "1"]) (d := .str "1") (by simp) rfl ((c : Int) + 2)
    refine pair_ex .ge fun wf k S => ⟨_, cr_odd (n := 4) (m := c + 2) (.tup (fun d hd => ?_) (by simp)) e⟩
    rcases List.mem_append.mp hd with hd | hd
    · exact lf_ints (bdz (bd_l (by decide))) d hd
    · rw [List.mem_singleton.mp hd]; exact .str
  · intro wf k S
    rw [call_step T_is_pair rfl]
    simp [n_is_pair, startE]
  · intro wf k S
    generalize V (nn c) = v
    have i0 : ixD (.tup [.lst [.str "ge"], v]) (.int 0) = some (.lst [.str "ge"]) := at_nat (ds := [.lst [.str "ge"], v]) (i := 0) rfl
    rw [call_step T_is_pair rfl]
    simp [n_is_pair, startE, i0]

/-! ### systems -/
abbrev bS : N := .cons (.ifs (.tnot (.tv (.call "is_pair" (.cons (.var 0) (.cons (.var 3) .nil)) .nil [0, 1]))) (.cons (.raise_ "NotSystem" (.var 2)) .nil) .nil) .nil
theorem l_sys {c : Nat} {v : Sl} : ∀ (l : List (Nat × D)) (x y : Sl), (∀ p ∈ l, PairB c p.2 true) → ∃ x' y', forL (forF ⟨callF T wf (k + 4), callM T wf (k + 4) true, wf⟩ (.tt (.cons (.tn 2) (.cons (.tn 3) .nil))) bS) (l.map prD) [.val (.int (c : Int)), v, x, y] S = .ok (.nx [.val (.int (c : Int)), v, x', y']) S
  | [], x, y, _ => ⟨x, y, rfl⟩
  | p :: l, x, y, h => by
    obtain ⟨x', y', e⟩ := l_sys (c := c) (v := v) l (.val (.int (p.1 : Int))) (.val p.2) fun q hq => h q (List.mem_cons_of_mem _ hq)
    refine ⟨x', y', ?_⟩
    have i := h p List.mem_cons_self wf k S
    rw [List.map_cons, forL_cons]
    simp [prD, forF, pickIx, i]
    exact e
theorem l_sysB {c : Nat} {v : Sl} {o : Nat × D} {r : List (Nat × D)} (ho : PairB c o.2 false) : ∀ (l : List (Nat × D)) (x y : Sl), (∀ p ∈ l, PairB c p.2 true) → forL (forF ⟨callF T wf (k + 4), callM T wf (k + 4) true, wf⟩ (.tt (.cons (.tn 2) (.cons (.tn 3) .nil))) bS) ((l ++ o :: r).map prD) [.val (.int (c : Int)), v, x, y] S = .ex "NotSystem" (.int (o.1 : Int)) S
  | [], x, y, _ => by
    have i := ho wf k S
    rw [List.nil_append, List.map_cons, forL_cons]
    simp [prD, forF, pickIx, i]
  | p :: l, x, y, h => by
    have e := l_sysB (c := c) (v := v) (o := o) (r := r) ho l (.val (.int (p.1 : Int))) (.val p.2) fun q hq => h q (List.mem_cons_of_mem _ hq)
    have i := h p List.mem_cons_self wf k S
    rw [List.cons_append, List.map_cons, forL_cons]
    simp [prD, forF, pickIx, i]
    simp at e
    exact e
theorem prs_all {P : D → Prop} {ds : List D} {i : Nat} (h : ∀ d ∈ ds, P d) : ∀ p ∈ prs i ds, P p.2 := fun p hp => h _ (prs_mem hp).1
theorem cs_ok {c : Nat} {ds : List D} (h : ∀ d ∈ ds, PairB c d true) (hl : ds.length ≤ 60) : callF T wf (k + 5) "check_system" [.int (c : Int), .tup ds] S = .ok (.tup ds) S := by
  obtain ⟨x, y, e⟩ := l_sys (wf := wf) (k := k) (S := S) (c := c) (v := .val (.tup ds)) (prs 0 ds) .un .un (prs_all h)
  have h60 : ¬ 60 < (ds.length : Int) := by omega
  rw [call_step T_check_system rfl]
  show (exec _ n_check_system [.val (.int (c : Int)), .val (.tup ds), .un, .un] S).bind ofFl = _
  refine run_no (S' := S) (by simp [h60]) ?_
  refine run_step (e := [.val (.int (c : Int)), .val (.tup ds), x, y]) (S' := S) ?_ (run_ret rfl)
  have it : evI ⟨callF T wf (k + 4), callM T wf (k + 4) true, wf⟩ (.enum (.var 1)) [.val (.int (c : Int)), .val (.tup ds), .un, .un] S = .ok ((prs 0 ds).map prD) S := by simp [enum_prs]
  rw [ex_for, it, Res.bind_ok]
  exact e
theorem cs_bad {c : Nat} {gs r : List D} {o : D} (h : ∀ d ∈ gs, PairB c d true) (ho : PairB c o false) (hl : (gs ++ o :: r).length ≤ 60) : callF T wf (k + 5) "check_system" [.int (c : Int), .tup (gs ++ o :: r)] S = .ex "NotSystem" (.int (gs.length : Int)) S := by
  have e := l_sysB (wf := wf) (k := k) (S := S) (c := c) (v := .val (.tup (gs ++ o :: r))) (o := (gs.length, o)) (r := prs (gs.length + 1) r) ho (prs 0 gs) .un .un (prs_all h)
  have ep : prs 0 (gs ++ o :: r) = prs 0 gs ++ (gs.length, o) :: prs (gs.length + 1) r := by
    rw [prs_app, Nat.zero_add]
    rfl
  rw [← ep] at e
  generalize gs ++ o :: r = ds at *
  have h60 : ¬ 60 < (ds.length : Int) := by omega
  rw [call_step T_check_system rfl]
  show (exec _ n_check_system [.val (.int (c : Int)), .val (.tup ds), .un, .un] S).bind ofFl = _
  refine run_no (S' := S) (by simp [h60]) ?_
  have it : evI ⟨callF T wf (k + 4), callM T wf (k + 4) true, wf⟩ (.enum (.var 1)) [.val (.int (c : Int)), .val (.tup ds), .un, .un] S = .ok ((prs 0 ds).map prD) S := by simp [enum_prs]
  rw [ex_cons, ex_for, it, Res.bind_ok]
  exact congrArg (fun z : Res Fl => (z.bind _).bind ofFl) e
/-- no tuple, or too long -/
inductive NoSys : D → Prop
  | of {d : D} (h : isTy d "tuple" = some false) : NoSys d
  | long {ds : List D} (h : 60 < ds.length) : NoSys (.tup ds)
theorem cs_form {c : Int} {d : D} (h : NoSys d) : callF T wf (k + 5) "check_system" [.int c, d] S = .ex "NotSystem" .non S := by
  rw [call_step T_check_system rfl]
  cases h with
  | of h => simp [n_check_system, startE, h]
  | @long ds h =>
    have h60 : 60 < (ds.length : Int) := by omega
    simp [n_check_system, startE, h60]
end K12

set_option maxHeartbeats 4000000
namespace K12
open Fx
open PySem (Str)
variable {wf k : Nat} {S : Store}
/-! ### sums -/
def dotI (rs P : List Int) : Int := ((rs.zip P).map fun p => p.1 * p.2).foldl (· + ·) 0
theorem c_dot {C : Ev} {env : Env} {own : List (Str × Nat)} {rs P : List Int} {m : Nat} (hw : (wipeE env own).length = 4) (hr : BdL m rs) (hP : BdL m P) (hm : m ≤ 1000) (hl : rs.length ≤ lim) :
    compL (compF C own (.bin .mul (.var 2) (.var 3)) (.tt (.cons (.tn 2) (.cons (.tn 3) .nil))) .nil env) (zipD (rs.map D.int) (P.map D.int)) [] S = .ok (((rs.zip P).map fun p => p.1 * p.2).map D.int) S := by
  rw [zipD_map]
  have c := compL_map (emb := fun p : Int × Int => D.tup [.int p.1, .int p.2]) (g := fun p => D.int (p.1 * p.2)) (f := compF C own (.bin .mul (.var 2) (.var 3)) (.tt (.cons (.tn 2) (.cons (.tn 3) .nil))) .nil env) (S := S) (l := rs.zip P) (acc := []) (fun p hp => ?_) (by rw [List.length_nil, List.length_zip]; omega)
  · rw [c, List.nil_append, List.map_map]
    rfl
  · have h1 := hr p.1 (List.of_mem_zip (a := p.1) (b := p.2) hp).1
    have h2 := hP p.2 (List.of_mem_zip (a := p.1) (b := p.2) hp).2
    have mb := mul_bin h1 h2 (by omega)
    obtain ⟨a, b, c, d, e⟩ : ∃ a b c d, wipeE env own = [a, b, c, d] := by
      match h : wipeE env own, hw with
      | [a, b, c, d], _ => exact ⟨a, b, c, d, rfl⟩
    simp [compF, e, mb]
theorem s_total_at {rs P : List Int} {b : Int} {m : Nat} (hr : BdL m rs) (hP : BdL m P) (hm : m ≤ 1000) (hl : rs.length ≤ lim) : callF T wf (k + 1) "total_at" [V (rs ++ [b]), V P] S = .ok (.int (dotI rs P)) S := by
  have c := c_dot (C := ⟨callF T wf k, callM T wf k true, wf⟩) (S := S) (env := [.val (V (rs ++ [b])), .val (V P), .un, .un]) (own := [("a", 2), ("x", 3)]) (rs := rs) (P := P) (by simp [wipeE]) hr hP hm hl
  have s1 := sl_1 (ns := rs) (b := b)
  have su := bi_sumL (ns := (rs.zip P).map fun p => p.1 * p.2)
  rw [call_step T_total_at rfl]
  generalize V (rs ++ [b]) = v at *
  refine run_ret ?_
  have it : evI ⟨callF T wf k, callM T wf k true, wf⟩ (.zip (.slc (.var 0) .nil (.cons (.neg (.cI 1)) .nil)) (.var 1)) [.val v, .val (V P), .un, .un] S = .ok (zipD (rs.map D.int) (P.map D.int)) S := by
    simp [s1, -zipD_map]
  show ev _ (.bi .sum _) [.val v, .val (V P), .un, .un] S = _
  rw [ev_bi, evs_cons_, ev_comp, it, Res.bind_ok, c]
  simp only [Res.bind_ok, evs_nil, su, ofO_some]
  rfl
theorem s__law_total {rs P : List Int} {b : Int} {m : Nat} (hr : BdL m rs) (hP : BdL m P) (hm : m ≤ 1000) (hl : rs.length ≤ lim) : callF T wf (k + 1) "_law_total" [V (rs ++ [b]), V P] S = .ok (.int (dotI rs P)) S := by
  have c := c_dot (C := ⟨callF T wf k, callM T wf k true, wf⟩) (S := S) (env := [.val (V (rs ++ [b])), .val (V P), .un, .un]) (own := [("one", 2), ("other", 3)]) (rs := rs) (P := P) (by simp [wipeE]) hr hP hm hl
  have s1 := sl_1 (ns := rs) (b := b)
  have su := bi_sumL (ns := (rs.zip P).map fun p => p.1 * p.2)
  rw [call_step T__law_total rfl]
  generalize V (rs ++ [b]) = v at *
  refine run_ret ?_
  have it : evI ⟨callF T wf k, callM T wf k true, wf⟩ (.zip (.slc (.var 0) .nil (.cons (.neg (.cI 1)) .nil)) (.var 1)) [.val v, .val (V P), .un, .un] S = .ok (zipD (rs.map D.int) (P.map D.int)) S := by
    simp [s1, -zipD_map]
  show ev _ (.bi .sum _) [.val v, .val (V P), .un, .un] S = _
  rw [ev_bi, evs_cons_, ev_comp, it, Res.bind_ok, c]
  simp only [Res.bind_ok, evs_nil, su, ofO_some]
  rfl
def sg (t : Int) : Int := if t = 0 then 0 else if 0 < t then 1 else -1
theorem s_sign_of {t : Int} : callF T wf (k + 1) "sign_of" [.int t] S = .ok (.int (sg t)) S := by
  rw [call_step T_sign_of rfl]
  unfold sg
  by_cases h : t = 0
  · subst h
    simp [n_sign_of, startE]
  · by_cases h2 : 0 < t
    · simp [n_sign_of, startE, h, h2]
    · simp [n_sign_of, startE, h, h2]
def totI (R P : List Int) : Int := dotI R.dropLast P
theorem dotl {rs P : List Int} {b : Int} : totI (rs ++ [b]) P = dotI rs P := by
  unfold totI
  rw [List.dropLast_concat]
/-- fit to be put in -/
structure Fit (m c : Nat) (R P : List Int) : Prop where
  row : RowI m (c + 2) R
  pt : BdL m P
  m : m ≤ 1000
  c : c ≤ 100
theorem Fit.ex {m c : Nat} {R P : List Int} (h : Fit m c R P) : ∃ rs b, R = rs ++ [b] ∧ BdL m rs ∧ rs.length ≤ lim := by
  obtain ⟨rs, b, e, _⟩ := h.row.pos
  refine ⟨rs, b, e, fun x hx => h.row.bd x (by rw [e]; exact List.mem_append_left _ hx), ?_⟩
  have l := h.row.len
  rw [e] at l
  have := h.c
  simp at l
  unfold lim
  omega
theorem s_row_sign {m c : Nat} {R P : List Int} (h : Fit m c R P) : callF T wf (k + 2) "row_sign" [V R, V P] S = .ok (.int (sg (totI R P))) S := by
  obtain ⟨rs, b, rfl, h1, h2⟩ := h.ex
  have t := s_total_at (wf := wf) (k := k) (S := S) (b := b) h1 h.pt h.m h2
  rw [← dotl (b := b)] at t
  rw [call_step T_row_sign rfl]
  generalize V (rs ++ [b]) = v at *
  generalize V P = p at *
  simp [n_row_sign, startE, pickIx, t, s_sign_of]
theorem q__law_total {m c : Nat} {R P : List Int} (h : Fit m c R P) : callF T wf (k + 1) "_law_total" [V R, V P] S = .ok (.int (totI R P)) S := by
  obtain ⟨rs, b, rfl, h1, h2⟩ := h.ex
  have t := s__law_total (wf := wf) (k := k) (S := S) (b := b) h1 h.pt h.m h2
  rw [← dotl (b := b)] at t
  exact t
/-- does a word hold of a sum -/
def holdB (w : Str) (t : Int) : Bool := if w = ("eq" : Str) then t == 0 else if w = ("gt" : Str) then decide (0 < t) else decide (0 ≤ t)
theorem hold_ge {t : Int} : holdB "ge" t = decide (0 ≤ t) := by
  unfold holdB
  rw [if_neg (by decide +kernel), if_neg (by decide +kernel)]
theorem hold_gt {t : Int} : holdB "gt" t = decide (0 < t) := by
  unfold holdB
  rw [if_neg (by decide +kernel), if_pos rfl]
theorem hold_eq {t : Int} : holdB "eq" t = (t == 0) := by
  unfold holdB
  rw [if_pos rfl]
theorem eqs1 : cmpOp .eq (.str "ge") (.str "eq") = some false := by decide +kernel
theorem eqs2 : cmpOp .eq (.str "ge") (.str "gt") = some false := by decide +kernel
theorem eqs3 : cmpOp .eq (.str "gt") (.str "eq") = some false := by decide +kernel
theorem eqs4 : cmpOp .eq (.str "gt") (.str "gt") = some true := by decide +kernel
theorem eqs5 : cmpOp .eq (.str "eq") (.str "eq") = some true := by decide +kernel
theorem sg_eq {t : Int} : (sg t == 0) = (t == 0) := by
  unfold sg
  by_cases h : t = 0
  · simp [h]
  · by_cases h2 : 0 < t <;> simp [h, h2]
theorem sg_gt {t : Int} : decide (0 < sg t) = decide (0 < t) := by
  unfold sg
  by_cases h : t = 0
  · simp [h]
  · by_cases h2 : 0 < t <;> simp [h, h2]
theorem sg_ge {t : Int} : decide (0 ≤ sg t) = decide (0 ≤ t) := by
  unfold sg
  by_cases h : t = 0
  · simp [h]
  · by_cases h2 : 0 < t
    · simp [h, h2]; omega
    · simp [h, h2]; omega
theorem s_does_hold {m c : Nat} {w : Str} {R P : List Int} (hw : Wd3 w) (h : Fit m c R P) : callF T wf (k + 3) "does_hold" [prw w R, V P] S = .ok (.bl (holdB w (totI R P))) S := by
  have r := s_row_sign (wf := wf) (k := k) (S := S) h
  rw [call_step T_does_hold rfl]
  have i0 : ixD (prw w R) (.int 0) = some (.str w) := at_nat (ds := [.str w, V R]) (i := 0) rfl
  have i1 : ixD (prw w R) (.int 1) = some (V R) := at_nat (ds := [.str w, V R]) (i := 1) rfl
  generalize prw w R = d at *
  generalize V R = v at *
  generalize V P = p at *
  generalize totI R P = t at *
  cases hw with
  | ge =>
    rw [hold_ge, ← sg_ge]
    simp [n_does_hold, startE, pickIx, i0, i1, r, eqs1, eqs2]
  | gt =>
    rw [hold_gt, ← sg_gt]
    simp [n_does_hold, startE, pickIx, i0, i1, r, eqs3, eqs4]
  | eq =>
    rw [hold_eq, ← sg_eq]
    simp [n_does_hold, startE, pickIx, i0, i1, r, eqs5]
theorem s__law_stands {w : Str} {t : Int} (hw : Wd3 w) : callF T wf (k + 1) "_law_stands" [.str w, .int t] S = .ok (.bl (holdB w t)) S := by
  rw [call_step T__law_stands rfl]
  cases hw with
  | ge =>
    rw [hold_ge]
    simp [n__law_stands, startE, eqs1, eqs2]
  | gt =>
    rw [hold_gt]
    simp [n__law_stands, startE, eqs3, eqs4]
  | eq =>
    rw [hold_eq]
    simp [n__law_stands, startE, eqs5]
end K12

set_option maxHeartbeats 4000000
namespace K12
open Fx
open PySem (Str)
variable {wf k : Nat} {S : Store}
abbrev Pr := Str × List Int
abbrev pD (p : Pr) : D := prw p.1 p.2
/-- a system of c unknowns -/
structure SysI (m c : Nat) (sy : List Pr) : Prop where
  all : ∀ p ∈ sy, Wd3 p.1 ∧ RowI m (c + 2) p.2
  len : sy.length ≤ 60
  m : m ≤ 1000
  c : c ≤ 100
abbrev sysD (sy : List Pr) : D := .tup (sy.map pD)
theorem SysI.pairs {m c : Nat} {sy : List Pr} (h : SysI m c sy) : ∀ d ∈ sy.map pD, PairB c d true := fun d hd => by
  obtain ⟨p, hp, rfl⟩ := List.mem_map.mp hd
  exact pair_ok (h.all p hp).1 (h.all p hp).2
theorem SysI.ok {m c : Nat} {sy : List Pr} (h : SysI m c sy) : callF T wf (k + 5) "check_system" [.int (c : Int), sysD sy] S = .ok (sysD sy) S := cs_ok h.pairs (by rw [List.length_map]; exact h.len)
theorem SysI.fit {m c : Nat} {sy : List Pr} {P : List Int} (h : SysI m c sy) (hP : RowI m (c + 1) P) {p : Pr} (hp : p ∈ sy) : Fit m c p.2 P := ⟨(h.all p hp).2, hP.bd, h.m, h.c⟩
def holdP (P : List Int) (p : Pr) : Bool := holdB p.1 (totI p.2 P)
theorem allD_map {α : Type} {f : α → Bool} : ∀ {l : List α}, allD (l.map fun a => D.bl (f a)) = some (l.all f)
  | [] => rfl
  | a :: l => by
    show (allD (l.map fun a => D.bl (f a))).map (f a && ·) = _
    rw [allD_map]
    rfl
theorem s_all_hold {m c : Nat} {sy : List Pr} {P : List Int} (h : SysI m c sy) (hP : RowI m (c + 1) P) : callF T wf (k + 4) "all_hold" [sysD sy, V P] S = .ok (.bl (sy.all (holdP P))) S := by
  have cm := compL_map (emb := pD) (g := fun p => D.bl (holdP P p)) (f := compF ⟨callF T wf (k + 3), callM T wf (k + 3) true, wf⟩ [("pair", 2)] (.call "does_hold" (.cons (.var 2) (.cons (.var 1) .nil)) .nil [0, 1]) (.tn 2) .nil [.val (sysD sy), .val (V P), .un]) (S := S) (l := sy) (acc := []) (fun p hp => ?_) (by have := h.len; simp; unfold lim; omega)
  · rw [call_step T_all_hold rfl]
    refine run_ret ?_
    show ev _ (.bi .all _) [.val (sysD sy), .val (V P), .un] S = _
    have it : evI ⟨callF T wf (k + 3), callM T wf (k + 3) true, wf⟩ (.seq (.var 0)) [.val (sysD sy), .val (V P), .un] S = .ok (sy.map pD) S := by simp
    rw [ev_bi, evs_cons_, ev_comp, it, Res.bind_ok, cm]
    simp [allD_map]
  · have d := s_does_hold (wf := wf) (k := k) (S := S) (h.all p hp).1 (h.fit hP hp)
    simp only [pD] at d ⊢
    generalize prw p.1 p.2 = x at *
    generalize V P = v at *
    generalize sysD sy = s at *
    simp [compF, wipeE, pickIx, d, holdP]
theorem s_holds_all {m c : Nat} {sy : List Pr} {P : List Int} (h : SysI m c sy) (hP : RowI m (c + 1) P) : callF T wf (k + 6) "holds_all" [.int (c : Int), sysD sy, V P] S = .ok (.bl (sy.all (holdP P))) S := by
  have e1 := h.ok (wf := wf) (k := k) (S := S)
  have e2 := cp_ok (wf := wf) (k := k + 2) (S := S) hP
  have e3 := s_all_hold (wf := wf) (k := k + 1) (S := S) h hP
  rw [call_step T_holds_all rfl]
  generalize sysD sy = s at *
  generalize V P = v at *
  simp [n_holds_all, startE, pickIx, e1, e2, e3]
/-- each with its place -/
def pr2 : Nat → List Pr → List (Nat × Pr)
  | _, [] => []
  | i, p :: l => (i, p) :: pr2 (i + 1) l
theorem prs_pr2 : ∀ {sy : List Pr} {i : Nat}, prs i (sy.map pD) = (pr2 i sy).map fun q => (q.1, pD q.2)
  | [], _ => rfl
  | p :: l, i => by
    rw [List.map_cons, prs, prs_pr2]
    rfl
theorem pr2_mem : ∀ {sy : List Pr} {i : Nat} {q : Nat × Pr}, q ∈ pr2 i sy → q.2 ∈ sy ∧ q.1 < i + sy.length
  | p :: l, i, q, h => by
    rcases List.mem_cons.mp h with rfl | h
    · exact ⟨List.mem_cons_self, by simp⟩
    · obtain ⟨a, b⟩ := pr2_mem h
      exact ⟨List.mem_cons_of_mem _ a, by rw [List.length_cons]; omega⟩
theorem pr2_len : ∀ {sy : List Pr} {i : Nat}, (pr2 i sy).length = sy.length
  | [], _ => rfl
  | _ :: l, i => by rw [pr2, List.length_cons, pr2_len, List.length_cons]
/-- the places that do not hold -/
def faultF (P : List Int) (l : List (Nat × Pr)) : List (Nat × Pr) := l.filter fun q => !holdP P q.2
theorem fault_none {P : List Int} : ∀ {sy : List Pr} {i : Nat}, (faultF P (pr2 i sy)).isEmpty = sy.all (holdP P)
  | [], _ => rfl
  | p :: l, i => by
    unfold faultF
    rw [pr2, List.filter_cons, List.all_cons]
    cases h : holdP P p with
    | true =>
      simp only [Bool.not_true, Bool.false_eq_true, if_false, Bool.true_and]
      exact fault_none
    | false => simp
def headD : List (Nat × Pr) → D
  | [] => .non
  | q :: _ => .int (q.1 : Int)
abbrev bB : N := .cons (.ifs (.tnot (.tv (.call "does_hold" (.cons (.var 4) (.cons (.var 2) .nil)) .nil [0, 1]))) (.cons (.ret (.var 3)) .nil) .nil) .nil
theorem l_brk {a b : Sl} {P : List Int} : ∀ (l : List (Nat × Pr)) (x y : Sl), (∀ q ∈ l, callF T wf (k + 3) "does_hold" [pD q.2, V P] S = .ok (.bl (holdP P q.2)) S) → ∃ x' y', forL (forF ⟨callF T wf (k + 3), callM T wf (k + 3) true, wf⟩ (.tt (.cons (.tn 3) (.cons (.tn 4) .nil))) bB) (l.map fun q => prD (q.1, pD q.2)) [a, b, .val (V P), x, y] S =
    match faultF P l with
    | [] => .ok (.nx [a, b, .val (V P), x', y']) S
    | q :: _ => .ok (.rt (.int (q.1 : Int))) S
  | [], x, y, _ => ⟨x, y, rfl⟩
  | p :: l, x, y, h => by
    obtain ⟨x', y', e⟩ := l_brk (a := a) (b := b) l (.val (.int (p.1 : Int))) (.val (pD p.2)) fun q hq => h q (List.mem_cons_of_mem _ hq)
    refine ⟨x', y', ?_⟩
    have i := h p List.mem_cons_self
    unfold faultF at e ⊢
    rw [List.map_cons, forL_cons, List.filter_cons]
    generalize hv : V P = v at *
    generalize hd : pD p.2 = d at *
    cases hp : holdP P p.2 with
    | true =>
      rw [hp] at i
      simp only [prD, forF]
      simp [pickIx, i]
      exact e
    | false =>
      rw [hp] at i
      simp only [prD, forF]
      simp [pickIx, i]
theorem s_first_broken {m c : Nat} {sy : List Pr} {P : List Int} (h : SysI m c sy) (hP : RowI m (c + 1) P) : callF T wf (k + 6) "first_broken" [.int (c : Int), sysD sy, V P] S = .ok (headD (faultF P (pr2 0 sy))) S := by
  have e1 := h.ok (wf := wf) (k := k) (S := S)
  have e2 := cp_ok (wf := wf) (k := k + 2) (S := S) hP
  obtain ⟨x, y, e3⟩ := l_brk (wf := wf) (k := k + 2) (S := S) (P := P) (a := .val (.int (c : Int))) (b := .val (sysD sy)) (pr2 0 sy) .un .un fun q hq => s_does_hold (h.all q.2 (pr2_mem hq).1).1 (h.fit hP (pr2_mem hq).1)
  have it : enumD (sy.map pD) = (pr2 0 sy).map fun q => prD (q.1, pD q.2) := by
    rw [enum_prs, prs_pr2, List.map_map]
    rfl
  rw [call_step T_first_broken rfl]
  show (exec _ n_first_broken [.val (.int (c : Int)), .val (sysD sy), .val (V P), .un, .un] S).bind ofFl = _
  have it2 : evI ⟨callF T wf (k + 5), callM T wf (k + 5) true, wf⟩ (.enum (.var 1)) [.val (.int (c : Int)), .val (sysD sy), .val (V P), .un, .un] S = .ok ((pr2 0 sy).map fun q => prD (q.1, pD q.2)) S := by simp [it]
  generalize V P = v at *
  generalize sysD sy = s at *
  refine run_step (e := [.val (.int (c : Int)), .val s, .val v, .un, .un]) (S' := S) (by simp [pickIx, e1]) ?_
  refine run_step (e := [.val (.int (c : Int)), .val s, .val v, .un, .un]) (S' := S) (by simp [pickIx, e2]) ?_
  rw [ex_cons, ex_for, it2, Res.bind_ok]
  refine (congrArg (fun z : Res Fl => (z.bind _).bind ofFl) e3).trans ?_
  cases faultF P (pr2 0 sy) with
  | nil => simp [headD]
  | cons q r => simp [headD]
theorem pts_bad {c : Nat} {sy : List Pr} {m : Nat} {d pl : D} (h : SysI m c sy) (he : ∀ wf k S, callF T wf (k + 3) "check_point" [.int (c : Int), d] S = .ex "NotPoint" pl S) :
    callF T wf (k + 6) "holds_all" [.int (c : Int), sysD sy, d] S = .ex "NotPoint" pl S ∧ callF T wf (k + 6) "first_broken" [.int (c : Int), sysD sy, d] S = .ex "NotPoint" pl S := by
  have e1 := h.ok (wf := wf) (k := k) (S := S)
  have e2 := he wf (k + 2) S
  generalize sysD sy = s at *
  refine ⟨?_, ?_⟩
  · rw [call_step T_holds_all rfl]
    simp [n_holds_all, startE, pickIx, e1, e2]
  · rw [call_step T_first_broken rfl]
    simp [n_first_broken, startE, pickIx, e1, e2]
theorem sys_bad {c : Int} {d p n : D} (he : callF T wf (k + 5) "check_system" [.int c, d] S = .ex "NotSystem" n S) :
    callF T wf (k + 6) "holds_all" [.int c, d, p] S = .ex "NotSystem" n S ∧ callF T wf (k + 6) "first_broken" [.int c, d, p] S = .ex "NotSystem" n S := by
  refine ⟨?_, ?_⟩
  · rw [call_step T_holds_all rfl]
    simp [n_holds_all, startE, pickIx, he]
  · rw [call_step T_first_broken rfl]
    simp [n_first_broken, startE, pickIx, he]
end K12

set_option maxHeartbeats 4000000
namespace K12
open Fx
open PySem (Str)
variable {wf k : Nat} {S : Store}
theorem s__law_rowed {d : D} {ns : List Int} {b : Int} {m : Nat} (h : d = V ns ∨ d = L ns) (h0 : 0 < b) (hb : BdL m (ns ++ [b])) (hm : m ≤ 8000) (hw : 2 * m + 1 ≤ wf) (hl : ns.length < lim) : callF T wf (k + 3) "_law_rowed" [d, .int b] S = .ok (V (low (ns ++ [b]))) S := by
  have hd : seqD d = some (ns.map D.int) := by rcases h with rfl | rfl <;> rfl
  have e := s__law_lowered (wf := wf) (k := k) (S := S) (d := L (ns ++ [b])) (.inr rfl) hb hm hw (by simp; omega)
  have c := c_id (C := ⟨callF T wf (k + 2), callM T wf (k + 2) true, wf⟩) (S := S) (env := [.val d, .val (.int b), .val (.int 1), .un]) (own := [("number", 3)]) (i := 3) (j := 2) (ns := ns) (by simp [wipeE]) (by decide) (by simp [wipeE]) (by omega)
  have q : binOp .mul (.int 1) (.int b) = some (.int b) := by
    show (if mulOk 1 b then some (D.int (1 * b)) else none) = _
    rw [show mulOk 1 b = true from rfl, Int.one_mul]
    rfl
  have a : binOp .add (.lst (ns.map D.int)) (.lst [.int b]) = some (L (ns ++ [b])) := by
    rw [add_lst (by simp; omega)]
    simp
  rw [call_step T__law_rowed rfl]
  simp [n__law_rowed, startE, pickIx, h0, hd, c, q, a, e]
theorem MOk.mono {n j j' : Nat} (h : MOk S n j) (l : j ≤ j') : MOk S n j' := by
  obtain ⟨l1, s, cs, sp, q1, q2, q3⟩ := h
  exact ⟨l1, s, cs, sp, q1, q2, by omega⟩
theorem q__law_of {n j : Nat} {ds : List D} (hm : MOk S n j) (hj : j < 100000) (h0 : 0 < ds.length) (h1 : ds.length < 1000) : ∃ d S', callF T wf (k + 2) "_law_of" [.ref n, .lst ds] S = .ok d S' ∧ d ∈ ds ∧ MOk S' n (j + 1) := by
  obtain ⟨r, S1, e1, p0, p1, m1⟩ := s__law_draw (wf := wf) (k := k) (b := (ds.length : Int)) hm (by omega) (by omega) (by omega)
  have hr : r.toNat < ds.length := by omega
  have i : ixD (.lst ds) (.int r) = some ds[r.toNat] := by
    have := at_nat (ds := ds) (i := r.toNat) (d := ds[r.toNat]) (List.getElem?_eq_getElem hr)
    rw [Int.toNat_of_nonneg p0] at this
    exact this
  refine ⟨ds[r.toNat], S1, ?_, List.getElem_mem _, m1⟩
  rw [call_step T__law_of rfl]
  simp [n__law_of, startE, pickIx, e1, i]
/-- the same where the list is lent -/
theorem q__law_ofB {n j : Nat} {ds : List D} (hm : MOk S n j) (hj : j < 100000) (h0 : 0 < ds.length) (h1 : ds.length < 1000) : ∃ d S', callM T wf (k + 2) true "_law_of" [.ref n, .lst ds] S = .ok d S' ∧ d ∈ ds ∧ MOk S' n (j + 1) := by
  obtain ⟨r, S1, e1, p0, p1, m1⟩ := s__law_draw (wf := wf) (k := k) (b := (ds.length : Int)) hm (by omega) (by omega) (by omega)
  have hr : r.toNat < ds.length := by omega
  have i : ixD (.lst ds) (.int r) = some ds[r.toNat] := by
    have := at_nat (ds := ds) (i := r.toNat) (d := ds[r.toNat]) (List.getElem?_eq_getElem hr)
    rw [Int.toNat_of_nonneg p0] at this
    exact this
  refine ⟨ds[r.toNat], S1, ?_, List.getElem_mem _, m1⟩
  rw [lent_step T__law_of rfl]
  show (exec _ n__law_of [.val (.ref n), .bor ds] S).bind ofFl = _
  simp [n__law_of, pickIx, e1, i]
theorem q_rowed {c m : Nat} {ns : List Int} {b : Int} (hw : 20000 ≤ wf) (h0 : 0 < b) (hb : BdL m (ns ++ [b])) (hm : m ≤ 8000) (hl : ns.length = c + 1) (hc : c ≤ 100) : ∃ R, callF T wf (k + 3) "_law_rowed" [L ns, .int b] S = .ok (V R) S ∧ RowI m (c + 2) R := by
  refine ⟨low (ns ++ [b]), s__law_rowed (.inr rfl) h0 hb hm (by omega) (by unfold lim; omega), ?_⟩
  have := low_rowI h0 hb
  rw [hl] at this
  exact this
theorem eq_nil {ns : List Int} : cmpOp .eq (L ns) (.lst []) = some ns.isEmpty := by
  have h := ne_nil (ns := ns)
  have h : (eqD (L ns) (.lst [])).map (!·) = some (!ns.isEmpty) := h
  show eqD (L ns) (.lst []) = _
  cases q : eqD (L ns) (.lst []) with
  | none => rw [q] at h; cases h
  | some b =>
    rw [q] at h
    have h : some (!b) = some (!ns.isEmpty) := h
    cases b <;> cases hn : ns.isEmpty <;> rw [hn] at h <;> first | rfl | cases h
theorem q__law_drawn_row {n j c : Nat} (hw : 20000 ≤ wf) (hm : MOk S n j) (hj : j < 90000) (hc0 : 1 ≤ c) (hc : c ≤ 100) : ∃ R S', callF T wf (k + 4) "_law_drawn_row" [.ref n, .int (c : Int), .int 2] S = .ok (V R) S' ∧ RowI 4 (c + 2) R ∧ MOk S' n (j + c + 3) := by
  have one := fun (S : Store) (j : Nat) (h : MOk S n j) (hj : j + 1 ≤ 200000) => s__law_draw (wf := wf) (k := k + 2) (b := 5) h (by omega) (by decide) (by decide)
  have m4 : binOp .mul (.int 2) (.int 2) = some (.int 4) := rfl
  obtain ⟨rs, S1, e1, l1, p1, m1⟩ := c_draw (emb := D.int) (n := n) (c := 1) (J := 200000) (P := fun r => -2 ≤ r ∧ r ≤ 2) (f := compF ⟨callF T wf (k + 3), callM T wf (k + 3) true, wf⟩ [("k", 4)] (.bin .sub (.call "_law_draw" (.cons (.var 0) (.cons (.bin .add (.bin .mul (.cI 2) (.var 2)) (.cI 1)) .nil)) .nil [0, 1]) (.var 2)) (.tn 4) .nil [.val (.ref n), .val (.int (c : Int)), .val (.int 2), .un, .un, .un]) (rangeD 0 ((c + 1 : Nat) : Int)) [] S j (fun d _ S j h hj => by
    obtain ⟨r, S', e, h1, h2, h3⟩ := one S j h hj
    refine ⟨r - 2, S', ?_, by omega, h3⟩
    simp [compF, wipeE, pickIx, m4, e]) hm (by rw [rg_len]; omega) (by rw [rg_len]; simp; unfold lim; omega)
  rw [rg_len] at l1 m1
  rw [List.nil_append] at e1
  have rgc : rgOk 0 ((c + 1 : Nat) : Int) = true := rg_ok (by omega)
  obtain ⟨ys, a, ers, ly⟩ := split_last (R := rs) (n := c) l1
  have slL : slD (.lst (rs.map D.int)) none (some (-1)) = some (.lst (ys.map D.int)) := by
    show some (D.lst (cutD (rs.map D.int) none (some (-1)))) = _
    rw [ers, List.map_append]
    exact congrArg (fun z => some (D.lst z)) cut_1
  -- is some number not 0
  have t1 : evT ⟨callF T wf (k + 3), callM T wf (k + 3) true, wf⟩ (.cmp .eq (.comp [("number", 5)] (.var 5) (.tn 5) (.seq (.slc (.pk 3) .nil (.cons (.neg (.cI 1)) .nil))) (.cons (.cmp .ne (.var 5) (.cI 0)) .nil)) (.lst .nil)) [.val (.ref n), .val (.int (c : Int)), .val (.int 2), .own (rs.map D.int), .un, .un] S1 = .ok ((ys.filter fun z => !(z == 0)).isEmpty) S1 := by
    have cm := compL_fil (emb := D.int) (g := D.int) (p := fun z => !(z == 0)) (f := compF ⟨callF T wf (k + 3), callM T wf (k + 3) true, wf⟩ [("number", 5)] (.var 5) (.tn 5) (.cons (.cmp .ne (.var 5) (.cI 0)) .nil) [.val (.ref n), .val (.int (c : Int)), .val (.int 2), .own (rs.map D.int), .un, .un]) (S := S1) (l := ys) (acc := []) (fun z _ => ?_) (by simp; unfold lim; omega)
    · have en := eq_nil (ns := ys.filter fun z => !(z == 0))
      simp only [L] at en
      rw [List.nil_append] at cm
      have it : evI ⟨callF T wf (k + 3), callM T wf (k + 3) true, wf⟩ (.seq (.slc (.pk 3) .nil (.cons (.neg (.cI 1)) .nil))) [.val (.ref n), .val (.int (c : Int)), .val (.int 2), .own (rs.map D.int), .un, .un] S1 = .ok (ys.map D.int) S1 := by
        rw [evI_seq, ev_slc, ev_pkO (xs := rs.map D.int) rfl]
        simp [slL]
      rw [evT_cmp, ev_comp, it, Res.bind_ok, cm]
      simp only [Res.bind_ok, ev_lst, evs_nil, en, ofO_some]
    · by_cases hz : z = 0 <;> simp [compF, wipeE, hz]
  -- the numbers
  have lst : ∃ (ts : List Int) (S2 : Store), exec ⟨callF T wf (k + 3), callM T wf (k + 3) true, wf⟩ (.ifs (.cmp .eq (.comp [("number", 5)] (.var 5) (.tn 5) (.seq (.slc (.pk 3) .nil (.cons (.neg (.cI 1)) .nil))) (.cons (.cmp .ne (.var 5) (.cI 0)) .nil)) (.lst .nil)) (.cons (.lput 3 (.call "_law_draw" (.cons (.var 0) (.cons (.var 1) .nil)) .nil [0, 1]) (.cI 1)) .nil) .nil) [.val (.ref n), .val (.int (c : Int)), .val (.int 2), .own (rs.map D.int), .un, .un] S1 = .ok (.nx [.val (.ref n), .val (.int (c : Int)), .val (.int 2), .own (ts.map D.int), .un, .un]) S2 ∧ ts.length = c + 1 ∧ (∀ z ∈ ts, -2 ≤ z ∧ z ≤ 2) ∧ MOk S2 n (j + c + 2) := by
    rw [ex_ifs, t1, Res.bind_ok]
    cases (ys.filter fun z => !(z == 0)).isEmpty with
    | false => exact ⟨rs, S1, rfl, l1, p1, m1.mono (by omega)⟩
    | true =>
      obtain ⟨r, S2, e2, r0, r1, m2⟩ := s__law_draw (wf := wf) (k := k + 2) (b := (c : Int)) m1 (by omega) (by omega) (by omega)
      have pt : putI (rs.map D.int) r (.int 1) = some ((rs.set r.toNat 1).map D.int) := by
        unfold putI L2.ixN
        rw [if_pos r0, List.length_map, if_pos (by omega)]
        show some ((rs.map D.int).set r.toNat (.int 1)) = _
        rw [List.map_set]
      refine ⟨rs.set r.toNat 1, S2, ?_, by rw [List.length_set]; exact l1, fun z hz => ?_, m2.mono (by omega)⟩
      · generalize rs.map D.int = ds at *
        generalize (rs.set r.toNat 1).map D.int = es at *
        simp [pickIx, e2, pt]
      · rcases List.mem_or_eq_of_mem_set hz with hz | rfl
        · exact p1 z hz
        · omega
  obtain ⟨ts, S2, e2, l2, p2, m2⟩ := lst
  obtain ⟨d, S3, e3, d3, m3⟩ := q__law_of (wf := wf) (k := k + 1) (ds := [.int 1, .int 1, .int 1, .int 2, .int 3]) m2 (by omega) (by decide) (by decide)
  obtain ⟨b, rfl, b1, b2⟩ : ∃ b : Int, d = .int b ∧ 0 < b ∧ b ≤ 3 := by
    simp only [List.mem_cons, List.not_mem_nil, or_false] at d3
    rcases d3 with rfl | rfl | rfl | rfl | rfl
    · exact ⟨1, rfl, by decide, by decide⟩
    · exact ⟨1, rfl, by decide, by decide⟩
    · exact ⟨1, rfl, by decide, by decide⟩
    · exact ⟨2, rfl, by decide, by decide⟩
    · exact ⟨3, rfl, by decide, by decide⟩
  obtain ⟨R, e4, hR⟩ := q_rowed (wf := wf) (k := k) (S := S3) (c := c) (m := 4) (ns := ts) (b := b) hw b1 (fun x hx => by
    rcases List.mem_append.mp hx with hx | hx
    · have := p2 x hx
      unfold Bd
      show _ < 16
      omega
    · rw [List.mem_singleton.mp hx]
      unfold Bd
      show _ < 16
      omega) (by decide) l2 hc
  refine ⟨R, S3, ?_, hR, m3.mono (by omega)⟩
  rw [call_step T__law_drawn_row rfl]
  show (exec _ n__law_drawn_row [.val (.ref n), .val (.int (c : Int)), .val (.int 2), .un, .un, .un] S).bind ofFl = _
  refine run_step (e := [.val (.ref n), .val (.int (c : Int)), .val (.int 2), .own (rs.map D.int), .un, .un]) (S' := S1) ?_ (run_step e2 ?_)
  · have it : evI ⟨callF T wf (k + 3), callM T wf (k + 3) true, wf⟩ (.rng1 (.bin .add (.var 1) (.cI 1))) [.val (.ref n), .val (.int (c : Int)), .val (.int 2), .un, .un, .un] S = .ok (rangeD 0 ((c + 1 : Nat) : Int)) S := by
      have q : (c : Int) + 1 = ((c + 1 : Nat) : Int) := rfl
      simp only [evI_rng1, ev_bin, ev_var (i := 1) (env := [.val (.ref n), .val (.int (c : Int)), .val (.int 2), .un, .un, .un]) rfl, Res.bind_ok, ev_cI, bin_add, ofO_some, q, rgc, if_true]
    rw [ex_setO, ev_comp, it, Res.bind_ok, e1]
    simp
  · simp only [L] at e4
    refine run_step (e := [.val (.ref n), .val (.int (c : Int)), .val (.int 2), .val (.lst (ts.map D.int)), .un, .un]) (S' := S2) (by simp) ?_
    generalize ts.map D.int = tt at *
    generalize V R = v at *
    refine run_ret ?_
    simp [pickIx, e3, e4]
end K12

set_option maxHeartbeats 4000000
namespace K12
open Fx
open PySem (Str PyData)
variable {wf k : Nat} {S : Store}
theorem RowI.mono {B B' s : Nat} {ns : List Int} (h : RowI B s ns) (l : B ≤ B') : RowI B' s ns := ⟨h.len, fun x hx => (h.bd x hx).mono l, h.one, h.pos⟩
theorem ex_step {C : Ev} {a b : N} {env e : Env} {S' : Store} {X : Res Fl} (h : exec C a env S = .ok (.nx e) S') (q : exec C b e S' = X) : exec C (.cons a b) env S = X := by
  rw [ex_cons, h, Res.bind_ok]
  exact q
theorem ex_no {C : Ev} {c a r : N} {env : Env} {S' : Store} {X : Res Fl} (h : evT C c env S = .ok false S') (q : exec C r env S' = X) : exec C (.cons (.ifs c a .nil) r) env S = X := by
  refine ex_step (e := env) (S' := S') ?_ q
  rw [ex_ifs, h, Res.bind_ok, if_neg Bool.false_ne_true]
  rfl
/-! ### what may be compared -/
def Ly (h : Nat) (d : D) : Prop := ∃ p, d.py = some p ∧ p.canLay0 = true ∧ p.depth ≤ h
theorem Ly.mono {h h' : Nat} {d : D} (q : Ly h d) (l : h ≤ h') : Ly h' d := by
  obtain ⟨p, a, b, c⟩ := q
  exact ⟨p, a, b, Nat.le_trans c l⟩
theorem Ly_int {i : Int} : Ly 0 (.int i) := ⟨_, rfl, rfl, Nat.zero_le _⟩
theorem Ly_non : Ly 0 .non := ⟨_, rfl, rfl, Nat.zero_le _⟩
theorem Ly_bl {b : Bool} : Ly 0 (.bl b) := ⟨_, rfl, rfl, Nat.zero_le _⟩
theorem Ly_str {x : Str} (h : PyData.strOk x = true) : Ly 0 (.str x) := ⟨_, rfl, h, Nat.zero_le _⟩
theorem Lys {h : Nat} : ∀ {ds : List D}, (∀ d ∈ ds, Ly h d) → ∃ ps, D.pys ds = some ps ∧ PyData.canLayAll0 ps = true ∧ PyData.depthAll ps ≤ h ∧ ps.isEmpty = ds.isEmpty
  | [], _ => ⟨[], rfl, rfl, Nat.zero_le _, rfl⟩
  | d :: ds, q => by
    obtain ⟨p, a, b, c⟩ := q d List.mem_cons_self
    obtain ⟨ps, a', b', c', _⟩ := Lys (ds := ds) fun x hx => q x (List.mem_cons_of_mem _ hx)
    refine ⟨p :: ps, ?_, ?_, ?_, rfl⟩
    · show (match d.py, D.pys ds with | some p, some ps => some (p :: ps) | _, _ => none) = _
      rw [a, a']
    · show (p.canLay0 && PyData.canLayAll0 ps) = true
      rw [b, b']; rfl
    · show max p.depth (PyData.depthAll ps) ≤ h
      omega
theorem Ly_tup {h : Nat} {ds : List D} (q : ∀ d ∈ ds, Ly h d) : Ly (h + 1) (.tup ds) := by
  obtain ⟨ps, a, b, c, _⟩ := Lys q
  refine ⟨.tuple ps, ?_, b, Nat.succ_le_succ c⟩
  show (D.pys ds).map PyData.tuple = _
  rw [a]; rfl
theorem Ly_lst {h : Nat} {ds : List D} (q : ∀ d ∈ ds, Ly h d) : Ly (h + 1) (.lst ds) := by
  obtain ⟨ps, a, b, c, _⟩ := Lys q
  refine ⟨.list ps, ?_, b, Nat.succ_le_succ c⟩
  show (D.pys ds).map PyData.list = _
  rw [a]; rfl
theorem ne_nilG {h : Nat} {ds : List D} (q : ∀ d ∈ ds, Ly h d) (hh : h ≤ 60) : cmpOp .ne (.lst ds) (.lst []) = some (!ds.isEmpty) := by
  obtain ⟨ps, a, b, c, e⟩ := Lys q
  have h1 : (D.lst ds).py = some (.list ps) := by
    show (D.pys ds).map PyData.list = _
    rw [a]; rfl
  have h2 : (D.lst []).py = some (.list []) := rfl
  have s1 : PySem.SeqAt.shaped (.list ps) = true := by
    show (PyData.canLayAll0 ps && decide (PyData.depthAll ps + 1 ≤ 64)) = true
    rw [b, decide_eq_true (by omega)]; rfl
  have s2 : PySem.SeqAt.shaped (.list []) = true := rfl
  show (eqD (.lst ds) (.lst [])).map (!·) = _
  unfold eqD
  simp only [h1, h2, s1, s2]
  rw [← e]
  cases ps <;> rfl
theorem ok3 {w : Str} (h : Wd3 w) : PyData.strOk w = true := by cases h <;> exact ok_of _
theorem Ly_ints {ns : List Int} : Ly 1 (V ns) := Ly_tup fun d hd => by
  obtain ⟨z, _, rfl⟩ := List.mem_map.mp hd
  exact Ly_int
theorem Ly_pair {p : Pr} (h : Wd3 p.1) : Ly 2 (pD p) := Ly_tup fun d hd => by
  rcases List.mem_cons.mp hd with rfl | hd
  · exact (Ly_str (ok3 h)).mono (by decide)
  · rw [List.mem_singleton.mp hd]
    exact Ly_ints
theorem neP {fs : List Pr} (h : ∀ p ∈ fs, Wd3 p.1) : cmpOp .ne (.lst (fs.map pD)) (.lst []) = some (!fs.isEmpty) := by
  rw [ne_nilG (h := 2) (fun d hd => by
    obtain ⟨p, hp, rfl⟩ := List.mem_map.mp hd
    exact Ly_pair (h p hp)) (by decide), List.isEmpty_map]

/-! ### drawn systems -/
section
variable {n j c B : Nat} {fs : List Pr} {v2 v4 x7 x8 : Sl} {R : List Int} {way : Int}
abbrev eS (n c : Nat) (v2 : Sl) (fs : List Pr) (v4 : Sl) (R : List Int) (way : Int) (x7 x8 : Sl) : Env := [.val (.ref n), .val (.int (c : Int)), v2, .own (fs.map pD), v4, .val (V R), .val (.int way), x7, x8, .un, .un, .un]
structure FsI (B c : Nat) (fs : List Pr) : Prop where
  all : ∀ p ∈ fs, Wd3 p.1 ∧ RowI B (c + 2) p.2
  len : fs.length < 900
theorem pick_row {S : Store} (h : FsI B c fs) (h0 : fs ≠ []) (hm : MOk S n j) (hj : j < 100000) : ∃ R' S', callM T wf (k + 2) true "_law_of" [.ref n, .lst (fs.map pD)] S = .ok R' S' ∧ (∃ ns, ixD R' (.int 1) = some (V ns) ∧ RowI B (c + 2) ns) ∧ MOk S' n (j + 1) := by
  obtain ⟨d, S1, e, hd, m⟩ := q__law_ofB (wf := wf) (k := k) (ds := fs.map pD) hm hj (by rw [List.length_map]; exact List.length_pos_iff.mpr h0) (by rw [List.length_map]; have := h.len; omega)
  obtain ⟨p, hp, rfl⟩ := List.mem_map.mp hd
  exact ⟨_, S1, e, ⟨p.2, at_nat (ds := [.str p.1, V p.2]) (i := 1) rfl, (h.all p hp).2⟩, m⟩
theorem evT_tandF {C : Ev} {a b : N} {env : Env} {S S' : Store} (h : evT C a env S = .ok false S') : evT C (.tand a b) env S = .ok false S' := by
  rw [evT_tand, h, Res.bind_ok, if_neg Bool.false_ne_true]
theorem evT_tandT {C : Ev} {a b : N} {env : Env} {S S' : Store} (h : evT C a env S = .ok true S') : evT C (.tand a b) env S = evT C b env S' := by
  rw [evT_tand, h, Res.bind_ok, if_pos rfl]
theorem t_way {C : Ev} {w : Int} (h : ∀ p ∈ fs, Wd3 p.1) : evT C (.tand (.cmp .eq (.var 6) (.cI w)) (.cmp .ne (.pk 3) (.lst .nil))) (eS n c v2 fs v4 R way x7 x8) S = .ok (way == w && !fs.isEmpty) S := by
  have np := neP h
  by_cases hw : way = w
  · subst hw
    rw [evT_tandT (S' := S) (by simp), evT_cmp, ev_pkO (xs := fs.map pD) rfl]
    simp only [Res.bind_ok, ev_lst, evs_nil, np, ofO_some, beq_self_eq_true, Bool.true_and]
  · rw [evT_tandF (S' := S) (by simp [hw])]
    have : (way == w) = false := by simpa using hw
    rw [this, Bool.false_and]
theorem cut_row {R : List Int} (h : RowI B (c + 2) R) : ∃ xs a b, R = xs ++ [a, b] ∧ xs.length = c ∧ slD (V R) none (some (-2)) = some (V xs) ∧ BdL B xs := by
  obtain ⟨ys, b, e, ly⟩ := split_last (R := R) (n := c + 1) h.len
  obtain ⟨xs, a, e2, lx⟩ := split_last (R := ys) (n := c) ly
  have e3 : R = xs ++ [a, b] := by rw [e, e2]; simp
  refine ⟨xs, a, b, e3, lx, ?_, fun x hx => h.bd x (by rw [e3]; exact List.mem_append_left _ hx)⟩
  show some (D.tup (cutD (R.map D.int) none (some (-2)))) = _
  rw [e3, List.map_append]
  exact congrArg (fun z => some (D.tup z)) cut_2
theorem cut_row1 {R : List Int} (h : RowI B (c + 2) R) : ∃ ys, ys.length = c + 1 ∧ slD (V R) none (some (-1)) = some (V ys) ∧ BdL B ys := by
  obtain ⟨ys, b, e, ly⟩ := split_last (R := R) (n := c + 1) h.len
  refine ⟨ys, ly, ?_, fun x hx => h.bd x (by rw [e]; exact List.mem_append_left _ hx)⟩
  rw [e]
  exact sl_1
theorem step1 (hw : 20000 ≤ wf) (hf : FsI B c fs) (hR : RowI (B + 3) (c + 2) R) (hB : 4 ≤ B) (hB2 : B ≤ 900) (hm : MOk S n j) (hj : j < 90000) (hc : c ≤ 100) : ∃ R' S', exec ⟨callF T wf (k + 5), callM T wf (k + 5) true, wf⟩ (.ifs (.tand (.cmp .eq (.var 6) (.cI 0)) (.cmp .ne (.pk 3) (.lst .nil))) (.cons (.set 5 (.idx (.callB "_law_of" (.cons (.var 0) (.cons (.pk 3) .nil))) (.cI 1))) (.cons (.set 5 (.call "_law_rowed" (.cons (.bin .add (.comp [("number", 9)] (.neg (.var 9)) (.tn 9) (.seq (.slc (.var 5) .nil (.cons (.neg (.cI 2)) .nil))) .nil) (.lst (.cons (.bin .sub (.call "_law_draw" (.cons (.var 0) (.cons (.cI 5) .nil)) .nil [0, 1]) (.cI 2)) .nil))) (.cons (.cI 1) .nil)) .nil [0, 1])) .nil)) .nil) (eS n c v2 fs v4 R way x7 x8) S = .ok (.nx (eS n c v2 fs v4 R' way x7 x8)) S' ∧ RowI (B + 3) (c + 2) R' ∧ MOk S' n (j + 2) := by
  rw [ex_ifs, t_way fun p hp => (hf.all p hp).1, Res.bind_ok]
  cases hq : (way == 0 && !fs.isEmpty) with
  | false => exact ⟨R, S, rfl, hR, hm.mono (by omega)⟩
  | true =>
    rw [if_pos rfl]
    have h0 : fs ≠ [] := fun z => by
      rw [z] at hq
      simp at hq
    obtain ⟨d, S1, e1, ⟨ns, i1, hns⟩, m1⟩ := pick_row (wf := wf) (k := k + 3) hf h0 hm (by omega)
    obtain ⟨xs, a, b, _, lx, sl, bx⟩ := cut_row hns
    obtain ⟨r, S2, e2, r0, r1, m2⟩ := s__law_draw (wf := wf) (k := k + 4) (b := 5) m1 (by omega) (by decide) (by decide)
    obtain ⟨R', e3, hR'⟩ := q_rowed (wf := wf) (k := k + 2) (S := S2) (c := c) (m := B) (ns := xs.map (- ·) ++ [r - 2]) (b := 1) hw (by decide) (fun x hx => by
      rcases List.mem_append.mp hx with hx | hx
      · rcases List.mem_append.mp hx with hx | hx
        · obtain ⟨y, hy, rfl⟩ := List.mem_map.mp hx
          exact (bx y hy).neg
        · rw [List.mem_singleton.mp hx]
          exact Bd.mono (n := 4) (by unfold Bd; show _ < 16; omega) hB
      · rw [List.mem_singleton.mp hx]
        exact Bd.mono (n := 4) (by unfold Bd; decide) hB) (by omega) (by simp [lx]) hc
    refine ⟨R', S2, ?_, hR'.mono (by omega), m2.mono (by omega)⟩
    have cm := compL_map (emb := D.int) (g := fun z : Int => D.int (-z)) (f := compF ⟨callF T wf (k + 5), callM T wf (k + 5) true, wf⟩ [("number", 9)] (.neg (.var 9)) (.tn 9) .nil (eS n c v2 fs v4 ns way x7 x8)) (S := S1) (l := xs) (acc := []) (fun z _ => ?_) (by simp; unfold lim; omega)
    · rw [List.nil_append] at cm
      have z1 : exec ⟨callF T wf (k + 5), callM T wf (k + 5) true, wf⟩ (.set 5 (.idx (.callB "_law_of" (.cons (.var 0) (.cons (.pk 3) .nil))) (.cI 1))) (eS n c v2 fs v4 R way x7 x8) S = .ok (.nx (eS n c v2 fs v4 ns way x7 x8)) S1 := by
        generalize hvv : V ns = vv at *
        simp only [eS] at *
        rw [hvv]
        generalize fs.map pD = ds at *
        generalize V R = vR at *
        simp [e1, i1]
      have ad : binOp .add (.lst (xs.map fun z => D.int (-z))) (.lst [.int (r - 2)]) = some (L (xs.map (- ·) ++ [r - 2])) := by
        rw [add_lst (by simp; unfold lim; omega)]
        simp
      have it : evI ⟨callF T wf (k + 5), callM T wf (k + 5) true, wf⟩ (.seq (.slc (.var 5) .nil (.cons (.neg (.cI 2)) .nil))) (eS n c v2 fs v4 ns way x7 x8) S1 = .ok (xs.map D.int) S1 := by
        rw [evI_seq, ev_slc, ev_var (d := V ns) rfl]
        simp [sl]
      refine ex_step (S := S) z1 (ex_step (S := S1) (e := eS n c v2 fs v4 R' way x7 x8) (S' := S2) ?_ rfl)
      rw [ex_set, ev_call, evs_cons_, ev_bin, ev_comp, it, Res.bind_ok, cm]
      generalize xs.map (fun z => D.int (-z)) = w1 at *
      generalize L (xs.map (- ·) ++ [r - 2]) = w2 at *
      simp only [eS]
      generalize fs.map pD = ds at *
      generalize V ns = vn at *
      generalize V R' = vR at *
      simp [pickIx, e2, ad, e3]
    · simp only [eS]
      generalize fs.map pD = ds
      generalize V ns = vn
      simp [compF, wipeE]
end
end K12

set_option maxHeartbeats 4000000
namespace K12
open Fx
open PySem (Str PyData)
variable {wf k : Nat} {S : Store}
section
variable {n j c B : Nat} {fs : List Pr} {v2 v4 x7 x8 : Sl} {R : List Int} {way : Int}
theorem rep_lst {xs : List D} {j : Int} (h1 : 0 ≤ j) (h2 : j ≤ 1000) (h3 : xs.length * j.toNat ≤ lim) : binOp .mul (.lst xs) (.int j) = some (.lst (List.replicate j.toNat xs).flatten) := by
  unfold binOp
  exact if_pos ⟨by omega, by omega, h3⟩
theorem mul_Z {c : Nat} (hc : c ≤ 100) : binOp .mul (.lst [.int 0]) (.int (c : Int)) = some (L (zs c)) := by
  rw [rep_lst (by omega) (by omega) (by simp; unfold lim; omega), Int.toNat_natCast]
  congr 2
  show (List.replicate c [D.int 0]).flatten = (List.replicate c (0 : Int)).map D.int
  rw [List.map_replicate]
  clear hc
  induction c with
  | zero => rfl
  | succ c ih => rw [List.replicate_succ, List.flatten_cons, ih, List.replicate_succ]; rfl
theorem step3 (hw : 20000 ≤ wf) (hR : RowI (B + 3) (c + 2) R) (hB : 4 ≤ B) (hB2 : B ≤ 900) (hm : MOk S n j) (hj : j < 90000) (hc : c ≤ 100) : ∃ R' S', exec ⟨callF T wf (k + 5), callM T wf (k + 5) true, wf⟩ (.ifs (.cmp .eq (.var 6) (.cI 2)) (.cons (.set 5 (.call "_law_rowed" (.cons (.bin .add (.bin .mul (.lst (.cons (.cI 0) .nil)) (.var 1)) (.lst (.cons (.bin .sub (.call "_law_draw" (.cons (.var 0) (.cons (.cI 4) .nil)) .nil [0, 1]) (.cI 1)) .nil))) (.cons (.cI 2) .nil)) .nil [0, 1])) .nil) .nil) (eS n c v2 fs v4 R way x7 x8) S = .ok (.nx (eS n c v2 fs v4 R' way x7 x8)) S' ∧ RowI (B + 3) (c + 2) R' ∧ MOk S' n (j + 1) := by
  by_cases hq : way = 2
  · subst hq
    obtain ⟨r, S2, e2, r0, r1, m2⟩ := s__law_draw (wf := wf) (k := k + 4) (b := 4) hm (by omega) (by decide) (by decide)
    obtain ⟨R', e3, hR'⟩ := q_rowed (wf := wf) (k := k + 2) (S := S2) (c := c) (m := 4) (ns := zs c ++ [r - 1]) (b := 2) hw (by decide) (by
      rw [List.append_assoc]
      refine bdz (bd_l fun x hx => ?_)
      simp at hx
      omega) (by omega) (by simp) hc
    have ad : binOp .add (L (zs c)) (.lst [.int (r - 1)]) = some (L (zs c ++ [r - 1])) := by
      rw [add_lst (by simp; unfold lim; omega)]
      simp
    have mz := mul_Z hc
    refine ⟨R', S2, ?_, hR'.mono (by omega), m2⟩
    generalize L (zs c ++ [r - 1]) = w2 at *
    generalize L (zs c) = w3 at *
    simp only [eS]
    generalize fs.map pD = ds at *
    generalize V R = vn at *
    generalize V R' = vR at *
    simp [pickIx, e2, ad, e3, mz]
  · refine ⟨R, S, ?_, hR, hm.mono (by omega)⟩
    simp only [eS]
    generalize fs.map pD = ds at *
    generalize V R = vn at *
    simp [hq]
theorem t3 {n j : Nat} {S : Store} (hm : MOk S n j) (hj : j < 95000) : ∃ t S', callF T wf (k + 4) "_law_of" [.ref n, .lst [.int (-1), .int 1, .int 2]] S = .ok (.int t) S' ∧ Bd 2 t ∧ MOk S' n (j + 1) := by
  obtain ⟨d, S1, e, hd, m⟩ := q__law_of (wf := wf) (k := k + 2) (ds := [.int (-1), .int 1, .int 2]) hm (by omega) (by decide) (by decide)
  simp only [List.mem_cons, List.not_mem_nil, or_false] at hd
  rcases hd with rfl | rfl | rfl
  · exact ⟨_, S1, e, by unfold Bd; decide, m⟩
  · exact ⟨_, S1, e, by unfold Bd; decide, m⟩
  · exact ⟨_, S1, e, by unfold Bd; decide, m⟩
theorem step2 (hw : 20000 ≤ wf) (hf : FsI B c fs) (hR : RowI (B + 3) (c + 2) R) (hB : 4 ≤ B) (hB2 : B ≤ 900) (hm : MOk S n j) (hj : j < 90000) (hc : c ≤ 100) : ∃ R' y7 y8 S', exec ⟨callF T wf (k + 5), callM T wf (k + 5) true, wf⟩ (.ifs (.tand (.cmp .eq (.var 6) (.cI 1)) (.cmp .ne (.pk 3) (.lst .nil))) (.cons (.par 7 8 (.idx (.callB "_law_of" (.cons (.var 0) (.cons (.pk 3) .nil))) (.cI 1)) (.idx (.callB "_law_of" (.cons (.var 0) (.cons (.pk 3) .nil))) (.cI 1))) (.cons (.set 5 (.call "_law_rowed" (.cons (.comp [("a", 10), ("b", 11)] (.bin .add (.var 10) (.bin .mul (.call "_law_of" (.cons (.var 0) (.cons (.lst (.cons (.neg (.cI 1)) (.cons (.cI 1) (.cons (.cI 2) .nil)))) .nil)) .nil [0, 1]) (.var 11))) (.tt (.cons (.tn 10) (.cons (.tn 11) .nil))) (.zip (.slc (.var 7) .nil (.cons (.neg (.cI 1)) .nil)) (.slc (.var 8) .nil (.cons (.neg (.cI 1)) .nil))) .nil) (.cons (.cI 1) .nil)) .nil [0, 1])) .nil)) .nil) (eS n c v2 fs v4 R way x7 x8) S = .ok (.nx (eS n c v2 fs v4 R' way y7 y8)) S' ∧ RowI (B + 3) (c + 2) R' ∧ MOk S' n (j + c + 3) := by
  rw [ex_ifs, t_way fun p hp => (hf.all p hp).1, Res.bind_ok]
  cases hq : (way == 1 && !fs.isEmpty) with
  | false => exact ⟨R, x7, x8, S, rfl, hR, hm.mono (by omega)⟩
  | true =>
    rw [if_pos rfl]
    have h0 : fs ≠ [] := fun z => by
      rw [z] at hq
      simp at hq
    obtain ⟨d, S1, e1, ⟨ns, i1, hns⟩, m1⟩ := pick_row (wf := wf) (k := k + 3) hf h0 hm (by omega)
    obtain ⟨d2, S2, e2, ⟨ms, i2, hms⟩, m2⟩ := pick_row (wf := wf) (k := k + 3) hf h0 m1 (by omega)
    obtain ⟨xs, lx, sl, bx⟩ := cut_row1 hns
    obtain ⟨ys, ly, sl2, by_⟩ := cut_row1 hms
    obtain ⟨rs, S3, e3, l3, p3, m3⟩ := c_draw (emb := D.int) (n := n) (c := 1) (J := 95000) (P := fun r => Bd (B + 3) r) (f := compF ⟨callF T wf (k + 5), callM T wf (k + 5) true, wf⟩ [("a", 10), ("b", 11)] (.bin .add (.var 10) (.bin .mul (.call "_law_of" (.cons (.var 0) (.cons (.lst (.cons (.neg (.cI 1)) (.cons (.cI 1) (.cons (.cI 2) .nil)))) .nil)) .nil [0, 1]) (.var 11))) (.tt (.cons (.tn 10) (.cons (.tn 11) .nil))) .nil (eS n c v2 fs v4 R way (.val (V ns)) (.val (V ms)))) (zipD (xs.map D.int) (ys.map D.int)) [] S2 (j + 1 + 1) (fun d hd S j h hj => by
      rw [zipD_map] at hd
      obtain ⟨p, hp, rfl⟩ := List.mem_map.mp hd
      have h1 := bx p.1 (List.of_mem_zip (a := p.1) (b := p.2) hp).1
      have h2 := by_ p.2 (List.of_mem_zip (a := p.1) (b := p.2) hp).2
      obtain ⟨t, S', e, bt, m⟩ := t3 (wf := wf) (k := k + 1) h (by omega)
      have mb := mul_bin bt h2 (by omega)
      refine ⟨p.1 + t * p.2, S', ?_, (((h1.mono (show B ≤ 2 + B by omega)).add (bt.mul h2)).mono (by omega)), m⟩
      simp only [eS]
      generalize fs.map pD = ds at *
      generalize V R = vn at *
      generalize V ns = v1 at *
      generalize V ms = v2 at *
      simp [compF, wipeE, pickIx, e, mb]) m2 (by rw [zipD_map, List.length_map, List.length_zip]; omega) (by rw [zipD_map, List.length_map, List.length_zip]; simp; unfold lim; omega)
    rw [zipD_map, List.length_map, List.length_zip, lx, ly, Nat.min_self] at l3 m3
    rw [List.nil_append] at e3
    obtain ⟨R', e4, hR'⟩ := q_rowed (wf := wf) (k := k + 2) (S := S3) (c := c) (m := B + 3) (ns := rs) (b := 1) hw (by decide) (fun x hx => by
      rcases List.mem_append.mp hx with hx | hx
      · exact p3 x hx
      · rw [List.mem_singleton.mp hx]
        exact Bd.mono (n := 4) (by unfold Bd; decide) (by omega)) (by omega) l3 hc
    refine ⟨R', .val (V ns), .val (V ms), S3, ?_, hR', m3.mono (by omega)⟩
    have z1 : exec ⟨callF T wf (k + 5), callM T wf (k + 5) true, wf⟩ (.par 7 8 (.idx (.callB "_law_of" (.cons (.var 0) (.cons (.pk 3) .nil))) (.cI 1)) (.idx (.callB "_law_of" (.cons (.var 0) (.cons (.pk 3) .nil))) (.cI 1))) (eS n c v2 fs v4 R way x7 x8) S = .ok (.nx (eS n c v2 fs v4 R way (.val (V ns)) (.val (V ms)))) S2 := by
      simp only [eS] at *
      generalize fs.map pD = ds at *
      generalize V R = vR at *
      generalize V ns = v1 at *
      generalize V ms = v2 at *
      simp [e1, i1, e2, i2]
    have it : evI ⟨callF T wf (k + 5), callM T wf (k + 5) true, wf⟩ (.zip (.slc (.var 7) .nil (.cons (.neg (.cI 1)) .nil)) (.slc (.var 8) .nil (.cons (.neg (.cI 1)) .nil))) (eS n c v2 fs v4 R way (.val (V ns)) (.val (V ms))) S2 = .ok (zipD (xs.map D.int) (ys.map D.int)) S2 := by
      have h7 : ev ⟨callF T wf (k + 5), callM T wf (k + 5) true, wf⟩ (.var 7) (eS n c v2 fs v4 R way (.val (V ns)) (.val (V ms))) S2 = .ok (V ns) S2 := ev_var rfl
      have h8 : ev ⟨callF T wf (k + 5), callM T wf (k + 5) true, wf⟩ (.var 8) (eS n c v2 fs v4 R way (.val (V ns)) (.val (V ms))) S2 = .ok (V ms) S2 := ev_var rfl
      simp only [evI_zip, ev_slc, h7, h8, Res.bind_ok, evO_nil, evO_cons, ev_neg, ev_cI, sl, sl2, ofO_some, seqD_t]
    refine ex_step (S := S) z1 (ex_step (S := S2) (e := eS n c v2 fs v4 R' way (.val (V ns)) (.val (V ms))) (S' := S3) ?_ rfl)
    rw [ex_set, ev_call, evs_cons_, ev_comp, it, Res.bind_ok, e3]
    simp only [eS, L] at *
    generalize rs.map D.int = w2 at *
    generalize fs.map pD = ds at *
    generalize V ns = vn at *
    generalize V ms = vm at *
    generalize V R' = vR at *
    simp [pickIx, e4]
end
end K12

set_option maxHeartbeats 4000000
namespace K12
open Fx
open PySem (Str PyData)
variable {wf k : Nat} {S : Store}
abbrev p0 : N := (.par 5 6 (.call "_law_drawn_row" (.cons (.var 0) (.cons (.var 1) (.cons (.cI 2) .nil))) .nil [0, 1, 2]) (.call "_law_draw" (.cons (.var 0) (.cons (.cI 8) .nil)) .nil [0, 1]))
abbrev p1 : N := (.ifs (.tand (.cmp .eq (.var 6) (.cI 0)) (.cmp .ne (.pk 3) (.lst .nil))) (.cons (.set 5 (.idx (.callB "_law_of" (.cons (.var 0) (.cons (.pk 3) .nil))) (.cI 1))) (.cons (.set 5 (.call "_law_rowed" (.cons (.bin .add (.comp [("number", 9)] (.neg (.var 9)) (.tn 9) (.seq (.slc (.var 5) .nil (.cons (.neg (.cI 2)) .nil))) .nil) (.lst (.cons (.bin .sub (.call "_law_draw" (.cons (.var 0) (.cons (.cI 5) .nil)) .nil [0, 1]) (.cI 2)) .nil))) (.cons (.cI 1) .nil)) .nil [0, 1])) .nil)) .nil)
abbrev p2 : N := (.ifs (.tand (.cmp .eq (.var 6) (.cI 1)) (.cmp .ne (.pk 3) (.lst .nil))) (.cons (.par 7 8 (.idx (.callB "_law_of" (.cons (.var 0) (.cons (.pk 3) .nil))) (.cI 1)) (.idx (.callB "_law_of" (.cons (.var 0) (.cons (.pk 3) .nil))) (.cI 1))) (.cons (.set 5 (.call "_law_rowed" (.cons (.comp [("a", 10), ("b", 11)] (.bin .add (.var 10) (.bin .mul (.call "_law_of" (.cons (.var 0) (.cons (.lst (.cons (.neg (.cI 1)) (.cons (.cI 1) (.cons (.cI 2) .nil)))) .nil)) .nil [0, 1]) (.var 11))) (.tt (.cons (.tn 10) (.cons (.tn 11) .nil))) (.zip (.slc (.var 7) .nil (.cons (.neg (.cI 1)) .nil)) (.slc (.var 8) .nil (.cons (.neg (.cI 1)) .nil))) .nil) (.cons (.cI 1) .nil)) .nil [0, 1])) .nil)) .nil)
abbrev p3 : N := (.ifs (.cmp .eq (.var 6) (.cI 2)) (.cons (.set 5 (.call "_law_rowed" (.cons (.bin .add (.bin .mul (.lst (.cons (.cI 0) .nil)) (.var 1)) (.lst (.cons (.bin .sub (.call "_law_draw" (.cons (.var 0) (.cons (.cI 4) .nil)) .nil [0, 1]) (.cI 1)) .nil))) (.cons (.cI 2) .nil)) .nil [0, 1])) .nil) .nil)
abbrev p4 : N := (.app 3 (.tup (.cons (.call "_law_of" (.cons (.var 0) (.cons (.lst (.cons (.cS "ge") (.cons (.cS "ge") (.cons (.cS "gt") (.cons (.cS "gt") (.cons (.cS "eq") .nil)))))) .nil)) .nil [0, 1]) (.cons (.var 5) .nil))))
abbrev bY : N := .cons p0 (.cons p1 (.cons p2 (.cons p3 (.cons p4 .nil))))
section
variable {n j c B : Nat} {fs : List Pr} {v2 v4 x4 x5 x6 x7 x8 : Sl} {R : List Int} {way : Int}
theorem draw_word {n j : Nat} {S : Store} (hm : MOk S n j) (hj : j < 95000) : ∃ w S', callF T wf (k + 5) "_law_of" [.ref n, .lst [.str "ge", .str "ge", .str "gt", .str "gt", .str "eq"]] S = .ok (.str w) S' ∧ Wd3 w ∧ MOk S' n (j + 1) := by
  obtain ⟨d, S1, e, hd, m⟩ := q__law_of (wf := wf) (k := k + 3) (ds := [.str "ge", .str "ge", .str "gt", .str "gt", .str "eq"]) hm (by omega) (by decide) (by decide)
  simp only [List.mem_cons, List.not_mem_nil, or_false] at hd
  rcases hd with rfl | rfl | rfl | rfl | rfl
  · exact ⟨_, S1, e, .ge, m⟩
  · exact ⟨_, S1, e, .ge, m⟩
  · exact ⟨_, S1, e, .gt, m⟩
  · exact ⟨_, S1, e, .gt, m⟩
  · exact ⟨_, S1, e, .eq, m⟩
theorem t_sys {d : D} (hw : 20000 ≤ wf) (hf : FsI B c fs) (hB : 4 ≤ B) (hB2 : B ≤ 900) (hm : MOk S n j) (hj : j < 80000) (hc0 : 1 ≤ c) (hc : c ≤ 100) (hl : fs.length < 800) : ∃ p y5 y6 y7 y8 S', forF ⟨callF T wf (k + 5), callM T wf (k + 5) true, wf⟩ (.tn 4) bY d [.val (.ref n), .val (.int (c : Int)), v2, .own (fs.map pD), x4, x5, x6, x7, x8, .un, .un, .un] S =
    .ok (.nx [.val (.ref n), .val (.int (c : Int)), v2, .own ((fs ++ [p]).map pD), .val d, y5, y6, y7, y8, .un, .un, .un]) S' ∧ FsI (B + 3) c (fs ++ [p]) ∧ MOk S' n (j + 2 * c + 11) := by
  obtain ⟨R0, S1, e1, r0, m1⟩ := q__law_drawn_row (wf := wf) (k := k + 1) hw hm (by omega) hc0 hc
  obtain ⟨way, S2, e2, w0, w1, m2⟩ := s__law_draw (wf := wf) (k := k + 4) (b := 8) m1 (by omega) (by decide) (by decide)
  obtain ⟨R1, S3, e3, h3, m3⟩ := step1 (wf := wf) (k := k) (v2 := v2) (v4 := .val d) (x7 := x7) (x8 := x8) (way := way) hw hf (r0.mono (by omega)) hB hB2 m2 (by omega) hc
  obtain ⟨R2, y7, y8, S4, e4, h4, m4⟩ := step2 (wf := wf) (k := k) (v2 := v2) (v4 := .val d) (x7 := x7) (x8 := x8) (way := way) hw hf h3 hB hB2 m3 (by omega) hc
  obtain ⟨R3, S5, e5, h5, m5⟩ := step3 (wf := wf) (k := k) (fs := fs) (v2 := v2) (v4 := .val d) (x7 := y7) (x8 := y8) (way := way) hw h4 hB hB2 m4 (by omega) hc
  obtain ⟨w, S6, e6, h6, m6⟩ := draw_word (wf := wf) (k := k) m5 (by omega)
  refine ⟨(w, R3), .val (V R3), .val (.int way), y7, y8, S6, ?_, ⟨fun p hp => ?_, by simp; omega⟩, m6.mono (by omega)⟩
  · unfold forF
    simp only [bindT_tn, List.length_cons, List.length_nil]
    show exec _ bY [.val (.ref n), .val (.int (c : Int)), v2, .own (fs.map pD), .val d, x5, x6, x7, x8, .un, .un, .un] S = _
    refine ex_step (S := S) (e := eS n c v2 fs (.val d) R0 way x7 x8) (S' := S2) ?_ (ex_step (S := S2) e3 (ex_step (S := S3) e4 (ex_step (S := S4) e5 (ex_step (S := S5) (S' := S6) ?_ rfl))))
    · simp only [eS]
      generalize fs.map pD = ds
      generalize V R0 = v at *
      simp [pickIx, e1, e2]
    · have hl2 : (fs.map pD).length < lim := by rw [List.length_map]; unfold lim; omega
      rw [List.map_append]
      simp only [eS, List.map_cons, List.map_nil, pD, prw]
      generalize fs.map (fun p => D.tup [.str p.1, V p.2]) = ds at *
      generalize V R3 = v at *
      rw [ex_app]
      simp only [List.getElem?_cons_succ, List.getElem?_cons_zero]
      simp [pickIx, e6, hl2]
  · rcases List.mem_append.mp hp with hp | hp
    · exact ⟨(hf.all p hp).1, (hf.all p hp).2.mono (by omega)⟩
    · rw [List.mem_singleton.mp hp]
      exact ⟨h6, h5⟩
theorem l_many (hw : 20000 ≤ wf) (hc0 : 1 ≤ c) (hc : c ≤ 100) : ∀ (ds : List D) (S : Store) (j B : Nat) (fs : List Pr) (x4 x5 x6 x7 x8 : Sl), FsI B c fs → 4 ≤ B → B + ds.length * 3 ≤ 900 → fs.length + ds.length < 800 → MOk S n j → j + ds.length * (2 * c + 11) ≤ 80000 →
    ∃ gs y4 y5 y6 y7 y8 S', forL (forF ⟨callF T wf (k + 5), callM T wf (k + 5) true, wf⟩ (.tn 4) bY) ds [.val (.ref n), .val (.int (c : Int)), v2, .own (fs.map pD), x4, x5, x6, x7, x8, .un, .un, .un] S =
      .ok (.nx [.val (.ref n), .val (.int (c : Int)), v2, .own (gs.map pD), y4, y5, y6, y7, y8, .un, .un, .un]) S' ∧ FsI (B + ds.length * 3) c gs ∧ gs.length = fs.length + ds.length ∧ MOk S' n (j + ds.length * (2 * c + 11))
  | [], S, j, B, fs, x4, x5, x6, x7, x8, hf, _, _, _, hm, _ => ⟨fs, x4, x5, x6, x7, x8, S, rfl, by simpa using hf, by simp, by simpa using hm⟩
  | d :: ds, S, j, B, fs, x4, x5, x6, x7, x8, hf, h1, h2, h3, hm, h4 => by
    rw [List.length_cons, Nat.succ_mul] at h2 h4
    rw [List.length_cons] at h3
    obtain ⟨p, y5, y6, y7, y8, S1, e1, f1, m1⟩ := t_sys (k := k) (v2 := v2) (x4 := x4) (x5 := x5) (x6 := x6) (x7 := x7) (x8 := x8) (d := d) hw hf h1 (by omega) hm (by omega) hc0 hc (by omega)
    obtain ⟨gs, z4, z5, z6, z7, z8, S2, e2, f2, l2, m2⟩ := l_many hw hc0 hc ds S1 (j + 2 * c + 11) (B + 3) (fs ++ [p]) (.val d) y5 y6 y7 y8 f1 (by omega) (by omega) (by rw [List.length_append, List.length_singleton]; omega) m1 (by omega)
    refine ⟨gs, z4, z5, z6, z7, z8, S2, ?_, ?_, ?_, ?_⟩
    · rw [forL_cons, e1]
      exact e2
    · have : B + (d :: ds).length * 3 = B + 3 + ds.length * 3 := by rw [List.length_cons, Nat.succ_mul]; omega
      rw [this]
      exact f2
    · rw [l2]
      simp
      omega
    · have : j + (d :: ds).length * (2 * c + 11) = j + 2 * c + 11 + ds.length * (2 * c + 11) := by rw [List.length_cons, Nat.succ_mul]; omega
      rw [this]
      exact m2
theorem q__law_system {many : Nat} (hw : 20000 ≤ wf) (hm : MOk S n j) (hj : j < 60000) (hc0 : 1 ≤ c) (hc : c ≤ 20) (hmy : many ≤ 8) : ∃ fs S', callF T wf (k + 6) "_law_system" [.ref n, .int (c : Int), .int (many : Int)] S = .ok (sysD fs) S' ∧ SysI 60 c fs ∧ fs.length = many ∧ MOk S' n (j + many * (2 * c + 11)) := by
  have hmc : many * (2 * c + 11) ≤ 8 * 51 := Nat.mul_le_mul hmy (by omega)
  obtain ⟨gs, y4, y5, y6, y7, y8, S1, e1, f1, l1, m1⟩ := l_many (n := n) (k := k) (v2 := .val (.int (many : Int))) hw hc0 (by omega) (rangeD 0 (many : Int)) S j 4 [] .un .un .un .un .un ⟨fun p hp => (by cases hp), by decide⟩ (Nat.le_refl _) (by rw [rg_len]; omega) (by rw [rg_len]; simp; omega) hm (by rw [rg_len]; omega)
  rw [rg_len] at f1 l1 m1
  refine ⟨gs, S1, ?_, ⟨fun p hp => ⟨(f1.all p hp).1, (f1.all p hp).2.mono (by omega)⟩, by simp at l1; omega, by decide, by omega⟩, by simpa using l1, m1⟩
  have rk : rgOk 0 (many : Int) = true := rg_ok (by omega)
  rw [call_step T__law_system rfl]
  show (exec _ n__law_system [.val (.ref n), .val (.int (c : Int)), .val (.int (many : Int)), .un, .un, .un, .un, .un, .un, .un, .un, .un] S).bind ofFl = _
  refine run_step (e := [.val (.ref n), .val (.int (c : Int)), .val (.int (many : Int)), .own [], .un, .un, .un, .un, .un, .un, .un, .un]) (S' := S) (by simp) ?_
  refine run_step (e := [.val (.ref n), .val (.int (c : Int)), .val (.int (many : Int)), .own (gs.map pD), y4, y5, y6, y7, y8, .un, .un, .un]) (S' := S1) ?_ ?_
  · have it : evI ⟨callF T wf (k + 5), callM T wf (k + 5) true, wf⟩ (.rng1 (.var 2)) [.val (.ref n), .val (.int (c : Int)), .val (.int (many : Int)), .own [], .un, .un, .un, .un, .un, .un, .un, .un] S = .ok (rangeD 0 (many : Int)) S := by
      simp [rk]
    rw [ex_for, it, Res.bind_ok]
    exact e1
  · refine run_ret ?_
    rw [ev_bi, evs_cons_, ev_pkO (xs := gs.map pD) rfl]
    simp
end
end K12

set_option maxHeartbeats 4000000
namespace K12
open Fx
open PySem (Str PyData)
variable {wf k : Nat} {S : Store}
abbrev q0 : N := (.set 3 (.bin .add (.bin .mul (.tup (.cons (.cI 0) .nil)) (.var 1)) (.tup (.cons (.cI 1) (.cons (.cI 1) .nil)))))
abbrev q1 : N := (.setO 4 (.lst (.cons .cN (.cons (.tup .nil) (.cons (.tup (.cons (.cS "ge") .nil)) (.cons (.tup (.cons (.cS "lt") (.cons (.var 3) .nil))) (.cons (.lst (.cons (.cS "ge") (.cons (.var 3) .nil))) (.cons (.tup (.cons (.cS "ge") (.cons (.slc (.var 3) (.cons (.cI 1) .nil) .nil) .nil))) (.cons (.tup (.cons (.cS "eq") (.cons (.bi .list (.cons (.var 3) .nil)) .nil))) (.cons (.tup (.cons (.cI 5) (.cons (.var 3) .nil))) (.cons (.tup (.cons (.cS "gt") (.cons .cN .nil))) .nil)))))))))))
abbrev q2 : N := (.setO 4 (.bin .add (.pk 4) (.lst (.cons (.tup (.cons (.cS "ge") (.cons (.bin .add (.tup (.cons (.cB true) .nil)) (.slc (.var 3) (.cons (.cI 1) .nil) .nil)) .nil))) (.cons (.tup (.cons (.cS "ge") (.cons (.bin .add (.slc (.var 3) .nil (.cons (.neg (.cI 1)) .nil)) (.tup (.cons (.cI 0) .nil))) .nil))) (.cons (.tup (.cons (.cS "ge") (.cons (.bin .add (.slc (.var 3) .nil (.cons (.neg (.cI 1)) .nil)) (.tup (.cons (.neg (.cI 1)) .nil))) .nil))) .nil))))))
abbrev q3 : N := (.app 4 (.tup (.cons (.cS "gt") (.cons (.bin .add (.slc (.var 3) .nil (.cons (.neg (.cI 2)) .nil)) (.tup (.cons (.cI 2) (.cons (.cI 2) .nil)))) .nil))))
abbrev q4 : N := (.setO 4 (.bin .add (.pk 4) (.lst (.cons (.tup (.cons (.cS "ge") (.cons (.bin .add (.slc (.var 3) .nil (.cons (.neg (.cI 1)) .nil)) (.tup (.cons (.cS "1") .nil))) .nil))) (.cons (.tup (.cons (.cS "ge") (.cons (.var 3) (.cons (.var 3) .nil)))) (.cons (.tup (.cons (.lst (.cons (.cS "ge") .nil)) (.cons (.var 3) .nil))) .nil))))))
abbrev q5 : N := (.par 6 7 (.call "_law_draw" (.cons (.var 0) (.cons (.cI 5) .nil)) .nil [0, 1]) (.call "_law_draw" (.cons (.var 0) (.cons (.bin .add (.bi .len (.cons (.var 2) .nil)) (.cI 1)) .nil)) .nil [0, 1]))
abbrev q6 : N := (.ifs (.cmp .eq (.var 6) (.cI 0)) (.cons (.ret (.tup (.cons (.call "_law_of" (.cons (.var 0) (.cons (.lst (.cons .cN (.cons (.bi .list (.cons (.var 2) .nil)) (.cons (.dct [] .nil) (.cons (.cS "ge") (.cons (.bin .mul (.tup (.cons (.tup (.cons (.cS "ge") (.cons (.var 3) .nil))) .nil)) (.cI 61)) .nil)))))) .nil)) .nil [0, 1]) (.cons .cN .nil)))) .nil) .nil)
abbrev q7 : N := (.frz 4)
abbrev q8 : N := (.set 5 (.bin .add (.bin .add (.slc (.var 2) .nil (.cons (.var 7) .nil)) (.tup (.cons (.call "_law_of" (.cons (.var 0) (.cons (.var 4) .nil)) .nil [0, 1]) .nil))) (.slc (.var 2) (.cons (.var 7) .nil) .nil)))
abbrev q9 : N := (.frz 4)
abbrev q10 : N := (.ret (.tup (.cons (.ite (.cmp .eq (.var 6) (.cI 1)) (.bin .add (.var 5) (.tup (.cons (.call "_law_of" (.cons (.var 0) (.cons (.var 4) .nil)) .nil [0, 1]) .nil))) (.var 5)) (.cons (.var 7) .nil))))
theorem add_tup {xs ys : List D} (h : xs.length + ys.length ≤ lim) : binOp .add (.tup xs) (.tup ys) = some (.tup (xs ++ ys)) := if_pos h
theorem six {c : Nat} (h0 : 1 ≤ c) (h : c ≤ 6) : c = 1 ∨ c = 2 ∨ c = 3 ∨ c = 4 ∨ c = 5 ∨ c = 6 := by omega
section
variable {C : Ev} {c : Nat} {v0 v2 : Sl}
theorem z0 (h0 : 1 ≤ c) (h : c ≤ 6) : exec C q0 [v0, .val (.int (c : Int)), v2, .un, .un, .un, .un, .un] S = .ok (.nx [v0, .val (.int (c : Int)), v2, .val (V (nn c)), .un, .un, .un, .un]) S := by
  rcases six h0 h with rfl | rfl | rfl | rfl | rfl | rfl <;> kernel_rfl
theorem z1 (h0 : 1 ≤ c) (h : c ≤ 6) : exec C q1 [v0, .val (.int (c : Int)), v2, .val (V (nn c)), .un, .un, .un, .un] S = .ok (.nx [v0, .val (.int (c : Int)), v2, .val (V (nn c)), .own ((oddL c).take 9), .un, .un, .un]) S := by
  rcases six h0 h with rfl | rfl | rfl | rfl | rfl | rfl <;> kernel_rfl
theorem z2 (h0 : 1 ≤ c) (h : c ≤ 6) : exec C q2 [v0, .val (.int (c : Int)), v2, .val (V (nn c)), .own ((oddL c).take 9), .un, .un, .un] S = .ok (.nx [v0, .val (.int (c : Int)), v2, .val (V (nn c)), .own ((oddL c).take 12), .un, .un, .un]) S := by
  rcases six h0 h with rfl | rfl | rfl | rfl | rfl | rfl <;> kernel_rfl
theorem z3 (h0 : 1 ≤ c) (h : c ≤ 6) : exec C q3 [v0, .val (.int (c : Int)), v2, .val (V (nn c)), .own ((oddL c).take 12), .un, .un, .un] S = .ok (.nx [v0, .val (.int (c : Int)), v2, .val (V (nn c)), .own ((oddL c).take 13), .un, .un, .un]) S := by
  rcases six h0 h with rfl | rfl | rfl | rfl | rfl | rfl <;> kernel_rfl
theorem z4 (h0 : 1 ≤ c) (h : c ≤ 6) : exec C q4 [v0, .val (.int (c : Int)), v2, .val (V (nn c)), .own ((oddL c).take 13), .un, .un, .un] S = .ok (.nx [v0, .val (.int (c : Int)), v2, .val (V (nn c)), .own (oddL c), .un, .un, .un]) S := by
  rcases six h0 h with rfl | rfl | rfl | rfl | rfl | rfl <;> kernel_rfl
end
theorem MOk.push {n j : Nat} {x : Cell} (h : MOk S n j) : MOk (S ++ [x]) n j := by
  obtain ⟨l1, s, cs, sp, q1, q2, q3⟩ := h
  refine ⟨l1, s, cs, sp, ?_, q2, q3⟩
  rw [List.getElem?_append_left (List.getElem?_eq_some_iff.mp q1).1]
  exact q1
theorem cut_at {xs : List D} {r : Int} (h0 : 0 ≤ r) (h : r ≤ xs.length) : ∃ gs hs, slD (.tup xs) none (some r) = some (.tup gs) ∧ slD (.tup xs) (some r) none = some (.tup hs) ∧ xs = gs ++ hs ∧ (gs.length : Int) = r := by
  refine ⟨xs.take r.toNat, xs.drop r.toNat, ?_, ?_, (List.take_append_drop _ _).symm, by rw [List.length_take]; omega⟩
  · show some (D.tup (cutD xs none (some r))) = _
    unfold cutD HT.sIx
    simp
    split
    · omega
    · congr 2
      omega
  · show some (D.tup (cutD xs (some r) none)) = _
    unfold cutD HT.sIx
    simp
    split
    · omega
    · rw [List.take_of_length_le (by rw [List.length_drop]; omega)]
      congr 2
      omega
/-- what is no system, and how it is told -/
structure Bent (c : Nat) (d num : D) : Prop where
  bad : ∀ (wf k : Nat) (S : Store), callF T wf (k + 5) "check_system" [.int (c : Int), d] S = .ex "NotSystem" num S
  num : num = .non ∨ ∃ i : Nat, i ≤ 1000 ∧ num = .int (i : Int)
theorem draw_odd {n j c : Nat} {S : Store} (hc : 1 ≤ c) (hm : MOk S n j) (hj : j < 95000) : ∃ o S', callF T wf (k + 2) "_law_of" [.ref n, .lst (oddL c)] S = .ok o S' ∧ PairB c o false ∧ MOk S' n (j + 1) := by
  obtain ⟨d, S1, e, hd, m⟩ := q__law_of (wf := wf) (k := k) (ds := oddL c) hm (by omega) (Nat.zero_lt_succ _) (show 16 < 1000 by decide)
  exact ⟨d, S1, e, odd_pair hc d hd, m⟩
theorem q__law_bent {n j c m : Nat} {sy : List Pr} (hm : MOk S n j) (hj : j < 90000) (hs : SysI m c sy) (hl : sy.length ≤ 50) (hc0 : 1 ≤ c) (hc : c ≤ 6) : ∃ d num S', callF T wf (k + 3) "_law_bent" [.ref n, .int (c : Int), sysD sy] S = .ok (.tup [d, num]) S' ∧ Bent c d num ∧ MOk S' n (j + 4) := by
  obtain ⟨way, S1, e1, w0, w1, m1⟩ := s__law_draw (wf := wf) (k := k + 1) (b := 5) hm (by omega) (by decide) (by decide)
  obtain ⟨r, S2, e2, r0, r1, m2⟩ := s__law_draw (wf := wf) (k := k + 1) (b := (sy.length : Int) + 1) m1 (by omega) (by omega) (by omega)
  have pre : ∀ {X : Res D}, (exec ⟨callF T wf (k + 2), callM T wf (k + 2) true, wf⟩ (.cons q6 (.cons q7 (.cons q8 (.cons q9 (.cons q10 .nil))))) [.val (.ref n), .val (.int (c : Int)), .val (sysD sy), .val (V (nn c)), .own (oddL c), .un, .val (.int way), .val (.int r)] S2).bind ofFl = X → callF T wf (k + 3) "_law_bent" [.ref n, .int (c : Int), sysD sy] S = X := fun {X} h => by
    rw [call_step T__law_bent rfl]
    show (exec _ n__law_bent [.val (.ref n), .val (.int (c : Int)), .val (sysD sy), .un, .un, .un, .un, .un] S).bind ofFl = _
    refine run_step (z0 hc0 hc) (run_step (z1 hc0 hc) (run_step (z2 hc0 hc) (run_step (z3 hc0 hc) (run_step (z4 hc0 hc) (run_step (e := [.val (.ref n), .val (.int (c : Int)), .val (sysD sy), .val (V (nn c)), .own (oddL c), .un, .val (.int way), .val (.int r)]) (S' := S2) ?_ h)))))
    have ln : biOp .len [sysD sy] = some (.int (sy.length : Int)) := by
      show some (D.int ((sy.map pD).length : Nat)) = _
      rw [List.length_map]
    generalize sysD sy = s at *
    generalize V (nn c) = v at *
    generalize oddL c = o at *
    simp [pickIx, e1, ln, e2]
  by_cases hw0 : way = 0
  · subst hw0
    have m2' : MOk (S2 ++ [.dct []]) n (j + 1 + 1) := m2.push
    obtain ⟨d, S3, e3, hd, m3⟩ := q__law_of (wf := wf) (k := k) (ds := [.non, .lst (sy.map pD), .ref S2.length, .str "ge", .tup (List.replicate 61 [D.tup [.str "ge", V (nn c)]]).flatten]) m2' (by omega) (by simp) (by simp)
    have ns : NoSys d := by
      simp only [List.mem_cons, List.not_mem_nil, or_false] at hd
      rcases hd with rfl | rfl | rfl | rfl | rfl
      · exact .of rfl
      · exact .of rfl
      · exact .of rfl
      · exact .of rfl
      · exact .long (by simp)
    refine ⟨d, .non, S3, pre ?_, ⟨fun wf k S => cs_form ns, .inl rfl⟩, m3.mono (by omega)⟩
    have mt : binOp .mul (.tup [.tup [.str "ge", V (nn c)]]) (.int 61) = some (.tup (List.replicate 61 [D.tup [.str "ge", V (nn c)]]).flatten) := rfl
    have bl : biOp .list [sysD sy] = some (.lst (sy.map pD)) := rfl
    generalize sysD sy = s at *
    generalize V (nn c) = v at *
    generalize oddL c = o at *
    generalize sy.map pD = t at *
    generalize (List.replicate 61 [D.tup [.str "ge", v]]).flatten = u at *
    simp [pickIx, bl, mt, e3]
  · obtain ⟨gs, hs', s1, s2, es, lg⟩ := cut_at (xs := sy.map pD) r0 (by rw [List.length_map]; omega)
    obtain ⟨o, S3, e3, ho, m3⟩ := draw_odd (wf := wf) (k := k) hc0 m2 (by omega)
    have lx : gs.length + hs'.length = sy.length := by
      have := congrArg List.length es
      rw [List.length_map, List.length_append] at this
      omega
    have pg : ∀ d ∈ gs, PairB c d true := fun d hd => hs.pairs d (by rw [es]; exact List.mem_append_left _ hd)
    have a1 : binOp .add (.tup gs) (.tup [o]) = some (.tup (gs ++ [o])) := add_tup (by simp; unfold lim; omega)
    have a2 : binOp .add (.tup (gs ++ [o])) (.tup hs') = some (.tup (gs ++ [o] ++ hs')) := add_tup (by simp; unfold lim; omega)
    have nm : r = (gs.length : Int) := lg.symm
    have ri : ∃ i : Nat, i ≤ 1000 ∧ D.int r = .int (i : Int) := ⟨gs.length, by omega, by rw [nm]⟩
    by_cases hw1 : way = 1
    · subst hw1
      obtain ⟨o2, S4, e4, _, m4⟩ := draw_odd (wf := wf) (k := k) hc0 m3 (by omega)
      have a3 : binOp .add (.tup (gs ++ [o] ++ hs')) (.tup [o2]) = some (.tup (gs ++ [o] ++ hs' ++ [o2])) := add_tup (by simp; unfold lim; omega)
      refine ⟨.tup (gs ++ [o] ++ hs' ++ [o2]), .int r, S4, pre ?_, ⟨fun wf k S => ?_, .inr ri⟩, m4.mono (by omega)⟩
      · show _ = Res.ok _ _
        simp only [sysD] at *
        generalize sy.map pD = t at *
        generalize V (nn c) = v at *
        generalize oddL c = oo at *
        generalize gs ++ [o] ++ hs' ++ [o2] = g3 at *
        generalize gs ++ [o] ++ hs' = g2 at *
        generalize gs ++ [o] = g1 at *
        simp [pickIx, s1, s2, e3, a1, a2, e4, a3]
      · have := cs_bad (wf := wf) (k := k) (S := S) (gs := gs) (o := o) (r := hs' ++ [o2]) pg ho (by simp; omega)
        rw [nm]
        simpa using this
    · refine ⟨.tup (gs ++ [o] ++ hs'), .int r, S3, pre ?_, ⟨fun wf k S => ?_, .inr ri⟩, m3.mono (by omega)⟩
      · show _ = Res.ok _ _
        simp only [sysD] at *
        generalize sy.map pD = t at *
        generalize V (nn c) = v at *
        generalize oddL c = oo at *
        generalize gs ++ [o] ++ hs' = g2 at *
        generalize gs ++ [o] = g1 at *
        simp [pickIx, s1, s2, e3, a1, a2, hw0, hw1]
      · have := cs_bad (wf := wf) (k := k) (S := S) (gs := gs) (o := o) (r := hs') pg ho (by simp; omega)
        rw [nm]
        simpa using this
end K12

set_option maxHeartbeats 4000000
namespace K12
open Fx
open PySem (Str PyData)
variable {wf k : Nat} {S : Store}
abbrev r0 : N := (.ifs (.tnot (.tv (.call "_law_like" (.cons (.lst (.cons (.call "check_system" (.cons (.var 1) (.cons (.var 2) .nil)) .nil [0, 1]) (.cons (.call "check_system" .nil (.cons (.var 2) (.cons (.var 1) .nil)) [1, 0]) .nil))) (.cons (.lst (.cons (.var 2) (.cons (.var 2) .nil))) .nil)) .nil [0, 1]))) (.cons (.ret (.cB false)) .nil) .nil)
abbrev r1 : N := (.unp (.tt (.cons (.tn 6) (.cons (.tn 7) .nil))) (.call "_law_bent" (.cons (.var 0) (.cons (.var 1) (.cons (.var 2) .nil))) .nil [0, 1, 2]))
abbrev r2 : N := (.setO 3 (.lst (.cons (.hear "_law_told" [("NotSystem", "system"), ("NotPoint", "point")] (.call "check_system" (.cons (.var 1) (.cons (.var 6) .nil)) .nil [0, 1])) (.cons (.hear "_law_told" [("NotSystem", "system"), ("NotPoint", "point")] (.call "holds_all" (.cons (.var 1) (.cons (.var 6) (.cons .cN .nil))) .nil [0, 1, 2])) .nil))))
abbrev r3 : N := (.app 3 (.hear "_law_told" [("NotSystem", "system"), ("NotPoint", "point")] (.call "first_broken" (.cons (.var 1) (.cons (.var 6) (.cons .cN .nil))) .nil [0, 1, 2])))
abbrev r4 : N := (.ifs (.cmp .ne (.pk 3) (.bin .mul (.lst (.cons (.tup (.cons (.cS "system") (.cons (.var 7) .nil))) .nil)) (.cI 3))) (.cons (.ret (.cB false)) .nil) .nil)
abbrev r6 : N := (.set 5 (.lst (.cons (.tup (.cons .cN (.cons (.neg (.cI 1)) .nil))) (.cons (.tup (.cons (.slc (.var 8) .nil (.cons (.neg (.cI 1)) .nil)) (.cons (.neg (.cI 1)) .nil))) (.cons (.tup (.cons (.bi .list (.cons (.var 8) .nil)) (.cons (.neg (.cI 1)) .nil))) (.cons (.tup (.cons (.bin .add (.slc (.var 8) .nil (.cons (.neg (.cI 1)) .nil)) (.tup (.cons (.cI 0) .nil))) (.cons (.var 1) .nil))) (.cons (.tup (.cons (.bin .add (.slc (.var 8) .nil (.cons (.neg (.cI 1)) .nil)) (.tup (.cons (.cB true) .nil))) (.cons (.var 1) .nil))) .nil)))))))
abbrev r7 : N := (.unp (.tt (.cons (.tn 6) (.cons (.tn 10) .nil))) (.call "_law_of" (.cons (.var 0) (.cons (.var 5) .nil)) .nil [0, 1]))
abbrev r8 : N := (.setO 3 (.lst (.cons (.hear "_law_told" [("NotSystem", "system"), ("NotPoint", "point")] (.call "first_broken" (.cons (.var 1) (.cons (.var 2) (.cons (.var 6) .nil))) .nil [0, 1, 2])) (.cons (.hear "_law_told" [("NotSystem", "system"), ("NotPoint", "point")] (.call "holds_all" (.cons (.var 1) (.cons (.var 2) (.cons (.var 6) .nil))) .nil [0, 1, 2])) .nil))))
abbrev r9 : N := (.ret (.cmp .eq (.pk 3) (.bin .mul (.lst (.cons (.tup (.cons (.cS "point") (.cons (.var 10) .nil))) .nil)) (.cI 2))))
abbrev b0 : N := (.set 8 (.call "_law_point" (.cons (.comp [("k", 11)] (.bin .sub (.call "_law_draw" (.cons (.var 0) (.cons (.cI 9) .nil)) .nil [0, 1]) (.cI 4)) (.tn 11) (.rng1 (.var 1)) .nil) (.cons (.bin .add (.cI 1) (.call "_law_draw" (.cons (.var 0) (.cons (.cI 3) .nil)) .nil [0, 1])) .nil)) .nil [0, 1]))
abbrev b1 : N := (.set 9 (.comp [("k", 11), ("word", 12), ("row", 13)] (.var 11) (.tt (.cons (.tn 11) (.cons (.tt (.cons (.tn 12) (.cons (.tn 13) .nil))) .nil))) (.enum (.var 2)) (.cons (.tnot (.tv (.call "_law_stands" (.cons (.var 12) (.cons (.call "_law_total" (.cons (.var 13) (.cons (.var 8) .nil)) .nil [0, 1]) .nil)) .nil [0, 1]))) .nil)))
abbrev b2 : N := (.setO 3 (.lst (.cons (.call "holds_all" .nil (.cons (.var 8) (.cons (.var 2) (.cons (.var 1) .nil))) [2, 1, 0]) .nil)))
abbrev b3 : N := (.app 3 (.call "first_broken" .nil (.cons (.var 8) (.cons (.var 2) (.cons (.var 1) .nil))) [2, 1, 0]))
abbrev b4 : N := (.ifs (.tnot (.tv (.callB "_law_like" (.cons (.pk 3) (.cons (.lst (.cons (.cmp .eq (.var 9) (.lst .nil)) (.cons (.ite (.cmp .ne (.var 9) (.lst .nil)) (.idx (.var 9) (.cI 0)) .cN) .nil))) .nil))))) (.cons (.ret (.cB false)) .nil) .nil)
abbrev bT : N := .cons b0 (.cons b1 (.cons b2 (.cons b3 (.cons b4 .nil))))
abbrev r5 : N := .for_ (.tn 4) (.rng1 (.cI 3)) bT
theorem eqD_refl {h : Nat} {d : D} (q : Ly h d) (hh : h ≤ 60) : eqD d d = some true := by
  obtain ⟨p, a, b, c⟩ := q
  have s1 : PySem.SeqAt.shaped p = true := by
    show (p.canLay0 && decide (p.depth ≤ 64)) = true
    rw [b, decide_eq_true (by omega)]; rfl
  unfold eqD
  simp only [a, s1]
  show some (PyData.eqv p p) = _
  rw [PySem.SeqAt.eqv_refl p b]
theorem like_lent {n h : Nat} {xs : List D} (q : GD n h (.lst xs)) (hn : n ≤ 8000) (hh : h ≤ 64) : callM T wf (k + 1) true "_law_like" [.lst xs, .lst xs] S = .ok (.bl true) S := by
  obtain ⟨p, hp, ok, c, e⟩ := q
  obtain ⟨a1, a2, a3⟩ := okD_all ok
  have l := PyData.shown_le_bulk 1921 (by decide) p a2
  have hl : p.shown.length ≤ lim := by
    unfold lim
    have := Nat.mul_le_mul_left (1921 + 2) (show p.bulk ≤ 8000 by omega)
    omega
  have r : biOp .repr [.lst xs] = some (.str p.shown) := by
    show reprD (.lst xs) = _
    unfold reprD
    simp only [hp]
    rw [if_pos]
    simp only [Bool.and_eq_true, decide_eq_true_eq]
    exact ⟨⟨a1, by omega⟩, hl⟩
  rw [lent_step T__law_like rfl]
  show (exec _ n__law_like [.bor xs, .bor xs] S).bind ofFl = _
  exact run_ret (by simp [r, eqD_str a3])
section
variable {n j c : Nat} {sy : List Pr} {P : List Int}
abbrev eR (n c : Nat) (sy : List Pr) (t3 t4 t5 t6 t7 t8 t9 t10 : Sl) : Env := [.val (.ref n), .val (.int (c : Int)), .val (sysD sy), t3, t4, t5, t6, t7, t8, t9, t10, .un, .un, .un]
variable {t3 t4 t5 t6 t7 t8 t9 t10 : Sl}
/-- a drawn point -/
theorem u0 (hw : 20000 ≤ wf) (hm : MOk S n j) (hj : j < 90000) (hc : c ≤ 6) : ∃ P S', exec ⟨callF T wf (k + 6), callM T wf (k + 6) true, wf⟩ b0 (eR n c sy t3 t4 t5 t6 t7 t8 t9 t10) S = .ok (.nx (eR n c sy t3 t4 t5 t6 t7 (.val (V P)) t9 t10)) S' ∧ RowI 60 (c + 1) P ∧ MOk S' n (j + c + 1) := by
  obtain ⟨rs, S1, e1, l1, p1, m1⟩ := c_draw (emb := D.int) (n := n) (c := 1) (J := 200000) (P := fun r => -4 ≤ r ∧ r ≤ 4) (f := compF ⟨callF T wf (k + 6), callM T wf (k + 6) true, wf⟩ [("k", 11)] (.bin .sub (.call "_law_draw" (.cons (.var 0) (.cons (.cI 9) .nil)) .nil [0, 1]) (.cI 4)) (.tn 11) .nil (eR n c sy t3 t4 t5 t6 t7 t8 t9 t10)) (rangeD 0 (c : Int)) [] S j (fun d _ S j h hj => by
    obtain ⟨r, S', e, h1, h2, h3⟩ := s__law_draw (wf := wf) (k := k + 5) (b := 9) h (by omega) (by decide) (by decide)
    refine ⟨r - 4, S', ?_, by omega, h3⟩
    simp only [eR]
    generalize sysD sy = s
    simp [compF, wipeE, pickIx, e]) hm (by rw [rg_len]; omega) (by rw [rg_len]; simp; unfold lim; omega)
  rw [rg_len] at l1 m1
  rw [List.nil_append] at e1
  have rgc : rgOk 0 (c : Int) = true := rg_ok (by omega)
  obtain ⟨r, S2, e2, r0, r1, m2⟩ := s__law_draw (wf := wf) (k := k + 5) (b := 3) m1 (by omega) (by decide) (by decide)
  have bd : BdL 4 (rs ++ [1 + r]) := bd_l fun x hx => by
    rcases List.mem_append.mp hx with hx | hx
    · have := p1 x hx
      omega
    · rw [List.mem_singleton.mp hx]
      omega
  have pt := s__law_point (wf := wf) (k := k + 3) (S := S2) (d := L rs) (ns := rs) (b := 1 + r) (m := 4) (.inr rfl) (by omega) bd (by decide) (by omega) (by unfold lim; omega)
  have rw_ := low_rowI (B := 4) (ms := rs) (b := 1 + r) (by omega) bd
  rw [l1] at rw_
  refine ⟨low (rs ++ [1 + r]), S2, ?_, rw_.mono (by decide), m2.mono (by omega)⟩
  have it : evI ⟨callF T wf (k + 6), callM T wf (k + 6) true, wf⟩ (.rng1 (.var 1)) (eR n c sy t3 t4 t5 t6 t7 t8 t9 t10) S = .ok (rangeD 0 (c : Int)) S := by
    simp only [eR]
    generalize sysD sy = s
    simp [rgc]
  rw [ex_set, ev_call, evs_cons_, ev_comp, it, Res.bind_ok, e1]
  simp only [eR, L] at *
  generalize sysD sy = s at *
  generalize V (low (rs ++ [1 + r])) = v at *
  generalize rs.map D.int = w at *
  simp [pickIx, e2, pt]
theorem faultC (h : SysI 60 c sy) (hP : RowI 60 (c + 1) P) {C : Ev} (hC1 : ∀ w t, Wd3 w → C.call "_law_stands" [.str w, .int t] S = .ok (.bl (holdB w t)) S) (hC2 : ∀ R, Fit 60 c R P → C.call "_law_total" [V R, V P] S = .ok (.int (totI R P)) S) :
    exec C b1 (eR n c sy t3 t4 t5 t6 t7 (.val (V P)) t9 t10) S = .ok (.nx (eR n c sy t3 t4 t5 t6 t7 (.val (V P)) (.val (L ((faultF P (pr2 0 sy)).map fun q => (q.1 : Int)))) t10)) S := by
  have cm := compL_fil (emb := fun q : Nat × Pr => prD (q.1, pD q.2)) (g := fun q => D.int (q.1 : Int)) (p := fun q => !holdP P q.2) (f := compF C [("k", 11), ("word", 12), ("row", 13)] (.var 11) (.tt (.cons (.tn 11) (.cons (.tt (.cons (.tn 12) (.cons (.tn 13) .nil))) .nil))) (.cons (.tnot (.tv (.call "_law_stands" (.cons (.var 12) (.cons (.call "_law_total" (.cons (.var 13) (.cons (.var 8) .nil)) .nil [0, 1]) .nil)) .nil [0, 1]))) .nil) (eR n c sy t3 t4 t5 t6 t7 (.val (V P)) t9 t10)) (S := S) (l := pr2 0 sy) (acc := []) (fun q hq => ?_) (by rw [pr2_len]; have := h.len; simp; unfold lim; omega)
  · have it : evI C (.enum (.var 2)) (eR n c sy t3 t4 t5 t6 t7 (.val (V P)) t9 t10) S = .ok ((pr2 0 sy).map fun q => prD (q.1, pD q.2)) S := by
      have e : enumD (sy.map pD) = (pr2 0 sy).map fun q => prD (q.1, pD q.2) := by
        rw [enum_prs, prs_pr2, List.map_map]
        rfl
      simp only [eR]
      generalize V P = v
      simp [e]
    rw [ex_set, ev_comp, it, Res.bind_ok, cm, List.nil_append]
    have e2 : ((pr2 0 sy).filter fun q => !holdP P q.2).map (fun q => D.int (q.1 : Int)) = ((faultF P (pr2 0 sy)).map fun q => (q.1 : Int)).map D.int := by
      rw [List.map_map]
      rfl
    rw [e2]
    simp only [eR, L]
    generalize sysD sy = s
    generalize V P = v
    simp
  · have hp := (pr2_mem hq).1
    have d1 := hC2 q.2.2 (h.fit hP hp)
    have d2 := hC1 q.2.1 (totI q.2.2 P) (h.all q.2 hp).1
    obtain ⟨i, w, R⟩ := q
    simp only [eR, prD, pD, prw] at *
    generalize V P = v at *
    generalize V R = u at *
    generalize D.tup (sy.map fun p => D.tup [.str p.1, V p.2]) = s at *
    simp [compF, wipeE, pickIx, d1, d2, holdP, bindT, bindT.bindTs]
    generalize holdB w (totI R P) = hb
    cases hb <;> rfl
def dueD (F : List (Nat × Pr)) : List D := [.bl F.isEmpty, headD F]
theorem GD_due {F : List (Nat × Pr)} (h : ∀ q ∈ F, q.1 ≤ 1000) : GD 10 1 (.lst (dueD F)) := by
  refine (GD_lst (n := 0) (h := 0) fun d hd => ?_).mono (by unfold dueD; simp) (Nat.le_refl _)
  unfold dueD at hd
  rcases List.mem_cons.mp hd with rfl | hd
  · exact GD_bl
  · rw [List.mem_singleton.mp hd]
    cases F with
    | nil => exact GD_non
    | cons q r =>
      refine GD_int (Bd.mono (n := 10) ?_ (by decide))
      have := h q List.mem_cons_self
      unfold Bd
      simp
      omega
theorem u4 {F : List (Nat × Pr)} (h : ∀ q ∈ F, q.1 ≤ 1000) : exec ⟨callF T wf (k + 6), callM T wf (k + 6) true, wf⟩ b4 (eR n c sy (.own (dueD F)) t4 t5 t6 t7 t8 (.val (L (F.map fun q => (q.1 : Int)))) t10) S = .ok (.nx (eR n c sy (.own (dueD F)) t4 t5 t6 t7 t8 (.val (L (F.map fun q => (q.1 : Int)))) t10)) S := by
  have lk := like_lent (wf := wf) (k := k + 5) (S := S) (GD_due h) (by decide) (by decide)
  have e1 := eq_nil (ns := F.map fun q => (q.1 : Int))
  have e2 := ne_nil (ns := F.map fun q => (q.1 : Int))
  simp only [eR]
  generalize sysD sy = s
  cases F with
  | nil =>
    simp only [dueD, headD, L, List.map_nil, List.isEmpty_nil] at *
    simp [e1, e2, lk]
  | cons q r =>
    have i0 : ixD (L ((q :: r).map fun q => (q.1 : Int))) (.int 0) = some (.int (q.1 : Int)) := at_nat (i := 0) rfl
    simp only [dueD, headD, L, List.map_cons, List.isEmpty_cons, Bool.not_false] at *
    generalize List.map D.int (List.map (fun q => (q.1 : Int)) r) = z at *
    simp [e1, e2, lk, i0]
theorem u2 {C : Ev} {b : Bool} (f : C.call "holds_all" [.int (c : Int), sysD sy, V P] S = .ok (.bl b) S) : exec C b2 (eR n c sy t3 t4 t5 t6 t7 (.val (V P)) t9 t10) S = .ok (.nx (eR n c sy (.own [.bl b]) t4 t5 t6 t7 (.val (V P)) t9 t10)) S := by
  simp only [eR]
  generalize sysD sy = s at *
  generalize V P = v at *
  simp [pickIx, f]
theorem u3 {C : Ev} {b : Bool} {d : D} (f : C.call "first_broken" [.int (c : Int), sysD sy, V P] S = .ok d S) : exec C b3 (eR n c sy (.own [.bl b]) t4 t5 t6 t7 (.val (V P)) t9 t10) S = .ok (.nx (eR n c sy (.own [.bl b, d]) t4 t5 t6 t7 (.val (V P)) t9 t10)) S := by
  simp only [eR]
  generalize sysD sy = s at *
  generalize V P = v at *
  rw [ex_app]
  simp only [List.getElem?_cons_succ, List.getElem?_cons_zero]
  simp [pickIx, f, lim]
theorem t_right {d : D} (hw : 20000 ≤ wf) (h : SysI 60 c sy) (hm : MOk S n j) (hj : j < 90000) (hc : c ≤ 6) : ∃ P S' y3 y9, forF ⟨callF T wf (k + 6), callM T wf (k + 6) true, wf⟩ (.tn 4) bT d (eR n c sy t3 t4 t5 t6 t7 t8 t9 t10) S = .ok (.nx (eR n c sy y3 (.val d) t5 t6 t7 (.val (V P)) y9 t10)) S' ∧ RowI 60 (c + 1) P ∧ MOk S' n (j + c + 1) := by
  obtain ⟨P, S1, e1, hP, m1⟩ := u0 (k := k) (sy := sy) (t3 := t3) (t4 := .val d) (t5 := t5) (t6 := t6) (t7 := t7) (t8 := t8) (t9 := t9) (t10 := t10) hw hm hj hc
  have c1 : ∀ w t, Wd3 w → callF T wf (k + 6) "_law_stands" [.str w, .int t] S1 = .ok (.bl (holdB w t)) S1 := fun w t hw => s__law_stands (k := k + 5) hw
  have c2 : ∀ R, Fit 60 c R P → callF T wf (k + 6) "_law_total" [V R, V P] S1 = .ok (.int (totI R P)) S1 := fun R hR => q__law_total (k := k + 5) hR
  have e2 := faultC (n := n) (S := S1) (t3 := t3) (t4 := .val d) (t5 := t5) (t6 := t6) (t7 := t7) (t9 := t9) (t10 := t10) (C := ⟨callF T wf (k + 6), callM T wf (k + 6) true, wf⟩) h hP c1 c2
  have f1 := s_holds_all (wf := wf) (k := k) (S := S1) h hP
  have f2 := s_first_broken (wf := wf) (k := k) (S := S1) h hP
  have fe := fault_none (P := P) (sy := sy) (i := 0)
  have e4 := u4 (wf := wf) (k := k) (S := S1) (n := n) (c := c) (sy := sy) (t4 := .val d) (t5 := t5) (t6 := t6) (t7 := t7) (t8 := .val (V P)) (t10 := t10) (F := faultF P (pr2 0 sy)) fun q hq => by
    have := (pr2_mem (List.mem_filter.mp hq).1).2
    have := h.len
    omega
  refine ⟨P, S1, .own (dueD (faultF P (pr2 0 sy))), .val (L ((faultF P (pr2 0 sy)).map fun q => (q.1 : Int))), ?_, hP, m1⟩
  unfold forF
  simp only [bindT_tn, List.length_cons, List.length_nil]
  show exec _ bT (eR n c sy t3 (.val d) t5 t6 t7 t8 t9 t10) S = _
  rw [← fe] at f1
  generalize hF : faultF P (pr2 0 sy) = F at *
  exact ex_step (S := S) e1 (ex_step (S := S1) e2 (ex_step (S := S1) (u2 f1) (ex_step (S := S1) (u3 f2) (ex_step (S := S1) e4 rfl))))
end
end K12

set_option maxHeartbeats 1000000
namespace K12
open Fx
open PySem (Str PyData)
variable {wf k : Nat} {S : Store}
section
variable {n j c : Nat} {sy : List Pr} {P : List Int} {t3 t4 t5 t6 t7 t8 t9 t10 : Sl}
theorem GD_word {w : Str} (h : Wd3 w) : GD 4 0 (.str w) := by
  cases h <;> exact GD_str (by decide +kernel) (by decide +kernel)
theorem GD_ints {m : Nat} {R : List Int} (h : BdL m R) (hm : m ≤ 1900) : GD R.length 1 (V R) := by
  have q := GD_tup (n := 0) (h := 0) (ds := R.map D.int) fun d hd => by
    obtain ⟨x, hx, rfl⟩ := List.mem_map.mp hd
    exact GD_int ((h x hx).mono hm)
  rw [List.length_map] at q
  exact q.mono (by omega) (Nat.le_refl _)
theorem GD_sys (h : SysI 60 c sy) (hc : c ≤ 6) (hl : sy.length ≤ 8) : GD 200 3 (sysD sy) := by
  refine (GD_tup (n := 18) (h := 2) fun d hd => ?_).mono (by rw [List.length_map]; omega) (Nat.le_refl _)
  obtain ⟨p, hp, rfl⟩ := List.mem_map.mp hd
  obtain ⟨h1, h2⟩ := h.all p hp
  refine (GD_tup (n := 8) (h := 1) (ds := [.str p.1, V p.2]) fun d hd => ?_).mono (by simp) (Nat.le_refl _)
  rcases List.mem_cons.mp hd with rfl | hd
  · exact (GD_word h1).mono (by decide) (by decide)
  · rw [List.mem_singleton.mp hd]
    exact (GD_ints h2.bd (by decide)).mono (by rw [h2.len]; omega) (Nat.le_refl _)
theorem v0 (h : SysI 60 c sy) (hc : c ≤ 6) (hl : sy.length ≤ 8) : exec ⟨callF T wf (k + 6), callM T wf (k + 6) true, wf⟩ r0 (eR n c sy t3 t4 t5 t6 t7 t8 t9 t10) S = .ok (.nx (eR n c sy t3 t4 t5 t6 t7 t8 t9 t10)) S := by
  have e1 := h.ok (wf := wf) (k := k + 1) (S := S)
  have g := GD_sys h hc hl
  have lk := like_of (wf := wf) (k := k + 5) (S := S) (GD_lst (ds := [sysD sy, sysD sy]) fun d hd => by
    rcases List.mem_cons.mp hd with rfl | hd
    · exact g
    · rw [List.mem_singleton.mp hd]; exact g) (by simp) (by decide)
  clear g h
  simp only [eR]
  generalize sysD sy = s at *
  simp [pickIx, e1, lk]
abbrev hsS : List (Str × Str) := [("NotSystem", "system"), ("NotPoint", "point")]
theorem v1 {C : Ev} {d num : D} {S' : Store} (f : C.call "_law_bent" [.ref n, .int (c : Int), sysD sy] S = .ok (.tup [d, num]) S') : exec C r1 (eR n c sy t3 t4 t5 t6 t7 t8 t9 t10) S = .ok (.nx (eR n c sy t3 t4 t5 (.val d) (.val num) t8 t9 t10)) S' := by
  have hv : ev C (.call "_law_bent" (.cons (.var 0) (.cons (.var 1) (.cons (.var 2) .nil))) .nil [0, 1, 2]) (eR n c sy t3 t4 t5 t6 t7 t8 t9 t10) S = .ok (.tup [d, num]) S' := by
    simp only [eR]
    generalize sysD sy = s at *
    simp [pickIx, f]
  rw [ex_unp, hv, Res.bind_ok]
  rfl
theorem v2' {C : Ev} {d num : D} (f1 : C.call "check_system" [.int (c : Int), d] S = .ex "NotSystem" num S) (f2 : C.call "holds_all" [.int (c : Int), d, .non] S = .ex "NotSystem" num S) :
    exec C r2 (eR n c sy t3 t4 t5 (.val d) t7 t8 t9 t10) S = .ok (.nx (eR n c sy (.own [.tup [.str "system", num], .tup [.str "system", num]]) t4 t5 (.val d) t7 t8 t9 t10)) S := by
  have h1 : ev C (.hear "_law_told" hsS (.call "check_system" (.cons (.var 1) (.cons (.var 6) .nil)) .nil [0, 1])) (eR n c sy t3 t4 t5 (.val d) t7 t8 t9 t10) S = .ok (.tup [.str "system", num]) S := by
    refine hear_ex (c := "NotSystem") (p := num) ?_ rfl
    simp only [eR]
    generalize sysD sy = s at *
    simp [pickIx, f1]
  have h2 : ev C (.hear "_law_told" hsS (.call "holds_all" (.cons (.var 1) (.cons (.var 6) (.cons .cN .nil))) .nil [0, 1, 2])) (eR n c sy t3 t4 t5 (.val d) t7 t8 t9 t10) S = .ok (.tup [.str "system", num]) S := by
    refine hear_ex (c := "NotSystem") (p := num) ?_ rfl
    simp only [eR]
    generalize sysD sy = s at *
    simp [pickIx, f2]
  rw [ex_setO, ev_lst, evs_cons_, h1, Res.bind_ok, evs_cons_, h2]
  simp only [eR]
  generalize sysD sy = s at *
  simp
theorem v3 {C : Ev} {d num x y : D} (f : C.call "first_broken" [.int (c : Int), d, .non] S = .ex "NotSystem" num S) :
    exec C r3 (eR n c sy (.own [x, y]) t4 t5 (.val d) t7 t8 t9 t10) S = .ok (.nx (eR n c sy (.own [x, y, .tup [.str "system", num]]) t4 t5 (.val d) t7 t8 t9 t10)) S := by
  have h1 : ev C (.hear "_law_told" hsS (.call "first_broken" (.cons (.var 1) (.cons (.var 6) (.cons .cN .nil))) .nil [0, 1, 2])) (eR n c sy (.own [x, y]) t4 t5 (.val d) t7 t8 t9 t10) S = .ok (.tup [.str "system", num]) S := by
    refine hear_ex (c := "NotSystem") (p := num) ?_ rfl
    simp only [eR]
    generalize sysD sy = s at *
    simp [pickIx, f]
  rw [ex_app]
  simp only [eR, List.getElem?_cons_succ, List.getElem?_cons_zero]
  simp only [eR] at h1
  rw [h1]
  simp [lim]
theorem Ly_told {w : Str} {num : D} (hw : PyData.strOk w = true) (h : num = .non ∨ ∃ i : Int, num = .int i) : Ly 1 (.tup [.str w, num]) := Ly_tup fun d hd => by
  rcases List.mem_cons.mp hd with rfl | hd
  · exact Ly_str hw
  · rw [List.mem_singleton.mp hd]
    rcases h with rfl | ⟨i, rfl⟩
    · exact Ly_non
    · exact Ly_int
theorem v4 {C : Ev} {num : D} (h : num = .non ∨ ∃ i : Int, num = .int i) : exec C r4 (eR n c sy (.own [.tup [.str "system", num], .tup [.str "system", num], .tup [.str "system", num]]) t4 t5 t6 (.val num) t8 t9 t10) S =
    .ok (.nx (eR n c sy (.own [.tup [.str "system", num], .tup [.str "system", num], .tup [.str "system", num]]) t4 t5 t6 (.val num) t8 t9 t10)) S := by
  have ly := Ly_told (w := "system") (by decide +kernel) h
  have l3 : Ly 2 (.lst [.tup [.str "system", num], .tup [.str "system", num], .tup [.str "system", num]]) := Ly_lst fun d hd => by
    simp only [List.mem_cons, List.not_mem_nil, or_false, or_self] at hd
    rw [hd]
    exact ly
  have e : cmpOp .ne (.lst [.tup [.str "system", num], .tup [.str "system", num], .tup [.str "system", num]]) (.lst [.tup [.str "system", num], .tup [.str "system", num], .tup [.str "system", num]]) = some false := by
    show (eqD _ _).map (!·) = _
    rw [eqD_refl l3 (by decide)]
    rfl
  have m : binOp .mul (.lst [.tup [.str "system", num]]) (.int 3) = some (.lst [.tup [.str "system", num], .tup [.str "system", num], .tup [.str "system", num]]) := by
    rw [rep_lst (by decide) (by decide) (by simp [lim])]
    rfl
  simp only [eR]
  generalize sysD sy = s at *
  simp [m, e]
/-- what is no point, and how it is told -/
structure BadPt (c : Nat) (d pl : D) : Prop where
  bad : ∀ (wf k : Nat) (S : Store), callF T wf (k + 3) "check_point" [.int (c : Int), d] S = .ex "NotPoint" pl S
  num : ∃ i : Int, pl = .int i
theorem badPts (hP : RowI 60 (c + 1) P) (hc : c ≤ 100) : ∃ ps : List (D × D), (∀ p ∈ ps, BadPt c p.1 p.2) ∧ ps.length = 5 ∧ ∀ {C : Ev} {S : Store} {n : Nat} {sy : List Pr} {t3 t4 t5 t6 t7 t9 t10 : Sl}, exec C r6 (eR n c sy t3 t4 t5 t6 t7 (.val (V P)) t9 t10) S = .ok (.nx (eR n c sy t3 t4 (.val (.lst (ps.map fun p => .tup [p.1, p.2]))) t6 t7 (.val (V P)) t9 t10)) S := by
  obtain ⟨xs, b, e, lx⟩ := split_last (R := P) (n := c) hP.len
  have bx : BdL 60 xs := fun x hx => hP.bd x (by rw [e]; exact List.mem_append_left _ hx)
  have bz : BdL 60 (xs ++ [0]) := fun x hx => by
    rcases List.mem_append.mp hx with hx | hx
    · exact bx x hx
    · rw [List.mem_singleton.mp hx]; unfold Bd; decide
  refine ⟨[(.non, .int (-1)), (V xs, .int (-1)), (L P, .int (-1)), (V (xs ++ [0]), .int (c : Int)), (.tup (xs.map D.int ++ [.bl true]), .int (c : Int))], fun p hp => ?_, rfl, fun {C S n sy t3 t4 t5 t6 t7 t9 t10} => ?_⟩
  · simp only [List.mem_cons, List.not_mem_nil, or_false] at hp
    rcases hp with rfl | rfl | rfl | rfl | rfl
    · exact ⟨fun wf k S => cp_odd (n := 4) (m := 4) .non rfl, _, rfl⟩
    · exact ⟨fun wf k S => cp_odd (n := 60) (m := xs.length) (.tup (lf_ints bx) (by simp)) (odd_len (by simp; omega)), _, rfl⟩
    · exact ⟨fun wf k S => cp_odd (n := 60) (m := P.length) (.lst (lf_ints hP.bd) (by simp)) rfl, _, rfl⟩
    · exact ⟨fun wf k S => cp_zero lx bz, _, rfl⟩
    · refine ⟨fun wf k S => cp_odd (n := 60) (m := c + 1) (.tup (fun d hd => ?_) (by simp [lx])) ?_, _, rfl⟩
      · rcases List.mem_append.mp hd with hd | hd
        · exact lf_ints bx d hd
        · rw [List.mem_singleton.mp hd]; exact .bl true
      · have := odd_last (ns := xs) (d := .bl true) rfl
        rw [lx] at this
        exact this
  · have s1 : slD (V P) none (some (-1)) = some (V xs) := by
      rw [e]
      exact sl_1
    have bl : biOp .list [V P] = some (L P) := rfl
    have a1 : binOp .add (V xs) (.tup [.int 0]) = some (V (xs ++ [0])) := by
      rw [add_tup (by simp [lx]; unfold lim; omega)]
      simp
    have a2 : binOp .add (V xs) (.tup [.bl true]) = some (.tup (xs.map D.int ++ [.bl true])) := add_tup (by simp [lx]; unfold lim; omega)
    simp only [eR, List.map_cons, List.map_nil]
    generalize sysD sy = s at *
    generalize V P = v at *
    generalize L P = l at *
    generalize V (xs ++ [0]) = z at *
    generalize (.tup (xs.map D.int ++ [.bl true]) : D) = y at *
    generalize V xs = u at *
    simp [s1, bl, a1, a2]
theorem v7 {C : Ev} {ds o pl : D} {S' : Store} (f : C.call "_law_of" [.ref n, ds] S = .ok (.tup [o, pl]) S') : exec C r7 (eR n c sy t3 t4 (.val ds) t6 t7 t8 t9 t10) S = .ok (.nx (eR n c sy t3 t4 (.val ds) (.val o) t7 t8 t9 (.val pl))) S' := by
  have hv : ev C (.call "_law_of" (.cons (.var 0) (.cons (.var 5) .nil)) .nil [0, 1]) (eR n c sy t3 t4 (.val ds) t6 t7 t8 t9 t10) S = .ok (.tup [o, pl]) S' := by
    simp only [eR]
    generalize sysD sy = s at *
    simp [pickIx, f]
  rw [ex_unp, hv, Res.bind_ok]
  rfl
theorem v8 {C : Ev} {d pl : D} (f1 : C.call "holds_all" [.int (c : Int), sysD sy, d] S = .ex "NotPoint" pl S) (f2 : C.call "first_broken" [.int (c : Int), sysD sy, d] S = .ex "NotPoint" pl S) :
    exec C r8 (eR n c sy t3 t4 t5 (.val d) t7 t8 t9 t10) S = .ok (.nx (eR n c sy (.own [.tup [.str "point", pl], .tup [.str "point", pl]]) t4 t5 (.val d) t7 t8 t9 t10)) S := by
  have h1 : ev C (.hear "_law_told" hsS (.call "first_broken" (.cons (.var 1) (.cons (.var 2) (.cons (.var 6) .nil))) .nil [0, 1, 2])) (eR n c sy t3 t4 t5 (.val d) t7 t8 t9 t10) S = .ok (.tup [.str "point", pl]) S := by
    refine hear_ex (c := "NotPoint") (p := pl) ?_ rfl
    simp only [eR]
    generalize sysD sy = s at *
    simp [pickIx, f2]
  have h2 : ev C (.hear "_law_told" hsS (.call "holds_all" (.cons (.var 1) (.cons (.var 2) (.cons (.var 6) .nil))) .nil [0, 1, 2])) (eR n c sy t3 t4 t5 (.val d) t7 t8 t9 t10) S = .ok (.tup [.str "point", pl]) S := by
    refine hear_ex (c := "NotPoint") (p := pl) ?_ rfl
    simp only [eR]
    generalize sysD sy = s at *
    simp [pickIx, f1]
  rw [ex_setO, ev_lst, evs_cons_, h1, Res.bind_ok, evs_cons_, h2]
  simp only [eR]
  generalize sysD sy = s at *
  simp
theorem v9 {C : Ev} {pl : D} (h : ∃ i : Int, pl = .int i) : (exec C (.cons r9 .nil) (eR n c sy (.own [.tup [.str "point", pl], .tup [.str "point", pl]]) t4 t5 t6 t7 t8 t9 (.val pl)) S).bind ofFl = .ok (.bl true) S := by
  have ly := Ly_told (w := "point") (by decide +kernel) (.inr h)
  have l2 : Ly 2 (.lst [.tup [.str "point", pl], .tup [.str "point", pl]]) := Ly_lst fun d hd => by
    simp only [List.mem_cons, List.not_mem_nil, or_false, or_self] at hd
    rw [hd]
    exact ly
  have e : cmpOp .eq (.lst [.tup [.str "point", pl], .tup [.str "point", pl]]) (.lst [.tup [.str "point", pl], .tup [.str "point", pl]]) = some true := eqD_refl l2 (by decide)
  have m : binOp .mul (.lst [.tup [.str "point", pl]]) (.int 2) = some (.lst [.tup [.str "point", pl], .tup [.str "point", pl]]) := by
    rw [rep_lst (by decide) (by decide) (by simp [lim])]
    rfl
  refine run_ret ?_
  simp only [eR]
  generalize sysD sy = s at *
  simp [m, e]
theorem q__law_systems_right (hw : 20000 ≤ wf) (h : SysI 60 c sy) (hl : sy.length ≤ 8) (hm : MOk S n j) (hj : j < 80000) (hc0 : 1 ≤ c) (hc : c ≤ 6) : ∃ S', callF T wf (k + 7) "_law_systems_right" [.ref n, .int (c : Int), sysD sy] S = .ok (.bl true) S' ∧ MOk S' n (j + 30) := by
  obtain ⟨d, num, S1, e1, hb, m1⟩ := q__law_bent (wf := wf) (k := k + 3) hm (by omega) h (by omega) hc0 hc
  have f1 := hb.bad wf (k + 1) S1
  obtain ⟨f2, f3⟩ := sys_bad (p := .non) (hb.bad wf k S1)
  have hn : num = .non ∨ ∃ i : Int, num = .int i := by
    rcases hb.num with h | ⟨i, _, h⟩
    · exact .inl h
    · exact .inr ⟨_, h⟩
  let told : D := .tup [.str "system", num]
  obtain ⟨P1, S2, y3, y9, e2, _, m2⟩ := t_right (wf := wf) (k := k) (sy := sy) (t3 := .own [told, told, told]) (t4 := .un) (t5 := .un) (t6 := .val d) (t7 := .val num) (t8 := .un) (t9 := .un) (t10 := .un) (d := .int 0) hw h m1 (by omega) hc
  obtain ⟨P2, S3, z3, z9, e3, _, m3⟩ := t_right (wf := wf) (k := k) (sy := sy) (t3 := y3) (t4 := .val (.int 0)) (t5 := .un) (t6 := .val d) (t7 := .val num) (t8 := .val (V P1)) (t9 := y9) (t10 := .un) (d := .int 1) hw h m2 (by omega) hc
  obtain ⟨P, S4, w3, w9, e4, hP, m4⟩ := t_right (wf := wf) (k := k) (sy := sy) (t3 := z3) (t4 := .val (.int 1)) (t5 := .un) (t6 := .val d) (t7 := .val num) (t8 := .val (V P2)) (t9 := z9) (t10 := .un) (d := .int 2) hw h m3 (by omega) hc
  obtain ⟨ps, hps, lp, e5⟩ := badPts hP (by omega)
  obtain ⟨o, S5, e6, ho, m5⟩ := q__law_of (wf := wf) (k := k + 4) (ds := ps.map fun p => .tup [p.1, p.2]) m4 (by omega) (by rw [List.length_map]; omega) (by rw [List.length_map]; omega)
  obtain ⟨p, hp, rfl⟩ := List.mem_map.mp ho
  have bp := hps p hp
  obtain ⟨g1, g2⟩ := pts_bad (wf := wf) (k := k) (S := S5) h bp.bad
  refine ⟨S5, ?_, m5.mono (by omega)⟩
  rw [call_step T__law_systems_right rfl]
  show (exec _ n__law_systems_right (eR n c sy .un .un .un .un .un .un .un .un) S).bind ofFl = _
  refine run_step (v0 h hc hl) (run_step (v1 e1) (run_step (v2' f1 f2) (run_step (v3 f3) (run_step (v4 hn) (run_step (e := eR n c sy w3 (.val (.int 2)) .un (.val d) (.val num) (.val (V P)) w9 .un) (S' := S4) ?_ (run_step e5 (run_step (v7 e6) (run_step (v8 g1 g2) (v9 bp.num)))))))))
  have rg : rangeD 0 3 = [.int 0, .int 1, .int 2] := rfl
  have it : ∀ env, evI ⟨callF T wf (k + 6), callM T wf (k + 6) true, wf⟩ (.rng1 (.cI 3)) env S1 = .ok [.int 0, .int 1, .int 2] S1 := fun env => by
    rw [evI_rng1, ev_cI, Res.bind_ok]
    show (if rgOk 0 3 = true then Res.ok (rangeD 0 3) S1 else .st) = _
    rw [if_pos (by decide), rg]
  rw [ex_for, it, Res.bind_ok, forL_cons, e2, Res.bind_ok]
  simp only [forL_cons, e3, e4, Res.bind_ok, forL_nil]
end
end K12

set_option maxHeartbeats 0
namespace K12
open Fx
open PySem (Str PyData)
variable {wf k : Nat} {S : Store}
abbrev h1 : N := (.set 2 (.bin .mul (.tup (.cons (.tup (.cons (.cS "ge") (.cons (.tup (.cons (.cI 0) (.cons (.cI 0) (.cons (.cI 1) .nil)))) .nil))) .nil)) (.cI 60)))
abbrev h2 : N := (.set 3 (.tup (.cons (.tup (.cons (.cS "eq") (.cons (.bin .add (.bin .mul (.tup (.cons (.cI 0) .nil)) (.cI 23)) (.tup (.cons (.cI 3) (.cons (.neg (.cI 1)) (.cons (.cI 2) .nil))))) .nil))) .nil)))
abbrev h3 : N := (.setO 4 (.lst (.cons (.hear "_law_told" [("NotSystem", "system"), ("NotPoint", "point")] (.cmp .eq (.call "check_system" (.cons (.cI 1) (.cons (.var 2) .nil)) .nil [0, 1]) (.var 2))) (.cons (.hear "_law_told" [("NotSystem", "system"), ("NotPoint", "point")] (.call "check_system" (.cons (.cI 1) (.cons (.bin .add (.var 2) (.slc (.var 2) .nil (.cons (.cI 1) .nil))) .nil)) .nil [0, 1])) .nil))))
abbrev h4 : N := (.app 4 (.hear "_law_told" [("NotSystem", "system"), ("NotPoint", "point")] (.call "holds_all" (.cons (.cI 24) (.cons (.var 3) (.cons (.bin .add (.bin .mul (.tup (.cons (.cI 0) .nil)) (.cI 23)) (.tup (.cons (.cI 1) (.cons (.cI 3) .nil)))) .nil))) .nil [0, 1, 2])))
abbrev h5 : N := (.app 4 (.hear "_law_told" [("NotSystem", "system"), ("NotPoint", "point")] (.cmp .eq (.call "check_system" (.cons (.cI 24) (.cons (.var 3) .nil)) .nil [0, 1]) (.var 3))))
abbrev h6 : N := (.app 4 (.hear "_law_told" [("NotSystem", "system"), ("NotPoint", "point")] (.call "check_system" (.cons (.cI 1) (.cons (.tup (.cons (.tup (.cons (.cS "eq") (.cons (.tup (.cons (.cI 1) (.cons (.cI 0) (.cons (.cI 1) .nil)))) .nil))) (.cons .cN .nil))) .nil)) .nil [0, 1])))
abbrev h7 : N := (.set 5 (.lst (.cons (.lst (.cons (.cB true) .nil)) (.cons (.tup (.cons (.cS "system") (.cons .cN .nil))) (.cons (.lst (.cons (.cB true) .nil)) (.cons (.lst (.cons (.cB true) .nil)) (.cons (.tup (.cons (.cS "system") (.cons (.cI 1) .nil))) .nil)))))))
abbrev h8 : N := (.frz 4)
abbrev h9 : N := (.ret (.call "_law_like" (.cons (.var 4) (.cons (.var 5) .nil)) .nil [0, 1]))
abbrev hT : N := (.cons h1 (.cons h2 (.cons h3 (.cons h4 (.cons h5 (.cons h6 (.cons h7 (.cons h8 (.cons h9 .nil)))))))))
theorem tail {v0 v1 v6 v7 v8 : Sl} : (exec ⟨callF T 100000 11, callM T 100000 11 true, 100000⟩ hT [v0, v1, .un, .un, .un, .un, v6, v7, v8] S).bind ofFl = .ok (.bl true) S := by
  kernel_rfl
end K12

set_option maxHeartbeats 1000000
namespace K12
open Fx
open PySem (Str PyData)
variable {wf k : Nat} {S : Store}
abbrev i0 : N := (.ifs (.tnot (.tv (.call "_law_systems_right" (.cons (.var 6) (.cons (.var 7) (.cons (.call "_law_system" (.cons (.var 6) (.cons (.var 7) (.cons (.call "_law_draw" (.cons (.var 6) (.cons (.var 8) .nil)) .nil [0, 1]) .nil))) .nil [0, 1, 2]) .nil))) .nil [0, 1, 2]))) (.cons (.ret (.cB false)) .nil) .nil)
abbrev bIn : N := .cons i0 .nil
abbrev o0 : N := (.set 6 (.call "_law_begun" (.cons (.var 0) (.cons (.var 1) .nil)) .nil [0, 1]))
abbrev o1 : N := (.set 7 (.bin .add (.cI 1) (.call "_law_draw" (.cons (.var 6) (.cons (.cI 6) .nil)) .nil [0, 1])))
abbrev o2 : N := .for_ (.tn 8) (.seq (.tup (.cons (.cI 3) (.cons (.cI 8) .nil)))) bIn
abbrev bOut : N := .cons o0 (.cons o1 (.cons o2 .nil))
section
variable {n j c : Nat} {v0 v1 v8 : Sl}
abbrev eL (n c : Nat) (v0 v1 v8 : Sl) : Env := [v0, v1, .un, .un, .un, .un, .val (.ref n), .val (.int (c : Int)), v8]
theorem t_in {b : Nat} (hw : 20000 ≤ wf) (hm : MOk S n j) (hj : j < 40000) (hc0 : 1 ≤ c) (hc : c ≤ 6) (hb0 : 1 ≤ b) (hb : b ≤ 8) : ∃ S', forF ⟨callF T wf (k + 7), callM T wf (k + 7) true, wf⟩ (.tn 8) bIn (.int (b : Int)) (eL n c v0 v1 v8) S = .ok (.nx (eL n c v0 v1 (.val (.int (b : Int))))) S' ∧ MOk S' n (j + 1000) := by
  obtain ⟨r, S1, e1, r0, r1, m1⟩ := s__law_draw (wf := wf) (k := k + 6) (b := (b : Int)) hm (by omega) (by omega) (by omega)
  obtain ⟨many, rfl⟩ : ∃ many : Nat, r = (many : Int) := ⟨r.toNat, by omega⟩
  obtain ⟨fs, S2, e2, hs, ls, m2⟩ := q__law_system (wf := wf) (k := k + 1) (many := many) hw m1 (by omega) hc0 (by omega) (by omega)
  have hmc : many * (2 * c + 11) ≤ 8 * 23 := Nat.mul_le_mul (by omega) (by omega)
  obtain ⟨S3, e3, m3⟩ := q__law_systems_right (wf := wf) (k := k) hw hs (by omega) m2 (by omega) hc0 hc
  refine ⟨S3, ?_, m3.mono (by omega)⟩
  unfold forF
  simp only [bindT_tn, List.length_cons, List.length_nil]
  show exec _ bIn (eL n c v0 v1 (.val (.int (b : Int)))) S = _
  refine ex_no (S' := S3) ?_ rfl
  clear hs m1 m2 m3 hm
  generalize sysD fs = s at *
  simp only [eL]
  simp [pickIx, e1, e2, e3]
theorem t_out {ns : List Int} {i : Nat} {S : Store} {x1 x6 x7 x8 : Sl} (hw : 20000 ≤ wf) (hn : ns.length ≤ 1000) : ∃ S' y6 y7 y8, forF ⟨callF T wf (k + 7), callM T wf (k + 7) true, wf⟩ (.tn 1) bOut (.int (i : Int)) [.val (L ns), x1, .un, .un, .un, .un, x6, x7, x8] S = .ok (.nx [.val (L ns), .val (.int (i : Int)), .un, .un, .un, .un, y6, y7, y8]) S' := by
  obtain ⟨S1, e1, m1⟩ := s__law_begun (wf := wf) (k := k + 6) (S := S) (ns := ns) (k0 := i) hn
  obtain ⟨r, S2, e2, r0, r1, m2⟩ := s__law_draw (wf := wf) (k := k + 6) (b := 6) m1 (by omega) (by decide) (by decide)
  obtain ⟨c, hc, hc0, hc6⟩ : ∃ c : Nat, 1 + r = (c : Int) ∧ 1 ≤ c ∧ c ≤ 6 := ⟨(1 + r).toNat, by omega, by omega, by omega⟩
  obtain ⟨S3, e3, m3⟩ := t_in (k := k) (b := 3) (v0 := .val (L ns)) (v1 := .val (.int (i : Int))) (v8 := x8) hw m2 (by omega) hc0 hc6 (by decide) (by decide)
  obtain ⟨S4, e4, m4⟩ := t_in (k := k) (b := 8) (v0 := .val (L ns)) (v1 := .val (.int (i : Int))) (v8 := .val (.int 3)) hw m3 (by omega) hc0 hc6 (by decide) (by decide)
  refine ⟨S4, .val (.ref S.length), .val (.int (c : Int)), .val (.int 8), ?_⟩
  unfold forF
  simp only [bindT_tn, List.length_cons, List.length_nil]
  show exec _ bOut [.val (L ns), .val (.int (i : Int)), .un, .un, .un, .un, x6, x7, x8] S = _
  generalize L ns = Z at *
  refine ex_step (e := [.val Z, .val (.int (i : Int)), .un, .un, .un, .un, .val (.ref S.length), x7, x8]) (S' := S1) (by simp [pickIx, e1]) ?_
  refine ex_step (e := eL S.length c (.val Z) (.val (.int (i : Int))) x8) (S' := S2) (by simp [pickIx, e2, hc]) ?_
  refine ex_step (e := eL S.length c (.val Z) (.val (.int (i : Int))) (.val (.int 8))) (S' := S4) ?_ rfl
  have it : evI ⟨callF T wf (k + 7), callM T wf (k + 7) true, wf⟩ (.seq (.tup (.cons (.cI 3) (.cons (.cI 8) .nil)))) (eL S.length c (.val Z) (.val (.int (i : Int))) x8) S2 = .ok [.int 3, .int 8] S2 := by simp
  rw [ex_for, it, Res.bind_ok, forL_cons]
  have e3 : forF ⟨callF T wf (k + 7), callM T wf (k + 7) true, wf⟩ (.tn 8) bIn (.int 3) (eL S.length c (.val Z) (.val (.int (i : Int))) x8) S2 = _ := e3
  have e4 : forF ⟨callF T wf (k + 7), callM T wf (k + 7) true, wf⟩ (.tn 8) bIn (.int 8) (eL S.length c (.val Z) (.val (.int (i : Int))) (.val (.int 3))) S3 = _ := e4
  have c3 : (((3 : Nat) : Int)) = 3 := rfl
  rw [e3, Res.bind_ok, c3]
  simp only [forL_cons, e4, Res.bind_ok, forL_nil]
  rfl
theorem l_out {ns : List Int} (hw : 20000 ≤ wf) (hn : ns.length ≤ 1000) : ∀ (l : List Nat) (S : Store) (x1 x6 x7 x8 : Sl), ∃ S' y1 y6 y7 y8, forL (forF ⟨callF T wf (k + 7), callM T wf (k + 7) true, wf⟩ (.tn 1) bOut) (l.map fun i => D.int (0 + (i : Nat))) [.val (L ns), x1, .un, .un, .un, .un, x6, x7, x8] S = .ok (.nx [.val (L ns), y1, .un, .un, .un, .un, y6, y7, y8]) S'
  | [], S, x1, x6, x7, x8 => ⟨S, _, _, _, _, rfl⟩
  | i :: l, S, x1, x6, x7, x8 => by
    obtain ⟨S1, y6, y7, y8, e1⟩ := t_out (k := k) (S := S) (i := i) (x1 := x1) (x6 := x6) (x7 := x7) (x8 := x8) hw hn
    obtain ⟨S2, z1, z6, z7, z8, e2⟩ := l_out hw hn l S1 (.val (.int (i : Int))) y6 y7 y8
    refine ⟨S2, z1, z6, z7, z8, ?_⟩
    rw [List.map_cons, forL_cons, show (0 + ((i : Nat) : Int)) = (i : Int) from Int.zero_add _, e1]
    exact e2
end
theorem law_true : ∀ ns : List Int, ns.length ≤ 63 → (∀ z ∈ ns, PySem.Builtin.Int.intBits z ≤ 1048576) → ∃ S', callF (tabOf defs) 100000 12 d_law.name [.lst (ns.map D.int)] [] = .ok (.bl true) S' := fun ns hl _ => by
  obtain ⟨m, hm1, hm2⟩ : ∃ m : Nat, m ≤ 1000 ∧ (2 : Int) + (if (ns.length : Int) < 3 then (ns.length : Int) else 3) = (m : Int) := by
    by_cases h : (ns.length : Int) < 3
    · exact ⟨2 + ns.length, by omega, by rw [if_pos h]; omega⟩
    · exact ⟨5, by decide, by rw [if_neg h]; rfl⟩
  obtain ⟨S', y1, y6, y7, y8, lo⟩ := l_out (wf := 100000) (k := 4) (ns := ns) (by decide) (by omega) (List.range m) [] .un .un .un .un
  refine ⟨S', ?_⟩
  show callF T 100000 (11 + 1) "law" [L ns] [] = _
  rw [call_step T_law rfl]
  have ln : biOp .len [L ns] = some (.int (ns.length : Int)) := by
    show some (D.int ((ns.map D.int).length : Nat)) = _
    rw [List.length_map]
  have mn : biOp .min [.int 3, .int (ns.length : Int)] = some (.int (if (ns.length : Int) < 3 then (ns.length : Int) else 3)) := rfl
  have rg : rangeD 0 (m : Int) = (List.range m).map fun i => D.int (0 + (i : Nat)) := by
    unfold rangeD
    rw [Int.sub_zero, Int.toNat_natCast]
  have rk := rg_ok hm1
  show (exec _ n_law [.val (L ns), .un, .un, .un, .un, .un, .un, .un, .un] []).bind ofFl = _
  refine run_step (e := [.val (L ns), y1, .un, .un, .un, .un, y6, y7, y8]) (S' := S') ?_ tail
  rw [ex_for]
  have it : evI ⟨callF T 100000 11, callM T 100000 11 true, 100000⟩ (.rng1 (.bin .add (.cI 2) (.bi .min (.cons (.cI 3) (.cons (.bi .len (.cons (.var 0) .nil)) .nil))))) [.val (L ns), .un, .un, .un, .un, .un, .un, .un, .un] [] = .ok (rangeD 0 (m : Int)) [] := by
    generalize L ns = Z at *
    simp [ln, mn, hm2, rk]
  rw [it, Res.bind_ok, rg]
  exact lo
end K12

set_option maxHeartbeats 0
namespace K12
open PySem PySem.Spec PyProof.Rows L2 Fx
def loose0 : List PySem.Str := ["FontError", "NotPoint", "NotRow", "NotSystem", "is_integer", "sign_of", "common_part", "first_odd", "check_point", "check_row", "total_at", "row_sign", "ABOVE", "LEAST", "EVEN"]
def loose1 : List PySem.Str := ["MOST_PAIRS", "WORDS", "is_pair", "check_system", "does_hold", "all_hold", "holds_all", "first_broken", "_law_begun", "_law_draw", "_law_of", "_law_like", "_law_common", "_law_lowered", "_law_point"]
def loose2 : List PySem.Str := ["_law_rowed", "_law_total", "_law_drawn_row", "_law_system", "_law_stands", "_law_all_hold", "_law_told", "_law_bent", "_law_systems_right"]
def loose : List PySem.Str := loose0 ++ loose1 ++ loose2
abbrev RR : PySem.W.OpenRow := PySem.W.OpenLaw.row PySem.Challenge.rw_everyfont_k12_systems_judged
abbrev hk : PySem.W.Hook := hookX 4 (factsOf defs hds free) (ddsOf defs hds) (word isGcd RR.prog.main.file excs lams cons)
def ob (s : PySem.W.SharedT) : Bool × He.AlD := obX 4 (factsOf defs hds free) (ddsOf defs hds) (word isGcd RR.prog.main.file excs lams cons) s
theorem run (w : World) : HandSHeadRun.RunEqI RR (PySem.W.view RR.prog [0, 46]) hk ob 6000 loose w := by
  unfold HandSHeadRun.RunEqI
  kernel_rfl
theorem all_ok : okAll defs free isGcd excs hds cons = true := by decide +kernel
theorem all_nd : (defs.map (·.name)).Nodup := by decide +kernel
theorem all_lams : lams = (lamsOf defs).map (·.name) := by decide +kernel
theorem law_in : d_law ∈ defs := List.mem_of_getElem? (i := defs.length - 1) rfl
end K12
open PySem PySem.W PySem.Calls PyProof.Rows
theorem PySem.Challenge.cw_everyfont_k12_systems_judged_holds : PySem.Challenge.rw_everyfont_k12_systems_judged.Holds := by
  w_on; o_law
  refine HandSHeadRun.head_imp (r := K12.RR) (q := view K12.RR.prog [0, 46]) (H := K12.hk) (ob := K12.ob) (M := 6000) (loose := K12.loose) (d := HandSHeadRun.topDef K12.RR.prog 46) (kwd := []) Fx.obX_eq
    K12.run (by kernel_rfl) (by kernel_rfl) (by kernel_rfl) (by rfl) (by first | assumption | decide +kernel) (by decide +kernel) ⟨rfl, rfl, rfl, rfl, rfl, by decide +kernel⟩ ?hw ?hc
  case hw => w_witness2
  case hc => exact Fx.law_walk (l := PySem.Challenge.rw_everyfont_k12_systems_judged) (n := 63) (k := 12) (wf := 100000) (x := "script") (dl := K12.d_law) rfl (by decide) (by kernel_rfl) ⟨rfl, by decide, by decide⟩ (by kernel_rfl) K12.law_in rfl K12.all_ok K12.all_nd K12.all_lams rfl (by kernel_rfl) K12.law_true

